import PyProof.Rows.All
import Wide.All
import OpenK.AllK
import Wide.FinOn
import PySem.Challenge.RW_wishshown_k17_unify_an_atom
import HandS.ForMost
import HandS.Walk
import HandS.Deep
import HandS.Flow
import HandS.Lambda
import HandS.AnyAll
import HandS.NoneIn
import HandS.TupAny
import HandS.Style
import HandS.IsInst
import HandS.Zip
import HandS.Text
import KE.SortData
import HandS.FStr
import HandS.More
import PyProof.StrOps2
import KE.SortKeyHeap
import PyProof.ReprRoads
import PyProof.StrLawsRepr
import PyProof.FitsInt
import HandS.Dict
import HandS.DictComp
import HandS.SetKeys
import KE.KDictPairs
import HandS.ListItems
import HandS.DictTup
import HandS.EndTab
import KE.KNest
set_option Elab.async false
set_option linter.all false
set_option maxRecDepth 100000
set_option maxHeartbeats 4000001
/-! Fw1: data, slots, masks, states, transitions. -/
namespace Pv
open PySem PySem.Spec PyProof.Rows L2

abbrev D := PyData
/-- what a name holds: a value that nobody changes any more, or a list of its own -/
inductive Slt where
  | val (d : D)
  | own (ds : List D)
  | dct (kvs : List (Key × D))
  /-- a dict that is only read -/
  | vdc (kvs : List (Key × D))
def keyD : Key → D
  | .inl i => .int i
  | .inr x => .str x
def Slt.d : Slt → D
  | .val d => d
  | .own ds => .list ds
  | .dct kvs => .dict (kvs.map fun kv => (keyD kv.1, kv.2))
  | .vdc kvs => .dict (kvs.map fun kv => (keyD kv.1, kv.2))
/-- an object that this name alone holds -/
def Slt.ow : Slt → Bool
  | .own _ => true
  | .dct _ => true
  | _ => false
/-- its data (not of a dict) -/
def ndD : Slt → Option D
  | .val d => some d
  | .own ds => some (.list ds)
  | .dct _ => none
  | .vdc _ => none
/-- as it is read by others -/
def shv : Slt → Slt
  | .own ds => .val (.list ds)
  | .dct kvs => .vdc kvs
  | s => s
theorem ndD_d {s : Slt} {d : D} (h : ndD s = some d) : s.d = d := by
  cases s with
  | val _ => cases h; rfl
  | own _ => cases h; rfl
  | dct _ => cases h
  | vdc _ => cases h
abbrev Rho := List (Option Slt)

/-! ### data in the heap: lists are tracked or frozen, tuples also of the module -/
/-- a tuple whose object bears no attributes -/
def Tpl (K : PySem.W.Frag) (H : Hp) (a : Addr) (xs : List V) : Prop :=
  (∃ o, H a = some (.frz o (.tup xs)) ∧ o.dict = none) ∨
    ∃ (o : Obj) (its : Array Value) (n : Nat), K.lookup a = some o ∧ o.cls = .type "tuple" ∧ o.dict = none ∧ o.data = .seq its n ∧ its.size ≤ sizeLine ∧ Vals xs its.toList
theorem Tpl.sqT {K : PySem.W.Frag} {H : Hp} {a : Addr} {xs : List V} (h : Tpl K H a xs) : SqT K H a xs := by
  rcases h with ⟨o, h, _⟩ | ⟨o, its, n, h1, h2, _, h3, h4, h5⟩
  · exact .inl (.inr ⟨o, h⟩)
  · exact .inr ⟨o, its, n, h1, h2, h3, h4, h5⟩
mutual
inductive Dp (K : PySem.W.Frag) (H : Hp) : V → PyData → Prop
  | non : Dp K H .non .none
  | bl (b : Bool) : Dp K H (.bl b) (.bool b)
  | int (i : Int) : Dp K H (.int i) (.int i)
  | str (x : Str) (h : PyData.strOk x = true) : Dp K H (.str x) (.str x)
  | lst {a : Addr} {xs : List V} {ds : List PyData} : Rd H a (.lst xs) → DpAll K H xs ds → Dp K H (.ref a) (.list ds)
  | tup {a : Addr} {xs : List V} {ds : List PyData} : Tpl K H a xs → DpAll K H xs ds → Dp K H (.ref a) (.tuple ds)
inductive DpAll (K : PySem.W.Frag) (H : Hp) : List V → List PyData → Prop
  | nil : DpAll K H [] []
  | cons {v : V} {vs : List V} {d : PyData} {ds : List PyData} : Dp K H v d → DpAll K H vs ds → DpAll K H (v :: vs) (d :: ds)
end
section
variable {K : PySem.W.Frag} {H : Hp}
mutual
theorem Dp.l2 : ∀ {v : V} {d : D}, Dp K H v d → L2.Dp K H v d
  | _, _, .non => .non
  | _, _, .bl b => .bl b
  | _, _, .int i => .int i
  | _, _, .str x _ => .str x
  | _, _, .lst h a => .lst (.inl h) (DpAll.l2 a)
  | _, _, .tup h a => .tup h.sqT (DpAll.l2 a)
theorem DpAll.l2 : ∀ {vs : List V} {ds : List D}, DpAll K H vs ds → L2.DpAll K H vs ds
  | _, _, .nil => .nil
  | _, _, .cons h t => .cons (Dp.l2 h) (DpAll.l2 t)
end
mutual
/-- data that stands has signs only -/
theorem Dp.lay : ∀ {v : V} {d : D}, Dp K H v d → d.canLay0 = true
  | _, _, .non => rfl
  | _, _, .bl b => rfl
  | _, _, .int i => rfl
  | _, _, .str x h => by simpa [PyData.canLay0] using h
  | _, _, .lst _ a => by simpa [PyData.canLay0] using DpAll.lay a
  | _, _, .tup _ a => by simpa [PyData.canLay0] using DpAll.lay a
theorem DpAll.lay : ∀ {vs : List V} {ds : List D}, DpAll K H vs ds → PyData.canLayAll0 ds = true
  | _, _, .nil => rfl
  | _, _, .cons h t => by simp [PyData.canLayAll0, Dp.lay h, DpAll.lay t]
end
end
/-! ### heaps -/
def mask (O : Addr → Bool) (H : Hp) : Hp := fun a => if O a = true then none else H a
theorem mask_some {O : Addr → Bool} {H : Hp} {a : Addr} {o : HO} : mask O H a = some o ↔ O a = false ∧ H a = some o := by
  unfold mask
  cases h : O a <;> simp
/-- all but the tables of code objects stays -/
def Kp (H H' : Hp) : Prop := ∀ b o, H b = some o → (∀ ps, o ≠ .tbl ps) → H' b = some o
theorem Kp.refl (H : Hp) : Kp H H := fun _ _ h _ => h
theorem Kp.trans {H H1 H2 : Hp} (a : Kp H H1) (b : Kp H1 H2) : Kp H H2 := fun c o h n => b c o (a c o h n) n
theorem Kp.upd {H : Hp} {p : Addr} {o : HO} (h : H p = none) : Kp H (upd H p o) := fun b x e _ => by
  rw [upd_ne (ne_of_none e h)]
  exact e
theorem Kp.mask (O : Addr → Bool) (H : Hp) : Kp (mask O H) H := fun b o h _ => (mask_some.mp h).2
section
variable {K : PySem.W.Frag} {H H' : Hp}
theorem Kp.rd {a : Addr} {xs : List V} (k : Kp H H') (h : Rd H a (.lst xs)) : Rd H' a (.lst xs) := by
  rcases h with h | ⟨o, h⟩
  · exact .inl (k _ _ h (fun ps z => by cases z))
  · exact .inr ⟨o, k _ _ h (fun ps z => by cases z)⟩
theorem Kp.sqT {a : Addr} {xs : List V} (k : Kp H H') (h : SqT K H a xs) : SqT K H' a xs := by
  rcases h with (h | ⟨o, h⟩) | h
  · exact .inl (.inl (k _ _ h (fun ps z => by cases z)))
  · exact .inl (.inr ⟨o, k _ _ h (fun ps z => by cases z)⟩)
  · exact .inr h
theorem Kp.tpl {a : Addr} {xs : List V} (k : Kp H H') (h : Tpl K H a xs) : Tpl K H' a xs := by
  rcases h with ⟨o, h, e⟩ | h
  · exact .inl ⟨o, k _ _ h (fun ps z => by cases z), e⟩
  · exact .inr h
mutual
theorem Kp.dp (k : Kp H H') : ∀ {v : V} {d : D}, Dp K H v d → Dp K H' v d
  | _, _, .non => .non
  | _, _, .bl b => .bl b
  | _, _, .int i => .int i
  | _, _, .str x h => .str x h
  | _, _, .lst h a => .lst (k.rd h) (k.dps a)
  | _, _, .tup h a => .tup (k.tpl h) (k.dps a)
theorem Kp.dps (k : Kp H H') : ∀ {vs : List V} {ds : List D}, DpAll K H vs ds → DpAll K H' vs ds
  | _, _, .nil => .nil
  | _, _, .cons h t => .cons (k.dp h) (k.dps t)
end
end
section
variable {K : PySem.W.Frag} {H : Hp}
theorem dps_len : ∀ {vs : List V} {ds : List D}, DpAll K H vs ds → vs.length = ds.length
  | _, _, .nil => rfl
  | _, _, .cons _ t => congrArg (· + 1) (dps_len t)
theorem dps_get : ∀ {vs : List V} {ds : List D} {i : Nat} {v : V}, DpAll K H vs ds → vs[i]? = some v → ∃ d, ds[i]? = some d ∧ Dp K H v d
  | _, _, _, _, .nil, e => by simp at e
  | _, _, 0, _, .cons h _, e => by simp at e; subst e; exact ⟨_, rfl, h⟩
  | _, _, i + 1, v, .cons _ t, e => by
    obtain ⟨d, e1, h⟩ := dps_get (i := i) t (by simpa using e)
    exact ⟨d, by simpa using e1, h⟩
theorem dps_getD : ∀ {vs : List V} {ds : List D} {i : Nat} {d : D}, DpAll K H vs ds → ds[i]? = some d → ∃ v, vs[i]? = some v ∧ Dp K H v d
  | _, _, _, _, .nil, e => by simp at e
  | _, _, 0, _, .cons h _, e => by simp at e; subst e; exact ⟨_, rfl, h⟩
  | _, _, i + 1, v, .cons _ t, e => by
    obtain ⟨d, e1, h⟩ := dps_getD (i := i) t (by simpa using e)
    exact ⟨d, by simpa using e1, h⟩
theorem dps_app : ∀ {vs ws : List V} {ds es : List D}, DpAll K H vs ds → DpAll K H ws es → DpAll K H (vs ++ ws) (ds ++ es)
  | _, _, _, _, .nil, h => h
  | _, _, _, _, .cons h t, g => .cons h (dps_app t g)
theorem dps_take : ∀ {vs : List V} {ds : List D} (n : Nat), DpAll K H vs ds → DpAll K H (vs.take n) (ds.take n)
  | _, _, 0, _ => .nil
  | _, _, _ + 1, .nil => .nil
  | _, _, n + 1, .cons h t => .cons h (dps_take n t)
theorem dps_drop : ∀ {vs : List V} {ds : List D} (n : Nat), DpAll K H vs ds → DpAll K H (vs.drop n) (ds.drop n)
  | _, _, 0, h => h
  | _, _, _ + 1, .nil => .nil
  | _, _, n + 1, .cons _ t => dps_drop n t
theorem dps_set : ∀ {vs : List V} {ds : List D} {v : V} {d : D} (i : Nat), DpAll K H vs ds → Dp K H v d → DpAll K H (vs.set i v) (ds.set i d)
  | _, _, _, _, _, .nil, _ => .nil
  | _, _, _, _, 0, .cons _ t, g => .cons g t
  | _, _, _, _, i + 1, .cons h t, g => .cons h (dps_set i t g)
theorem dps_rev {vs : List V} {ds : List D} (h : DpAll K H vs ds) : DpAll K H vs.reverse ds.reverse := by
  induction h using DpAll.rec (motive_1 := fun _ _ _ => True) with
  | nil => exact .nil
  | cons h t _ ih =>
    rw [List.reverse_cons, List.reverse_cons]
    exact dps_app ih (.cons h .nil)
  | _ => trivial
end

/-! ### tables of code objects: of a lambda (each code object bears the name), of a generator expression -/
def gexq : Str := "<genexpr>"
def TabK (H : Hp) (p : Addr × Str) : Prop := if p.2 = gexq then GxR.TabG H p.1 else LamX.TabS H p.1 p.2
def Tabs (T : List (Addr × Str)) (H : Hp) : Prop := ∀ p ∈ T, TabK H p
theorem TabK.lam {H : Hp} {p : Addr × Str} (h : TabK H p) (n : p.2 ≠ gexq) : LamX.TabS H p.1 p.2 := by
  unfold TabK at h
  rwa [if_neg n] at h
theorem TabK.gen {H : Hp} {p : Addr × Str} (h : TabK H p) (n : p.2 = gexq) : GxR.TabG H p.1 := by
  unfold TabK at h
  rwa [if_pos n] at h
theorem TabK.of (H : Hp) (p : Addr × Str) (h1 : p.2 = gexq → GxR.TabG H p.1) (h2 : p.2 ≠ gexq → LamX.TabS H p.1 p.2) : TabK H p := by
  unfold TabK
  split
  · rename_i h; exact h1 h
  · rename_i h; exact h2 h
/-- what changes neither the table nor code objects -/
theorem TabK.move {H H' : Hp} {p : Addr × Str} (h : TabK H p) (e : ∀ ps, H p.1 = some (.tbl ps) → H' p.1 = some (.tbl ps)) (k : ∀ c q, H c = some (LamX.CodeO c q) → H' c = some (LamX.CodeO c q)) : TabK H' p := by
  refine .of _ _ (fun z => ?_) fun z => ?_
  · obtain ⟨ps, h1, h2⟩ := h.gen z
    exact ⟨ps, e _ h1, h2⟩
  · obtain ⟨ps, h1, h2, h3⟩ := h.lam z
    refine ⟨ps, e _ h1, h2, fun pos cv hc => ?_⟩
    obtain ⟨c, e1, e2⟩ := h3 pos cv hc
    exact ⟨c, e1, k _ _ e2⟩
theorem Tabs.move {T : List (Addr × Str)} {H H' : Hp} (t : Tabs T H) (e : ∀ b ps, H b = some (.tbl ps) → H' b = some (.tbl ps)) (k : ∀ c q, H c = some (LamX.CodeO c q) → H' c = some (LamX.CodeO c q)) : Tabs T H' := fun p hp => (t p hp).move (e _) k
theorem Tabs.ext {T : List (Addr × Str)} {H H' : Hp} (t : Tabs T H) (e : ∀ b o, H b = some o → H' b = some o) : Tabs T H' := t.move (fun b _ h => e b _ h) fun c _ h => e c _ h
/-! ### states -/
/-- the address a is that of a list of its own -/
def Own (ρ : Rho) (σ : L2.St) (a : Addr) : Prop := ∃ (i : Nat) (s : Slt), ρ[i]? = some (some s) ∧ s.ow = true ∧ σ[i]? = some (some (V.ref a))
/-- what may be owned -/
def Mo (o : HO) : Prop := (∃ xs, o = .lst xs) ∨ ∃ kw, o = .dK kw
theorem Mo.lst {xs : List V} : Mo (.lst xs) := .inl ⟨xs, rfl⟩
theorem Mo.dk {kw : List (Key × V)} : Mo (.dK kw) := .inr ⟨kw, rfl⟩
/-- a dict's keys and values -/
def DkR (K : PySem.W.Frag) (M : Hp) (kw : List (Key × V)) (kvs : List (Key × D)) : Prop := kw.map (·.1) = kvs.map (·.1) ∧ DpAll K M (kw.map (·.2)) (kvs.map (·.2))
theorem DkR.mono {K : PySem.W.Frag} {M M' : Hp} {kw : List (Key × V)} {kvs : List (Key × D)} (k : Kp M M') (h : DkR K M kw kvs) : DkR K M' kw kvs := ⟨h.1, k.dps h.2⟩
/-- a dict that nobody changes any more -/
def VdR (K : PySem.W.Frag) (M : Hp) (v : V) (kvs : List (Key × D)) : Prop := ∃ p kw, v = .ref p ∧ M p = some (.dK kw) ∧ DkR K M kw kvs
theorem VdR.mono {K : PySem.W.Frag} {M M' : Hp} {v : V} {kvs : List (Key × D)} (k : Kp M M') (h : VdR K M v kvs) : VdR K M' v kvs := by
  obtain ⟨p, kw, h1, h2, h3⟩ := h
  exact ⟨p, kw, h1, k p _ h2 (fun ps z => by cases z), h3.mono k⟩
/-- what others read -/
def ShR (K : PySem.W.Frag) (M : Hp) (v : V) : Slt → Prop
  | .val d => Dp K M v d
  | .vdc kvs => VdR K M v kvs
  | _ => False
theorem ShR.mono {K : PySem.W.Frag} {M M' : Hp} {v : V} {s : Slt} (k : Kp M M') (h : ShR K M v s) : ShR K M' v s := by
  cases s with
  | val d => exact k.dp h
  | own ds => exact h.elim
  | dct kvs => exact h.elim
  | vdc kvs => exact VdR.mono k h
structure SOk (K : PySem.W.Frag) (T : List (Addr × Str)) (O : Addr → Bool) (ρ : Rho) (σ : L2.St) (H : Hp) : Prop where
  len : ρ.length = σ.length
  cov : ∀ a, O a = true → ∃ o, H a = some o ∧ Mo o
  val : ∀ (i : Nat) (d : D), ρ[i]? = some (some (Slt.val d)) → ∃ v, σ[i]? = some (some v) ∧ Dp K (mask O H) v d
  own : ∀ (i : Nat) (ds : List D), ρ[i]? = some (some (Slt.own ds)) → ∃ p vs, σ[i]? = some (some (V.ref p)) ∧ O p = true ∧ H p = some (.lst vs) ∧ DpAll K (mask O H) vs ds
  inj : ∀ (i j : Nat) (p : Addr) (s t : Slt), ρ[i]? = some (some s) → ρ[j]? = some (some t) → s.ow = true → t.ow = true → σ[i]? = some (some (V.ref p)) → σ[j]? = some (some (V.ref p)) → i = j
  tabs : Tabs T H
  dct : ∀ (i : Nat) (kvs : List (Key × D)), ρ[i]? = some (some (Slt.dct kvs)) → ∃ p kw, σ[i]? = some (some (V.ref p)) ∧ O p = true ∧ H p = some (.dK kw) ∧ DkR K (mask O H) kw kvs
  vdc : ∀ (i : Nat) (kvs : List (Key × D)), ρ[i]? = some (some (Slt.vdc kvs)) → ∃ v, σ[i]? = some (some v) ∧ VdR K (mask O H) v kvs
structure Tr (O : Addr → Bool) (ρ : Rho) (σ : L2.St) (H : Hp) (O' : Addr → Bool) (ρ' : Rho) (σ' : L2.St) (H' : Hp) : Prop where
  sub : ∀ a, O' a = true → O a = true ∨ H a = none
  keep : ∀ a o, O a = false → H a = some o → (∀ ps, o ≠ .tbl ps) → H' a = some o
  oth : ∀ a, O a = true → ¬ Own ρ σ a → O' a = true ∧ H' a = H a
  pres : ∀ a, Own ρ' σ' a → Own ρ σ a ∨ H a = none
  dom : ∀ a, H a ≠ none → H' a ≠ none
section
variable {K : PySem.W.Frag} {T : List (Addr × Str)} {O O1 O2 : Addr → Bool} {ρ ρ1 ρ2 : Rho} {σ σ1 σ2 : L2.St} {H H1 H2 : Hp}
theorem Tr.refl : Tr O ρ σ H O ρ σ H := ⟨fun _ h => .inl h, fun _ _ _ h _ => h, fun _ h _ => ⟨h, rfl⟩, fun _ h => .inl h, fun _ h => h⟩
theorem Tr.mask (t : Tr O ρ σ H O1 ρ1 σ1 H1) : Kp (mask O H) (mask O1 H1) := fun b o h n => by
  obtain ⟨h1, h2⟩ := mask_some.mp h
  refine mask_some.mpr ⟨?_, t.keep b o h1 h2 n⟩
  cases q : O1 b with
  | false => rfl
  | true =>
    rcases t.sub b q with z | z
    · rw [h1] at z; cases z
    · rw [h2] at z; cases z
theorem Tr.trans (cov : ∀ a, O a = true → H a ≠ none) (t : Tr O ρ σ H O1 ρ1 σ1 H1) (u : Tr O1 ρ1 σ1 H1 O2 ρ2 σ2 H2) : Tr O ρ σ H O2 ρ2 σ2 H2 where
  sub := fun a h => by
    rcases u.sub a h with z | z
    · exact t.sub a z
    · refine .inr ?_
      cases q : H a with
      | none => rfl
      | some o => exact absurd z (t.dom a (by rw [q]; simp))
  keep := fun a o h1 h2 n => by
    have h3 : O1 a = false := by
      cases q : O1 a with
      | false => rfl
      | true =>
        rcases t.sub a q with z | z
        · rw [h1] at z; cases z
        · rw [h2] at z; cases z
    exact u.keep a o h3 (t.keep a o h1 h2 n) n
  oth := fun a h1 h2 => by
    obtain ⟨h3, h4⟩ := t.oth a h1 h2
    have h5 : ¬ Own ρ1 σ1 a := fun z => by
      rcases t.pres a z with z | z
      · exact h2 z
      · exact cov a h1 z
    obtain ⟨h6, h7⟩ := u.oth a h3 h5
    exact ⟨h6, h7.trans h4⟩
  pres := fun a h => by
    rcases u.pres a h with z | z
    · exact t.pres a z
    · refine .inr ?_
      cases q : H a with
      | none => rfl
      | some o => exact absurd z (t.dom a (by rw [q]; simp))
  dom := fun a h => u.dom a (t.dom a h)
theorem SOk.cov' (s : SOk K T O ρ σ H) : ∀ a, O a = true → H a ≠ none := fun a h => by
  obtain ⟨xs, e, _⟩ := s.cov a h
  rw [e]; simp
/-- an owner's object -/
theorem SOk.owner (S : SOk K T O ρ σ H) {i : Nat} {s : Slt} (h : ρ[i]? = some (some s)) (w : s.ow = true) : ∃ p o, σ[i]? = some (some (V.ref p)) ∧ O p = true ∧ H p = some o ∧ Mo o := by
  cases s with
  | val d => cases w
  | own ds =>
    obtain ⟨p, vs, h1, h2, h3, _⟩ := S.own i ds h
    exact ⟨p, _, h1, h2, h3, .lst⟩
  | dct kvs =>
    obtain ⟨p, kw, h1, h2, h3, _⟩ := S.dct i kvs h
    exact ⟨p, _, h1, h2, h3, .dk⟩
  | vdc kvs => cases w
theorem SOk.own_O (s : SOk K T O ρ σ H) {a : Addr} (h : Own ρ σ a) : O a = true := by
  obtain ⟨i, t, h1, hw, h2⟩ := h
  obtain ⟨p, o, h3, h4, _⟩ := s.owner h1 hw
  rw [h2] at h3
  cases h3
  exact h4
theorem SOk.free {a : Addr} (s : SOk K T O ρ σ H) (h : H a = none) : O a = false := by
  cases q : O a with
  | false => rfl
  | true => exact absurd h (s.cov' a q)
/-! ### results -/
/-- what a computation hands back: a value, or a new list of its own -/
def ResV (K : PySem.W.Frag) (O : Addr → Bool) (H : Hp) (ρ : Rho) (σ : L2.St) (Hs : Hp) (v : V) : Slt → Prop
  | .val d => Dp K (Pv.mask O H) v d
  | .own ds => ∃ p vs, v = .ref p ∧ O p = true ∧ ¬ Own ρ σ p ∧ Hs p = none ∧ H p = some (.lst vs) ∧ DpAll K (Pv.mask O H) vs ds
  | .dct kvs => ∃ p kw, v = .ref p ∧ O p = true ∧ ¬ Own ρ σ p ∧ Hs p = none ∧ H p = some (.dK kw) ∧ DkR K (Pv.mask O H) kw kvs
  | .vdc kvs => VdR K (Pv.mask O H) v kvs
/-- an operand: a bare name (read when it is used), or a value -/
inductive Arg where
  | slot (i : Nat)
  | tmp (d : D)
def ArgR (K : PySem.W.Frag) (O : Addr → Bool) (H : Hp) (σ : L2.St) (v : V) : Arg → Prop
  | .slot i => σ[i]? = some (some v)
  | .tmp d => Dp K (Pv.mask O H) v d
theorem ArgR.mono {v : V} {a : Arg} (t : Tr O ρ σ H O1 ρ1 σ H1) (h : ArgR K O H σ v a) : ArgR K O1 H1 σ v a := by
  cases a with
  | slot i => exact h
  | tmp d => exact t.mask.dp h
def argD (ρ : Rho) : Arg → Option D
  | .slot i => match ρ[i]? with
    | some (some s) => ndD s
    | _ => none
  | .tmp d => some d
/-- a value that is only read: a value, or a list of its own -/
def RepB (K : PySem.W.Frag) (O : Addr → Bool) (H : Hp) (v : V) (d : D) : Prop :=
  Dp K (Pv.mask O H) v d ∨ ∃ p vs ds, v = .ref p ∧ d = .list ds ∧ H p = some (.lst vs) ∧ DpAll K (Pv.mask O H) vs ds
theorem ArgR.rep {v : V} {a : Arg} {d : D} (s : SOk K T O ρ σ H) (h : ArgR K O H σ v a) (e : argD ρ a = some d) : RepB K O H v d := by
  cases a with
  | tmp d' => cases e; exact .inl h
  | slot i =>
    simp only [argD] at e
    split at e
    · rename_i sl hs
      cases sl with
      | val d' =>
        cases e
        obtain ⟨v', e1, e2⟩ := s.val i _ hs
        have h' : σ[i]? = some (some v) := h
        rw [e1] at h'
        cases h'
        exact .inl e2
      | own ds =>
        cases e
        obtain ⟨p, vs, e1, e2, e3, e4⟩ := s.own i ds hs
        have h' : σ[i]? = some (some v) := h
        rw [e1] at h'
        cases h'
        exact .inr ⟨p, vs, ds, rfl, rfl, e3, e4⟩
      | dct kvs => cases e
      | vdc kvs => cases e
    · cases e
section
variable {v : V} {d : D}
theorem RepB.non (h : RepB K O H v .none) : v = .non := by
  rcases h with h | ⟨p, vs, ds, _, e, _⟩
  · cases h; rfl
  · cases e
theorem RepB.bl {b : Bool} (h : RepB K O H v (.bool b)) : v = .bl b := by
  rcases h with h | ⟨p, vs, ds, _, e, _⟩
  · cases h; rfl
  · cases e
theorem RepB.int {b : Int} (h : RepB K O H v (.int b)) : v = .int b := by
  rcases h with h | ⟨p, vs, ds, _, e, _⟩
  · cases h; rfl
  · cases e
theorem RepB.str {b : Str} (h : RepB K O H v (.str b)) : v = .str b ∧ PyData.strOk b = true := by
  rcases h with h | ⟨p, vs, ds, _, e, _⟩
  · cases h with
    | str _ h => exact ⟨rfl, h⟩
  · cases e
theorem RepB.list {ds : List D} (h : RepB K O H v (.list ds)) : ∃ a vs, v = .ref a ∧ Rd H a (.lst vs) ∧ DpAll K (Pv.mask O H) vs ds := by
  rcases h with h | ⟨p, vs, es, e1, e2, e3, e4⟩
  · cases h with
    | lst h1 h2 => exact ⟨_, _, rfl, (Kp.mask O H).rd h1, h2⟩
  · cases e2
    exact ⟨p, vs, e1, .inl e3, e4⟩
theorem RepB.tupleP {ds : List D} (h : RepB K O H v (.tuple ds)) : ∃ a vs, v = .ref a ∧ Tpl K (Pv.mask O H) a vs ∧ DpAll K (Pv.mask O H) vs ds := by
  rcases h with h | ⟨p, vs, es, e1, e2, e3, e4⟩
  · cases h with
    | tup h1 h2 => exact ⟨_, _, rfl, h1, h2⟩
  · cases e2
theorem RepB.tuple {ds : List D} (h : RepB K O H v (.tuple ds)) : ∃ a vs, v = .ref a ∧ SqT K (Pv.mask O H) a vs ∧ DpAll K (Pv.mask O H) vs ds := by
  obtain ⟨a, vs, h1, h2, h3⟩ := h.tupleP
  exact ⟨a, vs, h1, h2.sqT, h3⟩
theorem RepB.dp (h : RepB K O H v d) : Dp K H v d := by
  rcases h with h | ⟨p, vs, es, e1, e2, e3, e4⟩
  · exact (Kp.mask O H).dp h
  · subst e1 e2
    exact .lst (.inl e3) ((Kp.mask O H).dps e4)
theorem RepB.mask (h : RepB K O H v d) (nl : ∀ ds, d ≠ .list ds) : Dp K (Pv.mask O H) v d := by
  rcases h with h | ⟨p, vs, es, e1, e2, e3, e4⟩
  · exact h
  · exact absurd e2 (nl es)
end
/-! ### new objects -/
def oAdd (O : Addr → Bool) (p : Addr) : Addr → Bool := fun a => O a || decide (a = p)
theorem mask_upd {O : Addr → Bool} {H : Hp} {p : Addr} {o : HO} (h : O p = false) : mask O (upd H p o) = upd (mask O H) p o := by
  funext a
  unfold mask upd
  by_cases e : a = p
  · subst e; rw [if_pos rfl, if_pos rfl, h]; simp
  · rw [if_neg e, if_neg e]
theorem mask_add {O : Addr → Bool} {H : Hp} {p : Addr} {o : HO} (h : H p = none) : mask (oAdd O p) (upd H p o) = mask O H := by
  funext a
  unfold mask upd oAdd
  by_cases e : a = p
  · subst e; rw [if_pos (by simp), h]; simp
  · rw [if_neg e]; simp [e]
theorem tabs_upd {p : Addr} {o : HO} (h : H p = none) (t : Tabs T H) : Tabs T (upd H p o) :=
  t.ext fun b x e => by rw [upd_ne (ne_of_none e h)]; exact e
/-- a new object that nobody owns -/
theorem SOk.new {p : Addr} {o : HO} (s : SOk K T O ρ σ H) (h : H p = none) : SOk K T O ρ σ (upd H p o) := by
  have hO := s.free h
  have k : Kp (mask O H) (mask O (upd H p o)) := by
    rw [mask_upd hO]
    exact Kp.upd (by unfold mask; rw [hO]; simpa using h)
  refine ⟨s.len, fun a e => ?_, fun i d e => ?_, fun i ds e => ?_, s.inj, tabs_upd h s.tabs, fun i kvs e => ?_, fun i kvs e => ?_⟩
  · obtain ⟨xs, q, m⟩ := s.cov a e
    exact ⟨xs, by rw [upd_ne (ne_of_none q h)]; exact q, m⟩
  · obtain ⟨v, e1, e2⟩ := s.val i d e
    exact ⟨v, e1, k.dp e2⟩
  · obtain ⟨q, vs, e1, e2, e3, e4⟩ := s.own i ds e
    exact ⟨q, vs, e1, e2, by rw [upd_ne (ne_of_none e3 h)]; exact e3, k.dps e4⟩
  · obtain ⟨q, kw, e1, e2, e3, e4⟩ := s.dct i kvs e
    exact ⟨q, kw, e1, e2, by rw [upd_ne (ne_of_none e3 h)]; exact e3, e4.mono k⟩
  · obtain ⟨v, e1, e2⟩ := s.vdc i kvs e
    exact ⟨v, e1, e2.mono k⟩
theorem Tr.new {p : Addr} {o : HO} (s : SOk K T O ρ σ H) (h : H p = none) : Tr O ρ σ H O ρ σ (upd H p o) :=
  ⟨fun _ h => .inl h, fun a x _ e _ => by rw [upd_ne (ne_of_none e h)]; exact e, fun a e _ => ⟨e, by
    obtain ⟨xs, q, _⟩ := s.cov a e
    rw [upd_ne (ne_of_none q h)]⟩, fun _ h => .inl h, fun a e => by
    by_cases z : a = p
    · subst z; exact absurd h e
    · rw [upd_ne z]; exact e⟩
/-- a new list that stands in no name yet -/
theorem SOk.newOwnO {p : Addr} {ob : HO} (m : Mo ob) (s : SOk K T O ρ σ H) (h : H p = none) : SOk K T (oAdd O p) ρ σ (upd H p ob) := by
  refine ⟨s.len, fun a e => ?_, fun i d e => ?_, fun i ds e => ?_, s.inj, tabs_upd h s.tabs, fun i kvs e => ?_, fun i kvs e => ?_⟩
  · by_cases z : a = p
    · subst z; exact ⟨ob, upd_same, m⟩
    · have : O a = true := by simpa [oAdd, z] using e
      obtain ⟨ys, q, m⟩ := s.cov a this
      exact ⟨ys, by rw [upd_ne z]; exact q, m⟩
  · rw [mask_add h]; exact s.val i d e
  · rw [mask_add h]
    obtain ⟨q, vs, e1, e2, e3, e4⟩ := s.own i ds e
    exact ⟨q, vs, e1, by simp [oAdd, e2], by rw [upd_ne (ne_of_none e3 h)]; exact e3, e4⟩
  · rw [mask_add h]
    obtain ⟨q, vs, e1, e2, e3, e4⟩ := s.dct i kvs e
    exact ⟨q, vs, e1, by simp [oAdd, e2], by rw [upd_ne (ne_of_none e3 h)]; exact e3, e4⟩
  · rw [mask_add h]; exact s.vdc i kvs e
theorem SOk.newOwn {p : Addr} {xs : List V} (s : SOk K T O ρ σ H) (h : H p = none) : SOk K T (oAdd O p) ρ σ (upd H p (.lst xs)) := s.newOwnO .lst h
theorem Tr.newOwn {p : Addr} {ob : HO} (s : SOk K T O ρ σ H) (h : H p = none) : Tr O ρ σ H (oAdd O p) ρ σ (upd H p ob) :=
  ⟨fun a e => by
    by_cases z : a = p
    · subst z; exact .inr h
    · exact .inl (by simpa [oAdd, z] using e), fun a x _ e _ => by rw [upd_ne (ne_of_none e h)]; exact e, fun a e _ => ⟨by simp [oAdd, e], by
    obtain ⟨xs, q, _⟩ := s.cov a e
    rw [upd_ne (ne_of_none q h)]⟩, fun _ h => .inl h, fun a e => by
    by_cases z : a = p
    · subst z; exact absurd h e
    · rw [upd_ne z]; exact e⟩
theorem SOk.notOwn {p : Addr} (s : SOk K T O ρ σ H) (h : H p = none) : ¬ Own ρ σ p := fun z => by
  have := s.own_O z
  exact s.cov' p this h
/-! ### giving up a list of its own -/
def oSub (O : Addr → Bool) (p : Addr) : Addr → Bool := fun a => O a && !decide (a = p)
theorem mask_sub {p : Addr} : Kp (mask O H) (mask (oSub O p) H) := fun b o h _ => by
  obtain ⟨h1, h2⟩ := mask_some.mp h
  exact mask_some.mpr ⟨by simp [oSub, h1], h2⟩
theorem SOk.unown {p : Addr} (s : SOk K T O ρ σ H) (h : ¬ Own ρ σ p) : SOk K T (oSub O p) ρ σ H := by
  refine ⟨s.len, fun a e => s.cov a (by simp [oSub] at e; exact e.1), fun i d e => ?_, fun i ds e => ?_, s.inj, s.tabs, fun i kvs e => ?_, fun i kvs e => ?_⟩
  · obtain ⟨v, e1, e2⟩ := s.val i d e
    exact ⟨v, e1, mask_sub.dp e2⟩
  · obtain ⟨q, vs, e1, e2, e3, e4⟩ := s.own i ds e
    refine ⟨q, vs, e1, ?_, e3, mask_sub.dps e4⟩
    have : q ≠ p := fun z => h (z ▸ ⟨i, _, e, rfl, e1⟩)
    simp [oSub, e2, this]
  · obtain ⟨q, vs, e1, e2, e3, e4⟩ := s.dct i kvs e
    refine ⟨q, vs, e1, ?_, e3, e4.mono mask_sub⟩
    have : q ≠ p := fun z => h (z ▸ ⟨i, _, e, rfl, e1⟩)
    simp [oSub, e2, this]
  · obtain ⟨v, e1, e2⟩ := s.vdc i kvs e
    exact ⟨v, e1, e2.mono mask_sub⟩
/-- from a new list of one's own to a value -/
theorem ResV.weak {v : V} {r : Slt} {Hs : Hp} {O0 : Addr → Bool} {ρ0 : Rho} {σ0 : L2.St} {d : D} (nd : ndD r = some d) (s : SOk K T O ρ σ H) (c : ∀ a, O0 a = true → Hs a ≠ none) (t : Tr O0 ρ0 σ0 Hs O ρ σ H) (h : ResV K O H ρ σ Hs v r) :
    ∃ O', SOk K T O' ρ σ H ∧ Tr O0 ρ0 σ0 Hs O' ρ σ H ∧ Dp K (Pv.mask O' H) v d := by
  obtain rfl := ndD_d nd
  cases r with
  | val d => exact ⟨O, s, t, h⟩
  | dct kvs => cases nd
  | vdc kvs => cases nd
  | own ds =>
    obtain ⟨p, vs, rfl, h1, h2, h3, h4, h5⟩ := h
    refine ⟨oSub O p, s.unown h2, ⟨fun a e => t.sub a (by simp [oSub] at e; exact e.1), t.keep, fun a e1 e2 => ?_, t.pres, t.dom⟩, ?_⟩
    · obtain ⟨q1, q2⟩ := t.oth a e1 e2
      refine ⟨?_, q2⟩
      have : a ≠ p := fun z => c a e1 (z ▸ h3)
      simp [oSub, q1, this]
    · refine .lst ((.inl (mask_some.mpr ⟨by simp [oSub], h4⟩))) (mask_sub.dps h5)
theorem ResV.ow {v : V} {r : Slt} {Hs : Hp} (w : r.ow = true) (h : ResV K O H ρ σ Hs v r) : ∃ p o, v = .ref p ∧ O p = true ∧ ¬ Own ρ σ p ∧ Hs p = none ∧ H p = some o ∧ Mo o := by
  cases r with
  | val d => cases w
  | own ds =>
    obtain ⟨p, vs, h0, h1, h2, h3, h4, h5⟩ := h
    exact ⟨p, _, h0, h1, h2, h3, h4, .lst⟩
  | dct kvs =>
    obtain ⟨p, vs, h0, h1, h2, h3, h4, h5⟩ := h
    exact ⟨p, _, h0, h1, h2, h3, h4, .dk⟩
  | vdc kvs => cases w
theorem ResV.back {v : V} {r : Slt} {O0 O2 : Addr → Bool} {ρ0 ρ2 : Rho} {σ0 σ2 : L2.St} {H0 H2 : Hp} (t : Tr O0 ρ0 σ0 H0 O2 ρ2 σ2 H2) (h : ResV K O H ρ σ H2 v r) : ResV K O H ρ σ H0 v r := by
  cases r with
  | val d => exact h
  | vdc kvs => exact h
  | own ds =>
    obtain ⟨p, vs, h0, h1, h2, h3, h4⟩ := h
    refine ⟨p, vs, h0, h1, h2, ?_, h4⟩
    cases q : H0 p with
    | none => rfl
    | some o => exact absurd h3 (t.dom p (by rw [q]; simp))
  | dct kvs =>
    obtain ⟨p, vs, h0, h1, h2, h3, h4⟩ := h
    refine ⟨p, vs, h0, h1, h2, ?_, h4⟩
    cases q : H0 p with
    | none => rfl
    | some o => exact absurd h3 (t.dom p (by rw [q]; simp))
end
/-! ### a name's list is given up -/
def dropR (i : Nat) (ρ : Rho) : Rho := match ρ[i]? with
  | some (some (Slt.own ds)) => ρ.set i (some (Slt.val (PyData.list ds)))
  | some (some (Slt.dct kvs)) => ρ.set i (some (Slt.vdc kvs))
  | _ => ρ
theorem get_set_self {α : Type} {l : List α} {i : Nat} {x y : α} (h : l[i]? = some x) : (l.set i y)[i]? = some y := by
  rw [List.getElem?_set_self]
  exact (List.getElem?_eq_some_iff.mp h).1
theorem dropR_some {ρ : Rho} {i j : Nat} {t : Slt} (h : (dropR i ρ)[j]? = some (some t)) : (ρ[j]? = some (some t) ∧ (j = i → t.ow = false)) ∨ (j = i ∧ ∃ s : Slt, ρ[i]? = some (some s) ∧ s.ow = true ∧ t = shv s) := by
  unfold dropR at h
  split at h
  · rename_i ds hs
    by_cases e : i = j
    · subst e
      rw [get_set_self hs] at h
      cases h
      exact .inr ⟨rfl, _, hs, rfl, rfl⟩
    · rw [List.getElem?_set_ne e] at h
      exact .inl ⟨h, fun z => absurd z.symm e⟩
  · rename_i kvs hs
    by_cases e : i = j
    · subst e
      rw [get_set_self hs] at h
      cases h
      exact .inr ⟨rfl, _, hs, rfl, rfl⟩
    · rw [List.getElem?_set_ne e] at h
      exact .inl ⟨h, fun z => absurd z.symm e⟩
  · rename_i h1 h2
    refine .inl ⟨h, fun z => ?_⟩
    subst z
    cases t with
    | val d => rfl
    | vdc kvs => rfl
    | own ds => exact absurd h (h1 ds)
    | dct kvs => exact absurd h (h2 kvs)
theorem shv_ow {s : Slt} : (shv s).ow = false := by cases s <;> rfl
theorem dropR_ow' {ρ : Rho} {i j : Nat} {s : Slt} (h : (dropR i ρ)[j]? = some (some s)) (w : s.ow = true) : ρ[j]? = some (some s) ∧ j ≠ i := by
  rcases dropR_some h with ⟨h', z⟩ | ⟨_, es, _, _, z⟩
  · refine ⟨h', fun e => ?_⟩
    rw [z e] at w; cases w
  · rw [z, shv_ow] at w; cases w
theorem dropR_ow {ρ : Rho} {i j : Nat} {s : Slt} (h : (dropR i ρ)[j]? = some (some s)) (w : s.ow = true) : ρ[j]? = some (some s) := (dropR_ow' h w).1
theorem dropR_len {ρ : Rho} {i : Nat} : (dropR i ρ).length = ρ.length := by
  unfold dropR
  split
  · rw [List.length_set]
  · rw [List.length_set]
  · rfl
section
variable {K : PySem.W.Frag} {T : List (Addr × Str)} {O O1 O2 : Addr → Bool} {ρ ρ1 ρ2 : Rho} {σ σ1 σ2 : L2.St} {H H1 H2 : Hp}
theorem drop_okS {i : Nat} {v : V} {s : Slt} (S : SOk K T O ρ σ H) (hs : ρ[i]? = some (some s)) (hv : σ[i]? = some (some v)) :
    ∃ O', SOk K T O' (dropR i ρ) σ H ∧ Tr O ρ σ H O' (dropR i ρ) σ H ∧ ShR K (mask O' H) v (shv s) ∧ (∀ a, O' a = true → O a = true) := by
  by_cases hw : s.ow = true
  · obtain ⟨p, o, e1, e2, e3, hm⟩ := S.owner hs hw
    rw [hv] at e1
    cases e1
    have dpv : ShR K (mask (oSub O p) H) (.ref p) (shv s) := by
      cases s with
      | val d => cases hw
      | vdc kvs => cases hw
      | own ds =>
        obtain ⟨p', vs, q1, q2, q3, q4⟩ := S.own i ds hs
        rw [hv] at q1
        cases q1
        exact .lst ((.inl (mask_some.mpr ⟨by simp [oSub], q3⟩))) (mask_sub.dps q4)
      | dct kvs =>
        obtain ⟨p', vs, q1, q2, q3, q4⟩ := S.dct i kvs hs
        rw [hv] at q1
        cases q1
        exact ⟨p, vs, rfl, mask_some.mpr ⟨by simp [oSub], q3⟩, q4.mono mask_sub⟩
    have np : ∀ {j : Nat} {q : Addr} {t : Slt}, (dropR i ρ)[j]? = some (some t) → t.ow = true → σ[j]? = some (some (V.ref q)) → q ≠ p := fun {j q t} e w q1 z => by
      obtain ⟨e', ne⟩ := dropR_ow' e w
      exact ne (S.inj j i q _ _ e' hs w hw q1 (z ▸ hv))
    refine ⟨oSub O p, ⟨by rw [dropR_len]; exact S.len, fun a e => S.cov a (by simp [oSub] at e; exact e.1), fun j d e => ?_, fun j es e => ?_, fun j k q s t h1 h2 w1 w2 => S.inj j k q s t (dropR_ow h1 w1) (dropR_ow h2 w2) w1 w2, S.tabs, fun j kvs e => ?_, fun j kvs e => ?_⟩,
      ⟨fun a e => .inl (by simp [oSub] at e; exact e.1), fun _ _ _ h _ => h, fun a h1 h2 => ⟨?_, rfl⟩, fun a h => .inl ?_, fun _ h => h⟩, dpv, fun a e => by simp [oSub] at e; exact e.1⟩
    · rcases dropR_some e with ⟨e, _⟩ | ⟨rfl, s', e, _, z⟩
      · obtain ⟨w, q1, q2⟩ := S.val j d e
        exact ⟨w, q1, mask_sub.dp q2⟩
      · rw [hs] at e
        cases e
        rw [← z] at dpv
        exact ⟨_, hv, dpv⟩
    · obtain ⟨q, ws, q1, q2, q3, q4⟩ := S.own j es (dropR_ow e rfl)
      refine ⟨q, ws, q1, ?_, q3, mask_sub.dps q4⟩
      simp [oSub, q2, np e rfl q1]
    · obtain ⟨q, ws, q1, q2, q3, q4⟩ := S.dct j kvs (dropR_ow e rfl)
      refine ⟨q, ws, q1, ?_, q3, q4.mono mask_sub⟩
      simp [oSub, q2, np e rfl q1]
    · rcases dropR_some e with ⟨e, _⟩ | ⟨rfl, s', e, _, z⟩
      · obtain ⟨w, q1, q2⟩ := S.vdc j kvs e
        exact ⟨w, q1, q2.mono mask_sub⟩
      · rw [hs] at e
        cases e
        rw [← z] at dpv
        exact ⟨_, hv, dpv⟩
    · have : a ≠ p := fun z => h2 (z ▸ ⟨i, _, hs, hw, hv⟩)
      simp [oSub, h1, this]
    · obtain ⟨j, es, h1, hw, h2⟩ := h
      exact ⟨j, es, dropR_ow h1 hw, hw, h2⟩
  · have e : dropR i ρ = ρ := by
      unfold dropR
      rw [hs]
      cases s with
      | val d => rfl
      | vdc kvs => rfl
      | own ds => exact absurd rfl hw
      | dct kvs => exact absurd rfl hw
    rw [e]
    refine ⟨O, S, Tr.refl, ?_, fun _ h => h⟩
    cases s with
    | val d =>
      obtain ⟨v', e1, e2⟩ := S.val i d hs
      rw [hv] at e1
      cases e1
      exact e2
    | vdc kvs =>
      obtain ⟨v', e1, e2⟩ := S.vdc i kvs hs
      rw [hv] at e1
      cases e1
      exact e2
    | own ds => exact absurd rfl hw
    | dct kvs => exact absurd rfl hw
theorem drop_ok {i : Nat} {v : V} {s : Slt} {d : D} (nd : ndD s = some d) (S : SOk K T O ρ σ H) (hs : ρ[i]? = some (some s)) (hv : σ[i]? = some (some v)) :
    ∃ O', SOk K T O' (dropR i ρ) σ H ∧ Tr O ρ σ H O' (dropR i ρ) σ H ∧ Dp K (mask O' H) v d ∧ (∀ a, O' a = true → O a = true) := by
  obtain ⟨O', h1, h2, h3, h4⟩ := drop_okS S hs hv
  refine ⟨O', h1, h2, ?_, h4⟩
  cases s with
  | val d' => cases nd; exact h3
  | own ds => cases nd; exact h3
  | dct kvs => cases nd
  | vdc kvs => cases nd
end
end Pv

/-! Fw2: readings over data; operands; operators. -/
namespace Pv
open PySem PySem.Spec PyProof.Rows L2

abbrev RF := Rho → Option (Slt × Rho)
/-- a compiled expression: a bare name, or what it computes (pu: it changes no object that stands) -/
inductive Cd where
  | slot (i : Nat)
  | ex (pu : Bool) (f : RF)
def Cd.pu : Cd → Bool
  | .slot _ => true
  | .ex p _ => p
/-- as an operand -/
def aE : Cd → Rho → Option (Arg × Rho)
  | .slot i, ρ => match ρ[i]? with
    | some (some _) => some (.slot i, ρ)
    | _ => none
  | .ex _ f, ρ => match f ρ with
    | some (r, ρ') => match ndD r with
      | some d => some (.tmp d, ρ')
      | none => none
    | none => none
def aEs : List Cd → Rho → Option (List Arg × Rho)
  | [], ρ => some ([], ρ)
  | c :: cs, ρ => match aE c ρ with
    | some (a, ρ1) => match aEs cs ρ1 with
      | some (as, ρ2) => some (a :: as, ρ2)
      | none => none
    | none => none
def argsD (ρ : Rho) : List Arg → Option (List D)
  | [] => some []
  | a :: as => match argD ρ a, argsD ρ as with
    | some d, some ds => some (d :: ds)
    | _, _ => none
/-- as a value: a bare name's list is given up -/
def vE : Cd → Rho → Option (D × Rho)
  | .slot i, ρ => match ρ[i]? with
    | some (some s) => match ndD s with
      | some d => some (d, dropR i ρ)
      | none => none
    | _ => none
  | .ex _ f, ρ => match f ρ with
    | some (r, ρ') => match ndD r with
      | some d => some (d, ρ')
      | none => none
    | none => none

section
variable (K : PySem.W.Frag) (T : List (Addr × Str))
def tE (pu : Bool) (f : RF) : TE := fun σ H Q => ∃ O ρ r ρ', SOk K T O ρ σ H ∧ f ρ = some (r, ρ') ∧
  ∀ v O' H', SOk K T O' ρ' σ H' → Tr O ρ σ H O' ρ' σ H' → (pu = true → Kp H H') → ResV K O' H' ρ' σ H v r → Q v H'
def tO (c : Cd) : TE := fun σ H Q => ∃ O ρ a ρ', SOk K T O ρ σ H ∧ aE c ρ = some (a, ρ') ∧
  ∀ v O' H', SOk K T O' ρ' σ H' → Tr O ρ σ H O' ρ' σ H' → (c.pu = true → Kp H H') → ArgR K O' H' σ v a → Q v H'
def tV (c : Cd) : TE := fun σ H Q => ∃ O ρ d ρ', SOk K T O ρ σ H ∧ vE c ρ = some (d, ρ') ∧
  ∀ v O' H', SOk K T O' ρ' σ H' → Tr O ρ σ H O' ρ' σ H' → (c.pu = true → Kp H H') → Dp K (mask O' H') v d → Q v H'
def tT (pu : Bool) (f : Rho → Option (Bool × Rho)) : TT := fun σ H Q => ∃ O ρ b ρ', SOk K T O ρ σ H ∧ f ρ = some (b, ρ') ∧
  ∀ O' H', SOk K T O' ρ' σ H' → Tr O ρ σ H O' ρ' σ H' → (pu = true → Kp H H') → Q b H'
inductive ArgRs (O : Addr → Bool) (H : Hp) (σ : L2.St) : List V → List Arg → Prop
  | nil : ArgRs O H σ [] []
  | cons {v : V} {vs : List V} {a : Arg} {as : List Arg} : ArgR K O H σ v a → ArgRs O H σ vs as → ArgRs O H σ (v :: vs) (a :: as)
def cpu (cs : List Cd) : Bool := cs.all Cd.pu
def tAs (cs : List Cd) : TA := fun σ H Q => ∃ O ρ as ρ', SOk K T O ρ σ H ∧ aEs cs ρ = some (as, ρ') ∧
  ∀ vs O' H', SOk K T O' ρ' σ H' → Tr O ρ σ H O' ρ' σ H' → (cpu cs = true → Kp H H') → ArgRs K O' H' σ vs as → Q vs H'
end
def ES (X : Cx) (T : List (Addr × Str)) (e : Expr) : Cd → Prop
  | .slot i => PE X e (tVar i)
  | .ex pu f => PE X e (tE X.K T pu f)

theorem pe_imp {X : Cx} {e : Expr} {t t' : TE} (h : PE X e t) (i : ∀ σ H Q, t' σ H Q → t σ H Q) : PE X e t' := ⟨fun pins s σ H Q I q => h.run pins s σ H Q I (i σ H Q q)⟩
theorem pt_imp {X : Cx} {e : Expr} {t t' : TT} (h : PT X e t) (i : ∀ σ H Q, t' σ H Q → t σ H Q) : PT X e t' := ⟨fun pins s σ H Q I q => h.run pins s σ H Q I (i σ H Q q)⟩
theorem pa_imp {X : Cx} {e : List Expr} {t t' : TA} (h : PA X e t) (i : ∀ σ H Q, t' σ H Q → t σ H Q) : PA X e t' := ⟨fun pos pins s σ H Q I q => h.run pos pins s σ H Q I (i σ H Q q)⟩
theorem ps_imp {X : Cx} {e : Stmt} {t t' : TS} (h : PS X e t) (i : ∀ D σ H, t' D σ H → t D σ H) : PS X e t' := ⟨fun pins s σ H D I q => h.run pins s σ H D I (i D σ H q)⟩
theorem pss_imp {X : Cx} {e : List Stmt} {t t' : TS} (h : PSs X e t) (i : ∀ D σ H, t' D σ H → t D σ H) : PSs X e t' := ⟨fun pins s σ H D I q => h.run pins s σ H D I (i D σ H q)⟩

section
variable {K : PySem.W.Frag} {T : List (Addr × Str)} {O O1 O2 : Addr → Bool} {ρ ρ1 ρ2 : Rho} {σ σ1 σ2 : L2.St} {H H1 H2 : Hp}
theorem SOk.slot {i : Nat} {s : Slt} (S : SOk K T O ρ σ H) (h : ρ[i]? = some (some s)) : ∃ v, σ[i]? = some (some v) := by
  cases s with
  | val d => obtain ⟨v, e, _⟩ := S.val i d h; exact ⟨v, e⟩
  | own ds => obtain ⟨p, vs, e, _⟩ := S.own i ds h; exact ⟨_, e⟩
  | dct kvs => obtain ⟨p, vs, e, _⟩ := S.dct i kvs h; exact ⟨_, e⟩
  | vdc kvs => obtain ⟨v, e, _⟩ := S.vdc i kvs h; exact ⟨_, e⟩
theorem aE_slot {i : Nat} {a : Arg} (h : aE (.slot i) ρ = some (a, ρ1)) : a = .slot i ∧ ρ1 = ρ ∧ ∃ s : Slt, ρ[i]? = some (some s) := by
  simp only [aE] at h
  split at h
  · rename_i s hs
    cases h
    exact ⟨rfl, rfl, s, hs⟩
  · cases h
theorem aE_ex {pu : Bool} {f : RF} {a : Arg} (h : aE (.ex pu f) ρ = some (a, ρ1)) : ∃ r d, f ρ = some (r, ρ1) ∧ ndD r = some d ∧ a = .tmp d := by
  simp only [aE] at h
  split at h
  · rename_i r ρ' hs
    split at h
    · rename_i d hd
      cases h
      exact ⟨r, d, hs, hd, rfl⟩
    · cases h
  · cases h
end
section
variable {X : Cx} {T : List (Addr × Str)}
theorem ES.o {e : Expr} {c : Cd} (h : ES X T e c) : PE X e (tO X.K T c) := by
  cases c with
  | slot i =>
    refine pe_imp (show PE X e (tVar i) from h) fun σ H Q q => ?_
    obtain ⟨O, ρ, a, ρ', S, e1, q⟩ := q
    obtain ⟨rfl, rfl, s, hs⟩ := aE_slot e1
    obtain ⟨v, hv⟩ := S.slot hs
    exact ⟨v, hv, q v O H S Tr.refl (fun _ => Kp.refl H) hv⟩
  | ex pu f =>
    refine pe_imp (show PE X e (tE X.K T pu f) from h) fun σ H Q q => ?_
    obtain ⟨O, ρ, a, ρ', S, e1, q⟩ := q
    obtain ⟨r, d, e2, hd, rfl⟩ := aE_ex e1
    refine ⟨O, ρ, r, ρ', S, e2, fun v O' H' S' t p rv => ?_⟩
    obtain ⟨O2, S2, t2, d2⟩ := rv.weak hd S' S.cov' t
    exact q v O2 H' S2 t2 p d2
theorem ES.v {e : Expr} {c : Cd} (h : ES X T e c) : PE X e (tV X.K T c) := by
  cases c with
  | slot i =>
    refine pe_imp (show PE X e (tVar i) from h) fun σ H Q q => ?_
    obtain ⟨O, ρ, d, ρ', S, e1, q⟩ := q
    simp only [vE] at e1
    split at e1
    · rename_i s hs
      split at e1
      · rename_i d' hd
        cases e1
        obtain ⟨v, hv⟩ := S.slot hs
        obtain ⟨O', S', t', dp, _⟩ := drop_ok hd S hs hv
        exact ⟨v, hv, q v O' H S' t' (fun _ => Kp.refl H) dp⟩
      · cases e1
    · cases e1
  | ex pu f =>
    refine pe_imp (show PE X e (tE X.K T pu f) from h) fun σ H Q q => ?_
    obtain ⟨O, ρ, d, ρ', S, e1, q⟩ := q
    simp only [vE] at e1
    split at e1
    · rename_i r ρ2 e2
      split at e1
      · rename_i d' hd
        cases e1
        refine ⟨O, ρ, r, _, S, e2, fun v O' H' S' t p rv => ?_⟩
        obtain ⟨O2, S2, t2, d2⟩ := rv.weak hd S' S.cov' t
        exact q v O2 H' S2 t2 p d2
      · cases e1
    · cases e1
end
/-! ### operands in a row -/
section
variable {K : PySem.W.Frag} {T : List (Addr × Str)} {O O' : Addr → Bool} {ρ ρ' ρ1 ρ2 ρ3 : Rho} {σ : L2.St} {H H' : Hp} {a b c : Cd} {x y z : Arg}
theorem seq1 (S : SOk K T O ρ σ H) (e1 : aE a ρ = some (x, ρ1)) {R : V → Hp → Prop}
    (q : ∀ v O' H', SOk K T O' ρ1 σ H' → Tr O ρ σ H O' ρ1 σ H' → (a.pu = true → Kp H H') → ArgR K O' H' σ v x → R v H') : tO K T a σ H R :=
  ⟨O, ρ, x, ρ1, S, e1, q⟩
theorem seq2 (S : SOk K T O ρ σ H) (e1 : aE a ρ = some (x, ρ1)) (e2 : aE b ρ1 = some (y, ρ2)) {R : V → V → Hp → Prop}
    (q : ∀ v w O' H', SOk K T O' ρ2 σ H' → Tr O ρ σ H O' ρ2 σ H' → ((a.pu && b.pu) = true → Kp H H') → ArgR K O' H' σ v x → ArgR K O' H' σ w y → R v w H') :
    tO K T a σ H fun v H1 => tO K T b σ H1 fun w H2 => R v w H2 :=
  seq1 S e1 fun v O1 H1 S1 t1 p1 a1 => seq1 S1 e2 fun w O2 H2 S2 t2 p2 a2 =>
    q v w O2 H2 S2 (t1.trans S.cov' t2) (fun p => by
      rw [Bool.and_eq_true] at p
      exact (p1 p.1).trans (p2 p.2)) (a1.mono t2) a2
theorem seq3 (S : SOk K T O ρ σ H) (e1 : aE a ρ = some (x, ρ1)) (e2 : aE b ρ1 = some (y, ρ2)) (e3 : aE c ρ2 = some (z, ρ3)) {R : V → V → V → Hp → Prop}
    (q : ∀ v w u O' H', SOk K T O' ρ3 σ H' → Tr O ρ σ H O' ρ3 σ H' → ((a.pu && (b.pu && c.pu)) = true → Kp H H') → ArgR K O' H' σ v x → ArgR K O' H' σ w y → ArgR K O' H' σ u z → R v w u H') :
    tO K T a σ H fun v H1 => tO K T b σ H1 fun w H2 => tO K T c σ H2 fun u H3 => R v w u H3 :=
  seq1 S e1 fun v O1 H1 S1 t1 p1 a1 => seq2 S1 e2 e3 fun w u O2 H2 S2 t2 p2 a2 a3 =>
    q v w u O2 H2 S2 (t1.trans S.cov' t2) (fun p => by
      rw [Bool.and_eq_true] at p
      exact (p1 p.1).trans (p2 p.2)) (a1.mono t2) a2 a3
theorem ArgRs.mono {O1 O2 : Addr → Bool} {H1 H2 : Hp} {vs : List V} {as : List Arg} (t : Tr O1 ρ1 σ H1 O2 ρ2 σ H2) (h : ArgRs K O1 H1 σ vs as) : ArgRs K O2 H2 σ vs as := by
  induction h with
  | nil => exact .nil
  | cons h _ ih => exact .cons (h.mono t) ih
inductive RepBs (K : PySem.W.Frag) (O : Addr → Bool) (H : Hp) : List V → List D → Prop
  | nil : RepBs K O H [] []
  | cons {v : V} {vs : List V} {d : D} {ds : List D} : RepB K O H v d → RepBs K O H vs ds → RepBs K O H (v :: vs) (d :: ds)
theorem ArgRs.reps {vs : List V} {as : List Arg} (S : SOk K T O ρ σ H) (h : ArgRs K O H σ vs as) : ∀ {ds : List D}, argsD ρ as = some ds → RepBs K O H vs ds := by
  induction h with
  | nil => intro ds e; cases e; exact .nil
  | cons h _ ih =>
    intro ds e
    simp only [argsD] at e
    split at e
    · rename_i d es e1 e2
      cases e
      exact .cons (h.rep S e1) (ih e2)
    · cases e
end
/-! ### argument lists -/
def plainE : Expr → Bool
  | .Starred _ _ => false
  | .Slice _ _ _ _ => false
  | .Set _ _ _ => false
  | _ => true
theorem plain_star {e : Expr} {es : List Expr} {env : PySem.Env} (h : plainE e = true) : starEach (e :: es) env = (false, eval e env) :: starEach es env := by
  cases e <;> first | rfl | cases h
theorem plain_ix {e : Expr} (h : plainE e = true) : PlainIx e := by
  intro o i
  cases e <;> first | rfl | cases h
theorem plain_fold {e : Expr} (h : plainE e = true) {env : PySem.Env} : ∀ x, foldedSetIterable e env x = pure x := by
  intro x
  cases e <;> first | rfl | cases h
theorem plain_mark {e : Expr} {op : CmpOp} (h : plainE e = true) : behindInMarks op e = false := by
  cases e <;> first | rfl | cases h
theorem plain_any : ∀ {es : List Expr} {env : PySem.Env} {pos : Pos}, es.all plainE = true → (backTo pos (starEach es env)).any (·.1) = false
  | [], _, _, _ => rfl
  | e :: es, env, pos, h => by
    rw [List.all_cons, Bool.and_eq_true] at h
    rw [plain_star h.1]
    show (false || (backTo pos (starEach es env)).any (·.1)) = false
    rw [plain_any h.2]
    rfl
inductive ESs (X : Cx) (T : List (Addr × Str)) : List Expr → List Cd → Prop
  | nil : ESs X T [] []
  | cons {e : Expr} {es : List Expr} {c : Cd} {cs : List Cd} : ES X T e c → plainE e = true → ESs X T es cs → ESs X T (e :: es) (c :: cs)
theorem ESs.plain {X : Cx} {T : List (Addr × Str)} {es : List Expr} {cs : List Cd} (h : ESs X T es cs) : es.all plainE = true := by
  induction h with
  | nil => rfl
  | cons _ p _ ih => rw [List.all_cons, p, ih]; rfl
theorem ESs.pa {X : Cx} {T : List (Addr × Str)} {es : List Expr} {cs : List Cd} (h : ESs X T es cs) : PA X es (tAs X.K T cs) := by
  induction h with
  | nil =>
    refine pa_imp pa_nil fun σ H Q q => ?_
    obtain ⟨O, ρ, as, ρ', S, e1, q⟩ := q
    cases e1
    exact q [] O H S Tr.refl (fun _ => Kp.refl H) .nil
  | cons h p _ ih =>
    refine pa_imp (pa_cons h.o ih (plain_star p)) fun σ H Q q => ?_
    obtain ⟨O, ρ, as, ρ', S, e1, q⟩ := q
    simp only [aEs] at e1
    split at e1
    · rename_i a ρ1 e2
      split at e1
      · rename_i as' ρ2 e3
        cases e1
        refine seq1 S e2 fun v O1 H1 S1 t1 p1 a1 => ⟨O1, ρ1, as', _, S1, e3, fun vs O2 H2 S2 t2 p2 a2 => ?_⟩
        refine q (v :: vs) O2 H2 S2 (t1.trans S.cov' t2) (fun p => ?_) (.cons (a1.mono t2) a2)
        have p' : (Cd.pu _ && cpu _) = true := p
        rw [Bool.and_eq_true] at p'
        exact (p1 p'.1).trans (p2 p'.2)
      · cases e1
    · cases e1
/-! ### operators -/
/-- what an operator of two values hands back -/
def Sem2 (K : PySem.W.Frag) (T : List (Addr × Str)) (r : R2) (g : D → D → Option Slt) : Prop :=
  ∀ (O : Addr → Bool) (ρ : Rho) (σ : L2.St) (H : Hp) (x y : V) (dx dy : D) (s : Slt) (Q : VK), SOk K T O ρ σ H → RepB K O H x dx → RepB K O H y dy → g dx dy = some s →
    (∀ v O' H', SOk K T O' ρ σ H' → Tr O ρ σ H O' ρ σ H' → Kp H H' → ResV K O' H' ρ σ H v s → Q v H') → r x y H Q
def Sem1 (K : PySem.W.Frag) (T : List (Addr × Str)) (r : V → Hp → VK → Prop) (g : D → Option Slt) : Prop :=
  ∀ (O : Addr → Bool) (ρ : Rho) (σ : L2.St) (H : Hp) (x : V) (dx : D) (s : Slt) (Q : VK), SOk K T O ρ σ H → RepB K O H x dx → g dx = some s →
    (∀ v O' H', SOk K T O' ρ σ H' → Tr O ρ σ H O' ρ σ H' → Kp H H' → ResV K O' H' ρ σ H v s → Q v H') → r x H Q
def SemN (K : PySem.W.Frag) (T : List (Addr × Str)) (r : List V → Hp → VK → Prop) (g : List D → Option Slt) : Prop :=
  ∀ (O : Addr → Bool) (ρ : Rho) (σ : L2.St) (H : Hp) (xs : List V) (ds : List D) (s : Slt) (Q : VK), SOk K T O ρ σ H → RepBs K O H xs ds → g ds = some s →
    (∀ v O' H', SOk K T O' ρ σ H' → Tr O ρ σ H O' ρ σ H' → Kp H H' → ResV K O' H' ρ σ H v s → Q v H') → r xs H Q
def eOp1 (g : D → Option Slt) (a : Cd) : RF := fun ρ => match aE a ρ with
  | some (x, ρ1) => match argD ρ1 x with
    | some dx => match g dx with
      | some s => some (s, ρ1)
      | none => none
    | none => none
  | none => none
def eOp2 (g : D → D → Option Slt) (a b : Cd) : RF := fun ρ => match aE a ρ with
  | some (x, ρ1) => match aE b ρ1 with
    | some (y, ρ2) => match argD ρ2 x, argD ρ2 y with
      | some dx, some dy => match g dx dy with
        | some s => some (s, ρ2)
        | none => none
      | _, _ => none
    | none => none
  | none => none
def eOpN (g : List D → Option Slt) (cs : List Cd) : RF := fun ρ => match aEs cs ρ with
  | some (as, ρ1) => match argsD ρ1 as with
    | some ds => match g ds with
      | some s => some (s, ρ1)
      | none => none
    | none => none
  | none => none
section
variable {K : PySem.W.Frag} {T : List (Addr × Str)} {ρ ρ' : Rho} {s : Slt} {a b : Cd}
theorem eOp1_inv {g : D → Option Slt} (h : eOp1 g a ρ = some (s, ρ')) : ∃ x dx, aE a ρ = some (x, ρ') ∧ argD ρ' x = some dx ∧ g dx = some s := by
  unfold eOp1 at h
  split at h
  · rename_i x ρ1 e1
    split at h
    · rename_i dx e2
      split at h
      · rename_i s' e3
        cases h
        exact ⟨x, dx, e1, e2, e3⟩
      · cases h
    · cases h
  · cases h
theorem eOp2_inv {g : D → D → Option Slt} (h : eOp2 g a b ρ = some (s, ρ')) : ∃ x y ρ1 dx dy, aE a ρ = some (x, ρ1) ∧ aE b ρ1 = some (y, ρ') ∧ argD ρ' x = some dx ∧ argD ρ' y = some dy ∧ g dx dy = some s := by
  unfold eOp2 at h
  split at h
  · rename_i x ρ1 e1
    split at h
    · rename_i y ρ2 e2
      split at h
      · rename_i dx dy e3 e4
        split at h
        · rename_i s' e5
          cases h
          exact ⟨x, y, ρ1, dx, dy, e1, e2, e3, e4, e5⟩
        · cases h
      · cases h
    · cases h
  · cases h
theorem eOpN_inv {g : List D → Option Slt} {cs : List Cd} (h : eOpN g cs ρ = some (s, ρ')) : ∃ as ds, aEs cs ρ = some (as, ρ') ∧ argsD ρ' as = some ds ∧ g ds = some s := by
  unfold eOpN at h
  split at h
  · rename_i x ρ1 e1
    split at h
    · rename_i dx e2
      split at h
      · rename_i s' e3
        cases h
        exact ⟨x, dx, e1, e2, e3⟩
      · cases h
    · cases h
  · cases h
theorem tOp2 {r : R2} {g : D → D → Option Slt} (hg : Sem2 K T r g) {σ : L2.St} {H : Hp} {Q : VK} (q : tE K T (a.pu && b.pu) (eOp2 g a b) σ H Q) : tOp r (tO K T a) (tO K T b) σ H Q := by
  obtain ⟨O, ρ, s, ρ', S, e, q⟩ := q
  obtain ⟨x, y, ρ1, dx, dy, e1, e2, e3, e4, e5⟩ := eOp2_inv e
  refine seq2 S e1 e2 fun v w O2 H2 S2 t2 p2 a1 a2 => hg O2 ρ' σ H2 v w dx dy s Q S2 (a1.rep S2 e3) (a2.rep S2 e4) e5 fun u O3 H3 S3 t3 p3 r3 => ?_
  refine q u O3 H3 S3 (t2.trans S.cov' t3) (fun p => (p2 p).trans p3) ?_
  exact r3.back t2
theorem tOp1 {r : V → Hp → VK → Prop} {g : D → Option Slt} (hg : Sem1 K T r g) {σ : L2.St} {H : Hp} {Q : VK} (q : tE K T a.pu (eOp1 g a) σ H Q) : tUn r (tO K T a) σ H Q := by
  obtain ⟨O, ρ, s, ρ', S, e, q⟩ := q
  obtain ⟨x, dx, e1, e3, e5⟩ := eOp1_inv e
  refine seq1 S e1 fun v O2 H2 S2 t2 p2 a1 => hg O2 ρ' σ H2 v dx s Q S2 (a1.rep S2 e3) e5 fun u O3 H3 S3 t3 p3 r3 => ?_
  exact q u O3 H3 S3 (t2.trans S.cov' t3) (fun p => (p2 p).trans p3) (r3.back t2)
theorem tOpN {r : List V → Hp → VK → Prop} {g : List D → Option Slt} {cs : List Cd} (hg : SemN K T r g) {σ : L2.St} {H : Hp} {Q : VK} (q : tE K T (cpu cs) (eOpN g cs) σ H Q) : tCB r (tAs K T cs) σ H Q := by
  obtain ⟨O, ρ, s, ρ', S, e, q⟩ := q
  obtain ⟨as, ds, e1, e3, e5⟩ := eOpN_inv e
  refine ⟨O, ρ, as, ρ', S, e1, fun vs O2 H2 S2 t2 p2 a1 => hg O2 ρ' σ H2 vs ds s Q S2 (a1.reps S2 e3) e5 fun u O3 H3 S3 t3 p3 r3 => ?_⟩
  exact q u O3 H3 S3 (t2.trans S.cov' t3) (fun p => (p2 p).trans p3) (r3.back t2)
end
section
variable {X : Cx} {T : List (Addr × Str)} {e1 e2 : Expr} {a b : Cd} {pos : Pos}
theorem es_bin {op : Operator} {r : R2} {g : D → D → Option Slt} (ho : OpR X (binaryOp op) r) (hg : Sem2 X.K T r g) (ha : ES X T e1 a) (hb : ES X T e2 b) : PE X (.BinOp e1 op e2 pos) (tE X.K T (a.pu && b.pu) (eOp2 g a b)) :=
  pe_imp (pe_op ho ha.o hb.o) fun _ _ _ q => tOp2 hg q
theorem es_un {op : UnaryOp} {r : V → Hp → VK → Prop} {g : D → Option Slt} (ho : UnR X (unaryOp op) r) (hg : Sem1 X.K T r g) (ha : ES X T e1 a) : PE X (.UnaryOp op e1 pos) (tE X.K T a.pu (eOp1 g a)) :=
  pe_imp (pe_un ho ha.o) fun _ _ _ q => tOp1 hg q
theorem es_cmp {op : CmpOp} {r : R2} {g : D → D → Option Slt} (ho : OpR X (compareOp op) r) (hg : Sem2 X.K T r g) (ha : ES X T e1 a) (hb : ES X T e2 b) (hp : plainE e2 = true) : PE X (.Compare e1 [op] [e2] pos) (tE X.K T (a.pu && b.pu) (eOp2 g a b)) :=
  pe_imp (pe_cmpR ho ha.o hb.o (plain_mark hp)) fun _ _ _ q => tOp2 hg q
theorem es_ix {r : R2} {g : D → D → Option Slt} (ho : IxR X r) (hg : Sem2 X.K T r g) (ha : ES X T e1 a) (hb : ES X T e2 b) (hp : plainE e2 = true) : PE X (.Subscript e1 e2 pos) (tE X.K T (a.pu && b.pu) (eOp2 g a b)) :=
  pe_imp (pe_ix ho ha.o hb.o (plain_ix hp)) fun _ _ _ q => tOp2 hg q
end
end Pv

/-! Fw3: tests, and/or, displays, results of operators, calls of defs. -/
namespace Pv
open PySem PySem.Spec PyProof.Rows L2

section
variable {K : PySem.W.Frag} {T : List (Addr × Str)} {O : Addr → Bool} {ρ : Rho} {σ : L2.St} {H : Hp}
/-! ### what an operator may hand back -/
theorem res_val {v : V} {d : D} {Q : VK} (S : SOk K T O ρ σ H) (h : Dp K (mask O H) v d)
    (q : ∀ v O' H', SOk K T O' ρ σ H' → Tr O ρ σ H O' ρ σ H' → Kp H H' → ResV K O' H' ρ σ H v (.val d) → Q v H') : Q v H := q v O H S Tr.refl (Kp.refl H) h
theorem res_list {vs : List V} {ds : List D} {Q : VK} {p : Addr} (S : SOk K T O ρ σ H) (h : DpAll K (mask O H) vs ds) (np : H p = none)
    (q : ∀ v O' H', SOk K T O' ρ σ H' → Tr O ρ σ H O' ρ σ H' → Kp H H' → ResV K O' H' ρ σ H v (.own ds) → Q v H') : Q (.ref p) (upd H p (.lst vs)) :=
  q _ _ _ (S.newOwn np) (Tr.newOwn S np) (Kp.upd np) ⟨p, vs, rfl, by simp [oAdd], S.notOwn np, np, upd_same, by rw [mask_add np]; exact h⟩
theorem mask_new {p : Addr} {o : HO} (S : SOk K T O ρ σ H) (np : H p = none) : Kp (mask O H) (mask O (upd H p o)) := by
  have hO := S.free np
  rw [mask_upd hO]
  exact Kp.upd (by unfold mask; rw [hO]; simpa using np)
theorem mask_at {p : Addr} {o : HO} (S : SOk K T O ρ σ H) (np : H p = none) : mask O (upd H p o) p = some o := mask_some.mpr ⟨S.free np, upd_same⟩
/-- a new tuple -/
def NewT (H : Hp) (xs : List V) (Q : VK) : Prop := ∀ (p : Addr) (o : Obj), H p = none → o.dict = none → Q (.ref p) (upd H p (.frz o (.tup xs)))
theorem res_tup {vs : List V} {ds : List D} {Q : VK} (S : SOk K T O ρ σ H) (h : DpAll K (mask O H) vs ds)
    (q : ∀ v O' H', SOk K T O' ρ σ H' → Tr O ρ σ H O' ρ σ H' → Kp H H' → ResV K O' H' ρ σ H v (.val (.tuple ds)) → Q v H') : NewT H vs Q := fun p o np ho =>
  q _ _ _ (S.new np) (Tr.new S np) (Kp.upd np) (.tup (.inl ⟨o, mask_at S np, ho⟩) ((mask_new S np).dps h))
end

/-! ### truth -/
def truD : D → Option Bool
  | .none => some false
  | .bool b => some b
  | .int i => some (i != 0)
  | .str s => if s.length ≤ sizeLine then some ((s.length : Int) != 0) else none
  | .list ds => some (!ds.isEmpty)
  | .tuple ds => some (!ds.isEmpty)
  | .dict _ => none
abbrev BF := Rho → Option (Bool × Rho)
def bTru (a : Cd) : BF := fun ρ => match aE a ρ with
  | some (x, ρ1) => match argD ρ1 x with
    | some d => match truD d with
      | some b => some (b, ρ1)
      | none => none
    | none => none
  | none => none
theorem isEmpty_dps {K : PySem.W.Frag} {H : Hp} {vs : List V} {ds : List D} (h : DpAll K H vs ds) : (!ds.isEmpty) = !vs.isEmpty := by
  cases h <;> rfl
theorem truD_ok {K : PySem.W.Frag} {O : Addr → Bool} {H : Hp} {v : V} {d : D} {b : Bool} (h : RepB K O H v d) (e : truD d = some b) : TruV K v H b := by
  cases d with
  | none => cases e; rw [h.non]; exact rfl
  | bool c => cases e; rw [h.bl]; exact rfl
  | int i => cases e; rw [h.int]; exact rfl
  | str s =>
    simp only [truD] at e
    split at e
    · rename_i hl
      cases e
      rw [h.str.1]
      exact ⟨hl, rfl⟩
    · cases e
  | list ds =>
    cases e
    obtain ⟨a, vs, rfl, h1, h2⟩ := h.list
    exact .inl ⟨vs, .inl h1, isEmpty_dps h2⟩
  | tuple ds =>
    cases e
    obtain ⟨a, vs, rfl, h1, h2⟩ := h.tuple
    exact .inr (.inl ⟨vs, (Kp.mask O H).sqT h1, isEmpty_dps h2⟩)
  | dict _ => cases e
def bAnd (f g : BF) : BF := fun ρ => match f ρ with
  | some (true, ρ1) => g ρ1
  | some (false, ρ1) => some (false, ρ1)
  | none => none
def bOr (f g : BF) : BF := fun ρ => match f ρ with
  | some (true, ρ1) => some (true, ρ1)
  | some (false, ρ1) => g ρ1
  | none => none
def bNot (f : BF) : BF := fun ρ => match f ρ with
  | some (b, ρ1) => some (!b, ρ1)
  | none => none
def bOf (f : RF) : BF := fun ρ => match f ρ with
  | some (.val (.bool b), ρ1) => some (b, ρ1)
  | _ => none
def dfltTest : Expr → Bool
  | .UnaryOp .Not _ _ => false
  | .BoolOp _ _ _ => false
  | .IfExp _ _ _ _ => false
  | .Compare _ _ _ _ => false
  | _ => true
theorem dflt_test {e : Expr} {env : PySem.Env} (h : dfltTest e = true) : ∀ whole, isTrue e env whole = (do let v ← whole; standAt e.pos; holding [v] (truthy v)) := by
  intro w
  cases e <;> first | rfl | cases h | skip
  rename_i op x p
  cases op <;> first | rfl | cases h
section
variable {K : PySem.W.Frag} {T : List (Addr × Str)}
theorem kp2 {H H1 H2 : Hp} {a b : Bool} (p1 : a = true → Kp H H1) (p2 : b = true → Kp H1 H2) : (a && b) = true → Kp H H2 := fun p => by
  rw [Bool.and_eq_true] at p
  exact (p1 p.1).trans (p2 p.2)
theorem kp1 {H H1 H2 : Hp} {a b : Bool} (p1 : a = true → Kp H H1) (k : Kp H1 H2) : (a && b) = true → Kp H H2 := fun p => by
  rw [Bool.and_eq_true] at p
  exact (p1 p.1).trans k
end
section
variable {X : Cx} {T : List (Addr × Str)} {e e1 e2 : Expr} {a b c : Cd} {pos : Pos} {pu pv : Bool} {f g : BF}
theorem et_tru (ha : ES X T e a) (hd : dfltTest e = true) : PT X e (tT X.K T a.pu (bTru a)) := by
  refine pt_imp (pt_truth ha.o (dflt_test hd)) fun σ H Q q => ?_
  obtain ⟨O, ρ, k, ρ', S, e1, q⟩ := q
  unfold bTru at e1
  split at e1
  · rename_i x ρ1 h1
    split at e1
    · rename_i d h2
      split at e1
      · rename_i k' h3
        cases e1
        exact seq1 S h1 fun v O2 H2 S2 t2 p2 a2 => ⟨k, truD_ok (a2.rep S2 h2) h3, q O2 H2 S2 t2 p2⟩
      · cases e1
    · cases e1
  · cases e1
theorem et_and1 (ha : PT X e (tT X.K T pu f)) : PW X (.BoolOp .And [e] pos) (tT X.K T pu f) := pw_and1 ha
theorem et_or1 (ha : PT X e (tT X.K T pu f)) : PW X (.BoolOp .Or [e] pos) (tT X.K T pu f) := pw_or1 ha
theorem pw_imp {t t' : TT} (h : PW X e t) (i : ∀ σ H Q, t' σ H Q → t σ H Q) : PW X e t' := ⟨fun w pins s σ H Q I q => h.run w pins s σ H Q I (i σ H Q q)⟩
theorem et_and {rest : List Expr} (ha : PT X e (tT X.K T pu f)) (hb : PW X (.BoolOp .And (e1 :: rest) pos) (tT X.K T pv g)) : PW X (.BoolOp .And (e :: e1 :: rest) pos) (tT X.K T (pu && pv) (bAnd f g)) := by
  refine pw_imp (pw_and ha hb) fun σ H Q q => ?_
  obtain ⟨O, ρ, k, ρ', S, h, q⟩ := q
  unfold bAnd at h
  split at h
  · rename_i ρ1 h1
    exact ⟨O, ρ, true, ρ1, S, h1, fun O1 H1 S1 t1 p1 => (iteT ⟨O1, ρ1, k, ρ', S1, h, fun O2 H2 S2 t2 p2 => q O2 H2 S2 (t1.trans S.cov' t2) (kp2 p1 p2)⟩)⟩
  · rename_i ρ1 h1
    cases h
    exact ⟨O, ρ, false, _, S, h1, fun O1 H1 S1 t1 p1 => (iteF (q O1 H1 S1 t1 (kp1 p1 (Kp.refl _))))⟩
  · cases h
theorem et_or {rest : List Expr} (ha : PT X e (tT X.K T pu f)) (hb : PW X (.BoolOp .Or (e1 :: rest) pos) (tT X.K T pv g)) : PW X (.BoolOp .Or (e :: e1 :: rest) pos) (tT X.K T (pu && pv) (bOr f g)) := by
  refine pw_imp (pw_or ha hb) fun σ H Q q => ?_
  obtain ⟨O, ρ, k, ρ', S, h, q⟩ := q
  unfold bOr at h
  split at h
  · rename_i ρ1 h1
    cases h
    exact ⟨O, ρ, true, _, S, h1, fun O1 H1 S1 t1 p1 => (iteT (q O1 H1 S1 t1 (kp1 p1 (Kp.refl _))))⟩
  · rename_i ρ1 h1
    exact ⟨O, ρ, false, ρ1, S, h1, fun O1 H1 S1 t1 p1 => (iteF ⟨O1, ρ1, k, ρ', S1, h, fun O2 H2 S2 t2 p2 => q O2 H2 S2 (t1.trans S.cov' t2) (kp2 p1 p2)⟩)⟩
  · cases h
theorem et_not (ha : PT X e (tT X.K T pu f)) : PT X (.UnaryOp .Not e pos) (tT X.K T pu (bNot f)) := by
  refine pt_imp (pt_not ha) fun σ H Q q => ?_
  obtain ⟨O, ρ, k, ρ', S, h, q⟩ := q
  unfold bNot at h
  split at h
  · rename_i b ρ1 h1
    cases h
    exact ⟨O, ρ, b, _, S, h1, q⟩
  · cases h
theorem et_cmp {op : CmpOp} {r : R2} {g : D → D → Option Slt} (ho : OpR X (compareOp op) r) (hg : Sem2 X.K T r g) (ha : ES X T e1 a) (hb : ES X T e2 b) (hp : plainE e2 = true) :
    PT X (.Compare e1 [op] [e2] pos) (tT X.K T (a.pu && b.pu) (bOf (eOp2 g a b))) := by
  refine pt_imp (pt_cmpR ho ha.o hb.o (plain_mark hp)) fun σ H Q q => ?_
  obtain ⟨O, ρ, k, ρ', S, h, q⟩ := q
  unfold bOf at h
  split at h
  · rename_i b ρ1 h1
    cases h
    refine tOp2 hg ⟨O, ρ, _, _, S, h1, fun v O1 H1 S1 t1 p1 rv => ?_⟩
    have rv' : Dp X.K (mask O1 H1) v (.bool k) := rv
    cases rv'
    exact ⟨k, rfl, q O1 H1 S1 t1 p1⟩
  · cases h
def eAnd (a : Cd) (f : RF) : RF := fun ρ => match vE a ρ with
  | some (d, ρ1) => match truD d with
    | some true => f ρ1
    | some false => some (.val d, ρ1)
    | none => none
  | none => none
def eOr (a : Cd) (f : RF) : RF := fun ρ => match vE a ρ with
  | some (d, ρ1) => match truD d with
    | some true => some (.val d, ρ1)
    | some false => f ρ1
    | none => none
  | none => none
def eNotT (f : BF) : RF := fun ρ => match f ρ with
  | some (b, ρ1) => some (.val (.bool (!b)), ρ1)
  | none => none
def eVal (a : Cd) : RF := fun ρ => match vE a ρ with
  | some (d, ρ1) => some (.val d, ρ1)
  | none => none
def eIte (c : BF) (a b : Cd) : RF := fun ρ => match c ρ with
  | some (true, ρ1) => eVal a ρ1
  | some (false, ρ1) => eVal b ρ1
  | none => none
theorem es_val (ha : ES X T e a) : PE X e (tE X.K T a.pu (eVal a)) := by
  refine pe_imp ha.v fun σ H Q q => ?_
  obtain ⟨O, ρ, s, ρ', S, h, q⟩ := q
  unfold eVal at h
  split at h
  · rename_i d ρ1 h1
    cases h
    exact ⟨O, ρ, d, _, S, h1, fun v O1 H1 S1 t1 p1 rv => q v O1 H1 S1 t1 p1 rv⟩
  · cases h
theorem es_one {op : BoolOp} (ha : ES X T e a) : PE X (.BoolOp op [e] pos) (tE X.K T a.pu (eVal a)) := pe_one (es_val ha)
theorem es_and {rest : List Expr} {f : RF} (ha : ES X T e a) (hb : PE X (.BoolOp .And (e1 :: rest) pos) (tE X.K T pv f)) : PE X (.BoolOp .And (e :: e1 :: rest) pos) (tE X.K T (a.pu && pv) (eAnd a f)) := by
  refine pe_imp (pe_andT ha.v hb) fun σ H Q q => ?_
  obtain ⟨O, ρ, s, ρ', S, h, q⟩ := q
  unfold eAnd at h
  split at h
  · rename_i d ρ1 h1
    split at h
    · rename_i h2
      exact ⟨O, ρ, _, ρ1, S, h1, fun v O1 H1 S1 t1 p1 rv => ⟨true, truD_ok (.inl rv) h2, iteT ⟨O1, ρ1, s, ρ', S1, h, fun w O2 H2 S2 t2 p2 r2 => q w O2 H2 S2 (t1.trans S.cov' t2) (kp2 p1 p2) (r2.back t1)⟩⟩⟩
    · rename_i h2
      cases h
      exact ⟨O, ρ, _, _, S, h1, fun v O1 H1 S1 t1 p1 rv => ⟨false, truD_ok (.inl rv) h2, iteF (q _ O1 H1 S1 t1 (kp1 p1 (Kp.refl _)) rv)⟩⟩
    · cases h
  · cases h
theorem es_or {rest : List Expr} {f : RF} (ha : ES X T e a) (hb : PE X (.BoolOp .Or (e1 :: rest) pos) (tE X.K T pv f)) : PE X (.BoolOp .Or (e :: e1 :: rest) pos) (tE X.K T (a.pu && pv) (eOr a f)) := by
  refine pe_imp (pe_orT ha.v hb) fun σ H Q q => ?_
  obtain ⟨O, ρ, s, ρ', S, h, q⟩ := q
  unfold eOr at h
  split at h
  · rename_i d ρ1 h1
    split at h
    · rename_i h2
      cases h
      exact ⟨O, ρ, _, _, S, h1, fun v O1 H1 S1 t1 p1 rv => ⟨true, truD_ok (.inl rv) h2, iteT (q _ O1 H1 S1 t1 (kp1 p1 (Kp.refl _)) rv)⟩⟩
    · rename_i h2
      exact ⟨O, ρ, _, ρ1, S, h1, fun v O1 H1 S1 t1 p1 rv => ⟨false, truD_ok (.inl rv) h2, iteF ⟨O1, ρ1, s, ρ', S1, h, fun w O2 H2 S2 t2 p2 r2 => q w O2 H2 S2 (t1.trans S.cov' t2) (kp2 p1 p2) (r2.back t1)⟩⟩⟩
    · cases h
  · cases h
/-- not x, by its truth -/
theorem es_notT (ha : ES X T e a) : PE X (.UnaryOp .Not e pos) (tE X.K T a.pu (eNotT (bTru a))) := by
  refine pe_imp (pe_notT ha.o) fun σ H Q q => ?_
  obtain ⟨O, ρ, s, ρ', S, h, q⟩ := q
  unfold eNotT at h
  split at h
  · rename_i b ρ1 h0
    cases h
    unfold bTru at h0
    split at h0
    · rename_i x ρ1 h1
      split at h0
      · rename_i d h2
        split at h0
        · rename_i k' h3
          cases h0
          exact seq1 S h1 fun v O2 H2 S2 t2 p2 a2 => ⟨b, truD_ok (a2.rep S2 h2) h3, q _ O2 H2 S2 t2 p2 (.bl _)⟩
        · cases h0
      · cases h0
    · cases h0
  · cases h
theorem es_ite (hc : PT X e (tT X.K T pu f)) (ha : ES X T e1 a) (hb : ES X T e2 b) : PE X (.IfExp e e1 e2 pos) (tE X.K T (pu && (a.pu && b.pu)) (eIte f a b)) := by
  refine pe_imp (pe_ifExp hc (es_val ha) (es_val hb)) fun σ H Q q => ?_
  obtain ⟨O, ρ, s, ρ', S, h, q⟩ := q
  unfold eIte at h
  split at h
  · rename_i ρ1 h1
    refine ⟨O, ρ, true, ρ1, S, h1, fun O1 H1 S1 t1 p1 => iteT ⟨O1, ρ1, s, ρ', S1, h, fun w O2 H2 S2 t2 p2 r2 => q w O2 H2 S2 (t1.trans S.cov' t2) (fun p => ?_) (r2.back t1)⟩⟩
    rw [Bool.and_eq_true, Bool.and_eq_true] at p
    exact (p1 p.1).trans (p2 p.2.1)
  · rename_i ρ1 h1
    refine ⟨O, ρ, false, ρ1, S, h1, fun O1 H1 S1 t1 p1 => iteF ⟨O1, ρ1, s, ρ', S1, h, fun w O2 H2 S2 t2 p2 r2 => q w O2 H2 S2 (t1.trans S.cov' t2) (fun p => ?_) (r2.back t1)⟩⟩
    rw [Bool.and_eq_true, Bool.and_eq_true] at p
    exact (p1 p.1).trans (p2 p.2.2)
  · cases h
end

/-! ### operands given up -/
def dropA : Arg → Rho → Rho
  | .slot i, ρ => dropR i ρ
  | .tmp _, ρ => ρ
def dropsA : List Arg → Rho → Rho
  | [], ρ => ρ
  | a :: as, ρ => dropsA as (dropA a ρ)
theorem argD_drop {i : Nat} {ρ : Rho} (a : Arg) : argD (dropR i ρ) a = argD ρ a := by
  cases a with
  | tmp d => rfl
  | slot j =>
    cases hs : ρ[i]? with
    | none => simp only [argD, dropR, hs]
    | some o => cases o with
      | none => simp only [argD, dropR, hs]
      | some s => cases s with
        | val d => simp only [argD, dropR, hs]
        | vdc kvs => simp only [argD, dropR, hs]
        | dct kvs =>
          simp only [argD, dropR, hs]
          by_cases e : i = j
          · subst e
            rw [get_set_self hs, hs]
            rfl
          · rw [List.getElem?_set_ne e]
        | own ds =>
          simp only [argD, dropR, hs]
          by_cases e : i = j
          · subst e
            rw [get_set_self hs, hs]
            rfl
          · rw [List.getElem?_set_ne e]
theorem argD_dropA {b : Arg} {ρ : Rho} (a : Arg) : argD (dropA b ρ) a = argD ρ a := by
  cases b with
  | slot i => exact argD_drop a
  | tmp d => rfl
theorem argsD_dropA {b : Arg} {ρ : Rho} : ∀ as : List Arg, argsD (dropA b ρ) as = argsD ρ as
  | [] => rfl
  | a :: as => by simp only [argsD]; rw [argD_dropA, argsD_dropA as]
section
variable {K : PySem.W.Frag} {T : List (Addr × Str)} {O : Addr → Bool} {ρ : Rho} {σ : L2.St} {H : Hp}
theorem dropA_ok {a : Arg} {v : V} {d : D} (S : SOk K T O ρ σ H) (h : ArgR K O H σ v a) (e : argD ρ a = some d) :
    ∃ O', SOk K T O' (dropA a ρ) σ H ∧ Tr O ρ σ H O' (dropA a ρ) σ H ∧ Dp K (mask O' H) v d ∧ (∀ b, O' b = true → O b = true) := by
  cases a with
  | tmp d' => cases e; exact ⟨O, S, Tr.refl, h, fun _ h => h⟩
  | slot i =>
    simp only [argD] at e
    split at e
    · rename_i s hs
      exact drop_ok e S hs h
    · cases e
theorem dropsA_ok {as : List Arg} {vs : List V} (h : ArgRs K O H σ vs as) : ∀ {O : Addr → Bool} {ρ : Rho} {ds : List D}, SOk K T O ρ σ H → ArgRs K O H σ vs as → argsD ρ as = some ds →
    ∃ O', SOk K T O' (dropsA as ρ) σ H ∧ Tr O ρ σ H O' (dropsA as ρ) σ H ∧ DpAll K (mask O' H) vs ds ∧ (∀ b, O' b = true → O b = true) := by
  induction h with
  | nil => intro O ρ ds S h e; cases e; exact ⟨O, S, Tr.refl, .nil, fun _ h => h⟩
  | @cons v vs a as _ h0 ih =>
    intro O ρ ds S h e
    simp only [argsD] at e
    split at e
    · rename_i d es e1 e2
      cases e
      cases h with
      | cons h1 h2 =>
        obtain ⟨O1, S1, t1, d1, s1⟩ := dropA_ok S h1 e1
        obtain ⟨O2, S2, t2, d2, s2⟩ := ih S1 (h2.mono t1) (by rw [argsD_dropA]; exact e2)
        exact ⟨O2, S2, t1.trans S.cov' t2, .cons (t2.mask.dp d1) d2, fun b h => s1 b (s2 b h)⟩
    · cases e
end
/-! ### arguments: what others read of the names -/
def argS (ρ : Rho) : Arg → Option Slt
  | .slot i => match ρ[i]? with
    | some (some s) => some (shv s)
    | _ => none
  | .tmp d => some (.val d)
def argsS (ρ : Rho) : List Arg → Option (List Slt)
  | [] => some []
  | a :: as => match argS ρ a, argsS ρ as with
    | some d, some ds => some (d :: ds)
    | _, _ => none
theorem shv_shv {s : Slt} : shv (shv s) = shv s := by cases s <;> rfl
theorem argS_drop {i : Nat} {ρ : Rho} (a : Arg) : argS (dropR i ρ) a = argS ρ a := by
  cases a with
  | tmp d => rfl
  | slot j =>
    have key : ∀ {s : Slt}, ρ[i]? = some (some s) → argS (ρ.set i (some (shv s))) (.slot j) = argS ρ (.slot j) := fun {s} hs => by
      simp only [argS]
      by_cases e : i = j
      · subst e
        rw [get_set_self hs, hs]
        simp only [shv_shv]
      · rw [List.getElem?_set_ne e]
    unfold dropR
    split
    · rename_i ds hs; exact key hs
    · rename_i kvs hs; exact key hs
    · rfl
theorem argS_dropA {b : Arg} {ρ : Rho} (a : Arg) : argS (dropA b ρ) a = argS ρ a := by
  cases b with
  | slot i => exact argS_drop a
  | tmp d => rfl
theorem argsS_dropA {b : Arg} {ρ : Rho} : ∀ as : List Arg, argsS (dropA b ρ) as = argsS ρ as
  | [] => rfl
  | a :: as => by simp only [argsS]; rw [argS_dropA, argsS_dropA as]
inductive ShRs (K : PySem.W.Frag) (M : Hp) : List V → List Slt → Prop
  | nil : ShRs K M [] []
  | cons {v : V} {vs : List V} {s : Slt} {ss : List Slt} : ShR K M v s → ShRs K M vs ss → ShRs K M (v :: vs) (s :: ss)
section
variable {K : PySem.W.Frag} {T : List (Addr × Str)} {O : Addr → Bool} {ρ : Rho} {σ : L2.St} {H : Hp}
theorem dropA_okS {a : Arg} {v : V} {s : Slt} (S : SOk K T O ρ σ H) (h : ArgR K O H σ v a) (e : argS ρ a = some s) :
    ∃ O', SOk K T O' (dropA a ρ) σ H ∧ Tr O ρ σ H O' (dropA a ρ) σ H ∧ ShR K (mask O' H) v s ∧ (∀ b, O' b = true → O b = true) := by
  cases a with
  | tmp d' => cases e; exact ⟨O, S, Tr.refl, h, fun _ h => h⟩
  | slot i =>
    simp only [argS] at e
    split at e
    · rename_i s' hs
      cases e
      exact drop_okS S hs h
    · cases e
theorem dropsA_okS {as : List Arg} {vs : List V} (h : ArgRs K O H σ vs as) : ∀ {O : Addr → Bool} {ρ : Rho} {ss : List Slt}, SOk K T O ρ σ H → ArgRs K O H σ vs as → argsS ρ as = some ss →
    ∃ O', SOk K T O' (dropsA as ρ) σ H ∧ Tr O ρ σ H O' (dropsA as ρ) σ H ∧ ShRs K (mask O' H) vs ss ∧ (∀ b, O' b = true → O b = true) := by
  induction h with
  | nil => intro O ρ ds S h e; cases e; exact ⟨O, S, Tr.refl, .nil, fun _ h => h⟩
  | @cons v vs a as _ h0 ih =>
    intro O ρ ds S h e
    simp only [argsS] at e
    split at e
    · rename_i d es e1 e2
      cases e
      cases h with
      | cons h1 h2 =>
        obtain ⟨O1, S1, t1, d1, s1⟩ := dropA_okS S h1 e1
        obtain ⟨O2, S2, t2, d2, s2⟩ := ih S1 (h2.mono t1) (by rw [argsS_dropA]; exact e2)
        exact ⟨O2, S2, t1.trans S.cov' t2, .cons (d1.mono t2.mask) d2, fun b h => s1 b (s2 b h)⟩
    · cases e
end
/-! ### displays -/
def eDis (mk : List D → Option Slt) (cs : List Cd) : RF := fun ρ => match aEs cs ρ with
  | some (as, ρ1) => match argsD ρ1 as with
    | some ds => match mk ds with
      | some s => some (s, dropsA as ρ1)
      | none => none
    | none => none
  | none => none
def mkTup (ds : List D) : Option Slt := if ds.length ≤ sizeLine then some (.val (.tuple ds)) else none
def mkLst (ds : List D) : Option Slt := if ds.length ≤ sizeLine then some (.own ds) else none
theorem eDis_inv {mk : List D → Option Slt} {cs : List Cd} {ρ ρ' : Rho} {s : Slt} (h : eDis mk cs ρ = some (s, ρ')) : ∃ as ds ρ1, aEs cs ρ = some (as, ρ1) ∧ argsD ρ1 as = some ds ∧ mk ds = some s ∧ ρ' = dropsA as ρ1 := by
  unfold eDis at h
  split at h
  · rename_i x ρ1 e1
    split at h
    · rename_i dx e2
      split at h
      · rename_i s' e3
        cases h
        exact ⟨x, dx, ρ1, e1, e2, e3, rfl⟩
      · cases h
    · cases h
  · cases h
section
variable {X : Cx} {T : List (Addr × Str)} {es : List Expr} {cs : List Cd} {pos : Pos}
theorem laidT {X : Cx} {pins : List (Addr × Obj)} {σ : L2.St} {H : Hp} {s : Shared} {xs : List V} {its : List Value} {t' : Nat} (I : Inv X pins σ H s) (r : Vals xs its) (hz : xs.length ≤ sizeLine) :
    Inv X pins σ (upd H s.heap.objs.size (.frz { cls := .type "tuple", data := .seq its.toArray } (.tup xs))) { s with heap := s.heap.push { cls := .type "tuple", data := .seq its.toArray }, toks := t' } :=
  I.laid (fun b ob q => Heap.get?_push_of_some _ q) (Nat.le_refl _) ⟨Heap.get?_push_size _ rfl, hz, its, r, IsTup.new _ _⟩
theorem pe_tupP {k : Nat} {t : TA} (h : PA X es t) : PE X (.Tuple es k pos) (fun σ H Q => t σ H fun xs H1 => xs.length ≤ sizeLine ∧ NewT H1 xs Q) := by
  refine ⟨fun pins s σ H Q I hq => ?_⟩
  refine wpAny_Tuple_spliced (thn (h.run pos pins s σ H _ I hq) fun us s1 ⟨xs, H1, I1, r, z, q⟩ => ⟨by rw [← r.length]; exact z, ?_⟩)
  exact ⟨.ref _, _, laidT (t' := s1.toks) I1 r z, rfl, q _ _ (I1.hok.fresh (Nat.le_refl _)) rfl⟩
theorem es_tup {k : Nat} (h : ESs X T es cs) : PE X (.Tuple es k pos) (tE X.K T (cpu cs) (eDis mkTup cs)) := by
  refine pe_imp (pe_tupP h.pa) fun σ H Q q => ?_
  obtain ⟨O, ρ, s, ρ', S, e, q⟩ := q
  obtain ⟨as, ds, ρ1, e1, e2, e3, rfl⟩ := eDis_inv e
  refine ⟨O, ρ, as, ρ1, S, e1, fun vs O1 H1 S1 t1 p1 a1 => ?_⟩
  obtain ⟨O2, S2, t2, d2, _⟩ := dropsA_ok a1 S1 a1 e2
  unfold mkTup at e3
  split at e3
  · rename_i hz
    cases e3
    refine ⟨by rw [dps_len d2]; exact hz, res_tup S2 d2 fun v O3 H3 S3 t3 p3 r3 => ?_⟩
    exact q v O3 H3 S3 ((t1.trans S.cov' t2).trans S.cov' t3) (fun p => (p1 p).trans p3) (r3.back (t1.trans S.cov' t2))
  · cases e3
theorem es_lst (h : ESs X T es cs) : PE X (.List es pos) (tE X.K T (cpu cs) (eDis mkLst cs)) := by
  refine pe_imp (pe_lst h.pa) fun σ H Q q => ?_
  obtain ⟨O, ρ, s, ρ', S, e, q⟩ := q
  obtain ⟨as, ds, ρ1, e1, e2, e3, rfl⟩ := eDis_inv e
  refine ⟨O, ρ, as, ρ1, S, e1, fun vs O1 H1 S1 t1 p1 a1 => ?_⟩
  obtain ⟨O2, S2, t2, d2, _⟩ := dropsA_ok a1 S1 a1 e2
  unfold mkLst at e3
  split at e3
  · rename_i hz
    cases e3
    refine ⟨by rw [dps_len d2]; exact hz, fun p np => res_list S2 d2 np fun v O3 H3 S3 t3 p3 r3 => ?_⟩
    exact q v O3 H3 S3 ((t1.trans S.cov' t2).trans S.cov' t3) (fun p => (p1 p).trans p3) (r3.back (t1.trans S.cov' t2))
  · cases e3
end
end Pv

/-! Fw4: targets, statements, loops. -/
namespace Pv
open PySem PySem.Spec PyProof.Rows L2

/-! ### a name is set -/
def FzR (fz : Nat → Bool) (σ σ' : L2.St) : Prop := σ'.length = σ.length ∧ ∀ i, fz i = true → σ'[i]? = σ[i]?
theorem FzR.refl {fz : Nat → Bool} {σ : L2.St} : FzR fz σ σ := ⟨rfl, fun _ _ => rfl⟩
theorem FzR.trans {fz : Nat → Bool} {σ σ1 σ2 : L2.St} (a : FzR fz σ σ1) (b : FzR fz σ1 σ2) : FzR fz σ σ2 := ⟨b.1.trans a.1, fun i h => (b.2 i h).trans (a.2 i h)⟩
theorem FzR.set {fz : Nat → Bool} {σ : L2.St} {i : Nat} {v : Option V} (h : fz i = false) : FzR fz σ (σ.set i v) := ⟨by rw [List.length_set], fun j hj => by
  have : i ≠ j := fun e => by rw [e, hj] at h; cases h
  rw [List.getElem?_set_ne this]⟩
theorem set_some {α : Type} {l : List α} {i j : Nat} {x y : α} (h : (l.set i x)[j]? = some y) : (i = j ∧ y = x ∧ i < l.length) ∨ (i ≠ j ∧ l[j]? = some y) := by
  by_cases e : i = j
  · subst e
    by_cases hl : i < l.length
    · rw [List.getElem?_set_self hl] at h
      cases h
      exact .inl ⟨rfl, rfl, hl⟩
    · rw [List.getElem?_eq_none (by rw [List.length_set]; omega)] at h
      cases h
  · rw [List.getElem?_set_ne e] at h
    exact .inr ⟨e, h⟩
section
variable {K : PySem.W.Frag} {T : List (Addr × Str)} {O O0 : Addr → Bool} {ρ ρ0 : Rho} {σ σ0 : L2.St} {H H0 : Hp}
theorem set_ok {i : Nat} {v : V} {r : Slt} (S : SOk K T O ρ σ H) (hi : i < ρ.length) (h : ResV K O H ρ σ H0 v r) : SOk K T O (ρ.set i (some r)) (σ.set i (some v)) H := by
  have hi' : i < σ.length := by rw [← S.len]; exact hi
  refine ⟨by rw [List.length_set, List.length_set]; exact S.len, S.cov, fun j d e => ?_, fun j ds e => ?_, fun j k p s t h1 h2 w1 w2 h3 h4 => ?_, S.tabs, fun j kvs e => ?_, fun j kvs e => ?_⟩
  · rcases set_some e with ⟨rfl, z, _⟩ | ⟨ne, e⟩
    · cases z
      exact ⟨v, by rw [List.getElem?_set_self hi'], h⟩
    · obtain ⟨w, e1, e2⟩ := S.val j d e
      exact ⟨w, by rw [List.getElem?_set_ne ne]; exact e1, e2⟩
  · rcases set_some e with ⟨rfl, z, _⟩ | ⟨ne, e⟩
    · cases z
      obtain ⟨p, vs, rfl, h1, h2, h3, h4, h5⟩ := h
      exact ⟨p, vs, by rw [List.getElem?_set_self hi'], h1, h4, h5⟩
    · obtain ⟨p, vs, e1, e2, e3, e4⟩ := S.own j ds e
      exact ⟨p, vs, by rw [List.getElem?_set_ne ne]; exact e1, e2, e3, e4⟩
  · rcases set_some h1 with ⟨rfl, z, _⟩ | ⟨ne, e⟩
    · rcases set_some h2 with ⟨rfl, z', _⟩ | ⟨ne', e'⟩
      · rfl
      · cases z
        obtain ⟨q, o, rfl, g1, g2, g3, g4⟩ := h.ow w1
        rw [List.getElem?_set_self hi'] at h3
        cases h3
        rw [List.getElem?_set_ne ne'] at h4
        exact absurd ⟨k, t, e', w2, h4⟩ g2
    · rcases set_some h2 with ⟨rfl, z', _⟩ | ⟨ne', e'⟩
      · cases z'
        obtain ⟨q, o, rfl, g1, g2, g3, g4⟩ := h.ow w2
        rw [List.getElem?_set_self hi'] at h4
        cases h4
        rw [List.getElem?_set_ne ne] at h3
        exact absurd ⟨j, s, e, w1, h3⟩ g2
      · rw [List.getElem?_set_ne ne] at h3
        rw [List.getElem?_set_ne ne'] at h4
        exact S.inj j k p s t e e' w1 w2 h3 h4
  · rcases set_some e with ⟨rfl, z, _⟩ | ⟨ne, e⟩
    · cases z
      obtain ⟨p, vs, rfl, h1, h2, h3, h4, h5⟩ := h
      exact ⟨p, vs, by rw [List.getElem?_set_self hi'], h1, h4, h5⟩
    · obtain ⟨p, vs, e1, e2, e3, e4⟩ := S.dct j kvs e
      exact ⟨p, vs, by rw [List.getElem?_set_ne ne]; exact e1, e2, e3, e4⟩
  · rcases set_some e with ⟨rfl, z, _⟩ | ⟨ne, e⟩
    · cases z
      exact ⟨v, by rw [List.getElem?_set_self hi'], h⟩
    · obtain ⟨w, e1, e2⟩ := S.vdc j kvs e
      exact ⟨w, by rw [List.getElem?_set_ne ne]; exact e1, e2⟩
theorem set_tr {i : Nat} {v : V} {r : Slt} (S : SOk K T O ρ σ H) (t : Tr O0 ρ0 σ0 H0 O ρ σ H) (hi : i < ρ.length) (h : ResV K O H ρ σ H0 v r) : Tr O0 ρ0 σ0 H0 O (ρ.set i (some r)) (σ.set i (some v)) H := by
  have hi' : i < σ.length := by rw [← S.len]; exact hi
  refine ⟨t.sub, t.keep, t.oth, fun a ha => ?_, t.dom⟩
  obtain ⟨j, u, h1, hw, h2⟩ := ha
  rcases set_some h1 with ⟨rfl, z, _⟩ | ⟨ne, e⟩
  · cases z
    obtain ⟨q, o, rfl, g1, g2, g3, g4⟩ := h.ow hw
    rw [List.getElem?_set_self hi'] at h2
    cases h2
    exact .inr g3
  · rw [List.getElem?_set_ne ne] at h2
    exact t.pres a ⟨j, u, e, hw, h2⟩
end

/-! ### targets -/
abbrev GF := D → Rho → Option Rho
section
variable (K : PySem.W.Frag) (T : List (Addr × Str)) (fz : Nat → Bool)
/-- data, or (wk) a tuple of data of which nothing more is known -/
def Dw (K : PySem.W.Frag) (H : Hp) (wk : Bool) (v : V) (d : D) : Prop := Dp K H v d ∨ (wk = true ∧ ∃ a xs ds, v = .ref a ∧ d = .tuple ds ∧ SqT K H a xs ∧ DpAll K H xs ds)
def tG (wk : Bool) (f : GF) : TG := fun v σ H Q => ∃ O ρ d ρ', SOk K T O ρ σ H ∧ Dw K (mask O H) wk v d ∧ f d ρ = some ρ' ∧ ∀ σ', SOk K T O ρ' σ' H → Tr O ρ σ H O ρ' σ' H → FzR fz σ σ' → Q σ' H
def tGs (f : List D → Rho → Option Rho) : TGs := fun vs σ H Q => ∃ O ρ ds ρ', SOk K T O ρ σ H ∧ DpAll K (mask O H) vs ds ∧ f ds ρ = some ρ' ∧ ∀ σ', SOk K T O ρ' σ' H → Tr O ρ σ H O ρ' σ' H → FzR fz σ σ' → Q σ' H
end
def gfName (i : Nat) : GF := fun d ρ => if i < ρ.length then some (ρ.set i (some (.val d))) else none
def gfNil : List D → Rho → Option Rho := fun ds ρ => match ds with
  | [] => some ρ
  | _ => none
def gfCons (f : GF) (g : List D → Rho → Option Rho) : List D → Rho → Option Rho := fun ds ρ => match ds with
  | d :: ds => match f d ρ with
    | some ρ1 => g ds ρ1
    | none => none
  | [] => none
def gfTup (g : List D → Rho → Option Rho) : GF := fun d ρ => match d with
  | .tuple ds => g ds ρ
  | .list ds => g ds ρ
  | _ => none
theorem pg_or {X : Cx} {e : Expr} {t t' : TG} (h : PG X e t) (h' : PG X e t') : PG X e (fun v σ H Q => t v σ H Q ∨ t' v σ H Q) := ⟨fun pins s σ H v u Q I r q => q.elim (h.run pins s σ H v u Q I r) (h'.run pins s σ H v u Q I r)⟩
theorem pg_imp {X : Cx} {e : Expr} {t t' : TG} (h : PG X e t) (i : ∀ v σ H Q, t' v σ H Q → t v σ H Q) : PG X e t' := ⟨fun pins s σ H v u Q I r q => h.run pins s σ H v u Q I r (i v σ H Q q)⟩
theorem pgs_imp {X : Cx} {e : List Expr} {t t' : TGs} (h : PGs X e t) (i : ∀ v σ H Q, t' v σ H Q → t v σ H Q) : PGs X e t' := ⟨fun pins s σ H v u Q I r q => h.run pins s σ H v u Q I r (i v σ H Q q)⟩
section
variable {X : Cx} {T : List (Addr × Str)} {fz : Nat → Bool} {e : Expr} {es : List Expr} {pos : Pos}
theorem eg_name {i : Nat} {x : Str} (hN : X.N.Nodup) (hi : X.N[i]? = some x) (hx : Loc X.env.scope x) (hf : X.fn x = true ∨ X.env.scope.names.lookup x = some .local) (hz : fz i = false) : PG X (.Name x pos) (tG X.K T fz false (gfName i)) := by
  refine pg_imp (pg_name hN hi hx hf) fun v σ H Q q => ?_
  obtain ⟨O, ρ, d, ρ', S, hd | ⟨hd, _⟩, e, q⟩ := q
  case inr => cases hd
  unfold gfName at e
  split at e
  · rename_i hl
    cases e
    exact q _ (set_ok (r := .val d) (H0 := H) S hl hd) (set_tr (r := .val d) S Tr.refl hl hd) (FzR.set hz)
  · cases e
theorem eg_nil : PGs X [] (tGs X.K T fz gfNil) := by
  refine pgs_imp pgs_nil fun vs σ H Q q => ?_
  obtain ⟨O, ρ, ds, ρ', S, hd, e, q⟩ := q
  unfold gfNil at e
  split at e
  · cases e
    cases hd
    exact ⟨rfl, q σ S Tr.refl FzR.refl⟩
  · cases e
def plainTg : Expr → Bool
  | .Name _ _ => true
  | .Tuple _ _ _ => true
  | _ => false
theorem eg_cons {wk : Bool} {f : GF} {g : List D → Rho → Option Rho} (h1 : PG X e (tG X.K T fz wk f)) (h2 : PGs X es (tGs X.K T fz g)) (hp : plainTg e = true) : PGs X (e :: es) (tGs X.K T fz (gfCons f g)) := by
  have hs : (assignEach (e :: es) X.env).map (·.2) = assign e X.env :: (assignEach es X.env).map (·.2) := by
    cases e <;> first | rfl | cases hp
  refine pgs_imp (pgs_cons h1 h2 hs) fun vs σ H Q q => ?_
  obtain ⟨O, ρ, ds, ρ', S, hd, e, q⟩ := q
  unfold gfCons at e
  split at e
  · rename_i d ds
    split at e
    · rename_i ρ1 e1
      cases hd with
      | cons hd1 hd2 =>
        refine ⟨_, _, rfl, O, ρ, d, ρ1, S, .inl hd1, e1, fun σ1 S1 t1 f1 => ⟨O, ρ1, ds, ρ', S1, hd2, e, fun σ2 S2 t2 f2 => ?_⟩⟩
        exact q σ2 S2 (t1.trans S.cov' t2) (f1.trans f2)
    · cases e
  · cases e
theorem tg_len : ∀ {es : List Expr} {env : PySem.Env}, es.all plainTg = true → (assignEach es env).length = es.length ∧ (assignEach es env).findIdx? (·.1) = none
  | [], _, _ => ⟨rfl, rfl⟩
  | e :: es, env, h => by
    rw [List.all_cons, Bool.and_eq_true] at h
    obtain ⟨h1, h2⟩ := tg_len (es := es) (env := env) h.2
    have he := h.1
    have hs : assignEach (e :: es) env = (false, assign e env) :: assignEach es env := by
      cases e <;> first | rfl | cases he
    rw [hs]
    refine ⟨by rw [List.length_cons, List.length_cons, h1], ?_⟩
    rw [List.findIdx?_cons, if_neg (by simp), h2]
    rfl
theorem tGs_len {g : List D → Rho → Option Rho} {n : Nat} (hg : ∀ ds ρ ρ', g ds ρ = some ρ' → ds.length = n) {vs : List V} {σ : L2.St} {H : Hp} {Q : L2.St → Hp → Prop} (q : tGs X.K T fz g vs σ H Q) : vs.length = n := by
  obtain ⟨O, ρ, ds, ρ', S, hd, e, q⟩ := q
  rw [dps_len hd]
  exact hg _ _ _ e
theorem eg_tup {k : Nat} {wk : Bool} {g : List D → Rho → Option Rho} (hc : X.calm = true) (h : PGs X es (tGs X.K T fz g)) (hp : es.all plainTg = true) (hg : ∀ ds ρ ρ', g ds ρ = some ρ' → ds.length = es.length) :
    PG X (.Tuple es k pos) (tG X.K T fz wk (gfTup g)) := by
  obtain ⟨h1, h2⟩ := tg_len (env := X.env) hp
  refine pg_imp (pg_or (pg_tup hc h h1 h2) (pg_unl hc h h1 h2)) fun v σ H Q q => ?_
  obtain ⟨O, ρ, d, ρ', S, hd, e, q⟩ := q
  unfold gfTup at e
  split at e
  · rename_i ds
    obtain ⟨a, xs, rfl, hs, ha⟩ : ∃ a xs, v = .ref a ∧ SqT X.K (mask O H) a xs ∧ DpAll X.K (mask O H) xs ds := by
      rcases hd with hd | ⟨_, a, xs, ds', e1, e2, hs, ha⟩
      · cases hd with
        | tup hs ha => exact ⟨_, _, rfl, hs.sqT, ha⟩
      · cases e2
        exact ⟨a, xs, e1, hs, ha⟩
    exact .inl ⟨_, _, rfl, (Kp.mask O H).sqT hs, by rw [dps_len ha]; exact hg _ _ _ e, O, ρ, ds, ρ', S, ha, e, q⟩
  · rename_i ds
    rcases hd with hd | ⟨_, a, xs, ds', e1, e2, hs, ha⟩
    case inr => cases e2
    cases hd with
    | lst hs ha => exact .inr ⟨_, _, rfl, .inl ((Kp.mask O H).rd hs), by rw [dps_len ha]; exact hg _ _ _ e, O, ρ, ds, ρ', S, ha, e, q⟩
  · cases e
theorem gfNil_len {ds : List D} {ρ ρ' : Rho} (h : gfNil ds ρ = some ρ') : ds.length = 0 := by
  unfold gfNil at h
  split at h
  · rfl
  · cases h
theorem gfCons_len {f : GF} {g : List D → Rho → Option Rho} {n : Nat} (hg : ∀ ds ρ ρ', g ds ρ = some ρ' → ds.length = n) {ds : List D} {ρ ρ' : Rho} (h : gfCons f g ds ρ = some ρ') : ds.length = n + 1 := by
  unfold gfCons at h
  split at h
  · split at h
    · rw [List.length_cons, hg _ _ _ h]
    · cases h
  · cases h
end

/-! ### statements -/
inductive Out where
  | nx (ρ : Rho)
  | rt (r : Slt) (ρ : Rho)
  | bk (ρ : Rho)
  | ct (ρ : Rho)
abbrev SF := Rho → Option Out
section
variable (K : PySem.W.Frag) (T : List (Addr × Str)) (fz : Nat → Bool)
/-- what a return hands back: a list of one's own may have stood in a name -/
def ResRt (O : Addr → Bool) (H : Hp) (ρ : Rho) (σ : L2.St) (ρs : Rho) (σs : L2.St) (Hs : Hp) (v : V) : Slt → Prop
  | .val d => Dp K (mask O H) v d
  | .own ds => ∃ p vs, v = .ref p ∧ O p = true ∧ ¬ Own ρ σ p ∧ (Own ρs σs p ∨ Hs p = none) ∧ H p = some (.lst vs) ∧ DpAll K (mask O H) vs ds
  | .dct kvs => ∃ p kw, v = .ref p ∧ O p = true ∧ ¬ Own ρ σ p ∧ (Own ρs σs p ∨ Hs p = none) ∧ H p = some (.dK kw) ∧ DkR K (mask O H) kw kvs
  | .vdc kvs => VdR K (mask O H) v kvs
def OutOk (D : Ends) (O : Addr → Bool) (ρ : Rho) (σ : L2.St) (H : Hp) : Out → Prop
  | .nx ρ' => ∀ O' σ' H', SOk K T O' ρ' σ' H' → Tr O ρ σ H O' ρ' σ' H' → FzR fz σ σ' → D.nx σ' H'
  | .bk ρ' => ∀ O' σ' H', SOk K T O' ρ' σ' H' → Tr O ρ σ H O' ρ' σ' H' → FzR fz σ σ' → D.bk σ' H'
  | .ct ρ' => ∀ O' σ' H', SOk K T O' ρ' σ' H' → Tr O ρ σ H O' ρ' σ' H' → FzR fz σ σ' → D.ct σ' H'
  | .rt r ρ' => ∀ v O' σ' H', SOk K T O' ρ' σ' H' → Tr O ρ σ H O' ρ' σ' H' → FzR fz σ σ' → ResRt K O' H' ρ' σ' ρ σ H v r → D.rt v H'
def tS (f : SF) : TS := fun D σ H => ∃ O ρ out, SOk K T O ρ σ H ∧ f ρ = some out ∧ OutOk K T fz D O ρ σ H out
end
section
variable {K : PySem.W.Frag} {T : List (Addr × Str)} {fz : Nat → Bool} {O O1 : Addr → Bool} {ρ ρ1 : Rho} {σ σ1 : L2.St} {H H1 : Hp} {D : Ends}
theorem ResV.rt {O' : Addr → Bool} {H' : Hp} {ρ' : Rho} {σ' : L2.St} {v : V} {r : Slt} (h : ResV K O' H' ρ' σ' H v r) : ResRt K O' H' ρ' σ' ρ σ H v r := by
  cases r with
  | val d => exact h
  | vdc kvs => exact h
  | own ds =>
    obtain ⟨p, vs, h0, h1, h2, h3, h4⟩ := h
    exact ⟨p, vs, h0, h1, h2, .inr h3, h4⟩
  | dct kvs =>
    obtain ⟨p, vs, h0, h1, h2, h3, h4⟩ := h
    exact ⟨p, vs, h0, h1, h2, .inr h3, h4⟩
theorem ResRt.back {O' : Addr → Bool} {H' : Hp} {ρ' : Rho} {σ' : L2.St} {v : V} {r : Slt} (t : Tr O ρ σ H O1 ρ1 σ1 H1) (h : ResRt K O' H' ρ' σ' ρ1 σ1 H1 v r) : ResRt K O' H' ρ' σ' ρ σ H v r := by
  cases r with
  | val d => exact h
  | vdc kvs => exact h
  | own ds =>
    obtain ⟨p, vs, h0, h1, h2, h3, h4⟩ := h
    refine ⟨p, vs, h0, h1, h2, ?_, h4⟩
    rcases h3 with h3 | h3
    · exact t.pres p h3
    · refine .inr ?_
      cases q : H p with
      | none => rfl
      | some o => exact absurd h3 (t.dom p (by rw [q]; simp))
  | dct kvs =>
    obtain ⟨p, vs, h0, h1, h2, h3, h4⟩ := h
    refine ⟨p, vs, h0, h1, h2, ?_, h4⟩
    rcases h3 with h3 | h3
    · exact t.pres p h3
    · refine .inr ?_
      cases q : H p with
      | none => rfl
      | some o => exact absurd h3 (t.dom p (by rw [q]; simp))
theorem OutOk.shift {out : Out} (c : ∀ a, O a = true → H a ≠ none) (t : Tr O ρ σ H O1 ρ1 σ1 H1) (f : FzR fz σ σ1) (h : OutOk K T fz D O ρ σ H out) : OutOk K T fz D O1 ρ1 σ1 H1 out := by
  cases out with
  | nx ρ' => exact fun O' σ' H' S' t' f' => h O' σ' H' S' (t.trans c t') (f.trans f')
  | bk ρ' => exact fun O' σ' H' S' t' f' => h O' σ' H' S' (t.trans c t') (f.trans f')
  | ct ρ' => exact fun O' σ' H' S' t' f' => h O' σ' H' S' (t.trans c t') (f.trans f')
  | rt r ρ' => exact fun v O' σ' H' S' t' f' rv => h v O' σ' H' S' (t.trans c t') (f.trans f') (rv.back t)
end
def sNop : SF := fun ρ => some (.nx ρ)
def sSeq (f g : SF) : SF := fun ρ => match f ρ with
  | some (.nx ρ1) => g ρ1
  | some (.rt r ρ1) => some (.rt r ρ1)
  | some (.bk ρ1) => some (.bk ρ1)
  | some (.ct ρ1) => some (.ct ρ1)
  | none => none
def sIf (c : BF) (f g : SF) : SF := fun ρ => match c ρ with
  | some (true, ρ1) => f ρ1
  | some (false, ρ1) => g ρ1
  | none => none
def sRet (c : Cd) : SF := fun ρ => match c with
  | .slot i => match ρ[i]? with
    | some (some s) => some (.rt s (ρ.set i none))
    | _ => none
  | .ex _ f => match f ρ with
    | some (r, ρ1) => some (.rt r ρ1)
    | none => none
def sDrop (f : RF) : SF := fun ρ => match f ρ with
  | some (_, ρ1) => some (.nx ρ1)
  | none => none
def sAsg (c : Cd) (i : Nat) : SF := fun ρ => match c with
  | .slot j => match ρ[j]? with
    | some (some s) => match ndD s with
      | some d => if i < ρ.length then some (.nx ((dropR j ρ).set i (some (.val d)))) else none
      | none => none
    | _ => none
  | .ex _ f => match f ρ with
    | some (r, ρ1) => if i < ρ1.length then some (.nx (ρ1.set i (some r))) else none
    | none => none
def sAsgT (c : Cd) (g : GF) : SF := fun ρ => match vE c ρ with
  | some (d, ρ1) => match g d ρ1 with
    | some ρ2 => some (.nx ρ2)
    | none => none
  | none => none
section
variable {X : Cx} {T : List (Addr × Str)} {fz : Nat → Bool} {e : Expr} {c : Cd} {pos : Pos} {st : Stmt} {rest : List Stmt} {f g : SF}
theorem ss_nil : PSs X [] (tS X.K T fz sNop) := by
  refine pss_imp pss_nil fun D σ H q => ?_
  obtain ⟨O, ρ, out, S, e, q⟩ := q
  cases e
  exact q O σ H S Tr.refl FzR.refl
theorem ss_pass : PS X (.Pass pos) (tS X.K T fz sNop) := by
  refine ps_imp ps_pass fun D σ H q => ?_
  obtain ⟨O, ρ, out, S, e, q⟩ := q
  cases e
  exact q O σ H S Tr.refl FzR.refl
theorem ss_break : PS X (.Break pos) (tS X.K T fz fun ρ => some (.bk ρ)) := by
  refine ps_imp ps_break fun D σ H q => ?_
  obtain ⟨O, ρ, out, S, e, q⟩ := q
  cases e
  exact q O σ H S Tr.refl FzR.refl
theorem ss_continue : PS X (.Continue pos) (tS X.K T fz fun ρ => some (.ct ρ)) := by
  refine ps_imp ps_continue fun D σ H q => ?_
  obtain ⟨O, ρ, out, S, e, q⟩ := q
  cases e
  exact q O σ H S Tr.refl FzR.refl
theorem ss_cons (h1 : PS X st (tS X.K T fz f)) (h2 : PSs X rest (tS X.K T fz g)) : PSs X (st :: rest) (tS X.K T fz (sSeq f g)) := by
  refine pss_imp (pss_cons h1 h2) fun D σ H q => ?_
  obtain ⟨O, ρ, out, S, e, q⟩ := q
  unfold sSeq at e
  split at e
  · rename_i ρ1 e1
    refine ⟨O, ρ, _, S, e1, fun O1 σ1 H1 S1 t1 f1 => ⟨O1, ρ1, out, S1, e, q.shift S.cov' t1 f1⟩⟩
  · cases e; rename_i e1; exact ⟨O, ρ, _, S, e1, q⟩
  · cases e; rename_i e1; exact ⟨O, ρ, _, S, e1, q⟩
  · cases e; rename_i e1; exact ⟨O, ρ, _, S, e1, q⟩
  · cases e
theorem ss_if {a b : List Stmt} {pu : Bool} {k : BF} (hc : PT X e (tT X.K T pu k)) (ha : PSs X a (tS X.K T fz f)) (hb : PSs X b (tS X.K T fz g)) : PS X (.If e a b pos) (tS X.K T fz (sIf k f g)) := by
  refine ps_imp (ps_if hc ha hb) fun D σ H q => ?_
  obtain ⟨O, ρ, out, S, e, q⟩ := q
  unfold sIf at e
  split at e
  · rename_i ρ1 e1
    exact ⟨O, ρ, true, ρ1, S, e1, fun O1 H1 S1 t1 p1 => iteT ⟨O1, ρ1, out, S1, e, q.shift S.cov' t1 FzR.refl⟩⟩
  · rename_i ρ1 e1
    exact ⟨O, ρ, false, ρ1, S, e1, fun O1 H1 S1 t1 p1 => iteF ⟨O1, ρ1, out, S1, e, q.shift S.cov' t1 FzR.refl⟩⟩
  · cases e
theorem Own.unset {ρ : Rho} {σ : L2.St} {i : Nat} {a : Addr} (h : Own (ρ.set i none) σ a) : Own ρ σ a ∧ ∃ j ≠ i, σ[j]? = some (some (V.ref a)) ∧ ∃ s : Slt, ρ[j]? = some (some s) ∧ s.ow = true := by
  obtain ⟨j, ds, h1, hw, h2⟩ := h
  rcases set_some h1 with ⟨_, z, _⟩ | ⟨ne, e⟩
  · cases z
  · exact ⟨⟨j, ds, e, hw, h2⟩, ⟨j, fun z => ne z.symm, h2, ds, e, hw⟩⟩
theorem unset_ok {K : PySem.W.Frag} {O : Addr → Bool} {ρ : Rho} {σ : L2.St} {H : Hp} {i : Nat} (S : SOk K T O ρ σ H) : SOk K T O (ρ.set i none) σ H ∧ Tr O ρ σ H O (ρ.set i none) σ H := by
  have k : ∀ {j : Nat} {s : Slt}, (ρ.set i none)[j]? = some (some s) → ρ[j]? = some (some s) := fun {j s} h => by
    rcases set_some h with ⟨_, z, _⟩ | ⟨_, e⟩
    · cases z
    · exact e
  exact ⟨⟨by rw [List.length_set]; exact S.len, S.cov, fun j d e => S.val j d (k e), fun j ds e => S.own j ds (k e), fun j l p s t h1 h2 => S.inj j l p s t (k h1) (k h2), S.tabs, fun j kvs e => S.dct j kvs (k e), fun j kvs e => S.vdc j kvs (k e)⟩,
    ⟨fun _ h => .inl h, fun _ _ _ h _ => h, fun _ h _ => ⟨h, rfl⟩, fun a h => .inl h.unset.1, fun _ h => h⟩⟩
end
section
variable {X : Cx} {T : List (Addr × Str)} {fz : Nat → Bool} {e : Expr} {c : Cd} {pos : Pos}
/-- a return hands back what is computed; a bare name's list goes out as one's own only where it was made in this body -/
theorem ss_ret {pu : Bool} {f : RF} (h : PE X e (tE X.K T pu f)) : PS X (.Return (some e) pos) (tS X.K T fz (sRet (.ex pu f))) := by
  refine ps_imp (ps_ret h) fun D σ H q => ?_
  obtain ⟨O, ρ, out, S, e, q⟩ := q
  simp only [sRet] at e
  split at e
  · rename_i r ρ1 e1
    cases e
    exact ⟨O, ρ, r, ρ1, S, e1, fun v O1 H1 S1 t1 p1 rv => q v O1 σ H1 S1 t1 FzR.refl rv.rt⟩
  · cases e
theorem ss_retS {i : Nat} (h : PE X e (tVar i)) : PS X (.Return (some e) pos) (tS X.K T fz (sRet (.slot i))) := by
  refine ps_imp (ps_ret h) fun D σ H q => ?_
  obtain ⟨O, ρ, out, S, e, q⟩ := q
  simp only [sRet] at e
  split at e
  · rename_i s hs
    cases e
    obtain ⟨v, hv⟩ := S.slot hs
    obtain ⟨S', t'⟩ := unset_ok (i := i) S
    refine ⟨v, hv, q v O σ H S' t' FzR.refl ?_⟩
    cases s with
    | val d =>
      obtain ⟨w, e1, e2⟩ := S.val i d hs
      rw [hv] at e1
      cases e1
      exact e2
    | vdc kvs =>
      obtain ⟨w, e1, e2⟩ := S.vdc i kvs hs
      rw [hv] at e1
      cases e1
      exact e2
    | own ds =>
      obtain ⟨p, vs, e1, e2, e3, e4⟩ := S.own i ds hs
      rw [hv] at e1
      cases e1
      refine ⟨p, vs, rfl, e2, fun z => ?_, .inl ⟨i, _, hs, rfl, hv⟩, e3, e4⟩
      obtain ⟨j, ne, h1, es, h2, hw⟩ := z.unset.2
      exact ne (S.inj j i p _ _ h2 hs hw rfl h1 hv)
    | dct kvs =>
      obtain ⟨p, vs, e1, e2, e3, e4⟩ := S.dct i kvs hs
      rw [hv] at e1
      cases e1
      refine ⟨p, vs, rfl, e2, fun z => ?_, .inl ⟨i, _, hs, rfl, hv⟩, e3, e4⟩
      obtain ⟨j, ne, h1, es, h2, hw⟩ := z.unset.2
      exact ne (S.inj j i p _ _ h2 hs hw rfl h1 hv)
  · cases e
theorem ss_ret' (h : ES X T e c) : PS X (.Return (some e) pos) (tS X.K T fz (sRet c)) := by
  cases c with
  | slot i => exact ss_retS h
  | ex pu f => exact ss_ret h
theorem ss_retN : PS X (.Return none pos) (tS X.K T fz fun ρ => some (.rt (.val .none) ρ)) := by
  refine ps_imp ps_retN fun D σ H q => ?_
  obtain ⟨O, ρ, out, S, e, q⟩ := q
  cases e
  exact q .non O σ H S Tr.refl FzR.refl .non
theorem ss_drop {pu : Bool} {f : RF} (h : PE X e (tE X.K T pu f)) (hs : swapsWith e none pos.line X.env = pure false) : PS X (.Expr e pos) (tS X.K T fz (sDrop f)) := by
  refine ps_imp (ps_expr h hs) fun D σ H q => ?_
  obtain ⟨O, ρ, out, S, e, q⟩ := q
  unfold sDrop at e
  split at e
  · rename_i r ρ1 e1
    cases e
    refine ⟨O, ρ, r, ρ1, S, e1, fun v O1 H1 S1 t1 p1 rv => ?_⟩
    exact q O1 σ H1 S1 t1 FzR.refl
  · cases e
theorem asg_read {i : Nat} (h : ES X T e c) (hz : fz i = false) {D : Ends} {σ : L2.St} {H : Hp} (q : tS X.K T fz (sAsg c i) D σ H) :
    (∃ t, PE X e t ∧ t σ H fun x H1 => gName i x σ H1 D.nx) := by
  obtain ⟨O, ρ, out, S, e, q⟩ := q
  cases c with
  | slot j =>
    simp only [sAsg] at e
    split at e
    · rename_i s hs
      split at e
      · rename_i d hd
        split at e
        · rename_i hl
          cases e
          obtain ⟨v, hv⟩ := S.slot hs
          obtain ⟨O', S', t', dp, _⟩ := drop_ok hd S hs hv
          refine ⟨tVar j, h, v, hv, ?_⟩
          have hl' : i < (dropR j ρ).length := by rw [dropR_len]; exact hl
          exact q O' _ H (set_ok (r := .val d) (H0 := H) S' hl' dp) (set_tr (r := .val d) S' t' hl' dp) (FzR.set hz)
        · cases e
      · cases e
    · cases e
  | ex pu f =>
    simp only [sAsg] at e
    split at e
    · rename_i r ρ1 e1
      split at e
      · rename_i hl
        cases e
        refine ⟨_, h, O, ρ, r, ρ1, S, e1, fun v O1 H1 S1 t1 p1 rv => ?_⟩
        exact q O1 _ H1 (set_ok (H0 := H) S1 hl rv) (set_tr S1 t1 hl rv) (FzR.set hz)
      · cases e
    · cases e
theorem ss_set {i : Nat} {x : Str} {pos' : Pos} (hN : X.N.Nodup) (hi : X.N[i]? = some x) (hx : Loc X.env.scope x) (h : ES X T e c) (hs : swapsWith e (some (.Name x pos')) pos.line X.env = pure false)
    (hf : X.fn x = true ∨ X.env.scope.names.lookup x = some .local) (hz : fz i = false) : PS X (.Assign [.Name x pos'] e pos) (tS X.K T fz (sAsg c i)) :=
  ⟨fun pins s σ H D I q => by
    obtain ⟨t, ht, q⟩ := asg_read h hz q
    exact (ps_set hN hi hx ht hs hf).run pins s σ H D I q⟩
theorem ss_asgT {wk : Bool} {tg : Expr} {g : GF} (h : ES X T e c) (hg : PG X tg (tG X.K T fz wk g)) (hs : swapsWithSole [tg] e pos.line X.env = pure false) (hw : swappedStores [tg] e X.env = pure none)
    (h1 : (assignEach [tg] X.env).map (·.2) = [assign tg X.env]) : PS X (.Assign [tg] e pos) (tS X.K T fz (sAsgT c g)) := by
  refine ps_imp (ps_asg h.v hg hs hw h1) fun D σ H q => ?_
  obtain ⟨O, ρ, out, S, e, q⟩ := q
  unfold sAsgT at e
  split at e
  · rename_i d ρ1 e1
    split at e
    · rename_i ρ2 e2
      cases e
      refine ⟨O, ρ, d, ρ1, S, e1, fun v O1 H1 S1 t1 p1 dp => ⟨O1, ρ1, d, ρ2, S1, .inl dp, e2, fun σ' S2 t2 f2 => ?_⟩⟩
      exact q O1 σ' H1 S2 (t1.trans S.cov' t2) f2
    · cases e
  · cases e
end

/-! ### what a loop walks -/
def YR (K : PySem.W.Frag) (wk : Bool) (B H1 : Hp) (x : V) (H2 : Hp) (d : D) : Prop :=
  (H2 = H1 ∧ Dp K B x d) ∨ wk = true ∧ ∃ p x1 x2 d1 d2, x = .ref p ∧ H1 p = none ∧ H2 = upd H1 p (.tup [x1, x2]) ∧ d = .tuple [d1, d2] ∧ Dp K B x1 d1 ∧ Dp K B x2 d2
def ItOk (K : PySem.W.Frag) (wk : Bool) (O : Addr → Bool) (H : Hp) (bor : Bool) (J : It) (ds : List D) : Prop :=
  ∃ (G : Hp → Prop) (Y : Nat → Hp → V → Hp → Prop), Walk J ds.length G Y ∧ (∀ H2, Kp (if bor = true then H else mask O H) H2 → G H2) ∧
    ∀ i H1 x H2, i < ds.length → Kp (mask O H) H1 → Y i H1 x H2 → ∃ d, ds[i]? = some d ∧ YR K wk (mask O H) H1 x H2 d
abbrev IF := Rho → Option (List D × Rho)
def tI (K : PySem.W.Frag) (T : List (Addr × Str)) (wk bor pu : Bool) (f : IF) : TI := fun σ H R => ∃ O ρ ds ρ', SOk K T O ρ σ H ∧ f ρ = some (ds, ρ') ∧
  ∀ J O' H', SOk K T O' ρ' σ H' → Tr O ρ σ H O' ρ' σ H' → (pu = true → Kp H H') → ItOk K wk O' H' bor J ds → R J H'
theorem pi_imp {X : Cx} {tg e : Expr} {t t' : TI} (h : PI X tg e t) (i : ∀ σ H R, t' σ H R → t σ H R) : PI X tg e t' := ⟨fun pins s σ H R I q => h.run pins s σ H R I (i σ H R q)⟩
section
variable {K : PySem.W.Frag} {T : List (Addr × Str)} {O : Addr → Bool} {ρ : Rho} {σ : L2.St} {B H1 H2 : Hp}
theorem YR.ok {wk : Bool} {x : V} {d : D} (S : SOk K T O ρ σ H1) (k : Kp B (mask O H1)) (y : YR K wk B H1 x H2 d) : SOk K T O ρ σ H2 ∧ Tr O ρ σ H1 O ρ σ H2 ∧ Kp H1 H2 ∧ Dw K (mask O H2) wk x d := by
  rcases y with ⟨rfl, dp⟩ | ⟨hw, p, x1, x2, d1, d2, rfl, np, rfl, rfl, dp1, dp2⟩
  · exact ⟨S, Tr.refl, Kp.refl _, .inl (k.dp dp)⟩
  · refine ⟨S.new np, Tr.new S np, Kp.upd np, .inr ⟨hw, _, _, _, rfl, rfl, .inl (.inl (mask_at S np)), ?_⟩⟩
    have k2 := k.trans (mask_new (o := .tup [x1, x2]) S np)
    exact .cons (k2.dp dp1) (.cons (k2.dp dp2) .nil)
end

/-! ### for -/
def forD (g : GF) (b : SF) : List D → Rho → Option Out
  | [], ρ => some (.nx ρ)
  | d :: ds, ρ => match g d ρ with
    | some ρ1 => match b ρ1 with
      | some (.nx ρ2) => forD g b ds ρ2
      | some (.ct ρ2) => forD g b ds ρ2
      | some (.bk ρ2) => some (.nx ρ2)
      | some (.rt r ρ2) => some (.rt r ρ2)
      | none => none
    | none => none
def sFor (f : IF) (g : GF) (b : SF) : SF := fun ρ => match f ρ with
  | some (ds, ρ1) => forD g b ds ρ1
  | none => none
section
variable {X : Cx} {T : List (Addr × Str)} {fz : Nat → Bool} {tg iter : Expr} {body : List Stmt} {pos : Pos} {f : IF} {g : GF} {b : SF} {pu : Bool}
theorem ss_for {wk : Bool} (hx : X.xe = fun _ _ => False) (hc : X.calm = true) (hi : PI X tg iter (tI X.K T wk false pu f)) (hg : PG X tg (tG X.K T fz wk g)) (hb : PSs X body (tS X.K T fz b)) (hp : plainE iter = true) :
    PS X (.For tg iter body [] pos) (tS X.K T fz (sFor f g b)) := by
  have hp' : PassesOwn (model X.prog X.w) X.A X.env X.xe := by rw [hx]; exact PassesOwn.never
  refine ps_imp (ps_for hp' hc hi hg hb (plain_fold hp)) fun D σ H q => ?_
  obtain ⟨O, ρ, out, S, e, q⟩ := q
  unfold sFor at e
  split at e
  · rename_i ds ρ1 e1
    refine ⟨O, ρ, ds, ρ1, S, e1, fun J O1 H1 S1 t1 p1 it => ?_⟩
    obtain ⟨G, Y, w, hG, hY⟩ := it
    have q1 := q.shift S.cov' t1 FzR.refl
    refine for_it w (fun i σ' H' => ∃ O' ρ', SOk X.K T O' ρ' σ' H' ∧ Tr O1 ρ1 σ H1 O' ρ' σ' H' ∧ FzR fz σ σ' ∧ forD g b (ds.drop i) ρ' = some out)
      ⟨O1, ρ1, S1, Tr.refl, FzR.refl, e⟩ (fun i σ' H' _ h => ?_) (fun i x σ' H' H'' hi h y => ?_) (fun σ' H' h => ?_)
    · obtain ⟨O', ρ', S', t', _⟩ := h
      exact hG H' (t'.mask.trans (Kp.mask O' H'))
    · obtain ⟨O', ρ', S', t', f', e'⟩ := h
      obtain ⟨d, hd, y⟩ := hY i H' x H'' hi (t'.mask.trans (Kp.mask O' H')) y
      obtain ⟨S2, t2, k2, dp⟩ := y.ok S' t'.mask
      have t2' := t'.trans S1.cov' t2
      have hdr : ds.drop i = d :: ds.drop (i + 1) := by
        have hi' : i < ds.length := hi
        rw [List.drop_eq_getElem_cons hi']
        rw [List.getElem?_eq_getElem hi'] at hd
        rw [Option.some.inj hd]
      rw [hdr] at e'
      simp only [forD] at e'
      split at e'
      · rename_i ρ2 e2
        refine ⟨O', ρ', d, ρ2, S2, dp, e2, fun σ3 S3 t3 f3 => ?_⟩
        have t3' := t2'.trans S1.cov' t3
        split at e'
        · rename_i ρ3 e3
          exact ⟨O', ρ2, _, S3, e3, fun O4 σ4 H4 S4 t4 f4 => ⟨O4, ρ3, S4, t3'.trans S1.cov' t4, (f'.trans f3).trans f4, e'⟩⟩
        · rename_i ρ3 e3
          exact ⟨O', ρ2, _, S3, e3, fun O4 σ4 H4 S4 t4 f4 => ⟨O4, ρ3, S4, t3'.trans S1.cov' t4, (f'.trans f3).trans f4, e'⟩⟩
        · rename_i ρ3 e3
          cases e'
          exact ⟨O', ρ2, _, S3, e3, fun O4 σ4 H4 S4 t4 f4 => q1 O4 σ4 H4 S4 (t3'.trans S1.cov' t4) ((f'.trans f3).trans f4)⟩
        · rename_i r ρ3 e3
          cases e'
          exact ⟨O', ρ2, _, S3, e3, fun v O4 σ4 H4 S4 t4 f4 rv => q1 v O4 σ4 H4 S4 (t3'.trans S1.cov' t4) ((f'.trans f3).trans f4) (rv.back t3')⟩
        · cases e'
      · cases e'
    · obtain ⟨O', ρ', S', t', f', e'⟩ := h
      rw [List.drop_length] at e'
      cases e'
      exact q1 O' σ' H' S' t' f'
  · cases e
end

/-! ### while -/
def whD (c : BF) (b : SF) : Nat → Rho → Option Out
  | 0, _ => none
  | n + 1, ρ => match c ρ with
    | some (false, ρ1) => some (.nx ρ1)
    | some (true, ρ1) => match b ρ1 with
      | some (.nx ρ2) => whD c b n ρ2
      | some (.ct ρ2) => whD c b n ρ2
      | some (.bk ρ2) => some (.nx ρ2)
      | some (.rt r ρ2) => some (.rt r ρ2)
      | none => none
    | none => none
def whFuel : Nat := 1000000
def sWhile (c : BF) (b : SF) : SF := fun ρ => whD c b whFuel ρ
section
variable {X : Cx} {T : List (Addr × Str)} {fz : Nat → Bool} {test : Expr} {body : List Stmt} {pos : Pos} {c : BF} {b : SF} {pu : Bool}
theorem ss_while (hx : X.xe = fun _ _ => False) (hc : PT X test (tT X.K T pu c)) (hb : PSs X body (tS X.K T fz b)) : PS X (.While test body [] pos) (tS X.K T fz (sWhile c b)) := by
  have hp' : PassesOwn (model X.prog X.w) X.A X.env X.xe := by rw [hx]; exact PassesOwn.never
  refine ps_imp (ps_while hp' hc hb) fun D σ H q => ?_
  obtain ⟨O, ρ, out, S, e, q⟩ := q
  unfold sWhile at e
  refine ⟨fun m σ' H' => ∃ O' ρ', SOk X.K T O' ρ' σ' H' ∧ Tr O ρ σ H O' ρ' σ' H' ∧ FzR fz σ σ' ∧ whD c b m ρ' = some out, ⟨whFuel, O, ρ, S, Tr.refl, FzR.refl, e⟩, fun m σ' H' h => ?_⟩
  obtain ⟨O', ρ', S', t', f', e'⟩ := h
  cases m with
  | zero => cases e'
  | succ m =>
    simp only [whD] at e'
    split at e'
    · rename_i ρ1 e1
      cases e'
      exact ⟨O', ρ', false, ρ1, S', e1, fun O2 H2 S2 t2 p2 => iteF (q O2 σ' H2 S2 (t'.trans S.cov' t2) f')⟩
    · rename_i ρ1 e1
      refine ⟨O', ρ', true, ρ1, S', e1, fun O2 H2 S2 t2 p2 => iteT ⟨fun σ3 H3 => ∃ O3 ρ3, SOk X.K T O3 ρ3 σ3 H3 ∧ Tr O ρ σ H O3 ρ3 σ3 H3 ∧ FzR fz σ σ3 ∧ whD c b m ρ3 = some out, fun σ3 H3 n => ⟨m, Nat.lt_succ_self m, n⟩, ?_⟩⟩
      have t2' := t'.trans S.cov' t2
      split at e'
      · rename_i ρ3 e3
        exact ⟨O2, ρ1, _, S2, e3, fun O4 σ4 H4 S4 t4 f4 => ⟨O4, ρ3, S4, t2'.trans S.cov' t4, f'.trans f4, e'⟩⟩
      · rename_i ρ3 e3
        exact ⟨O2, ρ1, _, S2, e3, fun O4 σ4 H4 S4 t4 f4 => ⟨O4, ρ3, S4, t2'.trans S.cov' t4, f'.trans f4, e'⟩⟩
      · rename_i ρ3 e3
        cases e'
        exact ⟨O2, ρ1, _, S2, e3, fun O4 σ4 H4 S4 t4 f4 => q O4 σ4 H4 S4 (t2'.trans S.cov' t4) (f'.trans f4)⟩
      · rename_i r ρ3 e3
        cases e'
        exact ⟨O2, ρ1, _, S2, e3, fun v O4 σ4 H4 S4 t4 f4 rv => q v O4 σ4 H4 S4 (t2'.trans S.cov' t4) (f'.trans f4) (rv.back t2')⟩
      · cases e'
    · cases e'
end
end Pv

/-! Fw5: lists of one's own changed; comprehensions; calls of defs. -/
namespace Pv
open PySem PySem.Spec PyProof.Rows L2

section
variable {K : PySem.W.Frag} {T : List (Addr × Str)} {O : Addr → Bool} {ρ : Rho} {σ : L2.St} {H : Hp}
theorem mask_put {p : Addr} {o : HO} (h : O p = true) : mask O (upd H p o) = mask O H := by
  funext a
  unfold mask upd
  by_cases e : a = p
  · subst e; rw [if_pos h, if_pos h]
  · rw [if_neg e]
theorem lst_ne_tbl {xs : List V} (ps : Array Value) : HO.lst xs ≠ .tbl ps := fun z => by cases z
theorem tabs_putO {p : Addr} {o o' : HO} (h : H p = some o) (m : Mo o) (t : Tabs T H) : Tabs T (upd H p o') :=
  t.move (fun b ps e => by rw [upd_ne (fun z => by rw [z, h] at e; cases e; rcases m with ⟨_, m⟩ | ⟨_, m⟩ <;> cases m)]; exact e) fun c q e => by
    rw [upd_ne (fun z => by rw [z, h] at e; unfold LamX.CodeO at e; cases e; rcases m with ⟨_, m⟩ | ⟨_, m⟩ <;> cases m)]
    exact e
theorem Mo.tbl {o : HO} (m : Mo o) (ps : Array Value) : o ≠ .tbl ps := fun z => by subst z; rcases m with ⟨_, m⟩ | ⟨_, m⟩ <;> cases m
/-- what an owner holds -/
def CntR (K : PySem.W.Frag) (M : Hp) (o : HO) : Slt → Prop
  | .val _ => False
  | .own ds => ∃ vs, o = .lst vs ∧ DpAll K M vs ds
  | .dct kvs => ∃ kw, o = .dK kw ∧ DkR K M kw kvs
  | .vdc _ => False
theorem CntR.ow {K : PySem.W.Frag} {M : Hp} {o : HO} {s : Slt} (h : CntR K M o s) : s.ow = true ∧ Mo o := by
  cases s with
  | val d => exact h.elim
  | own ds => obtain ⟨vs, rfl, _⟩ := h; exact ⟨rfl, .lst⟩
  | dct kvs => obtain ⟨vs, rfl, _⟩ := h; exact ⟨rfl, .dk⟩
  | vdc kvs => exact h.elim
/-- the object of a name is changed -/
theorem put_okO {i : Nat} {p : Addr} {o' : HO} {s u : Slt} (S : SOk K T O ρ σ H) (hs : ρ[i]? = some (some s)) (hw : s.ow = true) (hv : σ[i]? = some (some (V.ref p))) (h : CntR K (mask O H) o' u) :
    SOk K T O (ρ.set i (some u)) σ (upd H p o') ∧ Tr O ρ σ H O (ρ.set i (some u)) σ (upd H p o') := by
  obtain ⟨p', o, e1, hO, hp, hm⟩ := S.owner hs hw
  rw [hv] at e1
  cases e1
  obtain ⟨hu, hm'⟩ := h.ow
  have hi : i < ρ.length := (List.getElem?_eq_some_iff.mp hs).1
  have k : ∀ {j : Nat} {x : Slt}, (ρ.set i (some u))[j]? = some (some x) → x.ow = true → ∃ y : Slt, ρ[j]? = some (some y) ∧ y.ow = true := fun {j x} e w => by
    rcases set_some e with ⟨rfl, _, _⟩ | ⟨_, e⟩
    · exact ⟨s, hs, hw⟩
    · exact ⟨x, e, w⟩
  refine ⟨⟨by rw [List.length_set]; exact S.len, fun a ha => ?_, fun j d e => ?_, fun j xs e => ?_, fun j l q x y h1 h2 w1 w2 => ?_, tabs_putO hp hm S.tabs, fun j kvs e => ?_, fun j kvs e => ?_⟩, ⟨fun _ h => .inl h, fun a o h1 h2 _ => ?_, fun a h1 h2 => ⟨h1, ?_⟩, fun a ha => .inl ?_, fun a ha => ?_⟩⟩
  · by_cases z : a = p
    · subst z; exact ⟨o', upd_same, hm'⟩
    · obtain ⟨xs, q, m⟩ := S.cov a ha
      exact ⟨xs, by rw [upd_ne z]; exact q, m⟩
  · rw [mask_put hO]
    rcases set_some e with ⟨_, z, _⟩ | ⟨_, e⟩
    · cases z; exact h.elim
    · exact S.val j d e
  · rw [mask_put hO]
    rcases set_some e with ⟨rfl, z, _⟩ | ⟨ne, e⟩
    · cases z
      obtain ⟨vs, rfl, hd⟩ := h
      exact ⟨p, vs, hv, hO, upd_same, hd⟩
    · obtain ⟨q, us, q1, q2, q3, q4⟩ := S.own j xs e
      refine ⟨q, us, q1, q2, ?_, q4⟩
      rw [upd_ne (fun (z : q = p) => ne (S.inj i j p _ _ hs e hw rfl hv (by rw [← z]; exact q1)))]
      exact q3
  · obtain ⟨x', h1, w1⟩ := k h1 w1
    obtain ⟨y', h2, w2⟩ := k h2 w2
    exact S.inj j l q x' y' h1 h2 w1 w2
  · rw [mask_put hO]
    rcases set_some e with ⟨rfl, z, _⟩ | ⟨ne, e⟩
    · cases z
      obtain ⟨vs, rfl, hd⟩ := h
      exact ⟨p, vs, hv, hO, upd_same, hd⟩
    · obtain ⟨q, us, q1, q2, q3, q4⟩ := S.dct j kvs e
      refine ⟨q, us, q1, q2, ?_, q4⟩
      rw [upd_ne (fun (z : q = p) => ne (S.inj i j p _ _ hs e hw rfl hv (by rw [← z]; exact q1)))]
      exact q3
  · rw [mask_put hO]
    rcases set_some e with ⟨_, z, _⟩ | ⟨_, e⟩
    · cases z; exact h.elim
    · exact S.vdc j kvs e
  · rw [upd_ne (fun z => by rw [z, hO] at h1; cases h1)]
    exact h2
  · rw [upd_ne (fun (z : a = p) => h2 (by rw [z]; exact ⟨i, s, hs, hw, hv⟩))]
  · obtain ⟨j, xs, h1, w1, h2⟩ := ha
    obtain ⟨ys, h1, w1⟩ := k h1 w1
    exact ⟨j, ys, h1, w1, h2⟩
  · by_cases z : a = p
    · subst z; rw [upd_same]; simp
    · rw [upd_ne z]; exact ha
/-- the list of a name is changed -/
theorem put_ok {i : Nat} {p : Addr} {vs ws : List V} {ds es : List D} (S : SOk K T O ρ σ H) (hs : ρ[i]? = some (some (Slt.own ds))) (hv : σ[i]? = some (some (V.ref p))) (hp : H p = some (.lst vs)) (h : DpAll K (mask O H) ws es) :
    SOk K T O (ρ.set i (some (.own es))) σ (upd H p (.lst ws)) ∧ Tr O ρ σ H O (ρ.set i (some (.own es))) σ (upd H p (.lst ws)) := put_okO S hs rfl hv ⟨ws, rfl, h⟩
end
/-! ### methods that change the list of a name -/
def SemM0 (r : V → List V → Hp → VK → Prop) (g : List D → Option (D × List D)) : Prop :=
  ∀ (K : PySem.W.Frag) (B H : Hp) (p : Addr) (vs : List V) (ds : List D) (d : D) (ds' : List D) (Q : VK), H p = some (.lst vs) → DpAll K B vs ds → g ds = some (d, ds') →
    (∀ v ws, Dp K B v d → DpAll K B ws ds' → Q v (upd H p (.lst ws))) → r (.ref p) [] H Q
def SemM1 (r : V → List V → Hp → VK → Prop) (g : D → List D → Option (D × List D)) : Prop :=
  ∀ (K : PySem.W.Frag) (B H : Hp) (p : Addr) (vs : List V) (ds : List D) (y : V) (dy d : D) (ds' : List D) (Q : VK), Kp B H → H p = some (.lst vs) → DpAll K B vs ds → Dp K B y dy → g dy ds = some (d, ds') →
    (∀ v ws, Dp K B v d → DpAll K B ws ds' → Q v (upd H p (.lst ws))) → r (.ref p) [y] H Q
def eM0 (g : List D → Option (D × List D)) (i : Nat) : RF := fun ρ => match ρ[i]? with
  | some (some (.own ds)) => match g ds with
    | some (d, ds') => some (.val d, ρ.set i (some (.own ds')))
    | none => none
  | _ => none
def eM1 (g : D → List D → Option (D × List D)) (i : Nat) (c : Cd) : RF := fun ρ => match ρ[i]? with
  | some (some (.own _)) => match vE c ρ with
    | some (dy, ρ1) => match ρ1[i]? with
      | some (some (.own ds)) => match g dy ds with
        | some (d, ds') => some (.val d, ρ1.set i (some (.own ds')))
        | none => none
      | _ => none
    | none => none
  | _ => none
section
variable {X : Cx} {T : List (Addr × Str)} {i : Nat} {o e : Expr} {c : Cd} {name : Str} {apos cpos : Pos} {id : String} {r : V → List V → Hp → VK → Prop}
theorem attr_base {o : Expr} {name : Str} {env : PySem.Env} {x : Str} {p : Pos} (h : o = .Name x p) : attributeBase o name env (eval o env) = eval o env := by
  subst h; rfl
theorem tM0 {K : PySem.W.Frag} {g : List D → Option (D × List D)} (hg : SemM0 r g) {σ : L2.St} {H : Hp} {Q : VK} (q : tE K T false (eM0 g i) σ H Q) : tBM0 K "list" r (tVar i) σ H Q := by
  obtain ⟨O, ρ, s, ρ', S, e, q⟩ := q
  unfold eM0 at e
  split at e
  · rename_i ds hs
    split at e
    · rename_i d ds' hgd
      cases e
      obtain ⟨p, vs, e1, e2, e3, e4⟩ := S.own i ds hs
      refine ⟨_, e1, .inl ⟨rfl, vs, .inl (.inl e3)⟩, hg K (mask O H) H p vs ds d ds' Q e3 e4 hgd fun v ws dv dws => ?_⟩
      obtain ⟨S2, t2⟩ := put_ok S hs e1 e3 dws
      exact q v O _ S2 t2 (fun z => by cases z) (by show Dp K (mask O _) v d; rw [mask_put e2]; exact dv)
    · cases e
  · cases e
theorem tM1 {K : PySem.W.Frag} {g : D → List D → Option (D × List D)} (hg : SemM1 r g) {σ : L2.St} {H : Hp} {Q : VK} (q : tE K T false (eM1 g i c) σ H Q) : tBM K "list" r (tVar i) (tCons (tV K T c) tNil) σ H Q := by
  obtain ⟨O, ρ, s, ρ', S, e, q⟩ := q
  unfold eM1 at e
  split at e
  · rename_i ds0 hs0
    split at e
    · rename_i dy ρ1 hc
      split at e
      · rename_i ds hs
        split at e
        · rename_i d ds' hgd
          cases e
          obtain ⟨p0, vs0, e1, e2, e3, e4⟩ := S.own i ds0 hs0
          refine ⟨_, e1, .inl ⟨rfl, vs0, .inl (.inl e3)⟩, O, ρ, dy, ρ1, S, hc, fun y O1 H1 S1 t1 p1 dpy => ?_⟩
          obtain ⟨p, vs, f1, f2, f3, f4⟩ := S1.own i ds hs
          rw [e1] at f1
          cases f1
          refine hg K (mask O1 H1) H1 p0 vs ds y dy d ds' Q (Kp.mask O1 H1) f3 f4 dpy hgd fun v ws dv dws => ?_
          obtain ⟨S2, t2⟩ := put_ok S1 hs e1 f3 dws
          exact q v O1 _ S2 (t1.trans S.cov' t2) (fun z => by cases z) (by show Dp K (mask O1 _) v d; rw [mask_put f2]; exact dv)
        · cases e
      · cases e
    · cases e
  · cases e
theorem es_m0 {g : List D → Option (D × List D)} (slot : Slot "list" name id) (hty : typeOf (.builtin id) = pure (.type "method_descriptor")) (hm : MtR X id r) (hg : SemM0 r g) (ho : PE X o (tVar i))
    (hbase : attributeBase o name X.env (eval o X.env) = eval o X.env) (hline : (apos.endLine == cpos.line) = true) : PE X (.Call (.Attribute o name apos) [] [] cpos) (tE X.K T false (eM0 g i)) :=
  pe_imp (pe_bm0 PySem.F.plainAttrs_list slot hty hm ho hbase hline) fun σ H Q q => tM0 hg q
theorem es_m1 {g : D → List D → Option (D × List D)} (slot : Slot "list" name id) (hty : typeOf (.builtin id) = pure (.type "method_descriptor")) (hm : MtR X id r) (hg : SemM1 r g) (ho : PE X o (tVar i)) (hc : ES X T e c) (hp : plainE e = true)
    (hbase : attributeBase o name X.env (eval o X.env) = eval o X.env) (hline : (apos.endLine == cpos.line) = true) : PE X (.Call (.Attribute o name apos) [e] [] cpos) (tE X.K T false (eM1 g i c)) := by
  refine pe_imp (pe_bm PySem.F.plainAttrs_list slot hty hm ho (pa_cons hc.v pa_nil (plain_star hp)) hbase ?_ hline (plain_star hp) rfl) fun σ H Q q => tM1 hg q
  rw [plain_star hp]
  rfl
end
def gAppend (d : D) (ds : List D) : Option (D × List D) := if ds.length < sizeLine then some (.none, ds ++ [d]) else none
theorem sm_append : SemM1 rAppend gAppend := by
  intro K B H p vs ds y dy d ds' Q kp hp hds hy hg q
  unfold gAppend at hg
  split at hg
  · rename_i hl
    cases hg
    exact ⟨p, vs, y, rfl, rfl, hp, by rw [dps_len hds]; exact hl, q .non _ .non (dps_app hds (.cons hy .nil))⟩
  · cases hg
def gPop (ds : List D) : Option (D × List D) := match ds[ds.length - 1]? with
  | some d => some (d, ds.dropLast)
  | none => none
theorem dps_dropLast {K : PySem.W.Frag} {H : Hp} : ∀ {vs : List V} {ds : List D}, DpAll K H vs ds → DpAll K H vs.dropLast ds.dropLast := fun {vs ds} h => by
  rw [List.dropLast_eq_take, List.dropLast_eq_take, dps_len h]
  exact dps_take _ h
theorem sm_pop : SemM0 rPop gPop := by
  intro K B H p vs ds d ds' Q hp hds hg q
  unfold gPop at hg
  split at hg
  · rename_i d' hd
    cases hg
    obtain ⟨v, hv, dv⟩ := dps_getD hds hd
    exact ⟨p, vs, v, rfl, rfl, hp, by rw [dps_len hds]; exact hv, q v _ dv (dps_dropLast hds)⟩
  · cases hg
def gClear (_ : List D) : Option (D × List D) := some (.none, [])
theorem sm_clear : SemM0 rClear gClear := by
  intro K B H p vs ds d ds' Q hp hds hg q
  cases hg
  exact ⟨p, vs, rfl, rfl, hp, q .non _ .non .nil⟩
def gReverse (ds : List D) : Option (D × List D) := some (.none, ds.reverse)
theorem sm_reverse : SemM0 rReverse gReverse := by
  intro K B H p vs ds d ds' Q hp hds hg q
  cases hg
  exact ⟨p, vs, rfl, rfl, hp, q .non _ .non (dps_rev hds)⟩
/-- extend by a list, tracked or frozen -/
def rExtendR : V → List V → Hp → VK → Prop := fun x vs H Q => ∃ l b xs zs, x = .ref l ∧ vs = [.ref b] ∧ H l = some (.lst xs) ∧ Rd H b (.lst zs) ∧ xs.length + zs.length ≤ sizeLine ∧ Q .non (upd H l (.lst (xs ++ zs)))
theorem rd_lstM {X : Cx} {pins : List (Addr × Obj)} {σ : L2.St} {H : Hp} {s : Shared} {l : Addr} {xs : List V} (I : Inv X pins σ H s) (hH : Rd H l (.lst xs)) : xs.length ≤ sizeLine ∧ ∃ (its : List Value) (n : Nat), Vals xs its ∧ xs.length = its.length ∧ s.heap.get? l = some { cls := .type "list", data := .seq its.toArray n } := by
  obtain ⟨z, its, n, r, e⟩ := hH.ok I.hok
  exact ⟨z, its, n, r, r.length, e⟩
theorem mt_extendR {X : Cx} : MtM X "list.extend" rExtendR := by
  intro pins s σ H x vs v us Q I rx rv h
  obtain ⟨l, b, xs, zs, rfl, rfl, hH, hB, hz, q⟩ := h
  cases rx
  obtain ⟨u, rfl, ru⟩ := rv.one
  cases ru
  obtain ⟨z, its, n, r, hl, e⟩ := I.lstM hH
  obtain ⟨z2, its2, n2, r2, hl2, e2⟩ := rd_lstM I hB
  have hsz : its.toArray.size + its2.toArray.size ≤ sizeLine := by rw [List.size_toArray, List.size_toArray]; omega
  have hlong : ¬ (!its.toArray.isEmpty && Builtin.List.listTooLong (its.toArray.size + its2.toArray.size)) = true := by
    rw [notLongL hsz, Bool.and_false]
    exact Bool.false_ne_true
  refine call_meets F.slot_list_extend ⟨_, e, rfl⟩ F.entry_list_extend (F.args_list_extend_2 _ _)
    (AutoSeq1.list_extend_list_list_0 l its.toArray n b its2.toArray n2 hlong (by rw [List.size_toArray]; omega) (by omega)) ⟨e, e2, ?_⟩
  refine ⟨.non, _, I.lset (its' := its ++ its2) hH e (by simp) (r.append r2) ?_, rfl, q⟩
  rw [List.length_append]
  omega
def gExtend (d : D) (ds : List D) : Option (D × List D) := match d with
  | .list es => if ds.length + es.length ≤ sizeLine then some (.none, ds ++ es) else none
  | _ => none
theorem sm_extend : SemM1 rExtendR gExtend := by
  intro K B H p vs ds y dy d ds' Q kp hp hds hy hg q
  unfold gExtend at hg
  split at hg
  · rename_i es
    split at hg
    · rename_i hl
      cases hg
      cases hy with
      | lst h1 h2 =>
        exact ⟨p, _, vs, _, rfl, rfl, hp, kp.rd h1, by rw [dps_len hds, dps_len h2]; exact hl, q .non _ .non (dps_app hds h2)⟩
    · cases hg
  · cases hg

/-! ### x[k] = e -/
def sSetI (i : Nat) (k e : Cd) : SF := fun ρ => match ρ[i]? with
  | some (some (.own _)) => match vE e ρ with
    | some (d, ρ1) => match aE k ρ1 with
      | some (a, ρ2) => match argD ρ2 a, ρ2[i]? with
        | some (.int n), some (some (.own ds)) => match ixN ds.length n with
          | some j => some (.nx (ρ2.set i (some (.own (ds.set j d)))))
          | none => none
        | _, _ => none
      | none => none
    | none => none
  | _ => none
theorem ss_setI {X : Cx} {T : List (Addr × Str)} {fz : Nat → Bool} {i : Nat} {o k e : Expr} {ck ce : Cd} {pos' pos : Pos} (ho : PE X o (tVar i)) (hk : ES X T k ck) (he : ES X T e ce) (hp : plainE k = true) :
    PS X (.Assign [.Subscript o k pos'] e pos) (tS X.K T fz (sSetI i ck ce)) := by
  have ha : ∀ v, assign (.Subscript o k pos') X.env v = (do
      let ov ← holding [v] (eval o X.env)
      let iv ← holding [v, ov] (eval k X.env)
      standAt pos'
      holding [v, ov, iv] (setItem ov iv v)
      release [v, ov, iv] []) := by
    intro v
    cases k <;> first | rfl | cases hp
  have hsw : swapsWithSole [.Subscript o k pos'] e pos.line X.env = pure false := by
    cases e <;> rfl
  have hst : swappedStores [.Subscript o k pos'] e X.env = pure none := by
    cases e <;> rfl
  refine ps_imp (ps_asg he.v (pg_sub ho hk.o set_list ha) hsw hst rfl) fun D σ H q => ?_
  obtain ⟨O, ρ, out, S, e, q⟩ := q
  unfold sSetI at e
  split at e
  · rename_i ds0 hs0
    split at e
    · rename_i d ρ1 e1
      split at e
      · rename_i a ρ2 e2
        split at e
        · rename_i n ds e3 e4
          split at e
          · rename_i j e5
            cases e
            obtain ⟨p0, vs0, hv0, _⟩ := S.own i ds0 hs0
            refine ⟨O, ρ, d, ρ1, S, e1, fun v O1 H1 S1 t1 p1 dp => ⟨_, hv0, ?_⟩⟩
            refine seq1 S1 e2 fun w O2 H2 S2 t2 p2 a2 => ?_
            have hw := (a2.rep S2 e3).int
            subst hw
            obtain ⟨p, vs, f1, f2, f3, f4⟩ := S2.own i ds e4
            rw [hv0] at f1
            cases f1
            obtain ⟨S3, t3⟩ := put_ok S2 e4 hv0 f3 (dps_set j f4 (t2.mask.dp dp))
            refine ⟨p0, vs, n, j, rfl, rfl, f3, by rw [dps_len f4]; exact e5, ?_⟩
            exact q O2 σ _ S3 ((t1.trans S.cov' t2).trans S.cov' t3) FzR.refl
          · cases e
        · cases e
      · cases e
    · cases e
  · cases e
end Pv

/-! Fw6: comprehensions. -/
namespace Pv
open PySem PySem.Spec PyProof.Rows L2

def wipeR (ρ : Rho) : List Nat → Rho
  | [] => ρ
  | v :: vs => (wipeR ρ vs).set v none
/-- the names vs as they were in ρ0, the others as in ρ -/
def restR (ρ0 ρ : Rho) : List Nat → Rho
  | [] => ρ
  | v :: vs => (restR ρ0 ρ vs).set v (match ρ0[v]? with | some s => s | none => none)
theorem wipeR_len (ρ : Rho) : ∀ vs : List Nat, (wipeR ρ vs).length = ρ.length
  | [] => rfl
  | v :: vs => by unfold wipeR; rw [List.length_set, wipeR_len ρ vs]
theorem restR_len (ρ0 ρ : Rho) : ∀ vs : List Nat, (restR ρ0 ρ vs).length = ρ.length
  | [] => rfl
  | v :: vs => by unfold restR; rw [List.length_set, restR_len ρ0 ρ vs]
theorem wipeR_some {ρ : Rho} {i : Nat} {s : Slt} : ∀ {vs : List Nat}, (wipeR ρ vs)[i]? = some (some s) → ρ[i]? = some (some s) ∧ i ∉ vs
  | [], h => ⟨h, by simp⟩
  | v :: vs, h => by
    unfold wipeR at h
    rcases set_some h with ⟨_, z, _⟩ | ⟨ne, e⟩
    · cases z
    · obtain ⟨h1, h2⟩ := wipeR_some e
      exact ⟨h1, by simp only [List.mem_cons, not_or]; exact ⟨fun e => ne e.symm, h2⟩⟩
theorem restR_some {ρ0 ρ : Rho} {i : Nat} {s : Slt} (hl : ρ0.length = ρ.length) : ∀ {vs : List Nat}, (restR ρ0 ρ vs)[i]? = some (some s) → (i ∈ vs ∧ ρ0[i]? = some (some s)) ∨ (i ∉ vs ∧ ρ[i]? = some (some s))
  | [], h => .inr ⟨by simp, h⟩
  | v :: vs, h => by
    unfold restR at h
    rcases set_some h with ⟨rfl, z, _⟩ | ⟨ne, e⟩
    · refine .inl ⟨by simp, ?_⟩
      cases q : ρ0[v]? with
      | none => rw [q] at z; cases z
      | some t => rw [q] at z; simp only at z; rw [z]
    · rcases restR_some hl e with ⟨h1, h2⟩ | ⟨h1, h2⟩
      · exact .inl ⟨by simp [h1], h2⟩
      · exact .inr ⟨by simp only [List.mem_cons, not_or]; exact ⟨fun e => ne e.symm, h1⟩, h2⟩
theorem wipe_wipe (σ : L2.St) (vs : List Nat) : wipe (wipe σ vs) vs = wipe σ vs := by
  refine List.ext_getElem? fun i => ?_
  by_cases h : i ∈ vs
  · by_cases hl : i < σ.length
    · have k : ∀ (τ : L2.St) (ws : List Nat), i ∈ ws → i < τ.length → (wipe τ ws)[i]? = some none := by
        intro τ ws
        induction ws with
        | nil => intro h _; cases h
        | cons w ws ih =>
          intro h hl
          unfold wipe
          by_cases e : w = i
          · subst e
            rw [List.getElem?_set_self (by rw [wipe_length]; exact hl)]
          · rw [List.getElem?_set_ne e]
            exact ih ((List.mem_cons.mp h).resolve_left fun z => e z.symm) hl
      rw [k _ _ h (by rw [wipe_length]; exact hl), k _ _ h hl]
    · rw [List.getElem?_eq_none (by rw [wipe_length, wipe_length]; omega), List.getElem?_eq_none (by rw [wipe_length]; omega)]
  · rw [wipe_out h]
theorem wipe_of_fz {σ σ' : L2.St} {vs : List Nat} (hl : σ'.length = σ.length) (h : ∀ i, i ∉ vs → σ'[i]? = σ[i]?) : wipe σ' vs = wipe σ vs := by
  refine List.ext_getElem? fun i => ?_
  by_cases hi : i ∈ vs
  · by_cases hlt : i < σ.length
    · have k : ∀ (τ : L2.St) (ws : List Nat), i ∈ ws → i < τ.length → (wipe τ ws)[i]? = some none := by
        intro τ ws
        induction ws with
        | nil => intro h _; cases h
        | cons w ws ih =>
          intro h hl
          unfold wipe
          by_cases e : w = i
          · subst e
            rw [List.getElem?_set_self (by rw [wipe_length]; exact hl)]
          · rw [List.getElem?_set_ne e]
            exact ih ((List.mem_cons.mp h).resolve_left fun z => e z.symm) hl
      rw [k _ _ hi (by rw [hl]; exact hlt), k _ _ hi hlt]
    · rw [List.getElem?_eq_none (by rw [wipe_length, hl]; omega), List.getElem?_eq_none (by rw [wipe_length]; omega)]
  · rw [wipe_out hi, wipe_out hi, h i hi]
section
variable {K : PySem.W.Frag} {T : List (Addr × Str)} {O O1 : Addr → Bool} {ρ ρ1 : Rho} {σ : L2.St} {H H1 : Hp} {vs : List Nat}
theorem wipe_ok (S : SOk K T O ρ σ H) : SOk K T O (wipeR ρ vs) (wipe σ vs) H := by
  refine ⟨by rw [wipeR_len, wipe_length]; exact S.len, S.cov, fun i d e => ?_, fun i ds e => ?_, fun i j p s t h1 h2 w1 w2 h3 h4 => ?_, S.tabs, fun i kvs e => ?_, fun i kvs e => ?_⟩
  · obtain ⟨e, hi⟩ := wipeR_some e
    obtain ⟨v, e1, e2⟩ := S.val i d e
    exact ⟨v, by rw [wipe_out hi]; exact e1, e2⟩
  · obtain ⟨e, hi⟩ := wipeR_some e
    obtain ⟨p, ws, e1, e2⟩ := S.own i ds e
    exact ⟨p, ws, by rw [wipe_out hi]; exact e1, e2⟩
  · obtain ⟨h1, hi⟩ := wipeR_some h1
    obtain ⟨h2, hj⟩ := wipeR_some h2
    rw [wipe_out hi] at h3
    rw [wipe_out hj] at h4
    exact S.inj i j p s t h1 h2 w1 w2 h3 h4
  · obtain ⟨e, hi⟩ := wipeR_some e
    obtain ⟨p, ws, e1, e2⟩ := S.dct i kvs e
    exact ⟨p, ws, by rw [wipe_out hi]; exact e1, e2⟩
  · obtain ⟨e, hi⟩ := wipeR_some e
    obtain ⟨v, e1, e2⟩ := S.vdc i kvs e
    exact ⟨v, by rw [wipe_out hi]; exact e1, e2⟩
theorem Own.wipe {a : Addr} (h : Own (wipeR ρ vs) (wipe σ vs) a) : Own ρ σ a := by
  obtain ⟨i, ds, h1, hw, h2⟩ := h
  obtain ⟨h1, hi⟩ := wipeR_some h1
  rw [wipe_out hi] at h2
  exact ⟨i, ds, h1, hw, h2⟩
theorem Tr.wipe {O0 : Addr → Bool} {ρ0 : Rho} {σ0 : L2.St} {H0 : Hp} (t : Tr O0 ρ0 σ0 H0 O ρ σ H) : Tr O0 ρ0 σ0 H0 O (wipeR ρ vs) (wipe σ vs) H :=
  ⟨t.sub, t.keep, t.oth, fun a h => t.pres a h.wipe, t.dom⟩
/-- behind a block: its own names are as they were -/
theorem rest_ok (S1 : SOk K T O1 ρ1 σ H1) (S : SOk K T O ρ (wipe σ vs) H) (t : Tr O1 (wipeR ρ1 vs) (wipe σ vs) H1 O ρ (wipe σ vs) H) : SOk K T O (restR ρ1 ρ vs) σ H ∧ Tr O1 ρ1 σ H1 O (restR ρ1 ρ vs) σ H := by
  have hl : ρ1.length = ρ.length := by rw [S1.len, S.len, wipe_length]
  have nown : ∀ {i : Nat} {s : Slt} {p : Addr}, i ∈ vs → ρ1[i]? = some (some s) → s.ow = true → σ[i]? = some (some (V.ref p)) → ¬ Own (wipeR ρ1 vs) (wipe σ vs) p := fun {i s p} hi h1 w1 h2 z => by
    obtain ⟨j, t, g1, w2, g2⟩ := z
    obtain ⟨g1, hj⟩ := wipeR_some g1
    rw [wipe_out hj] at g2
    have e := S1.inj i j p s t h1 g1 w1 w2 h2 g2
    rw [e] at hi
    exact hj hi
  refine ⟨⟨by rw [restR_len, ← hl]; exact S1.len, S.cov, fun i d e => ?_, fun i ds e => ?_, fun i j p s u h1 h2 w1 w2 h3 h4 => ?_, S.tabs, fun i kvs e => ?_, fun i kvs e => ?_⟩, ⟨t.sub, t.keep, fun a h1 h2 => t.oth a h1 fun z => h2 z.wipe, fun a h => ?_, t.dom⟩⟩
  · rcases restR_some hl e with ⟨hi, e⟩ | ⟨hi, e⟩
    · obtain ⟨v, e1, e2⟩ := S1.val i d e
      exact ⟨v, e1, t.mask.dp e2⟩
    · obtain ⟨v, e1, e2⟩ := S.val i d e
      rw [wipe_out hi] at e1
      exact ⟨v, e1, e2⟩
  · rcases restR_some hl e with ⟨hi, e⟩ | ⟨hi, e⟩
    · obtain ⟨p, ws, e1, e2, e3, e4⟩ := S1.own i ds e
      obtain ⟨q1, q2⟩ := t.oth p e2 (nown hi e rfl e1)
      exact ⟨p, ws, e1, q1, q2.trans e3, t.mask.dps e4⟩
    · obtain ⟨p, ws, e1, e2, e3, e4⟩ := S.own i ds e
      rw [wipe_out hi] at e1
      exact ⟨p, ws, e1, e2, e3, e4⟩
  · have cross : ∀ {i j : Nat} {s u : Slt}, i ∈ vs → ρ1[i]? = some (some s) → s.ow = true → σ[i]? = some (some (V.ref p)) → j ∉ vs → ρ[j]? = some (some u) → u.ow = true → σ[j]? = some (some (V.ref p)) → False := fun {i j s u} hi h1 w1 h3 hj h2 w2 h4 => by
      rcases t.pres p ⟨j, u, h2, w2, by rw [wipe_out hj]; exact h4⟩ with z | z
      · exact nown hi h1 w1 h3 z
      · obtain ⟨q, ws, e1, e2, e3, _⟩ := S1.owner h1 w1
        rw [h3] at e1
        cases e1
        rw [e3] at z
        cases z
    rcases restR_some hl h1 with ⟨hi, h1⟩ | ⟨hi, h1⟩
    · rcases restR_some hl h2 with ⟨hj, h2⟩ | ⟨hj, h2⟩
      · exact S1.inj i j p s u h1 h2 w1 w2 h3 h4
      · exact (cross hi h1 w1 h3 hj h2 w2 h4).elim
    · rcases restR_some hl h2 with ⟨hj, h2⟩ | ⟨hj, h2⟩
      · exact (cross hj h2 w2 h4 hi h1 w1 h3).elim
      · exact S.inj i j p s u h1 h2 w1 w2 (by rw [wipe_out hi]; exact h3) (by rw [wipe_out hj]; exact h4)
  · rcases restR_some hl e with ⟨hi, e⟩ | ⟨hi, e⟩
    · obtain ⟨p, ws, e1, e2, e3, e4⟩ := S1.dct i kvs e
      obtain ⟨q1, q2⟩ := t.oth p e2 (nown hi e rfl e1)
      exact ⟨p, ws, e1, q1, q2.trans e3, e4.mono t.mask⟩
    · obtain ⟨p, ws, e1, e2, e3, e4⟩ := S.dct i kvs e
      rw [wipe_out hi] at e1
      exact ⟨p, ws, e1, e2, e3, e4⟩
  · rcases restR_some hl e with ⟨hi, e⟩ | ⟨hi, e⟩
    · obtain ⟨v, e1, e2⟩ := S1.vdc i kvs e
      exact ⟨v, e1, e2.mono t.mask⟩
    · obtain ⟨v, e1, e2⟩ := S.vdc i kvs e
      rw [wipe_out hi] at e1
      exact ⟨v, e1, e2⟩
  · obtain ⟨i, ds, h1, hw, h2⟩ := h
    rcases restR_some hl h1 with ⟨hi, h1⟩ | ⟨hi, h1⟩
    · exact .inl ⟨i, ds, h1, hw, h2⟩
    · rcases t.pres a ⟨i, ds, h1, hw, by rw [wipe_out hi]; exact h2⟩ with z | z
      · exact .inl z.wipe
      · exact .inr z
/-- a list that stands in no name is changed -/
theorem put_freeO {p : Addr} {o o' : HO} (S : SOk K T O ρ σ H) (hO : O p = true) (hp : H p = some o) (m : Mo o) (m' : Mo o') (hn : ¬ Own ρ σ p) : SOk K T O ρ σ (upd H p o') := by
  refine ⟨S.len, fun a ha => ?_, fun i d e => ?_, fun i ds e => ?_, S.inj, tabs_putO hp m S.tabs, fun i kvs e => ?_, fun i kvs e => ?_⟩
  · by_cases z : a = p
    · subst z; exact ⟨o', upd_same, m'⟩
    · obtain ⟨zs, q, m⟩ := S.cov a ha
      exact ⟨zs, by rw [upd_ne z]; exact q, m⟩
  · rw [mask_put hO]; exact S.val i d e
  · rw [mask_put hO]
    obtain ⟨q, ws, e1, e2, e3, e4⟩ := S.own i ds e
    refine ⟨q, ws, e1, e2, ?_, e4⟩
    rw [upd_ne (fun (z : q = p) => hn (by rw [← z]; exact ⟨i, _, e, rfl, e1⟩))]
    exact e3
  · rw [mask_put hO]
    obtain ⟨q, ws, e1, e2, e3, e4⟩ := S.dct i kvs e
    refine ⟨q, ws, e1, e2, ?_, e4⟩
    rw [upd_ne (fun (z : q = p) => hn (by rw [← z]; exact ⟨i, _, e, rfl, e1⟩))]
    exact e3
  · rw [mask_put hO]; exact S.vdc i kvs e
theorem put_free {p : Addr} {xs ys : List V} (S : SOk K T O ρ σ H) (hO : O p = true) (hp : H p = some (.lst xs)) (hn : ¬ Own ρ σ p) : SOk K T O ρ σ (upd H p (.lst ys)) := put_freeO S hO hp .lst .lst hn
end
/-! ### [elt for tg in it if c] -/
def lcD (vs : List Nat) (g : GF) (c : BF) (el : Cd) : List D → Rho → List D → Option (List D × Rho)
  | [], ρ, acc => some (acc, ρ)
  | d :: ds, ρ, acc => match g d ρ with
    | some ρ1 => match c ρ1 with
      | some (true, ρ2) => match vE el ρ2 with
        | some (x, ρ3) => if acc.length < sizeLine then lcD vs g c el ds (wipeR ρ3 vs) (acc ++ [x]) else none
        | none => none
      | some (false, ρ2) => lcD vs g c el ds (wipeR ρ2 vs) acc
      | none => none
    | none => none
def eLc (vs : List Nat) (f : IF) (g : GF) (c : BF) (el : Cd) : RF := fun ρ => match f ρ with
  | some (ds, ρ1) => match lcD vs g c el ds (wipeR ρ1 vs) [] with
    | some (acc, ρ2) => some (.own acc, restR ρ1 ρ2 vs)
    | none => none
  | none => none
def fzBut (vs : List Nat) : Nat → Bool := fun i => !vs.contains i
def bYes : BF := fun ρ => some (true, ρ)
/-- what the loop of a comprehension keeps -/
structure LcI (K : PySem.W.Frag) (T : List (Addr × Str)) (O1 : Addr → Bool) (ρ1 : Rho) (σw : L2.St) (H1 : Hp) (Dl : Addr) (fin : List D × Rho) (run : Rho → List D → Option (List D × Rho)) (pu : Bool) (H : Hp) : Prop where
  ex : ∃ (O : Addr → Bool) (ρ : Rho) (acc : List D) (xs : List V), SOk K T O ρ σw H ∧ Tr O1 ρ1 σw H1 O ρ σw H ∧ O Dl = true ∧ ¬ Own ρ σw Dl ∧ H Dl = some (.lst xs) ∧ DpAll K (mask O H) xs acc ∧ run ρ acc = some fin ∧ (pu = true → Kp H1 H)
section
variable {K : PySem.W.Frag} {T : List (Addr × Str)}
theorem Tr.putNew {O1 O : Addr → Bool} {ρ1 ρ : Rho} {σ1 σ : L2.St} {H1 H : Hp} {p : Addr} {ys : List V} (c : ∀ a, O1 a = true → H1 a ≠ none) (t : Tr O1 ρ1 σ1 H1 O ρ σ H) (np : H1 p = none) : Tr O1 ρ1 σ1 H1 O ρ σ (upd H p (.lst ys)) := by
  have ne : ∀ {a : Addr} {o : HO}, H1 a = some o → a ≠ p := fun h => ne_of_none h np
  refine ⟨t.sub, fun a o h1 h2 n => by rw [upd_ne (ne h2)]; exact t.keep a o h1 h2 n, fun a h1 h2 => ?_, t.pres, fun a h => ?_⟩
  · obtain ⟨q1, q2⟩ := t.oth a h1 h2
    have : a ≠ p := fun z => c a h1 (by rw [z]; exact np)
    exact ⟨q1, by rw [upd_ne this]; exact q2⟩
  · by_cases z : a = p
    · subst z; rw [upd_same]; simp
    · rw [upd_ne z]; exact t.dom a h
theorem Kp.putNew {H1 H : Hp} {p : Addr} {ys : List V} (k : Kp H1 H) (np : H1 p = none) : Kp H1 (L2.upd H p (.lst ys)) := fun b o h n => by
  rw [upd_ne (ne_of_none h np)]
  exact k b o h n
theorem lc_read {vs : List Nat} {f : IF} {g : GF} {c : BF} {el : Cd} {wk bor puI puC : Bool} {σ : L2.St} {H : Hp} {Q : VK} (hb : bor = true → (puC && el.pu) = true)
    (q : tE K T (puI && (puC && el.pu)) (eLc vs f g c el) σ H Q) : tLc (tI K T wk bor puI f) (tG K T (fzBut vs) wk g) (tT K T puC c) (tV K T el) vs σ H Q := by
  obtain ⟨O, ρ, r, ρ', S, e, q⟩ := q
  unfold eLc at e
  split at e
  · rename_i ds ρ1 e1
    split at e
    · rename_i acc ρ2 e2
      cases e
      refine ⟨O, ρ, ds, ρ1, S, e1, fun J O1 H1 S1 t1 p1 it Dl nD => ?_⟩
      obtain ⟨G, Y, w, hG, hY⟩ := it
      have Sw : SOk K T O1 (wipeR ρ1 vs) (wipe σ vs) H1 := wipe_ok S1
      refine lc_it w (fun i H' => LcI K T O1 (wipeR ρ1 vs) (wipe σ vs) H1 Dl (acc, ρ2) (fun ρ a => lcD vs g c el (ds.drop i) ρ a) (puC && el.pu) H')
        ⟨oAdd O1 Dl, wipeR ρ1 vs, [], [], Sw.newOwn nD, Tr.newOwn Sw nD, by simp [oAdd], Sw.notOwn nD, upd_same, .nil, e2, fun _ => Kp.upd nD⟩
        (fun i H' _ h => ?_) (fun i x H' H'' hi h y => ?_) (fun H' h => ?_)
      · obtain ⟨O', ρ', a', xs, S', t', _, _, _, _, _, pk⟩ := h.ex
        refine hG H' ?_
        cases bor with
        | false => exact t'.mask.trans (Kp.mask O' H')
        | true => exact pk (hb rfl)
      · obtain ⟨O', ρ', a', xs, S', t', hO, hn, hD, hds, e', pk⟩ := h.ex
        obtain ⟨d, hd, y⟩ := hY i H' x H'' hi (t'.mask.trans (Kp.mask O' H')) y
        obtain ⟨S2, t2, k2, dp⟩ := y.ok S' t'.mask
        have hD2 : H'' Dl = some (.lst xs) := by
          obtain ⟨_, q2⟩ := t2.oth Dl hO hn
          rw [q2]; exact hD
        have hdr : ds.drop i = d :: ds.drop (i + 1) := by
          have hi' : i < ds.length := hi
          rw [List.drop_eq_getElem_cons hi']
          rw [List.getElem?_eq_getElem hi'] at hd
          rw [Option.some.inj hd]
        rw [hdr] at e'
        simp only [lcD] at e'
        split at e'
        · rename_i ρa ea
          refine ⟨O', ρ', d, ρa, S2, dp, ea, fun σ3 S3 t3 f3 => ?_⟩
          have e3 : wipe σ3 vs = wipe σ vs := by
            rw [← wipe_wipe σ vs]
            exact wipe_of_fz f3.1 fun j hj => f3.2 j (by simp [fzBut, hj])
          refine ⟨e3, ?_⟩
          have hO3 : O' Dl = true := hO
          have hn3 : ¬ Own ρa σ3 Dl := fun z => by
            rcases t3.pres Dl z with z | z
            · exact hn z
            · rw [hD2] at z; cases z
          have t3' := (t'.trans S1.cov' t2).trans S1.cov' t3
          split at e'
          · rename_i ρb eb
            refine ⟨O', ρa, true, ρb, S3, eb, fun O4 H4 S4 t4 p4 => iteT ?_⟩
            split at e'
            · rename_i y' ρc ec
              split at e'
              · rename_i hz
                refine ⟨O4, ρb, y', ρc, S4, ec, fun v O5 H5 S5 t5 p5 dp5 => ?_⟩
                obtain ⟨hO4, hD4⟩ := t4.oth Dl hO3 hn3
                have hn4 : ¬ Own ρb σ3 Dl := fun z => by
                  rcases t4.pres Dl z with z | z
                  · exact hn3 z
                  · rw [hD2] at z; cases z
                obtain ⟨hO5, hD5⟩ := t5.oth Dl hO4 hn4
                have hD5' : H5 Dl = some (.lst xs) := by rw [hD5, hD4]; exact hD2
                have hn5 : ¬ Own ρc σ3 Dl := fun z => by
                  rcases t5.pres Dl z with z | z
                  · exact hn4 z
                  · rw [hD4, hD2] at z; cases z
                have hds5 := (t2.mask.trans (t3.mask.trans (t4.mask.trans t5.mask))).dps hds
                have S6 : SOk K T O5 (wipeR ρc vs) (wipe σ3 vs) H5 := wipe_ok S5
                have t6 : Tr O1 (wipeR ρ1 vs) (wipe σ vs) H1 O5 (wipeR ρc vs) (wipe σ3 vs) H5 := ((t3'.trans S1.cov' t4).trans S1.cov' t5).wipe
                have hn6 : ¬ Own (wipeR ρc vs) (wipe σ3 vs) Dl := fun z => hn5 z.wipe
                rw [e3] at S6 t6 hn6
                refine ⟨xs, hD5', by rw [dps_len hds]; exact hz, ⟨O5, wipeR ρc vs, a' ++ [y'], xs ++ [v], put_free S6 hO5 hD5' hn6, t6.putNew S1.cov' nD, hO5, hn6, upd_same, ?_, e', fun p => ?_⟩⟩
                · rw [mask_put hO5]
                  exact dps_app hds5 (.cons dp5 .nil)
                · have p' := p
                  rw [Bool.and_eq_true] at p'
                  exact (((((pk p).trans k2).trans (p4 p'.1)).trans (p5 p'.2))).putNew nD
              · cases e'
            · cases e'
          · rename_i ρb eb
            refine ⟨O', ρa, false, ρb, S3, eb, fun O4 H4 S4 t4 p4 => iteF ?_⟩
            obtain ⟨hO4, hD4⟩ := t4.oth Dl hO3 hn3
            have hn4 : ¬ Own ρb σ3 Dl := fun z => by
              rcases t4.pres Dl z with z | z
              · exact hn3 z
              · rw [hD2] at z; cases z
            have hds4 := (t2.mask.trans (t3.mask.trans t4.mask)).dps hds
            have S6 : SOk K T O4 (wipeR ρb vs) (wipe σ3 vs) H4 := wipe_ok S4
            have t6 : Tr O1 (wipeR ρ1 vs) (wipe σ vs) H1 O4 (wipeR ρb vs) (wipe σ3 vs) H4 := (t3'.trans S1.cov' t4).wipe
            have hn6 : ¬ Own (wipeR ρb vs) (wipe σ3 vs) Dl := fun z => hn4 z.wipe
            rw [e3] at S6 t6 hn6
            refine ⟨O4, wipeR ρb vs, a', xs, S6, t6, hO4, hn6, by rw [hD4]; exact hD2, hds4, e', fun p => ?_⟩
            have p' := p
            rw [Bool.and_eq_true] at p'
            exact ((pk p).trans k2).trans (p4 p'.1)
          · cases e'
        · cases e'
      · obtain ⟨O', ρ', a', xs, S', t', hO, hn, hD, hds, e', pk⟩ := h.ex
        rw [List.drop_length] at e'
        cases e'
        obtain ⟨S7, t7⟩ := rest_ok S1 S' t'
        have hn7 : ¬ Own (restR ρ1 ρ2 vs) σ Dl := fun z => by
          rcases t7.pres Dl z with z | z
          · exact S1.notOwn nD z
          · rw [nD] at z
            obtain ⟨i, es, h1, hw, h2⟩ := ‹Own _ _ Dl›
            rcases restR_some (by rw [S1.len, S'.len, wipe_length]) h1 with ⟨hi, h1⟩ | ⟨hi, h1⟩
            · exact S1.notOwn nD ⟨i, es, h1, hw, h2⟩
            · exact hn ⟨i, es, h1, hw, by rw [wipe_out hi]; exact h2⟩
        refine q _ O' H' S7 (t1.trans S.cov' t7) (fun p => ?_) ((show ResV K O' H' (restR ρ1 ρ2 vs) σ H1 (.ref Dl) (.own acc) from ⟨Dl, xs, rfl, hO, hn7, nD, hD, hds⟩).back t1)
        rw [Bool.and_eq_true] at p
        exact (p1 p.1).trans (pk p.2)
    · cases e
  · cases e
end
end Pv
namespace Pv
open PySem PySem.Spec PyProof.Rows L2
theorem et_yes {X : Cx} {T : List (Addr × Str)} : PTs X [] (tT X.K T true bYes) := ⟨fun pins s σ H Q I q => by
  obtain ⟨O, ρ, b, ρ', S, e, q⟩ := q
  cases e
  exact pts_nil.run pins s σ H Q I (q O H S Tr.refl fun _ => Kp.refl H)⟩
section
variable {X : Cx} {T : List (Addr × Str)} {elt tg iter : Expr} {ifs : List Expr} {scope : Scope} {own : List (Str × Nat)} {pos : Pos} {f : IF} {g : GF} {c : BF} {el : Cd} {wk bor puI puC : Bool}
theorem es_lc (hc : X.calm = true) (hN : X.N.Nodup) (hi : PI X tg iter (tI X.K T wk bor puI f)) (ok : BlkOk X.N X.env.scope scope own)
    (hg : ∀ (s : Shared) (H : Hp) (C : Addr) (cl : List (Str × Addr)) (fp : List Addr), PG (X.blk s H scope (compEnvC scope cl C X.env) fp) tg (tG X.K T (fzBut (own.map (·.2))) wk g))
    (ht : ∀ (s : Shared) (H : Hp) (C : Addr) (cl : List (Str × Addr)) (fp : List Addr), PTs (X.blk s H scope (compEnvC scope cl C X.env) fp) ifs (tT X.K T puC c))
    (he : ∀ (s : Shared) (H : Hp) (C : Addr) (cl : List (Str × Addr)) (fp : List Addr), PE (X.blk s H scope (compEnvC scope cl C X.env) fp) elt (tV X.K T el)) (hp : plainE iter = true) (hb : bor = true → (puC && el.pu) = true) :
    PE X (.ListComp elt [⟨tg, iter, ifs, 0⟩] scope pos) (tE X.K T (puI && (puC && el.pu)) (eLc (own.map (·.2)) f g c el)) :=
  pe_imp (pe_lc hc hN hi ok hg ht he (plain_fold hp)) fun _ _ _ q => lc_read hb q
theorem asg_tE {K : PySem.W.Frag} {fz : Nat → Bool} {pu : Bool} {f : RF} {i : Nat} (hz : fz i = false) {D : Ends} {σ : L2.St} {H : Hp} (q : tS K T fz (sAsg (.ex pu f) i) D σ H) : tE K T pu f σ H fun x H1 => gName i x σ H1 D.nx := by
  obtain ⟨O, ρ, out, S, e, q⟩ := q
  simp only [sAsg] at e
  split at e
  · rename_i r ρ1 e1
    split at e
    · rename_i hl
      cases e
      exact ⟨O, ρ, r, ρ1, S, e1, fun v O1 H1 S1 t1 p1 rv => q O1 _ H1 (set_ok (H0 := H) S1 hl rv) (set_tr S1 t1 hl rv) (FzR.set hz)⟩
    · cases e
  · cases e
theorem ss_setLc {i : Nat} {y : Str} {py spos : Pos} {fz : Nat → Bool} (hc : X.calm = true) (hN : X.N.Nodup) (hy : X.N[i]? = some y) (hyl : X.env.scope.names.lookup y = some .local)
    (hsw : swapsWith (.ListComp elt [⟨tg, iter, ifs, 0⟩] scope pos) (some (.Name y py)) spos.line X.env = pure true) (hz : fz i = false) (hi : PI X tg iter (tI X.K T wk bor puI f)) (ok : BlkOk X.N X.env.scope scope own)
    (hg : ∀ (s : Shared) (H : Hp) (C : Addr) (cl : List (Str × Addr)) (fp : List Addr), PG (X.blk s H scope (compEnvC scope cl C X.env) fp) tg (tG X.K T (fzBut (own.map (·.2))) wk g))
    (ht : ∀ (s : Shared) (H : Hp) (C : Addr) (cl : List (Str × Addr)) (fp : List Addr), PTs (X.blk s H scope (compEnvC scope cl C X.env) fp) ifs (tT X.K T puC c))
    (he : ∀ (s : Shared) (H : Hp) (C : Addr) (cl : List (Str × Addr)) (fp : List Addr), PE (X.blk s H scope (compEnvC scope cl C X.env) fp) elt (tV X.K T el)) (hp : plainE iter = true) (hb : bor = true → (puC && el.pu) = true) :
    PS X (.Assign [.Name y py] (.ListComp elt [⟨tg, iter, ifs, 0⟩] scope pos) spos) (tS X.K T fz (sAsg (.ex (puI && (puC && el.pu)) (eLc (own.map (·.2)) f g c el)) i)) :=
  ps_imp (ps_setLc hc hN hy hyl hsw hi ok hg ht he (plain_fold hp)) fun _ _ _ q => lc_read hb (asg_tE hz q)
end
end Pv

/-! Fw7: defs: what they promise, their calls, their bodies. -/
namespace Pv
open PySem PySem.Spec PyProof.Rows L2

/-- a def: how many parameters; whether the first one is a list that it changes; what it hands back (and that list behind it) -/
structure FEnt where
  np : Nat
  io : Bool
  nl : Bool
  m : List Slt → Option (Slt × List D)
def flatD : D → Bool
  | .none => true
  | .bool _ => true
  | .int _ => true
  | .str _ => true
  | _ => false
def Slt.flat : Slt → Bool
  | .val d => flatD d
  | .own _ => false
  | .dct _ => false
  | .vdc _ => false
mutual
/-- no list within -/
def noL : D → Bool
  | .list _ => false
  | .tuple ds => noLs ds
  | .dict _ => false
  | _ => true
def noLs : List D → Bool
  | [] => true
  | d :: ds => noL d && noLs ds
end
def Slt.noL : Slt → Bool
  | .val d => Pv.noL d
  | .own ds => noLs ds
  | .dct kvs => noLs (kvs.map (·.2))
  | .vdc _ => false
def Slt.isVal : Slt → Bool
  | .val _ => true
  | .own _ => false
  | .dct _ => false
  | .vdc _ => true
def shape (io : Bool) (args : List Slt) : Bool := match io, args with
  | true, .own _ :: rest => rest.all Slt.isVal
  | false, args => args.all Slt.isVal
  | true, _ => false
section
variable (K : PySem.W.Frag) (T : List (Addr × Str))
inductive SltRs (O : Addr → Bool) (H : Hp) : List V → List Slt → Prop
  | nil : SltRs O H [] []
  | val {v : V} {vs : List V} {d : D} {as : List Slt} : Dp K (mask O H) v d → SltRs O H vs as → SltRs O H (v :: vs) (.val d :: as)
  | own {p : Addr} {ws vs : List V} {ds : List D} {as : List Slt} : O p = true → H p = some (.lst ws) → DpAll K (mask O H) ws ds → SltRs O H vs as → SltRs O H (.ref p :: vs) (.own ds :: as)
  | vdc {v : V} {vs : List V} {kvs : List (Key × D)} {as : List Slt} : VdR K (mask O H) v kvs → SltRs O H vs as → SltRs O H (v :: vs) (.vdc kvs :: as)
structure CEnd (io : Bool) (vs : List V) (O : Addr → Bool) (H : Hp) (O' : Addr → Bool) (H' : Hp) (r : Slt) (out : List D) (v : V) : Prop where
  cov : ∀ a, O' a = true → ∃ o, H' a = some o ∧ Mo o
  tabs : Tabs T H'
  sub : ∀ a, O' a = true → O a = true ∨ H a = none
  keep : ∀ a o, O a = false → H a = some o → (∀ ps, o ≠ .tbl ps) → H' a = some o
  oth : ∀ a, O a = true → (io = true → vs[0]? ≠ some (.ref a)) → O' a = true ∧ H' a = H a
  dom : ∀ a, H a ≠ none → H' a ≠ none
  res : match r with
    | .val d => Dp K (mask O' H') v d
    | .own ds => ∃ p ws, v = .ref p ∧ O' p = true ∧ H p = none ∧ H' p = some (.lst ws) ∧ DpAll K (mask O' H') ws ds
    | .dct kvs => ∃ p kw, v = .ref p ∧ O' p = true ∧ H p = none ∧ H' p = some (.dK kw) ∧ DkR K (mask O' H') kw kvs
    | .vdc kvs => VdR K (mask O' H') v kvs
  ioo : io = true → ∃ p ws, vs[0]? = some (.ref p) ∧ O' p = true ∧ H' p = some (.lst ws) ∧ DpAll K (mask O' H') ws out
def spD (e : FEnt) : Sp := fun vs H Q _ => ∃ O args r out, vs.length = e.np ∧ (∀ a, O a = true → ∃ o, H a = some o ∧ Mo o) ∧ Tabs T H ∧ SltRs K O H vs args ∧ shape e.io args = true ∧ e.m args = some (r, out) ∧
  ∀ v O' H', CEnd K T e.io vs O H O' H' r out v → Q v H'
end
def finF (io : Bool) (r : Slt) (ρ : Rho) : Option (Slt × List D) := match io with
  | true => match ρ[(0 : Nat)]? with
    | some (some (Slt.own o)) => some (r, o)
    | _ => none
  | false => some (r, [])
def runF (n : Nat) (io : Bool) (body : SF) (args : List Slt) : Option (Slt × List D) :=
  match body (args.map some ++ List.replicate (n - args.length) none) with
  | some (.nx ρ) => finF io (.val .none) ρ
  | some (.rt r ρ) => finF io r ρ
  | _ => none
/-! ### the body -/
section
variable {K : PySem.W.Frag} {T : List (Addr × Str)}
theorem SltRs.get {O : Addr → Bool} {H : Hp} : ∀ {vs : List V} {as : List Slt} {i : Nat} {s : Slt}, SltRs K O H vs as → as[i]? = some s →
    ∃ v, vs[i]? = some v ∧ match s with
      | .val d => Dp K (mask O H) v d
      | .own ds => ∃ p ws, v = .ref p ∧ O p = true ∧ H p = some (.lst ws) ∧ DpAll K (mask O H) ws ds
      | .dct _ => False
      | .vdc kvs => VdR K (mask O H) v kvs
  | _, _, _, _, .nil, e => by simp at e
  | _, _, 0, _, .val h _, e => by simp at e; subst e; exact ⟨_, rfl, h⟩
  | _, _, 0, _, .own h1 h2 h3 _, e => by simp at e; subst e; exact ⟨_, rfl, _, _, rfl, h1, h2, h3⟩
  | _, _, 0, _, .vdc h _, e => by simp at e; subst e; exact ⟨_, rfl, h⟩
  | _, _, i + 1, _, .vdc _ t, e => by
    obtain ⟨v, h1, h2⟩ := SltRs.get (i := i) t (by simpa using e)
    exact ⟨v, by simpa using h1, h2⟩
  | _, _, i + 1, _, .val _ t, e => by
    obtain ⟨v, h1, h2⟩ := SltRs.get (i := i) t (by simpa using e)
    exact ⟨v, by simpa using h1, h2⟩
  | _, _, i + 1, _, .own _ _ _ t, e => by
    obtain ⟨v, h1, h2⟩ := SltRs.get (i := i) t (by simpa using e)
    exact ⟨v, by simpa using h1, h2⟩
theorem SltRs.len {O : Addr → Bool} {H : Hp} {vs : List V} {as : List Slt} (h : SltRs K O H vs as) : vs.length = as.length := by
  induction h with
  | nil => rfl
  | val _ _ ih => rw [List.length_cons, List.length_cons, ih]
  | vdc _ _ ih => rw [List.length_cons, List.length_cons, ih]
  | own _ _ _ _ ih => rw [List.length_cons, List.length_cons, ih]
theorem shape_own {io : Bool} {args : List Slt} {i : Nat} {s : Slt} (h : shape io args = true) (e : args[i]? = some s) (w : s.ow = true) : io = true ∧ i = 0 := by
  have k : ∀ (l : List Slt) (j : Nat), l.all Slt.isVal = true → l[j]? = some s → False := fun l j h e => by
    have := List.all_eq_true.mp h _ (List.mem_of_getElem? e)
    cases s with
    | val d => cases w
    | vdc kvs => cases w
    | own ds => cases this
    | dct kvs => cases this
  unfold shape at h
  split at h
  · cases i with
    | zero => exact ⟨rfl, rfl⟩
    | succ j => exact (k _ j h (by simpa using e)).elim
  · exact (k _ i h e).elim
  · cases h
theorem start_get {n : Nat} {args : List Slt} {i : Nat} {s : Slt} (h : (args.map some ++ List.replicate n none)[i]? = some (some s)) : args[i]? = some s := by
  by_cases hi : i < args.length
  · rw [List.getElem?_append_left (by simpa using hi), List.getElem?_map] at h
    cases q : args[i]? with
    | none => rw [q] at h; cases h
    | some t => rw [q] at h; cases h; rfl
  · rw [List.getElem?_append_right (by simpa using hi), List.getElem?_replicate] at h
    split at h <;> cases h
theorem startV_get {n : Nat} {vs : List V} {i : Nat} {v : V} (h : vs[i]? = some v) : (vs.map some ++ List.replicate n none)[i]? = some (some v) := by
  have hi := (List.getElem?_eq_some_iff.mp h).1
  rw [List.getElem?_append_left (by simpa using hi), List.getElem?_map, h]
  rfl
def fzIo (io : Bool) : Nat → Bool := fun i => io && i == 0
theorem body_ok {N : List Str} {io nl : Bool} {body : SF} {vs : List V} {H : Hp} {Q : VK} {np : Nat} {E : XK} (h : spD K T ⟨np, io, nl, runF N.length io body⟩ vs H Q E) :
    tS K T (fzIo io) body { nx := fun _ H' => Q .non H', rt := Q } (L2.start N vs) H := by
  obtain ⟨O, args, r, out, hl, cov, tabs, rs, sh, hm, q⟩ := h
  have hm : runF N.length io body args = some (r, out) := hm
  have hlen := rs.len
  have S : SOk K T O (args.map some ++ List.replicate (N.length - args.length) none) (L2.start N vs) H := by
    refine ⟨?_, cov, fun i d e => ?_, fun i ds e => ?_, fun i j p s t h1 h2 w1 w2 _ _ => ?_, tabs, fun i kvs e => ?_, fun i kvs e => ?_⟩
    · unfold L2.start
      rw [List.length_append, List.length_append, List.length_map, List.length_map, List.length_replicate, List.length_replicate, hlen]
    · obtain ⟨v, h1, h2⟩ := rs.get (start_get e)
      exact ⟨v, startV_get h1, h2⟩
    · obtain ⟨v, h1, p, ws, rfl, h2⟩ := rs.get (start_get e)
      exact ⟨p, ws, startV_get h1, h2⟩
    · rw [(shape_own sh (start_get h1) w1).2, (shape_own sh (start_get h2) w2).2]
    · obtain ⟨v, h1, h2⟩ := rs.get (start_get e)
      exact h2.elim
    · obtain ⟨v, h1, h2⟩ := rs.get (start_get e)
      exact ⟨v, startV_get h1, h2⟩
  have own0 : ∀ {a : Addr}, Own (args.map some ++ List.replicate (N.length - args.length) none) (L2.start N vs) a → io = true ∧ vs[0]? = some (.ref a) := fun {a} h => by
    obtain ⟨i, s, h1, hw, h2⟩ := h
    obtain ⟨e1, e2⟩ := shape_own sh (start_get h1) hw
    subst e2
    obtain ⟨v, g1, _⟩ := rs.get (start_get h1)
    unfold L2.start at h2
    rw [startV_get g1] at h2
    cases h2
    exact ⟨e1, g1⟩
  have fin : ∀ {r' : Slt} {ρ' : Rho} {O' : Addr → Bool} {σ' : L2.St} {H' : Hp} {v : V}, finF io r' ρ' = some (r, out) → SOk K T O' ρ' σ' H' → Tr O (args.map some ++ List.replicate (N.length - args.length) none) (L2.start N vs) H O' ρ' σ' H' → FzR (fzIo io) (L2.start N vs) σ' →
      ResRt K O' H' ρ' σ' (args.map some ++ List.replicate (N.length - args.length) none) (L2.start N vs) H v r' → Q v H' := by
    intro r' ρ' O' σ' H' v hf S' t' f' rv
    have io0 : io = true → ∃ p, vs[0]? = some (.ref p) ∧ ∃ o : List D, ρ'[0]? = some (some (Slt.own o)) ∧ σ'[0]? = some (some (V.ref p)) ∧ o = out := fun hio => by
      subst hio
      unfold finF at hf
      simp only at hf
      split at hf
      · rename_i o ho
        cases hf
        obtain ⟨p, ws, g1, g2, g3, g4⟩ := S'.own 0 _ ho
        have z := f'.2 0 rfl
        rw [g1] at z
        have : (L2.start N vs)[0]? = some (some (V.ref p)) := z.symm
        unfold L2.start at this
        cases vs with
        | nil =>
          cases args with
          | nil => cases sh
          | cons _ _ => cases hlen
        | cons v0 vs =>
          have e0 : some (some v0) = some (some (V.ref p)) := this
          cases e0
          exact ⟨p, rfl, _, ho, g1, rfl⟩
      · cases hf
    have hr : r' = r := by
      unfold finF at hf
      split at hf
      · split at hf <;> cases hf
        rfl
      · cases hf; rfl
    subst hr
    refine q v O' H' ⟨S'.cov, S'.tabs, t'.sub, t'.keep, fun a h1 h2 => t'.oth a h1 fun z => ?_, t'.dom, ?_, fun hio => ?_⟩
    · obtain ⟨z1, z2⟩ := own0 z
      exact h2 z1 z2
    · cases r' with
      | val d => exact rv
      | vdc kvs => exact rv
      | own ds =>
        obtain ⟨p, ws, e0, e1, e2, e3, e4, e5⟩ := rv
        refine ⟨p, ws, e0, e1, ?_, e4, e5⟩
        rcases e3 with e3 | e3
        · obtain ⟨z1, z2⟩ := own0 e3
          obtain ⟨p', g1, o, g2, g3, _⟩ := io0 z1
          rw [z2] at g1
          cases g1
          exact absurd ⟨0, _, g2, rfl, g3⟩ e2
        · exact e3
      | dct kvs =>
        obtain ⟨p, ws, e0, e1, e2, e3, e4, e5⟩ := rv
        refine ⟨p, ws, e0, e1, ?_, e4, e5⟩
        rcases e3 with e3 | e3
        · obtain ⟨z1, z2⟩ := own0 e3
          obtain ⟨p', g1, o, g2, g3, _⟩ := io0 z1
          rw [z2] at g1
          cases g1
          exact absurd ⟨0, _, g2, rfl, g3⟩ e2
        · exact e3
    · obtain ⟨p, g1, o, g2, g3, rfl⟩ := io0 hio
      obtain ⟨p', ws, e1, e2, e3, e4⟩ := S'.own 0 _ g2
      rw [g3] at e1
      cases e1
      exact ⟨p, ws, g1, e2, e3, e4⟩
  unfold runF at hm
  refine ⟨O, args.map some ++ List.replicate (N.length - args.length) none, ?_⟩
  split at hm
  · rename_i ρ' e
    exact ⟨_, S, e, fun O' σ' H' S' t' f' => fin hm S' t' f' (show ResRt K O' H' ρ' σ' _ _ H .non (.val .none) from .non)⟩
  · rename_i r' ρ' e
    exact ⟨_, S, e, fun v O' σ' H' S' t' f' rv => fin hm S' t' f' rv⟩
  · cases hm
theorem fn_ok {P : Program} {w : World} {mg : Str → Option Value} {base : Heap} {x qual : Str} {st : Stmt} {f : Addr} {fd : FuncData} {N ps : List Str} {k : Nat} {io nl : Bool} {body : SF} (F : Fun K x qual st f fd) (S : FnScope N ps (defScope st))
    (hb : ∀ (cdv : Value) (A : Around) (outer : List PySem.Env) (s : Shared) (H : Hp) (E : XK), Room k (A.deeper (envOfC qual (defScope st) s.heap.objs.size f cdv)) →
      PSs (cxOf CX0 P w K mg base N qual (defScope st) f cdv A outer s H E).nox (defBody st) (tS K T (fzIo io) body)) :
    FnOk P w K mg base CX0 (k + 1) f fd ps (spD K T ⟨ps.length, io, nl, runF N.length io body⟩) := by
  refine F.ok S (fun vs H Q E h => ?_) (fun cdv A outer s H vs Q E hr h => ⟨_, hb cdv A outer s H E hr, body_ok h⟩)
  obtain ⟨O, args, r, out, hl, _⟩ := h
  exact hl
end
/-! ### the call -/
def isNotSlot (i : Nat) : Arg → Bool
  | .slot j => !(i == j)
  | .tmp _ => true
def callR (e : FEnt) (as : List Arg) (ρ : Rho) : Option (Slt × Rho) := match e.io with
  | true => match as with
    | .slot i :: rest => match ρ[i]?, argsS ρ rest with
      | some (some (.own ds)), some xs => match rest.all (isNotSlot i) with
        | true => match e.m (.own ds :: xs) with
          | some (r, out) => some (r, (dropsA rest ρ).set i (some (.own out)))
          | none => none
        | false => none
      | _, _ => none
    | _ => none
  | false => match argsS ρ as with
    | some xs => match e.m xs with
      | some (r, _) => match e.nl with
        | true => if r.noL = true then some (r, ρ) else none
        | false => some (r, if r.flat = true then ρ else dropsA as ρ)
      | none => none
    | none => none
def eCall (e : FEnt) (cs : List Cd) : RF := fun ρ => match cs.length == e.np with
  | true => match aEs cs ρ with
    | some (as, ρ1) => callR e as ρ1
    | none => none
  | false => none
section
variable {K : PySem.W.Frag} {T : List (Addr × Str)} {O Oc O' : Addr → Bool} {ρ : Rho} {σ : L2.St} {H H' : Hp} {vs : List V} {r : Slt} {out : List D} {v : V}
theorem call_no (S : SOk K T O ρ σ H) (hs : ∀ a, Oc a = true → O a = true) (ce : CEnd K T false vs Oc H O' H' r out v) :
    SOk K T (fun a => O' a || O a) ρ σ H' ∧ Tr O ρ σ H (fun a => O' a || O a) ρ σ H' ∧ ((∀ a, O a = true → Oc a = true) → (fun a => O' a || O a) = O') := by
  have same : ∀ a, O a = true → H' a = H a := fun a h => by
    cases q : Oc a with
    | true => exact (ce.oth a q fun z => by cases z).2
    | false =>
      obtain ⟨o, e, m⟩ := S.cov a h
      rw [e]
      exact ce.keep a _ q e fun ps z => by subst z; rcases m with ⟨_, m⟩ | ⟨_, m⟩ <;> cases m
  have ocf : ∀ {a : Addr}, O a = false → Oc a = false := fun {a} h => by
    cases q : Oc a with
    | false => rfl
    | true => rw [hs a q] at h; cases h
  have o'f : ∀ {a : Addr} {o : HO}, O a = false → H a = some o → O' a = false := fun {a o} h e => by
    cases q : O' a with
    | false => rfl
    | true =>
      rcases ce.sub a q with z | z
      · rw [ocf h] at z; cases z
      · rw [e] at z; cases z
  have mk : Kp (mask O H) (mask (fun a => O' a || O a) H') := fun b o h n => by
    obtain ⟨h1, h2⟩ := mask_some.mp h
    exact mask_some.mpr ⟨by simp [h1, o'f h1 h2], ce.keep b o (ocf h1) h2 n⟩
  refine ⟨⟨S.len, fun a h => ?_, fun i d e => ?_, fun i ds e => ?_, S.inj, ce.tabs, fun i kvs e => ?_, fun i kvs e => ?_⟩, ⟨fun a h => ?_, fun a o h1 h2 n => ce.keep a o (ocf h1) h2 n, fun a h1 _ => ⟨by simp [h1], same a h1⟩, fun a h => .inl h, ce.dom⟩, fun hso => ?_⟩
  · have h : (O' a || O a) = true := h
    rw [Bool.or_eq_true] at h
    rcases h with h | h
    · exact ce.cov a h
    · obtain ⟨xs, e, m⟩ := S.cov a h
      exact ⟨xs, (same a h).trans e, m⟩
  · obtain ⟨w, e1, e2⟩ := S.val i d e
    exact ⟨w, e1, mk.dp e2⟩
  · obtain ⟨p, ws, e1, e2, e3, e4⟩ := S.own i ds e
    exact ⟨p, ws, e1, by simp [e2], (same p e2).trans e3, mk.dps e4⟩
  · obtain ⟨p, ws, e1, e2, e3, e4⟩ := S.dct i kvs e
    exact ⟨p, ws, e1, by simp [e2], (same p e2).trans e3, e4.mono mk⟩
  · obtain ⟨w, e1, e2⟩ := S.vdc i kvs e
    exact ⟨w, e1, e2.mono mk⟩
  · have h : (O' a || O a) = true := h
    rw [Bool.or_eq_true] at h
    rcases h with h | h
    · rcases ce.sub a h with z | z
      · exact .inl (hs a z)
      · exact .inr z
    · exact .inl h
  · funext a
    cases q : O a with
    | false => simp
    | true => simp [(ce.oth a (hso a q) fun z => by cases z).1]
theorem call_io {i : Nat} {ds : List D} {p : Addr} {rest : List V} (S : SOk K T O ρ σ H) (hs : ρ[i]? = some (some (Slt.own ds))) (hv : σ[i]? = some (some (V.ref p))) (ce : CEnd K T true (.ref p :: rest) O H O' H' r out v) :
    SOk K T O' (ρ.set i (some (.own out))) σ H' ∧ Tr O ρ σ H O' (ρ.set i (some (.own out))) σ H' := by
  obtain ⟨p', ws, g1, g2, g3, g4⟩ := ce.ioo rfl
  have ep : p = p' := by
    have : some (V.ref p) = some (V.ref p') := g1
    cases this
    rfl
  subst ep
  have same : ∀ a, O a = true → a ≠ p → O' a = true ∧ H' a = H a := fun a h ne => ce.oth a h fun _ z => by
    have : some (V.ref p) = some (V.ref a) := z
    cases this
    exact ne rfl
  have o'f : ∀ {a : Addr} {o : HO}, O a = false → H a = some o → O' a = false := fun {a o} h e => by
    cases q : O' a with
    | false => rfl
    | true =>
      rcases ce.sub a q with z | z
      · rw [h] at z; cases z
      · rw [e] at z; cases z
  have mk : Kp (mask O H) (mask O' H') := fun b o h n => by
    obtain ⟨h1, h2⟩ := mask_some.mp h
    exact mask_some.mpr ⟨o'f h1 h2, ce.keep b o h1 h2 n⟩
  have k : ∀ {j : Nat} {x : Slt}, (ρ.set i (some (Slt.own out)))[j]? = some (some x) → x.ow = true → ∃ y : Slt, ρ[j]? = some (some y) ∧ y.ow = true := fun {j x} e w => by
    rcases set_some e with ⟨rfl, _, _⟩ | ⟨_, e⟩
    · exact ⟨_, hs, rfl⟩
    · exact ⟨x, e, w⟩
  refine ⟨⟨by rw [List.length_set]; exact S.len, ce.cov, fun j d e => ?_, fun j es e => ?_, fun j l q x y h1 h2 w1 w2 => ?_, ce.tabs, fun j kvs e => ?_, fun j kvs e => ?_⟩, ⟨ce.sub, ce.keep, fun a h1 h2 => same a h1 fun z => h2 (by rw [z]; exact ⟨i, _, hs, rfl, hv⟩), fun a h => .inl ?_, ce.dom⟩⟩
  · rcases set_some e with ⟨_, z, _⟩ | ⟨_, e⟩
    · cases z
    · obtain ⟨w, e1, e2⟩ := S.val j d e
      exact ⟨w, e1, mk.dp e2⟩
  · rcases set_some e with ⟨rfl, z, _⟩ | ⟨ne, e⟩
    · cases z
      exact ⟨p, ws, hv, g2, g3, g4⟩
    · obtain ⟨q, us, q1, q2, q3, q4⟩ := S.own j es e
      have nq : q ≠ p := fun z => ne (S.inj i j p _ _ hs e rfl rfl hv (by rw [← z]; exact q1))
      obtain ⟨s1, s2⟩ := same q q2 nq
      exact ⟨q, us, q1, s1, s2.trans q3, mk.dps q4⟩
  · obtain ⟨xs', h1, w1⟩ := k h1 w1
    obtain ⟨ys', h2, w2⟩ := k h2 w2
    exact S.inj j l q xs' ys' h1 h2 w1 w2
  · rcases set_some e with ⟨rfl, z, _⟩ | ⟨ne, e⟩
    · cases z
    · obtain ⟨q, us, q1, q2, q3, q4⟩ := S.dct j kvs e
      have nq : q ≠ p := fun z => ne (S.inj i j p _ _ hs e rfl rfl hv (by rw [← z]; exact q1))
      obtain ⟨s1, s2⟩ := same q q2 nq
      exact ⟨q, us, q1, s1, s2.trans q3, q4.mono mk⟩
  · rcases set_some e with ⟨_, z, _⟩ | ⟨_, e⟩
    · cases z
    · obtain ⟨w, e1, e2⟩ := S.vdc j kvs e
      exact ⟨w, e1, e2.mono mk⟩
  · obtain ⟨j, xs, h1, w1, h2⟩ := h
    obtain ⟨ys, h1, w1⟩ := k h1 w1
    exact ⟨j, ys, h1, w1, h2⟩
theorem slt_vals {B : Hp} : ∀ {vs : List V} {ds : List D}, DpAll K (mask O H) vs ds → SltRs K O H vs (ds.map Slt.val)
  | _, _, .nil => .nil
  | _, _, .cons h t => .val h (slt_vals (B := B) t)
theorem slt_shs : ∀ {vs : List V} {ss : List Slt}, ShRs K (mask O H) vs ss → SltRs K O H vs ss
  | _, _, .nil => .nil
  | _, _, .cons (s := s) h t => by
    cases s with
    | val d => exact .val h (slt_shs t)
    | vdc kvs => exact .vdc h (slt_shs t)
    | own ds => exact h.elim
    | dct kvs => exact h.elim
theorem shs_vals {M : Hp} : ∀ {vs : List V} {ss : List Slt}, ShRs K M vs ss → ss.all Slt.isVal = true
  | _, _, .nil => rfl
  | _, _, .cons (s := s) h t => by
    rw [List.all_cons, shs_vals t]
    cases s with
    | val d => rfl
    | vdc kvs => rfl
    | own ds => exact h.elim
    | dct kvs => exact h.elim
theorem all_vals : ∀ ds : List D, (ds.map Slt.val).all Slt.isVal = true
  | [] => rfl
  | d :: ds => by rw [List.map_cons, List.all_cons, all_vals ds]; rfl
mutual
theorem noL_dp {K : PySem.W.Frag} {O O' : Addr → Bool} {H : Hp} (c : ∀ a, O a = true → ∃ o, H a = some o ∧ Mo o) : ∀ {v : V} {d : D}, Dp K (mask O' H) v d → noL d = true → Dp K (mask (fun a => O' a || O a) H) v d
  | _, _, .non, _ => .non
  | _, _, .bl b, _ => .bl b
  | _, _, .int i, _ => .int i
  | _, _, .str x h, _ => .str x h
  | _, _, .lst _ _, f => by cases f
  | _, _, .tup (a := a) (xs := xs) h t, f => by
    have no : ∀ u : HO, ¬ Mo u → mask O' H a = some u → mask (fun a => O' a || O a) H a = some u := fun u hu e => by
      obtain ⟨e1, e2⟩ := mask_some.mp e
      refine mask_some.mpr ⟨?_, e2⟩
      cases z : O a with
      | false => simp [e1]
      | true =>
        obtain ⟨ys, e3, m⟩ := c a z
        rw [e2] at e3
        cases e3
        exact absurd m hu
    refine .tup ?_ (noL_dps c t f)
    rcases h with ⟨o, h, hd⟩ | h
    · exact .inl ⟨o, no _ (fun z => by rcases z with ⟨_, z⟩ | ⟨_, z⟩ <;> cases z) h, hd⟩
    · exact .inr h
theorem noL_dps {K : PySem.W.Frag} {O O' : Addr → Bool} {H : Hp} (c : ∀ a, O a = true → ∃ o, H a = some o ∧ Mo o) : ∀ {vs : List V} {ds : List D}, DpAll K (mask O' H) vs ds → noLs ds = true → DpAll K (mask (fun a => O' a || O a) H) vs ds
  | _, _, .nil, _ => .nil
  | _, _, .cons h t, f => by
    unfold noLs at f
    rw [Bool.and_eq_true] at f
    exact .cons (noL_dp c h f.1) (noL_dps c t f.2)
end
theorem flat_dp {K : PySem.W.Frag} {H1 H2 : Hp} {v : V} {d : D} (h : Dp K H1 v d) (f : flatD d = true) : Dp K H2 v d := by
  cases h with
  | non => exact .non
  | bl b => exact .bl b
  | int i => exact .int i
  | str x h => exact .str x h
  | lst _ _ => cases f
  | tup _ _ => cases f
theorem dropsA_get {i : Nat} {s : Slt} : ∀ {as : List Arg} {ρ : Rho}, as.all (isNotSlot i) = true → (dropsA as ρ)[i]? = ρ[i]?
  | [], _, _ => rfl
  | a :: as, ρ, h => by
    rw [List.all_cons, Bool.and_eq_true] at h
    unfold dropsA
    rw [dropsA_get (s := s) h.2]
    cases a with
    | tmp d => rfl
    | slot j =>
      have hj : i ≠ j := by
        have := h.1
        simpa [isNotSlot] using this
      simp only [dropA]
      unfold dropR
      split
      · rw [List.getElem?_set_ne (Ne.symm hj)]
      · rw [List.getElem?_set_ne (Ne.symm hj)]
      · rfl
theorem call_read {e : FEnt} {cs : List Cd} {σ : L2.St} {H : Hp} {Q : VK} {E : XK} (q : tE K T (!e.io && cpu cs) (eCall e cs) σ H Q) : tCall (spD K T e) [] E (tAs K T cs) σ H Q := by
  obtain ⟨O, ρ, s, ρ', S, h, q⟩ := q
  unfold eCall at h
  split at h
  · rename_i hnp
    have hnp : cs.length = e.np := by simpa using hnp
    split at h
    · rename_i as ρ1 e1
      refine ⟨O, ρ, as, ρ1, S, e1, fun vs O1 H1 S1 t1 p1 a1 => ?_⟩
      show spD K T e (vs ++ []) H1 Q E
      rw [List.append_nil]
      have hlen : vs.length = e.np := by
        have k1 : ∀ {vs : List V} {as : List Arg}, ArgRs K O1 H1 σ vs as → vs.length = as.length := fun h => by
          induction h with
          | nil => rfl
          | cons _ _ ih => rw [List.length_cons, List.length_cons, ih]
        have k2 : ∀ {cs : List Cd} {ρ : Rho} {as : List Arg} {ρ' : Rho}, aEs cs ρ = some (as, ρ') → as.length = cs.length := fun {cs} => by
          induction cs with
          | nil => intro ρ as ρ' h; cases h; rfl
          | cons c cs ih =>
            intro ρ as ρ' h
            simp only [aEs] at h
            split at h
            · split at h
              · rename_i e3
                cases h
                rw [List.length_cons, List.length_cons, ih e3]
              · cases h
            · cases h
        rw [k1 a1, k2 e1, hnp]
      unfold callR at h
      split at h
      · rename_i hio
        split at h
        · rename_i i rest
          split at h
          · rename_i ds xs hs hxs
            split at h
            · rename_i hno
              split at h
              · rename_i r out hm
                cases h
                cases a1 with
                | cons a0 a2 =>
                  rename_i v0 vs'
                  obtain ⟨O2, S2, t2, d2, sub2⟩ := dropsA_okS a2 S1 a2 hxs
                  have hs2 : (dropsA rest ρ1)[i]? = some (some (Slt.own ds)) := by rw [dropsA_get (s := .own ds) hno]; exact hs
                  obtain ⟨p, ws, g1, g2, g3, g4⟩ := S2.own i ds hs2
                  have g0 : σ[i]? = some (some v0) := a0
                  rw [g0] at g1
                  cases g1
                  refine ⟨O2, .own ds :: xs, s, out, hlen, S2.cov, S2.tabs, .own g2 g3 g4 (slt_shs d2), by rw [hio]; exact shs_vals d2, hm, fun v O3 H3 ce => ?_⟩
                  rw [hio] at ce
                  obtain ⟨S3, t3⟩ := call_io S2 hs2 g0 ce
                  refine q v O3 H3 S3 ((t1.trans S.cov' t2).trans S.cov' t3) (fun z => by rw [hio] at z; cases z) ?_
                  have hres := ce.res
                  cases s with
                  | val d => exact hres
                  | vdc kvs => exact hres
                  | own es =>
                    obtain ⟨p', ws', k1, k2, k3, k4, k5⟩ := hres
                    refine (show ResV K O3 H3 _ σ H1 v (.own es) from ⟨p', ws', k1, k2, fun z => ?_, k3, k4, k5⟩).back t1
                    rcases t3.pres p' z with z | z
                    · exact S2.notOwn k3 z
                    · obtain ⟨j, xs', z1, w1, z2⟩ := ‹Own _ σ p'›
                      rcases set_some z1 with ⟨rfl, _, _⟩ | ⟨_, z1⟩
                      · rw [g0] at z2
                        cases z2
                        rw [g3] at k3
                        cases k3
                      · exact S2.notOwn k3 ⟨j, xs', z1, w1, z2⟩
                  | dct es =>
                    obtain ⟨p', ws', k1, k2, k3, k4, k5⟩ := hres
                    refine (show ResV K O3 H3 _ σ H1 v (.dct es) from ⟨p', ws', k1, k2, fun z => ?_, k3, k4, k5⟩).back t1
                    rcases t3.pres p' z with z | z
                    · exact S2.notOwn k3 z
                    · obtain ⟨j, xs', z1, w1, z2⟩ := ‹Own _ σ p'›
                      rcases set_some z1 with ⟨rfl, _, _⟩ | ⟨_, z1⟩
                      · rw [g0] at z2
                        cases z2
                        rw [g3] at k3
                        cases k3
                      · exact S2.notOwn k3 ⟨j, xs', z1, w1, z2⟩
              · cases h
            · cases h
          · cases h
        · cases h
      · rename_i hio
        split at h
        · rename_i xs hxs
          split at h
          · rename_i r out hm
            obtain ⟨O2, S2, t2, d2, sub2⟩ := dropsA_okS a1 S1 a1 hxs
            refine ⟨O2, xs, r, out, hlen, S2.cov, S2.tabs, slt_shs d2, by rw [hio]; exact shs_vals d2, hm, fun v O3 H3 ce => ?_⟩
            rw [hio] at ce
            have hres := ce.res
            have kp13 : Kp H1 H3 := fun b o h n => by
              cases z : O2 b with
              | true => rw [(ce.oth b z fun z' => by cases z').2]; exact h
              | false => exact ce.keep b o z h n
            obtain ⟨S3, t3, _⟩ := call_no S1 sub2 ce
            split at h
            · split at h
              · rename_i hf
                cases h
                refine q v _ H3 S3 (t1.trans S.cov' t3) (fun z => by rw [Bool.and_eq_true] at z; exact (p1 z.2).trans kp13) ?_
                have cv : ∀ a, O1 a = true → ∃ o, H3 a = some o ∧ Mo o := fun a ha => S3.cov a (by simp [ha])
                cases s with
                | val d => exact noL_dp cv hres hf
                | vdc kvs => cases hf
                | own es =>
                  obtain ⟨p', ws', k1, k2, k3, k4, k5⟩ := hres
                  exact (show ResV K (fun a => O3 a || O1 a) H3 _ σ H1 v (.own es) from ⟨p', ws', k1, by simp [k2], S1.notOwn k3, k3, k4, noL_dps cv k5 hf⟩).back t1
                | dct es =>
                  obtain ⟨p', ws', k1, k2, k3, k4, k5⟩ := hres
                  exact (show ResV K (fun a => O3 a || O1 a) H3 _ σ H1 v (.dct es) from ⟨p', ws', k1, by simp [k2], S1.notOwn k3, k3, k4, k5.1, noL_dps cv k5.2 hf⟩).back t1
              · cases h
            cases h
            by_cases hf : s.flat = true
            · rw [if_pos hf] at q
              refine q v _ H3 S3 (t1.trans S.cov' t3) (fun z => by rw [Bool.and_eq_true] at z; exact (p1 z.2).trans kp13) ?_
              cases s with
              | val d => exact flat_dp hres hf
              | own es => cases hf
              | dct es => cases hf
              | vdc es => cases hf
            · rw [if_neg hf] at q
              obtain ⟨S3, t3, e3⟩ := call_no S2 (fun _ h => h) ce
              rw [e3 (fun _ h => h)] at S3 t3
              refine q v O3 H3 S3 ((t1.trans S.cov' t2).trans S.cov' t3) (fun z => by rw [Bool.and_eq_true] at z; exact (p1 z.2).trans kp13) ?_
              cases s with
              | val d => exact hres
              | vdc kvs => exact hres
              | own es =>
                obtain ⟨p', ws', k1, k2, k3, k4, k5⟩ := hres
                exact (show ResV K O3 H3 _ σ H1 v (.own es) from ⟨p', ws', k1, k2, S2.notOwn k3, k3, k4, k5⟩).back t1
              | dct es =>
                obtain ⟨p', ws', k1, k2, k3, k4, k5⟩ := hres
                exact (show ResV K O3 H3 _ σ H1 v (.dct es) from ⟨p', ws', k1, k2, S2.notOwn k3, k3, k4, k5⟩).back t1
          · cases h
        · cases h
    · cases h
  · cases h
end
end Pv

/-! Fw8: what the operators and built-ins of data hand back. -/
namespace Pv
open PySem PySem.Spec PyProof.Rows L2

/-! ### texts -/
theorem strOk_iff {x : Str} : PyData.strOk x = true ↔ ∀ c ∈ x.cps.toList, c < 0x110000 := by
  unfold PyData.strOk
  rw [← Array.all_toList, List.all_eq_true]
  simp
theorem strOk_app {x y : Str} (h1 : PyData.strOk x = true) (h2 : PyData.strOk y = true) : PyData.strOk (x ++ y) = true := by
  rw [strOk_iff] at *
  intro c hc
  have e : (x ++ y).cps.toList = x.cps.toList ++ y.cps.toList := by
    show (x.cps ++ y.cps).toList = _
    simp
  rw [e] at hc
  rcases List.mem_append.mp hc with h | h
  · exact h1 c h
  · exact h2 c h
theorem strOk_sub {x : Str} {l : List Nat} (h : PyData.strOk x = true) (hs : ∀ c ∈ l, c ∈ x.cps.toList) : PyData.strOk ⟨l.toArray⟩ = true := by
  rw [strOk_iff] at *
  intro c hc
  exact h c (hs c (by simpa using hc))

section
variable {X : Cx}
/-! ### + -/
def rCatR : R2 := fun x y H Q => ∃ l b xs zs, x = .ref l ∧ y = .ref b ∧ Rd H l (.lst xs) ∧ Rd H b (.lst zs) ∧ xs.length + zs.length ≤ sizeLine ∧ ∀ p, H p = none → Q (.ref p) (upd H p (.lst (xs ++ zs)))
theorem op_catR : OpR X (binaryOp .Add) rCatR := by
  intro pins s σ H x y v u Q I rx ry h
  obtain ⟨l, b, xs, zs, rfl, rfl, hH, hB, hz, q⟩ := h
  cases rx
  cases ry
  obtain ⟨z, its, n, r, hl, e⟩ := rd_lstM I hH
  obtain ⟨z2, its2, n2, r2, hl2, e2⟩ := rd_lstM I hB
  refine PySem.P.add_list e e2 ?_ (by rw [List.size_toArray, List.size_toArray]; omega)
  have ea : its.toArray ++ its2.toArray = (its ++ its2).toArray := by simp
  rw [ea]
  exact ⟨.ref _, _, I.lnew (t' := s.toks) (r.append r2) (by rw [List.length_append]; omega), rfl, q _ I.fresh⟩
def rAddS : R2 := fun x y H Q => ∃ i j, x = .str i ∧ y = .str j ∧ i.length + j.length ≤ sizeLine ∧ Q (.str (i ++ j)) H
/-- t + u, the new one without attributes -/
def rCatP (K : PySem.W.Frag) : R2 := fun x y H Q => ∃ a b xs ys, x = .ref a ∧ y = .ref b ∧ SqT K H a xs ∧ SqT K H b ys ∧ xs.length + ys.length ≤ sizeLine ∧
  (xs = [] → Q (.ref b) H) ∧ (xs ≠ [] → ys = [] → Q (.ref a) H) ∧ (xs ≠ [] → ys ≠ [] → NewT H (xs ++ ys) Q)
theorem op_catP : OpR X (binaryOp .Add) (rCatP X.K) := by
  intro pins s σ H x y v u Q I rx ry h
  obtain ⟨a, b, xs, ys, rfl, rfl, ha, hb, hz, q0, q1, q2⟩ := h
  cases rx
  cases ry
  obtain ⟨its, r1, p1, _⟩ := I.tuple ha
  obtain ⟨its2, r2, p2, _⟩ := I.tuple hb
  by_cases hx : xs = []
  · subst hx
    cases r1
    exact cat_tup0 p1 p2 ⟨.ref b, H, I, rfl, q0 rfl⟩
  · exact HT.cat_tup p1 p2 (fun z => hx (r1.nil_iff.mp z)) (fun z => ⟨.ref a, H, I, rfl, q1 hx (r2.nil_iff.mp z)⟩)
      (fun z => ⟨.ref _, _, laidT (t' := s.toks) I (r1.append r2) (by rw [List.length_append]; exact hz), rfl, q2 hx (fun w => z (r2.nil_iff.mpr w)) _ _ (I.hok.fresh (Nat.le_refl _)) rfl⟩) (by rw [← r1.length, ← r2.length]; exact hz)
def rAdd4 (K : PySem.W.Frag) : R2 := fun x y H Q => rI0 (fun i j => .int (i + j)) x y H Q ∨ (rAddS x y H Q ∨ (rCatR x y H Q ∨ rCatP K x y H Q))
theorem op_add4 : OpR X (binaryOp .Add) (rAdd4 X.K) := op_add.or ((show OpR X (binaryOp .Add) rAddS from op_add_str).or (op_catR.or op_catP))
end
def gAdd (a b : D) : Option Slt := match a, b with
  | .int i, .int j => some (.val (.int (i + j)))
  | .str i, .str j => if i.length + j.length ≤ sizeLine then some (.val (.str (i ++ j))) else none
  | .list xs, .list ys => if xs.length + ys.length ≤ sizeLine then some (.own (xs ++ ys)) else none
  | .tuple xs, .tuple ys => if xs.length + ys.length ≤ sizeLine then some (.val (.tuple (xs ++ ys))) else none
  | _, _ => none
section
variable {K : PySem.W.Frag} {T : List (Addr × Str)}
theorem dps_nil {H : Hp} {vs : List V} {ds : List D} (h : DpAll K H vs ds) : vs = [] ↔ ds = [] := by
  cases h <;> simp
theorem sem_add : Sem2 K T (rAdd4 K) gAdd := by
  intro O ρ σ H x y dx dy s Q S hx hy g q
  unfold gAdd at g
  split at g
  · cases g
    exact .inl ⟨_, _, hx.int, hy.int, res_val S (.int _) q⟩
  · split at g
    · rename_i hl
      cases g
      exact .inr (.inl ⟨_, _, hx.str.1, hy.str.1, hl, res_val S (.str _ (strOk_app hx.str.2 hy.str.2)) q⟩)
    · cases g
  · split at g
    · rename_i hl
      cases g
      obtain ⟨a, vs, rfl, h1, h2⟩ := hx.list
      obtain ⟨b, ws, rfl, h3, h4⟩ := hy.list
      exact .inr (.inr (.inl ⟨a, b, vs, ws, rfl, rfl, h1, h3, by rw [dps_len h2, dps_len h4]; exact hl, fun p np => res_list S (dps_app h2 h4) np q⟩))
    · cases g
  · split at g
    · rename_i hl
      cases g
      obtain ⟨a, vs, rfl, h1, h2⟩ := hx.tupleP
      obtain ⟨b, ws, rfl, h3, h4⟩ := hy.tupleP
      refine .inr (.inr (.inr ⟨a, b, vs, ws, rfl, rfl, (Kp.mask O H).sqT h1.sqT, (Kp.mask O H).sqT h3.sqT, by rw [dps_len h2, dps_len h4]; exact hl, fun e => ?_, fun _ e => ?_, fun _ _ => res_tup S (dps_app h2 h4) q⟩))
      · have e' := (dps_nil h2).mp e
        subst e'
        exact res_val S (.tup h3 h4) q
      · have e' := (dps_nil h4).mp e
        subst e'
        rw [List.append_nil] at q
        exact res_val S (.tup h1 h2) q
    · cases g
  · cases g
end
/-! ### numbers -/
def gSub (a b : D) : Option Slt := match a, b with
  | .int i, .int j => some (.val (.int (i - j)))
  | _, _ => none
def gFloor (a b : D) : Option Slt := match a, b with
  | .int i, .int j => if 0 < j ∧ j < 1073741824 then some (.val (.int (i / j))) else none
  | _, _ => none
def gMod (a b : D) : Option Slt := match a, b with
  | .int i, .int j => if 0 < j then some (.val (.int (i % j))) else none
  | _, _ => none
def gPow (a b : D) : Option Slt := match a, b with
  | .int i, .int j => if 0 ≤ j ∧ j ≤ 1000000 ∧ i.natAbs < 2 ^ 64 then some (.val (.int (i ^ j.toNat))) else none
  | _, _ => none
def gNeg (a : D) : Option Slt := match a with
  | .int i => some (.val (.int (-i)))
  | _ => none
section
variable {K : PySem.W.Frag} {T : List (Addr × Str)}
theorem sem_sub : Sem2 K T (rI0 fun i j => .int (i - j)) gSub := by
  intro O ρ σ H x y dx dy s Q S hx hy g q
  unfold gSub at g
  split at g
  · cases g
    exact ⟨_, _, hx.int, hy.int, res_val S (.int _) q⟩
  · cases g
theorem sem_floor : Sem2 K T (rI CDiv fun i j => .int (i / j)) gFloor := by
  intro O ρ σ H x y dx dy s Q S hx hy g q
  unfold gFloor at g
  split at g
  · split at g
    · rename_i hc
      cases g
      exact ⟨_, _, hx.int, hy.int, hc, res_val S (.int _) q⟩
    · cases g
  · cases g
theorem sem_mod : Sem2 K T (rI (fun _ j => 0 < j) fun i j => .int (i % j)) gMod := by
  intro O ρ σ H x y dx dy s Q S hx hy g q
  unfold gMod at g
  split at g
  · split at g
    · rename_i hc
      cases g
      exact ⟨_, _, hx.int, hy.int, hc, res_val S (.int _) q⟩
    · cases g
  · cases g
theorem sem_pow : Sem2 K T (rI CPow fun i j => .int (i ^ j.toNat)) gPow := by
  intro O ρ σ H x y dx dy s Q S hx hy g q
  unfold gPow at g
  split at g
  · split at g
    · rename_i hc
      cases g
      exact ⟨_, _, hx.int, hy.int, hc, res_val S (.int _) q⟩
    · cases g
  · cases g
theorem sem_neg : Sem1 K T (rU fun i => .int (-i)) gNeg := by
  intro O ρ σ H x dx s Q S hx g q
  unfold gNeg at g
  split at g
  · cases g
    exact ⟨_, hx.int, res_val S (.int _) q⟩
  · cases g
end
/-! ### * of numbers, of texts, of lists -/
def gMul (a b : D) : Option Slt := match a, b with
  | .int i, .int j => if (-(2 ^ 64) < i ∧ i < 2 ^ 64) ∨ (-(2 ^ 64) < j ∧ j < 2 ^ 64) then some (.val (.int (i * j))) else none
  | _, _ => none
theorem sem_mul {K : PySem.W.Frag} {T : List (Addr × Str)} : Sem2 K T (rI CMul fun i j => .int (i * j)) gMul := by
  intro O ρ σ H x y dx dy s Q S hx hy g q
  unfold gMul at g
  split at g
  · split at g
    · rename_i hc
      cases g
      exact ⟨_, _, hx.int, hy.int, hc, res_val S (.int _) q⟩
    · cases g
  · cases g
/-! ### ==, !=, in, not in -/
def gEq (a b : D) : Option Slt := if min a.depth b.depth ≤ 64 then some (.val (.bool (PyData.eqv a b))) else none
def gNe (a b : D) : Option Slt := if min a.depth b.depth ≤ 64 then some (.val (.bool (!PyData.eqv a b))) else none
def rEqR (K : PySem.W.Frag) : R2 := fun x y H Q => ∃ d e, L2.Dp K H x d ∧ L2.Dp K H y e ∧ d.canLay0 = true ∧ e.canLay0 = true ∧ min d.depth e.depth ≤ 64 ∧ Q (.bl (PyData.eqv d e)) H
def rNeR (K : PySem.W.Frag) : R2 := fun x y H Q => ∃ d e, L2.Dp K H x d ∧ L2.Dp K H y e ∧ d.canLay0 = true ∧ e.canLay0 = true ∧ min d.depth e.depth ≤ 64 ∧ Q (.bl (!PyData.eqv d e)) H
section
variable {X : Cx}
theorem op_eqR (hu : X.A.units + 64 < cLine) : OpR X (compareOp .Eq) (rEqR X.K) := by
  intro pins s σ H x y v u Q I rx ry h
  obtain ⟨d, e, hd, he, sd, se, hm, q⟩ := h
  obtain ⟨as, r1⟩ := L2.Dp.reads I d x v hd rx
  obtain ⟨bs, r2⟩ := L2.Dp.reads I e y u he ry
  exact SeqAt.compareEq_reads r1 r2 sd se (by omega) ⟨.bl _, H, I, rfl, q⟩
theorem op_neR (hu : X.A.units + 64 < cLine) : OpR X (compareOp .NotEq) (rNeR X.K) := by
  intro pins s σ H x y v u Q I rx ry h
  obtain ⟨d, e, hd, he, sd, se, hm, q⟩ := h
  obtain ⟨as, r1⟩ := L2.Dp.reads I d x v hd rx
  obtain ⟨bs, r2⟩ := L2.Dp.reads I e y u he ry
  exact SeqAt.compareNe_reads r1 r2 sd se (by omega) ⟨.bl _, H, I, rfl, q⟩
def rInR (K : PySem.W.Frag) (neg : Bool) : R2 := fun x y H Q => ∃ d ds, L2.Dp K H x d ∧ (L2.Dp K H y (.list ds) ∨ L2.Dp K H y (.tuple ds)) ∧ d.canLay0 = true ∧ PyData.canLayAll0 ds = true ∧ min (PyData.depthAll ds) d.depth ≤ 64 ∧ Q (.bl (if neg = true then !ds.any (fun z => PyData.eqv z d) else ds.any fun z => PyData.eqv z d)) H
theorem op_inR (hu : X.A.units + 65 < cLine) : OpR X (compareOp .In) (rInR X.K false) := by
  intro pins s σ H x y v u Q I rx ry h
  obtain ⟨d, ds, hd, he, sd, se, hm, q⟩ := h
  obtain ⟨as, r1⟩ := L2.Dp.reads I d x v hd rx
  rcases he with he | he
  · obtain ⟨bs, r2⟩ := L2.Dp.reads I _ y u he ry
    exact SeqAt.in_list_reads r2 r1 se sd (by omega) ⟨.bl _, H, I, rfl, q⟩
  · obtain ⟨bs, r2⟩ := L2.Dp.reads I _ y u he ry
    exact SeqAt.in_tuple_reads r2 r1 se sd (by omega) ⟨.bl _, H, I, rfl, q⟩
theorem op_notInR (hu : X.A.units + 65 < cLine) : OpR X (compareOp .NotIn) (rInR X.K true) := by
  intro pins s σ H x y v u Q I rx ry h
  obtain ⟨d, ds, hd, he, sd, se, hm, q⟩ := h
  obtain ⟨as, r1⟩ := L2.Dp.reads I d x v hd rx
  rcases he with he | he
  · obtain ⟨bs, r2⟩ := L2.Dp.reads I _ y u he ry
    exact SeqAt.notIn_list_reads r2 r1 se sd (by omega) ⟨.bl _, H, I, rfl, q⟩
  · obtain ⟨bs, r2⟩ := L2.Dp.reads I _ y u he ry
    exact SeqAt.notIn_tuple_reads r2 r1 se sd (by omega) ⟨.bl _, H, I, rfl, q⟩
/-- one sign in a text -/
def rInS (neg : Bool) : R2 := fun x y H Q => ∃ (c : Nat) (z : Str), x = .str ⟨#[c]⟩ ∧ y = .str z ∧ Q (.bl (if neg = true then !decide (c ∈ z.cps.toList) else decide (c ∈ z.cps.toList))) H
theorem op_inS : OpR X (compareOp .In) (rInS false) := by
  intro pins s σ H x y v u Q I rx ry h
  obtain ⟨c, z, rfl, rfl, q⟩ := h
  exact op_in_sign pins s σ H _ _ v u Q I rx ry ⟨c, z, rfl, rfl, q⟩
theorem op_notInS : OpR X (compareOp .NotIn) (rInS true) := by
  intro pins s σ H x y v u Q I rx ry h
  obtain ⟨c, z, rfl, rfl, q⟩ := h
  exact op_notIn_sign pins s σ H _ _ v u Q I rx ry ⟨c, z, rfl, rfl, q⟩
end
section
variable {K : PySem.W.Frag} {T : List (Addr × Str)} {O : Addr → Bool} {H : Hp} {v : V} {d : D}
theorem RepB.l2 (h : RepB K O H v d) : L2.Dp K H v d := h.dp.l2
theorem RepB.lay (h : RepB K O H v d) : d.canLay0 = true := h.dp.lay
theorem sem_eq : Sem2 K T (rEqR K) gEq := by
  intro O ρ σ H x y dx dy s Q S hx hy g q
  unfold gEq at g
  split at g
  · rename_i hm
    cases g
    exact ⟨_, _, hx.l2, hy.l2, hx.lay, hy.lay, hm, res_val S (.bl _) q⟩
  · cases g
theorem sem_ne : Sem2 K T (rNeR K) gNe := by
  intro O ρ σ H x y dx dy s Q S hx hy g q
  unfold gNe at g
  split at g
  · rename_i hm
    cases g
    exact ⟨_, _, hx.l2, hy.l2, hx.lay, hy.lay, hm, res_val S (.bl _) q⟩
  · cases g
end
def anyEqv (d : D) (ds : List D) : Bool := ds.any fun z => PyData.eqv z d
def gIn (neg : Bool) (a b : D) : Option Slt := match b with
  | .list ds => if min (PyData.depthAll ds) a.depth ≤ 64 then some (.val (.bool (if neg = true then !anyEqv a ds else anyEqv a ds))) else none
  | .tuple ds => if min (PyData.depthAll ds) a.depth ≤ 64 then some (.val (.bool (if neg = true then !anyEqv a ds else anyEqv a ds))) else none
  | .str z => match a with
    | .str x => match x.cps.toList with
      | [c] => some (.val (.bool (if neg = true then !decide (c ∈ z.cps.toList) else decide (c ∈ z.cps.toList))))
      | _ => none
    | _ => none
  | _ => none
section
variable {K : PySem.W.Frag} {T : List (Addr × Str)}
theorem sem_in {neg : Bool} : Sem2 K T (fun x y H Q => rInR K neg x y H Q ∨ rInS neg x y H Q) (gIn neg) := by
  intro O ρ σ H x y dx dy s Q S hx hy g q
  unfold gIn at g
  split at g
  · rename_i ds
    split at g
    · rename_i hm
      cases g
      exact .inl ⟨_, ds, hx.l2, .inl hy.l2, hx.lay, by simpa [PyData.canLay0] using hy.lay, hm, res_val S (.bl _) q⟩
    · cases g
  · rename_i ds
    split at g
    · rename_i hm
      cases g
      exact .inl ⟨_, ds, hx.l2, .inr hy.l2, hx.lay, by simpa [PyData.canLay0] using hy.lay, hm, res_val S (.bl _) q⟩
    · cases g
  · split at g
    · rename_i z _ x'
      split at g
      · rename_i c hc
        cases g
        have e : x' = ⟨#[c]⟩ := by
          cases x' with
          | mk a =>
            have : a = #[c] := Array.toList_inj.mp (by simpa using hc)
            rw [this]
        refine .inr ⟨c, z, ?_, hy.str.1, res_val S (.bl _) q⟩
        rw [hx.str.1, e]
      · cases g
    · cases g
  · cases g
end
/-! ### order -/
def cmpI (f : Int → Int → Bool) (h : List Nat → List Nat → Bool) (a b : D) : Option Slt := match a, b with
  | .int i, .int j => some (.val (.bool (f i j)))
  | .str i, .str j => some (.val (.bool (h i.cps.toList j.cps.toList)))
  | _, _ => none
def rOrd (f : Int → Int → Bool) (h : List Nat → List Nat → Bool) : R2 := fun x y H Q => rI0 (fun i j => .bl (f i j)) x y H Q ∨ ∃ i j, x = .str i ∧ y = .str j ∧ Q (.bl (h i.cps.toList j.cps.toList)) H
theorem sem_ord {K : PySem.W.Frag} {T : List (Addr × Str)} {f : Int → Int → Bool} {h : List Nat → List Nat → Bool} : Sem2 K T (rOrd f h) (cmpI f h) := by
  intro O ρ σ H x y dx dy s Q S hx hy g q
  unfold cmpI at g
  split at g
  · cases g
    exact .inl ⟨_, _, hx.int, hy.int, res_val S (.bl _) q⟩
  · cases g
    exact .inr ⟨_, _, hx.str.1, hy.str.1, res_val S (.bl _) q⟩
  · cases g
def gLt := cmpI (fun i j => decide (i < j)) fun x y => decide (x < y)
def gLe := cmpI (fun i j => decide (i ≤ j)) fun x y => !decide (y < x)
def gGt := cmpI (fun i j => decide (j < i)) fun x y => decide (y < x)
def gGe := cmpI (fun i j => decide (j ≤ i)) fun x y => !decide (x < y)
section
variable {X : Cx}
theorem op_ltB : OpR X (compareOp .Lt) (rOrd (fun i j => decide (i < j)) fun x y => decide (x < y)) := op_lt.or op_lt_str
theorem op_leB : OpR X (compareOp .LtE) (rOrd (fun i j => decide (i ≤ j)) fun x y => !decide (y < x)) := op_le.or op_le_str
theorem op_gtB : OpR X (compareOp .Gt) (rOrd (fun i j => decide (j < i)) fun x y => decide (y < x)) := op_gt.or op_gt_str
theorem op_geB : OpR X (compareOp .GtE) (rOrd (fun i j => decide (j ≤ i)) fun x y => !decide (x < y)) := op_ge.or op_ge_str
end
/-! ### is None -/
def gIsN (a b : D) : Option Slt := match b with
  | .none => match a with
    | .none => some (.val (.bool true))
    | _ => some (.val (.bool false))
  | .bool c => match a with
    | .bool e => some (.val (.bool (decide (e = c))))
    | _ => none
  | _ => none
def gNotN (a b : D) : Option Slt := match b with
  | .none => match a with
    | .none => some (.val (.bool false))
    | _ => some (.val (.bool true))
  | .bool c => match a with
    | .bool e => some (.val (.bool (!decide (e = c))))
    | _ => none
  | _ => none
theorem rep_non {K : PySem.W.Frag} {O : Addr → Bool} {H : Hp} {v : V} {d : D} (h : RepB K O H v d) : v = .non ↔ d = .none := by
  constructor
  · intro e
    subst e
    rcases h with h | ⟨p, vs, ds, e, _⟩
    · cases h; rfl
    · cases e
  · intro e
    subst e
    exact h.non
def rIsA : R2 := fun x y H Q => (y = .non ∧ Q (.bl (decide (x = .non))) H) ∨ rIsB x y H Q
def rNotA : R2 := fun x y H Q => (y = .non ∧ Q (.bl (!decide (x = .non))) H) ∨ rNotB x y H Q
section
variable {K : PySem.W.Frag} {T : List (Addr × Str)}
theorem sem_is : Sem2 K T rIsA gIsN := by
  intro O ρ σ H x y dx dy s Q S hx hy g q
  unfold gIsN at g
  split at g
  · refine .inl ⟨hy.non, ?_⟩
    split at g
    · cases g
      rw [decide_eq_true ((rep_non hx).mpr rfl)]
      exact res_val S (.bl _) q
    · rename_i hn
      cases g
      rw [decide_eq_false (fun e => hn ((rep_non hx).mp e))]
      exact res_val S (.bl _) q
  · split at g
    · cases g
      exact .inr ⟨_, _, hx.bl, hy.bl, res_val S (.bl _) q⟩
    · cases g
  · cases g
theorem sem_isnot : Sem2 K T rNotA gNotN := by
  intro O ρ σ H x y dx dy s Q S hx hy g q
  unfold gNotN at g
  split at g
  · refine .inl ⟨hy.non, ?_⟩
    split at g
    · cases g
      rw [decide_eq_true ((rep_non hx).mpr rfl)]
      exact res_val S (.bl _) q
    · rename_i hn
      cases g
      rw [decide_eq_false (fun e => hn ((rep_non hx).mp e))]
      exact res_val S (.bl _) q
  · split at g
    · cases g
      exact .inr ⟨_, _, hx.bl, hy.bl, res_val S (.bl _) q⟩
    · cases g
  · cases g
end
section
variable {X : Cx}
theorem op_isA : OpR X (compareOp .Is) rIsA := op_isN.or op_isBl
theorem op_notA : OpR X (compareOp .IsNot) rNotA := op_notN.or op_notBl
end
/-! ### x[i] -/
def gIx (a b : D) : Option Slt := match a, b with
  | .list ds, .int i => match atI ds i with
    | some d => some (.val d)
    | none => none
  | .tuple ds, .int i => match atI ds i with
    | some d => some (.val d)
    | none => none
  | .str z, .int i => if z.length ≤ sizeLine then match atI z.cps.toList i with
    | some c => some (.val (.str ⟨#[c]⟩))
    | none => none
    else none
  | _, _ => none
theorem atI_some {α β : Type} {xs : List α} {ys : List β} {i : Int} {y : β} (hl : xs.length = ys.length) (h : atI ys i = some y) : ∃ j, ixN xs.length i = some j ∧ ys[j]? = some y := by
  unfold atI at h
  rw [hl]
  cases q : ixN ys.length i with
  | none => rw [q] at h; cases h
  | some j => rw [q] at h; exact ⟨j, rfl, h⟩
theorem atI_mem {α : Type} {xs : List α} {i : Int} {y : α} (h : atI xs i = some y) : y ∈ xs := by
  obtain ⟨j, _, e⟩ := atI_some rfl h
  exact List.mem_of_getElem? e
section
variable {K : PySem.W.Frag} {T : List (Addr × Str)}
theorem dps_at {H : Hp} {vs : List V} {ds : List D} {i : Int} {d : D} (h : DpAll K H vs ds) (e : atI ds i = some d) : ∃ v, atI vs i = some v ∧ Dp K H v d := by
  obtain ⟨j, h1, h2⟩ := atI_some (dps_len h) e
  obtain ⟨v, h3, h4⟩ := dps_getD h h2
  exact ⟨v, by unfold atI; rw [h1]; exact h3, h4⟩
theorem sem_ix : Sem2 K T (rIx K) gIx := by
  intro O ρ σ H x y dx dy s Q S hx hy g q
  unfold gIx at g
  split at g
  · split at g
    · rename_i d hd
      cases g
      obtain ⟨a, vs, rfl, h1, h2⟩ := hx.list
      obtain ⟨v, h3, h4⟩ := dps_at h2 hd
      exact .inl ⟨a, vs, _, v, rfl, hy.int, .inl h1, h3, res_val S h4 q⟩
    · cases g
  · split at g
    · rename_i d hd
      cases g
      obtain ⟨a, vs, rfl, h1, h2⟩ := hx.tuple
      obtain ⟨v, h3, h4⟩ := dps_at h2 hd
      exact .inr (.inl ⟨a, vs, _, v, rfl, hy.int, (Kp.mask O H).sqT h1, h3, res_val S h4 q⟩)
    · cases g
  · split at g
    · rename_i hl
      split at g
      · rename_i c hc
        cases g
        refine .inr (.inr ⟨_, _, c, hx.str.1, hy.int, hl, hc, res_val S (.str _ ?_) q⟩)
        exact strOk_sub (l := [c]) hx.str.2 fun c' h' => by
          have : c' = c := by simpa using h'
          rw [this]
          exact atI_mem hc
      · cases g
    · cases g
  · cases g
end
/-! ### x[lo:hi] -/
def cutD {α : Type} (xs : List α) (lo hi : Option Int) : List α := (xs.drop (HT.sIx xs.length 0 lo)).take (HT.sIx xs.length xs.length hi - HT.sIx xs.length 0 lo)
theorem dps_cut {K : PySem.W.Frag} {H : Hp} {vs : List V} {ds : List D} (h : DpAll K H vs ds) (lo hi : Option Int) : DpAll K H (cutV vs lo hi) (cutD ds lo hi) := by
  unfold cutV cutD
  rw [dps_len h]
  exact dps_take _ (dps_drop _ h)
def gSl (a : D) (lo hi : Option Int) : Option Slt := match a with
  | .list ds => some (.own (cutD ds lo hi))
  | .tuple ds => some (.val (.tuple (cutD ds lo hi)))
  | .str z => if z.length ≤ sizeLine then some (.val (.str ⟨(cutD z.cps.toList lo hi).toArray⟩)) else none
  | _ => none
end Pv

/-! Fw9: slices, built-ins by name, what is walked. -/
namespace Pv
open PySem PySem.Spec PyProof.Rows L2

/-! ### slices -/
def iO : Option Cd → Rho → Option (Option Int × Rho)
  | none, ρ => some (none, ρ)
  | some c, ρ => match aE c ρ with
    | some (a, ρ1) => match argD ρ1 a with
      | some (.int i) => some (some i, ρ1)
      | _ => none
    | none => none
def opu : Option Cd → Bool
  | none => true
  | some c => c.pu
def tIO (K : PySem.W.Frag) (T : List (Addr × Str)) (c : Option Cd) : TO := fun σ H Q => ∃ O ρ i ρ', SOk K T O ρ σ H ∧ iO c ρ = some (i, ρ') ∧
  ∀ O' H', SOk K T O' ρ' σ H' → Tr O ρ σ H O' ρ' σ H' → (opu c = true → Kp H H') → Q i H'
theorem po_imp {X : Cx} {e : Option Expr} {t t' : TO} (h : PO X e t) (i : ∀ σ H Q, t' σ H Q → t σ H Q) : PO X e t' := ⟨fun pins s σ H Q I q => h.run pins s σ H Q I (i σ H Q q)⟩
inductive ESo (X : Cx) (T : List (Addr × Str)) : Option Expr → Option Cd → Prop
  | none : ESo X T none none
  | some {e : Expr} {c : Cd} : ES X T e c → ESo X T (some e) (some c)
theorem ESo.po {X : Cx} {T : List (Addr × Str)} {e : Option Expr} {c : Option Cd} (h : ESo X T e c) : PO X e (tIO X.K T c) := by
  cases h with
  | none =>
    refine po_imp po_none fun σ H Q q => ?_
    obtain ⟨O, ρ, i, ρ', S, e, q⟩ := q
    cases e
    exact q O H S Tr.refl fun _ => Kp.refl H
  | some h =>
    refine po_imp (po_some h.o) fun σ H Q q => ?_
    obtain ⟨O, ρ, i, ρ', S, e, q⟩ := q
    simp only [iO] at e
    split at e
    · rename_i a ρ1 e1
      split at e
      · rename_i j e2
        cases e
        exact seq1 S e1 fun v O1 H1 S1 t1 p1 a1 => ⟨j, (a1.rep S1 e2).int, q O1 H1 S1 t1 p1⟩
      · cases e
    · cases e
def eSl (a : Cd) (lo hi : Option Cd) : RF := fun ρ => match aE a ρ with
  | some (x, ρ1) => match iO lo ρ1 with
    | some (l, ρ2) => match iO hi ρ2 with
      | some (u, ρ3) => match argD ρ3 x with
        | some d => match gSl d l u with
          | some s => some (s, ρ3)
          | none => none
        | none => none
      | none => none
    | none => none
  | none => none
/-- t[lo:hi], the new one without attributes -/
def rSlP (K : PySem.W.Frag) : V → Option Int → Option Int → Hp → VK → Prop := fun x lo hi H Q => ∃ a xs, x = .ref a ∧ SqT K H a xs ∧
  (HT.sIx xs.length 0 lo = 0 ∧ HT.sIx xs.length xs.length hi = xs.length → Q (.ref a) H) ∧ (¬ (HT.sIx xs.length 0 lo = 0 ∧ HT.sIx xs.length xs.length hi = xs.length) → NewT H (cutV xs lo hi) Q)
theorem sl_tupP {X : Cx} : SlR X (rSlP X.K) := by
  intro pins s σ H x v vl vu lo hi sl Q I rx hs pl pu h
  obtain ⟨a, xs, rfl, hx, q1, q2⟩ := h
  cases rx
  obtain ⟨its, r, ht, hz⟩ := I.tuple hx
  have hlen : its.toArray.size = xs.length := by rw [List.size_toArray]; exact r.length.symm
  refine ⟨"tuple", _, PyProof.Rows.slot_tuple_getitem.lookup, ht.typeIs, ?_⟩
  by_cases hw : HT.sIx xs.length 0 lo = 0 ∧ HT.sIx xs.length xs.length hi = xs.length
  · exact getItem_tuple_whole ht hs pl pu (by rw [hlen]; exact hw) ⟨.ref a, H, I, rfl, q1 hw⟩
  · refine HT.getItem_tuple_cut ht hs pl pu (by rw [hlen]; exact hw) ?_ (by rw [hlen]; exact hz)
    rw [hlen]
    exact ⟨.ref _, _, laidT (t' := s.toks) I ((r.drop (HT.sIx xs.length 0 lo)).take (HT.sIx xs.length xs.length hi - HT.sIx xs.length 0 lo)) (Nat.le_trans (cutV_length xs lo hi) hz), rfl, q2 hw _ _ (I.hok.fresh (Nat.le_refl _)) rfl⟩
def rSl3 (K : PySem.W.Frag) : V → Option Int → Option Int → Hp → VK → Prop := fun x lo hi H Q => rSlL K x lo hi H Q ∨ (rSlP K x lo hi H Q ∨ rSlS x lo hi H Q)
theorem sl_all {X : Cx} : SlR X (rSl3 X.K) := sl_list.or (sl_tupP.or sl_str)
theorem cut_whole {α : Type} {xs : List α} {lo hi : Option Int} (h : HT.sIx xs.length 0 lo = 0 ∧ HT.sIx xs.length xs.length hi = xs.length) : cutD xs lo hi = xs := by
  unfold cutD
  rw [h.1, h.2]
  simp
theorem sem_sl {K : PySem.W.Frag} {T : List (Addr × Str)} {O : Addr → Bool} {ρ : Rho} {σ : L2.St} {H : Hp} {x : V} {d : D} {lo hi : Option Int} {s : Slt} {Q : VK} (S : SOk K T O ρ σ H) (hx : RepB K O H x d) (g : gSl d lo hi = some s)
    (q : ∀ v O' H', SOk K T O' ρ σ H' → Tr O ρ σ H O' ρ σ H' → Kp H H' → ResV K O' H' ρ σ H v s → Q v H') : rSl3 K x lo hi H Q := by
  unfold gSl at g
  split at g
  · cases g
    obtain ⟨a, vs, rfl, h1, h2⟩ := hx.list
    exact .inl ⟨a, vs, rfl, .inl h1, fun p np => res_list S (dps_cut h2 lo hi) np q⟩
  · cases g
    obtain ⟨a, vs, rfl, h1, h2⟩ := hx.tupleP
    refine .inr (.inl ⟨a, vs, rfl, (Kp.mask O H).sqT h1.sqT, fun e => ?_, fun _ => res_tup S (dps_cut h2 lo hi) q⟩)
    rw [dps_len h2] at e
    rw [cut_whole e] at q
    exact res_val S (.tup h1 h2) q
  · split at g
    · rename_i z hl
      cases g
      refine .inr (.inr ⟨z, hx.str.1, hl, ?_⟩)
      have e : cutS z lo hi = ⟨(cutD z.cps.toList lo hi).toArray⟩ := by
        unfold cutS cutD
        rw [Array.length_toList]
        rfl
      rw [e]
      refine res_val S (.str _ (strOk_sub hx.str.2 fun c hc => ?_)) q
      unfold cutD at hc
      exact List.mem_of_mem_drop (List.mem_of_mem_take hc)
    · cases g
  · cases g
section
variable {X : Cx} {T : List (Addr × Str)}
theorem es_sl {e : Expr} {lo hi : Option Expr} {a : Cd} {cl ch : Option Cd} {pos p2 : Pos} (ha : ES X T e a) (hl : ESo X T lo cl) (hh : ESo X T hi ch) : PE X (.Subscript e (.Slice lo hi none p2) pos) (tE X.K T (a.pu && (opu cl && opu ch)) (eSl a cl ch)) := by
  refine pe_imp (pe_slice sl_all ha.o hl.po hh.po) fun σ H Q q => ?_
  obtain ⟨O, ρ, s, ρ', S, e, q⟩ := q
  unfold eSl at e
  split at e
  · rename_i x ρ1 e1
    split at e
    · rename_i l ρ2 e2
      split at e
      · rename_i u ρ3 e3
        split at e
        · rename_i d e4
          split at e
          · rename_i s' e5
            cases e
            refine seq1 S e1 fun v O1 H1 S1 t1 p1 a1 => ⟨O1, ρ1, l, ρ2, S1, e2, fun O2 H2 S2 t2 p2 => ⟨O2, ρ2, u, _, S2, e3, fun O3 H3 S3 t3 p3 => ?_⟩⟩
            have t13 := (t1.trans S.cov' t2).trans S.cov' t3
            refine sem_sl S3 (((a1.mono t2).mono t3).rep S3 e4) e5 fun w O4 H4 S4 t4 k4 r4 => q w O4 H4 S4 (t13.trans S.cov' t4) (fun p => ?_) (r4.back t13)
            rw [Bool.and_eq_true, Bool.and_eq_true] at p
            exact (((p1 p.1).trans (p2 p.2.1)).trans (p3 p.2.2)).trans k4
          · cases e
        · cases e
      · cases e
    · cases e
  · cases e
end
/-! ### t[::-1] of a tuple -/
section
variable {prog : Program} {w : World} {A : Around} {E : Value → Shared → Prop} {s : Shared}
theorem fmap_all {α β : Type} {f : α → Option β} {g : α → β} : ∀ {l : List α}, (∀ x ∈ l, f x = some (g x)) → l.filterMap f = l.map g
  | [], _ => rfl
  | x :: l, h => by rw [List.filterMap_cons_some (h x (by simp)), fmap_all fun y hy => h y (by simp [hy])]; rfl
theorem rev_pick (xs : Array Value) : ((List.range xs.size).filterMap fun (m : Nat) => xs[((xs.size : Int) - 1 + (m : Int) * (-1)).toNat]?).toArray = xs.toList.reverse.toArray := by
  congr 1
  rw [fmap_all (g := fun m => (xs.toList.reverse[m]?).getD .none) fun m hm => ?_]
  · refine List.ext_getElem (by simp) fun i h1 h2 => ?_
    rw [List.getElem_map, List.getElem_range, List.getElem?_eq_getElem h2]
    rfl
  · rw [List.mem_range] at hm
    have e : ((xs.size : Int) - 1 + (m : Int) * (-1)).toNat = xs.size - 1 - m := by omega
    have hl : xs.toList.length = xs.size := Array.length_toList
    have h2 : m < xs.toList.reverse.length := by rw [List.length_reverse, hl]; exact hm
    rw [e, List.getElem?_eq_getElem h2, List.getElem_reverse]
    rw [← Array.getElem?_toList, List.getElem?_eq_getElem (by omega)]
    simp only [hl, Option.getD_some]
theorem sliceApplied_rev {sl : Addr} {vs : Value} {n : Nat} {Q : Int × Int × Nat → Shared → Prop} (hs : s.heap.IsSliceOf sl .none .none vs) (ps : IsPart vs (some (-1)))
    (h : Q ((n : Int) - 1, -1, n) s) : wpAny (model prog w) A (Builtin.Slice.sliceApplied (.ref sl) (pure (n : Int))) Q E s := by
  obtain ⟨os, hos, hcs, hds⟩ := id hs
  unfold Builtin.Slice.sliceApplied Builtin.Slice.sliceFields
  refine wpAny_bind (wpAny_bind (wpAny_field hos hds (x := .none) rfl (wpAny_bind (wpAny_field hos hds (x := .none) rfl (wpAny_bind (wpAny_field hos hds (x := vs) rfl (wpAny_pure ?_)))))))
  refine wpAny_bind (HT.slicePart_ ps ?_)
  show wpAny _ _ (if ((-1 : Int) == 0) = true then _ else _) _ _ s
  rw [if_neg (by decide)]
  refine wpAny_bind (slicePart_none (wpAny_bind (slicePart_none (wpAny_bind (wpAny_pure ?_)))))
  have e1 : Builtin.Slice.sliceAdjust none none (-1) (n : Int) = ((n : Int) - 1, -1) := by
    unfold Builtin.Slice.sliceAdjust
    simp
  have e2 : Builtin.Slice.slicePlaces ((n : Int) - 1) (-1) (-1) = n := by
    unfold Builtin.Slice.slicePlaces
    rw [if_neg (by omega)]
    have : (- -1 : Int) = 1 := by decide
    rw [this, Int.ediv_one]
    split <;> omega
  show wpAny _ _ (match Builtin.Slice.sliceAdjust none none (-1) (n : Int) with | (lo, hi) => pure (lo, (-1 : Int), Builtin.Slice.slicePlaces lo hi (-1))) _ _ s
  rw [e1]
  show wpAny _ _ (pure ((n : Int) - 1, (-1 : Int), Builtin.Slice.slicePlaces ((n : Int) - 1) (-1) (-1))) _ _ s
  rw [e2]
  exact wpAny_pure h
theorem getItem_tuple_rev {t sl : Addr} {items : Array Value} {vs : Value} {Q : Value → Shared → Prop} (ht : IsTup s.heap t items) (hs : s.heap.IsSliceOf sl .none .none vs) (ps : IsPart vs (some (-1)))
    (h : Q (.ref s.heap.objs.size) { s with heap := s.heap.push { cls := .type "tuple", data := .seq items.toList.reverse.toArray } })
    (hsz : items.size ≤ sizeLine) : wpAny (model prog w) A (getItem (.ref t) (.ref sl)) Q E s := by
  have htake : sizeOk (.seq items.toList.reverse.toArray) := by
    show items.toList.reverse.toArray.size ≤ sizeLine
    rw [List.size_toArray, List.length_reverse, Array.length_toList]
    exact hsz
  obtain ⟨os, hos, hcs, hds⟩ := id hs
  have hTs : s.TypeIs (.ref sl) "slice" := ⟨os, hos, hcs⟩
  unfold getItem
  try with_reducible refine wpAny_holding ?_
  first | refine wpAny_bind (wpAny_pure ?_) | skip
  refine wpAny_bind (wpAny_sequenceKey ht.typeIs (by decide) ?_)
  refine wpAny_bind (wpAny_callSpecial?_slot (name := Str.ofString "__getitem__") ht.typeIs PyProof.Rows.slot_tuple_getitem
    (wpAny_call_entry PyProof.Rows.slot_tuple_getitem ht.typeIs entry_tuple_getitem ?_ (args_tuple_getitem _ _)))
  show wpAny _ _ (Builtin.Tuple.tupleItemsOf (.ref t) >>= _) _ _ s
  refine wpAny_bind (tupleItemsOf_ ht ?_)
  refine wpAny_bind (wpAny_typeOf hTs ?_)
  rw [if_pos (by decide)]
  refine wpAny_bind (sliceApplied_rev hs ps ?_)
  have hno : ¬ ((((items.size : Int) - 1) == 0 && (-1 : Int) == 1 && items.size == items.size) = true) := by simp
  show wpAny _ _ (if (((items.size : Int) - 1) == 0 && (-1 : Int) == 1 && items.size == items.size) = true then _ else _) _ _ s
  rw [if_neg hno, rev_pick]
  first
    | exact wpAny_bind (m := Builtin.Tuple.tupleExact _) (wpAny_newObj_type (wpAny_pure ⟨_, rfl, wpAny_pure h⟩) htake)
    | exact wpAny_bind (m := Builtin.Tuple.tupleExact _) (wpAny_newObj_type (wpAny_bind (wpAny_pure (wpAny_pure ⟨_, rfl, wpAny_pure h⟩))) htake)
    | exact wpAny_bind (wpAny_bind (m := Builtin.Tuple.tupleExact _) (wpAny_newObj_type (wpAny_pure (wpAny_pure ⟨_, rfl, wpAny_pure h⟩)) htake))
    | exact wpAny_bind (wpAny_bind (m := Builtin.Tuple.tupleExact _) (wpAny_newObj_type (wpAny_pure ⟨_, rfl, wpAny_pure h⟩) htake))
end
section
variable {X : Cx} {T : List (Addr × Str)}
def rRev (K : PySem.W.Frag) : V → Hp → VK → Prop := fun x H1 Q => (∃ a xs, x = .ref a ∧ SqL K H1 a xs ∧ ∀ p, H1 p = none → Q (.ref p) (upd H1 p (.lst xs.reverse))) ∨ (∃ a xs, x = .ref a ∧ SqT K H1 a xs ∧ NewT H1 xs.reverse Q)
theorem pe_rev2 {e : Expr} {te : TE} {k : Nat} {p1 p2 p3 pos : Pos} (he : PE X e te) : PE X (.Subscript e (.Slice none none (some (.UnaryOp .USub (.Constant (.int 1) k p1) p2)) p3) pos) (fun σ H Q => te σ H fun x H1 => rRev X.K x H1 Q) := by
  refine ⟨fun pins s σ H Q I h => ?_⟩
  refine Subscript_ (thn (he.run pins s σ H _ I h) fun v s1 ⟨x, H1, I1, r1, q1⟩ => ?_)
  have hst : PO X (some (.UnaryOp .USub (.Constant (.int 1) k p1) p2)) (tPart (tUn (rU fun i => .int (-i)) (tC (.int 1)))) := po_some (pe_un un_neg pe_int)
  refine wpAny_Slice (thn (po_none.run pins s1 σ H1 (fun o H2 => o = none ∧ H2 = H1) I1 ⟨rfl, rfl⟩) fun vl s2 ⟨l, H2, I2, pl, el, e2⟩ => ?_)
  subst el e2
  refine thn (po_none.run pins s2 σ H2 (fun o H3 => o = none ∧ H3 = H2) I2 ⟨rfl, rfl⟩) fun vu s3 ⟨u, H3, I3, pu, eu, e3⟩ => ?_
  subst eu e3
  refine thn (hst.run pins s3 σ H3 (fun o H4 => o = some (-1) ∧ H4 = H3) I3 ⟨1, rfl, -1, rfl, rfl, rfl⟩) fun vs s4 ⟨o, H4, I4, ps, eo, e4⟩ => ?_
  subst eo e4
  cases pl
  cases pu
  have I5 : Inv X pins σ H4 { s4 with heap := s4.heap.push { cls := .type "slice", data := .fields #[.none, .none, vs] } } := I4.kept (t' := s4.toks) fun b ob q => Heap.get?_push_of_some _ q
  rcases q1 with ⟨a, xs, ex, hx, q⟩ | ⟨a, xs, ex, hx, q⟩
  · subst ex
    cases r1
    obtain ⟨its, r, ht, hz⟩ := I5.list hx
    have hlen := r.length
    show wpAny (model X.prog X.w) X.A (subscriptTail e (.Slice none none (some (.UnaryOp .USub (.Constant (.int 1) k p1) p2)) p3) (.ref a) (.ref s4.heap.objs.size)) (EP X pins σ Q) X.xe { s4 with heap := s4.heap.push { cls := .type "slice", data := .fields #[.none, .none, vs] } }
    refine tail_any (ops := [.ref a, .ref s4.heap.objs.size]) ht.isList.typeIs (PySem.slot_list_getitem.lookup) ?_ (by with_unfolding_all rfl)
    refine wpAny_getItem_list_slice ht.isList (Heap.IsSliceOf.new _ .none .none vs) .none .none ps (by decide) ?_ (by rw [List.size_toArray]; omega)
    rw [PySem.W.krv_pick]
    refine ⟨.ref _, _, I5.laid (t' := s4.toks) (o := .lst xs.reverse) (fun b ob q => Heap.get?_push_of_some _ q) (Nat.le_refl _) ?_, rfl, q _ (I5.hok.fresh (Nat.le_refl _))⟩
    exact ⟨by rw [List.length_reverse]; exact hz, _, 0, r.reverse, Heap.get?_push_size _ rfl⟩
  · subst ex
    cases r1
    obtain ⟨its, r, ht, hz⟩ := I5.tuple hx
    have hlen := r.length
    show wpAny (model X.prog X.w) X.A (subscriptTail e (.Slice none none (some (.UnaryOp .USub (.Constant (.int 1) k p1) p2)) p3) (.ref a) (.ref s4.heap.objs.size)) (EP X pins σ Q) X.xe { s4 with heap := s4.heap.push { cls := .type "slice", data := .fields #[.none, .none, vs] } }
    refine tail_any (ops := [.ref a, .ref s4.heap.objs.size]) ht.typeIs PyProof.Rows.slot_tuple_getitem.lookup ?_ (by with_unfolding_all rfl)
    refine getItem_tuple_rev ht (Heap.IsSliceOf.new _ .none .none vs) ps ?_ (by rw [List.size_toArray]; omega)
    exact ⟨.ref _, _, laidT (t' := s4.toks) I5 r.reverse (by rw [List.length_reverse]; exact hz), rfl, q _ _ (I5.hok.fresh (Nat.le_refl _)) rfl⟩
/-- x[::-1] of a list or a tuple -/
def gRev (d : D) : Option Slt := match d with
  | .list ds => some (.own ds.reverse)
  | .tuple ds => some (.val (.tuple ds.reverse))
  | _ => none
theorem es_rev {e : Expr} {a : Cd} {k : Nat} {p1 p2 p3 pos : Pos} (ha : ES X T e a) : PE X (.Subscript e (.Slice none none (some (.UnaryOp .USub (.Constant (.int 1) k p1) p2)) p3) pos) (tE X.K T a.pu (eOp1 gRev a)) := by
  refine pe_imp (pe_rev2 ha.o) fun σ H Q q => ?_
  refine tOp1 (r := rRev X.K) ?_ q
  intro O ρ σ H x dx s Q S hx g q
  unfold gRev at g
  split at g
  · cases g
    obtain ⟨b, vs, rfl, h1, h2⟩ := hx.list
    exact .inl ⟨b, vs, rfl, .inl h1, fun p np => res_list S (dps_rev h2) np q⟩
  · cases g
    obtain ⟨b, vs, rfl, h1, h2⟩ := hx.tuple
    exact .inr ⟨b, vs, rfl, (Kp.mask O H).sqT h1, res_tup S (dps_rev h2) q⟩
  · cases g
end

/-! ### built-ins by name -/
def gLen (ds : List D) : Option Slt := match ds with
  | [.list xs] => some (.val (.int xs.length))
  | [.tuple xs] => some (.val (.int xs.length))
  | [.str z] => if z.length ≤ sizeLine then some (.val (.int z.length)) else none
  | _ => none
def gInt (ds : List D) : Option Slt := match ds with
  | [.int i] => some (.val (.int i))
  | [.bool b] => some (.val (.int (if b then 1 else 0)))
  | [.str z] => if z.length ≤ 640 then match PySem.intText? z with | some n => some (.val (.int n)) | none => none else none
  | _ => none
def gStr (ds : List D) : Option Slt := match ds with
  | [.int i] => if i.natAbs.log2 < 1920 then some (.val (.str (toString i))) else none
  | _ => none
def gList (ds : List D) : Option Slt := match ds with
  | [.list xs] => some (.own xs)
  | [.tuple xs] => some (.own xs)
  | _ => none
def gTuple (ds : List D) : Option Slt := match ds with
  | [.list xs] => some (.val (.tuple xs))
  | [.tuple xs] => some (.val (.tuple xs))
  | _ => none
def boolsOf : List D → Option (List Bool)
  | [] => some []
  | .bool b :: ds => (boolsOf ds).map (b :: ·)
  | _ :: _ => none
def intsOf : List D → Option (List Int)
  | [] => some []
  | .int b :: ds => (intsOf ds).map (b :: ·)
  | _ :: _ => none
def strsOf : List D → Option (List Str)
  | [] => some []
  | .str b :: ds => (strsOf ds).map (b :: ·)
  | _ :: _ => none
def gAny (ds : List D) : Option Slt := match ds with
  | [.list xs] => (boolsOf xs).map fun bs => .val (.bool (bs.any id))
  | _ => none
def gAll (ds : List D) : Option Slt := match ds with
  | [.list xs] => (boolsOf xs).map fun bs => .val (.bool (bs.all id))
  | _ => none
def gSum (ds : List D) : Option Slt := match ds with
  | [.list xs] => (intsOf xs).map fun ns => .val (.int ns.sum)
  | _ => none
def maxL : List Int → Int
  | [] => 0
  | [x] => x
  | x :: y :: r => max x (maxL (y :: r))
def minL : List Int → Int
  | [] => 0
  | [x] => x
  | x :: y :: r => min x (minL (y :: r))
def gMax (ds : List D) : Option Slt := match ds with
  | [.list xs] => match intsOf xs with
    | some ns => if 0 < ns.length then some (.val (.int (maxL ns))) else none
    | none => none
  | [.int i, .int j] => some (.val (.int (if j > i then j else i)))
  | _ => none
def gMin (ds : List D) : Option Slt := match ds with
  | [.list xs] => match intsOf xs with
    | some ns => if 0 < ns.length then some (.val (.int (minL ns))) else none
    | none => none
  | [.int i, .int j] => some (.val (.int (if j < i then j else i)))
  | _ => none
section
variable {K : PySem.W.Frag} {T : List (Addr × Str)} {O : Addr → Bool} {H : Hp}
theorem reps1 {vs : List V} {d : D} (h : RepBs K O H vs [d]) : ∃ v, vs = [v] ∧ RepB K O H v d := by
  cases h with
  | cons h t => cases t; exact ⟨_, rfl, h⟩
theorem reps2 {vs : List V} {d e : D} (h : RepBs K O H vs [d, e]) : ∃ v w, vs = [v, w] ∧ RepB K O H v d ∧ RepB K O H w e := by
  cases h with
  | cons h t => cases t with
    | cons h2 t2 => cases t2; exact ⟨_, _, rfl, h, h2⟩
theorem bools_vs {B : Hp} : ∀ {vs : List V} {ds : List D} {bs : List Bool}, DpAll K B vs ds → boolsOf ds = some bs → vs = bs.map V.bl
  | _, _, _, .nil, e => by cases e; rfl
  | _, _, bs, .cons (d := d) h t, e => by
    cases h with
    | bl b =>
      simp only [boolsOf, Option.map_eq_some_iff] at e
      obtain ⟨bs', e1, rfl⟩ := e
      rw [bools_vs t e1]
      rfl
    | _ => cases e
theorem ints_vs {B : Hp} : ∀ {vs : List V} {ds : List D} {bs : List Int}, DpAll K B vs ds → intsOf ds = some bs → vs = bs.map V.int
  | _, _, _, .nil, e => by cases e; rfl
  | _, _, bs, .cons (d := d) h t, e => by
    cases h with
    | int b =>
      simp only [intsOf, Option.map_eq_some_iff] at e
      obtain ⟨bs', e1, rfl⟩ := e
      rw [ints_vs t e1]
      rfl
    | _ => cases e
theorem strs_vs {B : Hp} : ∀ {vs : List V} {ds : List D} {bs : List Str}, DpAll K B vs ds → strsOf ds = some bs → vs = bs.map V.str ∧ ∀ z ∈ bs, PyData.strOk z = true
  | _, _, _, .nil, e => by cases e; exact ⟨rfl, fun z hz => by cases hz⟩
  | _, _, bs, .cons (d := d) h t, e => by
    cases h with
    | str b hb =>
      simp only [strsOf, Option.map_eq_some_iff] at e
      obtain ⟨bs', e1, rfl⟩ := e
      obtain ⟨h1, h2⟩ := strs_vs t e1
      rw [h1]
      exact ⟨rfl, fun z hz => by
        rcases List.mem_cons.mp hz with e | hz
        · rw [e]; exact hb
        · exact h2 z hz⟩
    | _ => cases e
theorem sem_len : SemN K T (fun xs H Q => ∃ x n, xs = [x] ∧ LenV K x H n ∧ Q (.int n) H) gLen := by
  intro O ρ σ H xs ds s Q S hr g q
  unfold gLen at g
  split at g
  · cases g
    obtain ⟨v, rfl, h⟩ := reps1 hr
    obtain ⟨a, vs, rfl, h1, h2⟩ := h.list
    exact ⟨_, _, rfl, .inl ⟨vs, .inl h1, (dps_len h2).symm⟩, res_val S (.int _) q⟩
  · cases g
    obtain ⟨v, rfl, h⟩ := reps1 hr
    obtain ⟨a, vs, rfl, h1, h2⟩ := h.tuple
    exact ⟨_, _, rfl, .inr ⟨vs, (Kp.mask O H).sqT h1, (dps_len h2).symm⟩, res_val S (.int _) q⟩
  · split at g
    · rename_i hl
      cases g
      obtain ⟨v, rfl, h⟩ := reps1 hr
      rw [h.str.1]
      exact ⟨_, _, rfl, ⟨hl, rfl⟩, res_val S (.int _) q⟩
    · cases g
  · cases g
theorem sem_int : SemN K T (fun xs H Q => ((∃ i, xs = [V.int i] ∧ Q (.int i) H) ∨ ∃ k, xs = [V.bl k] ∧ Q (.int (if k then 1 else 0)) H) ∨ ∃ a n, xs = [V.str a] ∧ PySem.intText? a = some n ∧ a.length ≤ 640 ∧ Q (.int n) H) gInt := by
  intro O ρ σ H xs ds s Q S hr g q
  unfold gInt at g
  split at g
  · cases g
    obtain ⟨v, rfl, h⟩ := reps1 hr
    exact .inl (.inl ⟨_, by rw [h.int], res_val S (.int _) q⟩)
  · cases g
    obtain ⟨v, rfl, h⟩ := reps1 hr
    exact .inl (.inr ⟨_, by rw [h.bl], res_val S (.int _) q⟩)
  · split at g
    · rename_i hl
      split at g
      · rename_i n hn
        cases g
        obtain ⟨v, rfl, h⟩ := reps1 hr
        exact .inr ⟨_, _, by rw [h.str.1], hn, hl, res_val S (.int _) q⟩
      · cases g
    · cases g
  · cases g
theorem strOk_str (i : Int) : PyData.strOk (Str.ofString (toString i)) = true := by
  rw [strOk_iff, Str.ofString_eq_toList]
  intro c hc
  have hc : c ∈ (toString i).toList.map Char.toNat := by simpa using hc
  obtain ⟨ch, _, rfl⟩ := List.mem_map.mp hc
  have h := ch.valid
  have e : ch.toNat = ch.val.toNat := rfl
  rw [e]
  simp only [UInt32.isValidChar, Nat.isValidChar] at h
  omega
theorem sem_str : SemN K T (fun xs H Q => ∃ i : Int, xs = [.int i] ∧ i.natAbs.log2 < 1920 ∧ Q (.str (toString i)) H) gStr := by
  intro O ρ σ H xs ds s Q S hr g q
  unfold gStr at g
  split at g
  · split at g
    · rename_i hl
      cases g
      obtain ⟨v, rfl, h⟩ := reps1 hr
      exact ⟨_, by rw [h.int], hl, res_val S (.str _ (strOk_str _)) q⟩
    · cases g
  · cases g
theorem sem_list : SemN K T (fun xs H Q => ∃ p ys, xs = [V.ref p] ∧ (SqL K H p ys ∨ SqT K H p ys) ∧ ∀ l, H l = none → Q (.ref l) (upd H l (.lst ys))) gList := by
  intro O ρ σ H xs ds s Q S hr g q
  unfold gList at g
  split at g
  · cases g
    obtain ⟨v, rfl, h⟩ := reps1 hr
    obtain ⟨a, vs, rfl, h1, h2⟩ := h.list
    exact ⟨a, vs, rfl, .inl (.inl h1), fun l nl => res_list S h2 nl q⟩
  · cases g
    obtain ⟨v, rfl, h⟩ := reps1 hr
    obtain ⟨a, vs, rfl, h1, h2⟩ := h.tuple
    exact ⟨a, vs, rfl, .inr ((Kp.mask O H).sqT h1), fun l nl => res_list S h2 nl q⟩
  · cases g
theorem call_tupleP {X : Cx} : CallR X (.type "tuple") (fun xs H Q => ∃ p ys, xs = [V.ref p] ∧ ((SqL X.K H p ys ∧ NewT H ys Q) ∨ (SqT X.K H p ys ∧ Q (.ref p) H))) := by
  intro pins s σ H xs us Q I r h
  obtain ⟨p, ys, rfl, h⟩ := h
  obtain ⟨u, rfl, rx⟩ := vals1 r
  cases rx
  rcases h with ⟨hq, q⟩ | ⟨hq, q⟩
  · obtain ⟨its, r', pl, hz⟩ := I.list hq
    have hlen := r'.length
    refine call_tuple_list pl.isList (fun h' kp => ?_) (by rw [List.size_toArray]; omega)
    have I1 : Inv X pins σ H { s with heap := h' } := I.kept (t' := s.toks) kp
    exact ⟨.ref _, _, laidT (t' := s.toks) I1 r' hz, rfl, q _ _ (I1.hok.fresh (Nat.le_refl _)) rfl⟩
  · obtain ⟨its, r', pl, hz⟩ := I.tuple hq
    exact call_tuple_same pl ⟨.ref p, H, I, rfl, q⟩
theorem sem_tuple : SemN K T (fun xs H Q => ∃ p ys, xs = [V.ref p] ∧ ((SqL K H p ys ∧ NewT H ys Q) ∨ (SqT K H p ys ∧ Q (.ref p) H))) gTuple := by
  intro O ρ σ H xs ds s Q S hr g q
  unfold gTuple at g
  split at g
  · cases g
    obtain ⟨v, rfl, h⟩ := reps1 hr
    obtain ⟨a, vs, rfl, h1, h2⟩ := h.list
    exact ⟨a, vs, rfl, .inl ⟨.inl h1, res_tup S h2 q⟩⟩
  · cases g
    obtain ⟨v, rfl, h⟩ := reps1 hr
    obtain ⟨a, vs, rfl, h1, h2⟩ := h.tupleP
    exact ⟨a, vs, rfl, .inr ⟨(Kp.mask O H).sqT h1.sqT, res_val S (.tup h1 h2) q⟩⟩
  · cases g
theorem sem_any : SemN K T (rAny K) gAny := by
  intro O ρ σ H xs ds s Q S hr g q
  unfold gAny at g
  split at g
  · simp only [Option.map_eq_some_iff] at g
    obtain ⟨bs, e1, rfl⟩ := g
    obtain ⟨v, rfl, h⟩ := reps1 hr
    obtain ⟨a, vs, rfl, h1, h2⟩ := h.list
    exact ⟨a, bs, rfl, by rw [← bools_vs h2 e1]; exact .inl h1, res_val S (.bl _) q⟩
  · cases g
theorem sem_all : SemN K T (rAll K) gAll := by
  intro O ρ σ H xs ds s Q S hr g q
  unfold gAll at g
  split at g
  · simp only [Option.map_eq_some_iff] at g
    obtain ⟨bs, e1, rfl⟩ := g
    obtain ⟨v, rfl, h⟩ := reps1 hr
    obtain ⟨a, vs, rfl, h1, h2⟩ := h.list
    exact ⟨a, bs, rfl, by rw [← bools_vs h2 e1]; exact .inl h1, res_val S (.bl _) q⟩
  · cases g
theorem sem_sum : SemN K T (rSum K) gSum := by
  intro O ρ σ H xs ds s Q S hr g q
  unfold gSum at g
  split at g
  · simp only [Option.map_eq_some_iff] at g
    obtain ⟨bs, e1, rfl⟩ := g
    obtain ⟨v, rfl, h⟩ := reps1 hr
    obtain ⟨a, vs, rfl, h1, h2⟩ := h.list
    exact ⟨a, bs, rfl, by rw [← ints_vs h2 e1]; exact .inl h1, res_val S (.int _) q⟩
  · cases g
theorem maxL_is : ∀ {ns : List Int}, 0 < ns.length → maxL ns ∈ ns ∧ ∀ y ∈ ns, y ≤ maxL ns
  | [x], _ => ⟨by simp [maxL], fun y hy => by simp at hy; subst hy; exact Int.le_refl _⟩
  | x :: y :: r, _ => by
    obtain ⟨h1, h2⟩ := maxL_is (ns := y :: r) (by simp)
    unfold maxL
    refine ⟨?_, fun z hz => ?_⟩
    · rcases Int.le_total x (maxL (y :: r)) with h | h
      · rw [Int.max_eq_right h]; exact List.mem_cons_of_mem _ h1
      · rw [Int.max_eq_left h]; exact List.mem_cons_self
    · rcases List.mem_cons.mp hz with e | hz
      · rw [e]; exact Int.le_max_left _ _
      · exact Int.le_trans (h2 z hz) (Int.le_max_right _ _)
theorem minL_is : ∀ {ns : List Int}, 0 < ns.length → minL ns ∈ ns ∧ ∀ y ∈ ns, minL ns ≤ y
  | [x], _ => ⟨by simp [minL], fun y hy => by simp at hy; subst hy; exact Int.le_refl _⟩
  | x :: y :: r, _ => by
    obtain ⟨h1, h2⟩ := minL_is (ns := y :: r) (by simp)
    unfold minL
    refine ⟨?_, fun z hz => ?_⟩
    · rcases Int.le_total x (minL (y :: r)) with h | h
      · rw [Int.min_eq_left h]; exact List.mem_cons_self
      · rw [Int.min_eq_right h]; exact List.mem_cons_of_mem _ h1
    · rcases List.mem_cons.mp hz with e | hz
      · rw [e]; exact Int.min_le_left _ _
      · exact Int.le_trans (Int.min_le_right _ _) (h2 z hz)
theorem sem_max : SemN K T (fun xs H Q => rMax K xs H Q ∨ ∃ i j, xs = [V.int i, V.int j] ∧ Q (.int (if j > i then j else i)) H) gMax := by
  intro O ρ σ H xs ds s Q S hr g q
  unfold gMax at g
  split at g
  · split at g
    · rename_i ns e1
      split at g
      · rename_i hl
        cases g
        obtain ⟨v, rfl, h⟩ := reps1 hr
        obtain ⟨a, vs, rfl, h1, h2⟩ := h.list
        obtain ⟨m1, m2⟩ := maxL_is hl
        refine .inl ⟨a, ns, rfl, by rw [← ints_vs h2 e1]; exact .inl h1, hl, fun m k1 k2 => ?_⟩
        have e : m = maxL ns := Int.le_antisymm (m2 m k1) (k2 _ m1)
        rw [e]
        exact res_val S (.int _) q
      · cases g
    · cases g
  · cases g
    obtain ⟨v, w, rfl, h1, h2⟩ := reps2 hr
    exact .inr ⟨_, _, by rw [h1.int, h2.int], res_val S (.int _) q⟩
  · cases g
theorem sem_min : SemN K T (fun xs H Q => rMin K xs H Q ∨ ∃ i j, xs = [V.int i, V.int j] ∧ Q (.int (if j < i then j else i)) H) gMin := by
  intro O ρ σ H xs ds s Q S hr g q
  unfold gMin at g
  split at g
  · split at g
    · rename_i ns e1
      split at g
      · rename_i hl
        cases g
        obtain ⟨v, rfl, h⟩ := reps1 hr
        obtain ⟨a, vs, rfl, h1, h2⟩ := h.list
        obtain ⟨m1, m2⟩ := minL_is hl
        refine .inl ⟨a, ns, rfl, by rw [← ints_vs h2 e1]; exact .inl h1, hl, fun m k1 k2 => ?_⟩
        have e : m = minL ns := Int.le_antisymm (k2 _ m1) (m2 m k1)
        rw [e]
        exact res_val S (.int _) q
      · cases g
    · cases g
  · cases g
    obtain ⟨v, w, rfl, h1, h2⟩ := reps2 hr
    exact .inr ⟨_, _, by rw [h1.int, h2.int], res_val S (.int _) q⟩
  · cases g
end
section
variable {X : Cx} {T : List (Addr × Str)} {e : Expr} {es : List Expr} {c : Cd} {cs : List Cd} {x : Str} {p pos : Pos}
theorem es_callB {id : String} {r : List V → Hp → VK → Prop} {g : List D → Option Slt} (hc : CallR X (.builtin id) r) (hg : SemN X.K T r g) (hgl : Gl X x) (hm : X.mg x = none) (hv : bootBuiltins x = some (.builtin id)) (h : ESs X T (e :: es) cs)
    (hn : x ≠ "__name__") (hdb : (x == ("__debug__" : Str)) = false) : PE X (.Call (.Name x p) (e :: es) [] pos) (tE X.K T (cpu cs) (eOpN g cs)) := by
  have hp := h.plain
  rw [List.all_cons, Bool.and_eq_true] at hp
  exact pe_imp (pe_callB hc hgl hm hv h.pa hn hdb (plain_star hp.1) (plain_any hp.2)) fun _ _ _ q => tOpN hg q
theorem es_callTy {t : String} {r : List V → Hp → VK → Prop} {g : List D → Option Slt} (hc : CallR X (.type t) r) (hg : SemN X.K T r g) (hgl : Gl X x) (hm : X.mg x = none) (hv : bootBuiltins x = some (.type t)) (h : ESs X T (e :: es) cs)
    (hn : x ≠ "__name__") (hdb : (x == ("__debug__" : Str)) = false) : PE X (.Call (.Name x p) (e :: es) [] pos) (tE X.K T (cpu cs) (eOpN g cs)) := by
  have hp := h.plain
  rw [List.all_cons, Bool.and_eq_true] at hp
  exact pe_imp (pe_callTy hc hgl hm hv h.pa hn hdb (plain_star hp.1) (plain_any hp.2)) fun _ _ _ q => tOpN hg q
end
/-! ### isinstance -/
def tyD : D → String
  | .none => "NoneType"
  | .bool _ => "bool"
  | .int _ => "int"
  | .str _ => "str"
  | .list _ => "list"
  | .tuple _ => "tuple"
  | .dict _ => "dict"
inductive TyN where
  | str | int | bool | list | tuple
def TyN.s : TyN → String
  | .str => "str"
  | .int => "int"
  | .bool => "bool"
  | .list => "list"
  | .tuple => "tuple"
def isiD (t : TyN) (d : D) : Bool := match t, d with
  | .str, .str _ => true
  | .int, .int _ => true
  | .int, .bool _ => true
  | .bool, .bool _ => true
  | .list, .list _ => true
  | .tuple, .tuple _ => true
  | _, _ => false
def gIsi (t : TyN) (d : D) : Option Slt := some (.val (.bool (isiD t d)))
theorem kit_non : ∀ t : TyN, kitB "NoneType" t.s = some (isiD t .none) := by intro t; cases t <;> decide +kernel
theorem kit_bool : ∀ t : TyN, kitB "bool" t.s = some (isiD t (.bool true)) := by intro t; cases t <;> decide +kernel
theorem kit_int : ∀ t : TyN, kitB "int" t.s = some (isiD t (.int 0)) := by intro t; cases t <;> decide +kernel
theorem kit_str : ∀ t : TyN, kitB "str" t.s = some (isiD t (.str ⟨#[]⟩)) := by intro t; cases t <;> decide +kernel
theorem kit_list : ∀ t : TyN, kitB "list" t.s = some (isiD t (.list [])) := by intro t; cases t <;> decide +kernel
theorem kit_tuple : ∀ t : TyN, kitB "tuple" t.s = some (isiD t (.tuple [])) := by intro t; cases t <;> decide +kernel
theorem kit_is (t : TyN) (d : D) (h : ∀ k, d ≠ .dict k) : kitB (tyD d) t.s = some (isiD t d) := by
  cases d with
  | dict k => exact absurd rfl (h k)
  | none => exact kit_non t
  | bool b => exact (kit_bool t).trans (by cases t <;> rfl)
  | int b => exact (kit_int t).trans (by cases t <;> rfl)
  | str b => exact (kit_str t).trans (by cases t <;> rfl)
  | list b => exact (kit_list t).trans (by cases t <;> rfl)
  | tuple b => exact (kit_tuple t).trans (by cases t <;> rfl)
theorem rep_ty {K : PySem.W.Frag} {O : Addr → Bool} {H : Hp} {v : V} {d : D} (h : RepB K O H v d) : TyX K H v (.type (tyD d)) := by
  have h' := h.dp
  cases h' with
  | non => exact .base .non
  | bl b => exact .base (.bl b)
  | int i => exact .base (.int i)
  | str x _ => exact .base (.str x)
  | lst h1 _ =>
    rcases h1 with h1 | ⟨o, h1⟩
    · exact .base (.lst h1)
    · exact .base (.frz h1)
  | tup h1 _ =>
    rcases h1.sqT with (h1 | ⟨o, h1⟩) | ⟨o, its, n, h1, h2, _⟩
    · exact .base (.tup h1)
    · exact .fTuple h1
    · exact .kTuple h1 h2
theorem rep_nodict {K : PySem.W.Frag} {O : Addr → Bool} {H : Hp} {v : V} {d : D} (h : RepB K O H v d) (k : List (PyData × PyData)) : d ≠ .dict k := by
  intro e
  subst e
  have h' := h.dp
  cases h'
section
variable {X : Cx} {T : List (Addr × Str)} {e : Expr} {c : Cd} {t : TyN} {p q pos : Pos}
theorem boot_ty (t : TyN) : bootBuiltins (Str.ofString t.s) = some (.type t.s) := by
  cases t <;> decide +kernel
theorem es_isi (hgl : Gl X "isinstance") (hm : X.mg "isinstance" = none) (hgt : Gl X (Str.ofString t.s)) (hmt : X.mg (Str.ofString t.s) = none) (h : ES X T e c) (hp : plainE e = true) :
    PE X (.Call (.Name "isinstance" p) [e, .Name (Str.ofString t.s) q] [] pos) (tE X.K T c.pu (eOp1 (gIsi t) c)) := by
  have hn : (Str.ofString t.s) ≠ "__name__" := by cases t <;> decide
  have hd : ((Str.ofString t.s) == ("__debug__" : Str)) = false := by cases t <;> decide
  have hb : PE X (.Name (Str.ofString t.s) q) (tC (.ty t.s)) := pe_bltn hgt hmt (boot_ty t) rfl hn hd
  have ha : PA X [e, .Name (Str.ofString t.s) q] (tCons (tO X.K T c) (tCons (tC (.ty t.s)) tNil)) := pa_cons h.o (pa_cons hb pa_nil) (plain_star hp)
  refine pe_imp (pe_callB call_isi hgl hm (by decide +kernel) ha (by decide) (by decide) (plain_star hp) rfl) fun σ H Q q => ?_
  obtain ⟨O, ρ, s, ρ', S, e0, q⟩ := q
  obtain ⟨x, dx, e1, e3, e5⟩ := eOp1_inv e0
  cases e5
  refine seq1 S e1 fun v O2 H2 S2 t2 p2 a1 => ?_
  have r := a1.rep S2 e3
  refine ⟨v, .ty t.s, .type (tyD dx), .type t.s, isiD t dx, rfl, .ty _, rep_ty r, kit_ty (kit_is t dx (rep_nodict r)), ?_⟩
  exact q (.bl _) O2 H2 S2 t2 p2 (.bl _)
/-! ### texts' join -/
def gJoin (a b : D) : Option Slt := match a, b with
  | .str z, .list xs => match strsOf xs with
    | some ys => if (ys.map (·.length)).sum + ys.length * z.length ≤ 16777216 then some (.val (.str (Str.join z ys))) else none
    | none => none
  | .str z, .tuple xs => match strsOf xs with
    | some ys => if (ys.map (·.length)).sum + ys.length * z.length ≤ 16777216 then some (.val (.str (Str.join z ys))) else none
    | none => none
  | _, _ => none
theorem strOk_join {z : Str} (hz : PyData.strOk z = true) : ∀ {ys : List Str}, (∀ y ∈ ys, PyData.strOk y = true) → PyData.strOk (Str.join z ys) = true
  | [], _ => (by decide +kernel : PyData.strOk Str.empty = true)
  | [y], h => h y (by simp)
  | y :: x :: r, h => strOk_app (strOk_app (h y (by simp)) hz) (strOk_join hz fun w hw => h w (List.mem_cons_of_mem _ hw))
def rJoinR (K : PySem.W.Frag) : R2 := fun x y H Q => ∃ a p, ∃ ys : List Str, x = .str a ∧ y = .ref p ∧ (SqL K H p (ys.map V.str) ∨ SqT K H p (ys.map V.str)) ∧ (ys.map (·.length)).sum + ys.length * a.length ≤ 16777216 ∧ Q (.str (Txt.join a ys)) H
theorem sem_join {K : PySem.W.Frag} : Sem2 K T (rJoinR K) gJoin := by
  intro O ρ σ H x y dx dy s Q S hx hy g q
  unfold gJoin at g
  split at g
  · split at g
    · rename_i ys e1
      split at g
      · rename_i hl
        cases g
        obtain ⟨a, vs, rfl, h1, h2⟩ := hy.list
        obtain ⟨e2, e3⟩ := strs_vs h2 e1
        refine ⟨_, a, ys, hx.str.1, rfl, .inl (by rw [← e2]; exact .inl h1), hl, ?_⟩
        rw [TL.join_eq]
        exact res_val S (.str _ (strOk_join hx.str.2 e3)) q
      · cases g
    · cases g
  · split at g
    · rename_i ys e1
      split at g
      · rename_i hl
        cases g
        obtain ⟨a, vs, rfl, h1, h2⟩ := hy.tuple
        obtain ⟨e2, e3⟩ := strs_vs h2 e1
        refine ⟨_, a, ys, hx.str.1, rfl, .inr (by rw [← e2]; exact (Kp.mask O H).sqT h1), hl, ?_⟩
        rw [TL.join_eq]
        exact res_val S (.str _ (strOk_join hx.str.2 e3)) q
      · cases g
    · cases g
  · cases g
/-- a text's method of one argument: the receiver is a text -/
def eSm (g : D → D → Option Slt) (a b : Cd) : RF := fun ρ => match aE a ρ with
  | some (x, ρ1) => match argD ρ1 x with
    | some (.str z) => match aE b ρ1 with
      | some (y, ρ2) => match argD ρ2 y with
        | some dy => match g (.str z) dy with
          | some s => some (s, ρ2)
          | none => none
        | none => none
      | none => none
    | _ => none
  | none => none
theorem es_sm1 {id : String} {name : Str} {apos : Pos} {o : Expr} {co : Cd} {r : V → List V → Hp → VK → Prop} {r2 : R2} {g : D → D → Option Slt} (slot : Slot "str" name id) (ty : typeOf (.builtin id) = pure (.type "method_descriptor")) (rule : MtR X id r)
    (hr : ∀ x y H Q, r2 x y H Q → r x [y] H Q) (hg : Sem2 X.K T r2 g) (ho : ES X T o co) (h : ES X T e c) (hp : plainE e = true)
    (hbase : attributeBase o name X.env (eval o X.env) = eval o X.env) (hline : (apos.endLine == pos.line) = true) :
    PE X (.Call (.Attribute o name apos) [e] [] pos) (tE X.K T (co.pu && c.pu) (eSm g co c)) := by
  have hs : starEach [e] X.env = [(false, eval e X.env)] := plain_star hp
  refine pe_imp (pe_m1 slot ty rule ho.o h.o hs hbase hline) fun σ H Q q => ?_
  obtain ⟨O, ρ, s, ρ', S, e, q⟩ := q
  unfold eSm at e
  split at e
  · rename_i x ρ1 e1
    split at e
    · rename_i z e2
      split at e
      · rename_i y ρ2 e3
        split at e
        · rename_i dy e4
          split at e
          · rename_i s' e5
            cases e
            refine seq1 S e1 fun v O1 H1 S1 t1 p1 a1 => ?_
            have rv := a1.rep S1 e2
            have hv := rv.str.1
            refine ⟨⟨z, hv⟩, seq1 S1 e3 fun w O2 H2 S2 t2 p2 a2 => hr _ _ _ _ ?_⟩
            have rv2 : RepB X.K O2 H2 v (.str z) := by rw [hv]; exact .inl (.str z rv.str.2)
            refine hg O2 ρ' σ H2 v w _ _ s Q S2 rv2 (a2.rep S2 e4) e5 fun u O3 H3 S3 t3 k3 r3 => ?_
            exact q u O3 H3 S3 ((t1.trans S.cov' t2).trans S.cov' t3) (fun p => by
              rw [Bool.and_eq_true] at p
              exact ((p1 p.1).trans (p2 p.2)).trans k3) (r3.back (t1.trans S.cov' t2))
          · cases e
        · cases e
      · cases e
    · cases e
  · cases e
end
/-! ### what is walked -/
def itemsD : D → Option (List D)
  | .list ds => some ds
  | .tuple ds => some ds
  | .str z => some (z.cps.toList.map fun c => .str ⟨#[c]⟩)
  | _ => none
/-- over a value; a bare name's list is given up -/
def iVal (c : Cd) : IF := fun ρ => match vE c ρ with
  | some (d, ρ1) => match itemsD d with
    | some ds => some (ds, ρ1)
    | none => none
  | none => none
/-- over a value that is only read -/
def iBor (c : Cd) : IF := fun ρ => match aE c ρ with
  | some (a, ρ1) => match argD ρ1 a with
    | some d => match itemsD d with
      | some ds => some (ds, ρ1)
      | none => none
    | none => none
  | none => none
def iRange1 (cs : List Cd) : IF := fun ρ => match aEs cs ρ with
  | some (as, ρ1) => match argsD ρ1 as with
    | some [.int j] => if -(2 ^ 62) ≤ j ∧ j < 2 ^ 62 then some ((List.range j.toNat).map fun (i : Nat) => .int (0 + (i : Int)), ρ1) else none
    | _ => none
  | none => none
def iRange2 (cs : List Cd) : IF := fun ρ => match aEs cs ρ with
  | some (as, ρ1) => match argsD ρ1 as with
    | some [.int i, .int j] => if -(2 ^ 62) ≤ i ∧ i < 2 ^ 62 ∧ -(2 ^ 62) ≤ j ∧ j < 2 ^ 62 then some ((List.range (j - i).toNat).map fun (k : Nat) => .int (i + (k : Int)), ρ1) else none
    | _ => none
  | none => none
theorem pi_or {X : Cx} {tg e : Expr} {t t' : TI} (h : PI X tg e t) (h' : PI X tg e t') : PI X tg e (fun σ H R => t σ H R ∨ t' σ H R) := ⟨fun pins s σ H R I q => by
  rcases q with q | q
  · exact h.run pins s σ H R I q
  · exact h'.run pins s σ H R I q⟩
section
variable {K : PySem.W.Frag} {O : Addr → Bool} {H : Hp} {wk bor : Bool}
theorem it_list {a : Addr} {vs : List V} {ds : List D} (h : Rd (if bor = true then H else mask O H) a (.lst vs)) (hd : DpAll K (mask O H) vs ds) : ItOk K wk O H bor (Itl K a) ds := by
  refine ⟨fun H => SqL K H a vs, YAt vs, ?_, fun H2 k => .inl (k.rd h), fun i H1 x H2 hi k y => ?_⟩
  · rw [← dps_len hd]
    exact walk_list
  · obtain ⟨e, y⟩ := y
    obtain ⟨d, h1, h2⟩ := dps_get hd y
    exact ⟨d, h1, .inl ⟨e, h2⟩⟩
theorem kp_base (H2 : Hp) (k : Kp (if bor = true then H else mask O H) H2) : Kp (mask O H) H2 := by
  cases bor with
  | true => exact (Kp.mask O H).trans k
  | false => exact k
theorem it_tup {a : Addr} {vs : List V} {ds : List D} (h : SqT K (mask O H) a vs) (hd : DpAll K (mask O H) vs ds) : ItOk K wk O H bor (Itt K a) ds := by
  refine ⟨fun H => SqT K H a vs, YAt vs, ?_, fun H2 k => (kp_base H2 k).sqT h, fun i H1 x H2 hi k y => ?_⟩
  · rw [← dps_len hd]
    exact walk_tup
  · obtain ⟨e, y⟩ := y
    obtain ⟨d, h1, h2⟩ := dps_get hd y
    exact ⟨d, h1, .inl ⟨e, h2⟩⟩
theorem it_str {z : Str} (hz : PyData.strOk z = true) : ItOk K wk O H bor (Its z) (z.cps.toList.map fun c => .str ⟨#[c]⟩) := by
  refine ⟨fun _ => True, fun i H v H' => H' = H ∧ ∃ c, z.cps[i]? = some c ∧ v = .str ⟨#[c]⟩, ?_, fun _ _ => True.intro, fun i H1 x H2 hi k y => ?_⟩
  · rw [List.length_map, Array.length_toList]
    exact walk_str
  · obtain ⟨e, c, hc, rfl⟩ := y
    have hc' : z.cps.toList[i]? = some c := by rw [Array.getElem?_toList]; exact hc
    refine ⟨.str ⟨#[c]⟩, by rw [List.getElem?_map, hc']; rfl, .inl ⟨e, .str _ (strOk_sub (l := [c]) hz fun c' h' => ?_)⟩⟩
    have : c' = c := by simpa using h'
    rw [this]
    exact List.mem_of_getElem? hc'
theorem it_range {lo : Int} {n : Nat} : ItOk K wk O H bor (Itr lo n) ((List.range n).map fun (i : Nat) => .int (lo + (i : Int))) := by
  refine ⟨fun _ => True, YFn fun i => .int (lo + i), ?_, fun _ _ => True.intro, fun i H1 x H2 hi k y => ?_⟩
  · rw [List.length_map, List.length_range]
    exact walk_range
  · obtain ⟨e, rfl⟩ := y
    have hi' : i < n := by simpa using hi
    exact ⟨.int (lo + i), by rw [List.getElem?_map, List.getElem?_range hi']; rfl, .inl ⟨e, .int _⟩⟩
end
section
variable {X : Cx} {T : List (Addr × Str)} {tg e : Expr} {es : List Expr} {c : Cd} {cs : List Cd} {p pos : Pos} {wk : Bool}
theorem ei_val (h : ES X T e c) : PI X tg e (tI X.K T wk false c.pu (iVal c)) := by
  refine pi_imp (pi_or (pi_list h.v) (pi_or (pi_tup h.v) (pi_str h.v))) fun σ H R q => ?_
  obtain ⟨O, ρ, ds, ρ', S, e, q⟩ := q
  unfold iVal at e
  split at e
  · rename_i d ρ1 e1
    split at e
    · rename_i ds' e2
      cases e
      cases d with
      | list xs =>
        cases e2
        refine .inl ⟨O, ρ, _, _, S, e1, fun v O1 H1 S1 t1 p1 dv => ?_⟩
        cases dv with
        | lst h1 h2 => exact ⟨_, rfl, ⟨_, .inl ((Kp.mask O1 H1).rd h1)⟩, q _ O1 H1 S1 t1 p1 (it_list (bor := false) h1 h2)⟩
      | tuple xs =>
        cases e2
        refine .inr (.inl ⟨O, ρ, _, _, S, e1, fun v O1 H1 S1 t1 p1 dv => ?_⟩)
        cases dv with
        | tup h1 h2 => exact ⟨_, rfl, ⟨_, (Kp.mask O1 H1).sqT h1.sqT⟩, q _ O1 H1 S1 t1 p1 (it_tup h1.sqT h2)⟩
      | str z =>
        cases e2
        refine .inr (.inr ⟨O, ρ, _, _, S, e1, fun v O1 H1 S1 t1 p1 dv => ?_⟩)
        cases dv with
        | str _ hz => exact ⟨z, rfl, q _ O1 H1 S1 t1 p1 (it_str hz)⟩
      | none => cases e2
      | bool _ => cases e2
      | int _ => cases e2
      | dict _ => cases e2
    · cases e
  · cases e
theorem ei_bor (h : ES X T e c) : PI X tg e (tI X.K T wk true c.pu (iBor c)) := by
  refine pi_imp (pi_or (pi_list h.o) (pi_or (pi_tup h.o) (pi_str h.o))) fun σ H R q => ?_
  obtain ⟨O, ρ, ds, ρ', S, e, q⟩ := q
  unfold iBor at e
  split at e
  · rename_i a ρ1 e1
    split at e
    · rename_i d e0
      split at e
      · rename_i ds' e2
        cases e
        cases d with
        | list xs =>
          cases e2
          refine .inl (seq1 S e1 fun v O1 H1 S1 t1 p1 a1 => ?_)
          obtain ⟨b, vs, rfl, h1, h2⟩ := (a1.rep S1 e0).list
          exact ⟨_, rfl, ⟨_, .inl h1⟩, q _ O1 H1 S1 t1 p1 (it_list (bor := true) h1 h2)⟩
        | tuple xs =>
          cases e2
          refine .inr (.inl (seq1 S e1 fun v O1 H1 S1 t1 p1 a1 => ?_))
          obtain ⟨b, vs, rfl, h1, h2⟩ := (a1.rep S1 e0).tuple
          exact ⟨_, rfl, ⟨_, (Kp.mask O1 H1).sqT h1⟩, q _ O1 H1 S1 t1 p1 (it_tup h1 h2)⟩
        | str z =>
          cases e2
          refine .inr (.inr (seq1 S e1 fun v O1 H1 S1 t1 p1 a1 => ?_))
          have r := (a1.rep S1 e0).str
          exact ⟨z, r.1, q _ O1 H1 S1 t1 p1 (it_str r.2)⟩
        | none => cases e2
        | bool _ => cases e2
        | int _ => cases e2
        | dict _ => cases e2
      · cases e
    · cases e
  · cases e
theorem ei_range1 {bor : Bool} (hg : Gl X "range") (hm : X.mg "range" = none) (h : ESs X T [e] cs) : PI X tg (.Call (.Name "range" p) [e] [] pos) (tI X.K T wk bor (cpu cs) (iRange1 cs)) := by
  have hp := h.plain
  rw [List.all_cons, Bool.and_eq_true] at hp
  refine pi_imp (pi_range1 hg hm h.pa (plain_star hp.1)) fun σ H R q => ?_
  obtain ⟨O, ρ, ds, ρ', S, e, q⟩ := q
  unfold iRange1 at e
  split at e
  · rename_i as ρ1 e1
    split at e
    · rename_i j e2
      split at e
      · rename_i hj
        cases e
        refine ⟨O, ρ, as, _, S, e1, fun vs O1 H1 S1 t1 p1 a1 => ?_⟩
        have r := a1.reps S1 e2
        obtain ⟨v, rfl, r'⟩ := reps1 r
        exact ⟨j, by rw [r'.int], hj.1, hj.2, q _ O1 H1 S1 t1 p1 it_range⟩
      · cases e
    · cases e
  · cases e
theorem ei_range2 {bor : Bool} {e2 : Expr} (hg : Gl X "range") (hm : X.mg "range" = none) (h : ESs X T [e, e2] cs) : PI X tg (.Call (.Name "range" p) [e, e2] [] pos) (tI X.K T wk bor (cpu cs) (iRange2 cs)) := by
  have hp := h.plain
  rw [List.all_cons, List.all_cons, Bool.and_eq_true, Bool.and_eq_true] at hp
  have h2 : starEach [e2] X.env = [(false, eval e2 X.env)] := plain_star hp.2.1
  have h1 : starEach [e, e2] X.env = [(false, eval e X.env), (false, eval e2 X.env)] := by rw [plain_star hp.1, h2]
  refine pi_imp (pi_range2 hg hm h.pa h1 h2) fun σ H R q => ?_
  obtain ⟨O, ρ, ds, ρ', S, e, q⟩ := q
  unfold iRange2 at e
  split at e
  · rename_i as ρ1 e1
    split at e
    · rename_i i j e2
      split at e
      · rename_i hj
        cases e
        refine ⟨O, ρ, as, _, S, e1, fun vs O1 H1 S1 t1 p1 a1 => ?_⟩
        have r := a1.reps S1 e2
        obtain ⟨v, w, rfl, r1, r2⟩ := reps2 r
        exact ⟨i, j, by rw [r1.int, r2.int], hj, q _ O1 H1 S1 t1 p1 it_range⟩
      · cases e
    · cases e
  · cases e
end
end Pv

/-! Fw10: chains, op=, what stays. -/
namespace Pv
open PySem PySem.Spec PyProof.Rows L2

def eChain (g g' : D → D → Option Slt) (a b c : Cd) : RF := fun ρ => match aE a ρ with
  | some (x, ρ1) => match aE b ρ1 with
    | some (y, ρ2) => match argD ρ2 x, argD ρ2 y with
      | some dx, some dy => match g dx dy with
        | some (.val (.bool true)) => match aE c ρ2 with
          | some (z, ρ3) => match argD ρ3 y, argD ρ3 z with
            | some dy', some dz => match g' dy' dz with
              | some s => some (s, ρ3)
              | none => none
            | _, _ => none
          | none => none
        | some (.val (.bool false)) => some (.val (.bool false), ρ2)
        | _ => none
      | _, _ => none
    | none => none
  | none => none
section
variable {X : Cx} {T : List (Addr × Str)} {e1 e2 e3 : Expr} {a b c : Cd} {pos : Pos} {op op' : CmpOp} {r r' : R2} {g g' : D → D → Option Slt}
theorem chain_read {K : PySem.W.Frag} (hg : Sem2 K T r g) (hg' : Sem2 K T r' g') {σ : L2.St} {H : Hp} {Q : VK} (q : tE K T (a.pu && (b.pu && c.pu)) (eChain g g' a b c) σ H Q) : tChain r r' (tO K T a) (tO K T b) (tO K T c) σ H Q := by
  obtain ⟨O, ρ, s, ρ', S, h, q⟩ := q
  unfold eChain at h
  split at h
  · rename_i x ρ1 h1
    split at h
    · rename_i y ρ2 h2
      split at h
      · rename_i dx dy h3 h4
        split at h
        · rename_i h5
          split at h
          · rename_i z ρ3 h6
            split at h
            · rename_i dy' dz h7 h8
              split at h
              · rename_i s' h9
                cases h
                refine seq2 S h1 h2 fun v w O2 H2 S2 t2 p2 a1 a2 => hg O2 ρ2 σ H2 v w dx dy _ _ S2 (a1.rep S2 h3) (a2.rep S2 h4) h5 fun u O3 H3 S3 t3 p3 r3 => ?_
                have r3' : Dp K (mask O3 H3) u (.bool true) := r3
                cases r3'
                refine ⟨true, rfl, iteT (seq1 S3 h6 fun k O4 H4 S4 t4 p4 a4 => hg' O4 _ σ H4 w k dy' dz s Q S4 (((a2.mono t3).mono t4).rep S4 h7) (a4.rep S4 h8) h9 fun m O5 H5 S5 t5 p5 r5 => ?_)⟩
                have t24 := (t2.trans S.cov' t3).trans S.cov' t4
                refine q m O5 H5 S5 (t24.trans S.cov' t5) (fun p => ?_) (r5.back t24)
                rw [Bool.and_eq_true, Bool.and_eq_true] at p
                exact (((p2 (by rw [Bool.and_eq_true]; exact ⟨p.1, p.2.1⟩)).trans p3).trans (p4 p.2.2)).trans p5
              · cases h
            · cases h
          · cases h
        · rename_i h5
          cases h
          refine seq2 S h1 h2 fun v w O2 H2 S2 t2 p2 a1 a2 => hg O2 _ σ H2 v w dx dy _ _ S2 (a1.rep S2 h3) (a2.rep S2 h4) h5 fun u O3 H3 S3 t3 p3 r3 => ?_
          have r3' : Dp K (mask O3 H3) u (.bool false) := r3
          cases r3'
          refine ⟨false, rfl, iteF (q _ O3 H3 S3 (t2.trans S.cov' t3) (fun p => ?_) (.bl false))⟩
          rw [Bool.and_eq_true, Bool.and_eq_true] at p
          exact (p2 (by rw [Bool.and_eq_true]; exact ⟨p.1, p.2.1⟩)).trans p3
        · cases h
      · cases h
    · cases h
  · cases h
theorem chain_marks (h2 : plainE e2 = true) (h3 : plainE e3 = true) : lastMarks [op, op'] [e2, e3] = false := by
  show behindInMarks op' e3 = false
  exact plain_mark h3
theorem es_chain (ho : OpR X (compareOp op) r) (hg : Sem2 X.K T r g) (ho' : OpR X (compareOp op') r') (hg' : Sem2 X.K T r' g') (ha : ES X T e1 a) (hb : ES X T e2 b) (hc : ES X T e3 c) (h2 : plainE e2 = true) (h3 : plainE e3 = true) :
    PE X (.Compare e1 [op, op'] [e2, e3] pos) (tE X.K T (a.pu && (b.pu && c.pu)) (eChain g g' a b c)) :=
  pe_imp (pe_chain ho ho' ha.o hb.o hc.o (chain_marks h2 h3)) fun _ _ _ q => chain_read hg hg' q
theorem et_chain (ho : OpR X (compareOp op) r) (hg : Sem2 X.K T r g) (ho' : OpR X (compareOp op') r') (hg' : Sem2 X.K T r' g') (ha : ES X T e1 a) (hb : ES X T e2 b) (hc : ES X T e3 c) (h2 : plainE e2 = true) (h3 : plainE e3 = true) :
    PT X (.Compare e1 [op, op'] [e2, e3] pos) (tT X.K T (a.pu && (b.pu && c.pu)) (bOf (eChain g g' a b c))) := by
  refine pt_imp (pt_chain ho ho' ha.o hb.o hc.o (chain_marks h2 h3)) fun σ H Q q => ?_
  obtain ⟨O, ρ, k, ρ', S, h, q⟩ := q
  unfold bOf at h
  split at h
  · rename_i b ρ1 h1
    cases h
    refine chain_read hg hg' ⟨O, ρ, _, _, S, h1, fun v O1 H1 S1 t1 p1 rv => ?_⟩
    have rv' : Dp X.K (mask O1 H1) v (.bool k) := rv
    cases rv'
    exact ⟨k, rfl, q O1 H1 S1 t1 p1⟩
  · cases h
end
/-! ### x op= e of numbers and texts -/
def sAug (g : D → D → Option Slt) (i : Nat) (c : Cd) : SF := fun ρ => match ρ[i]? with
  | some (some (.val dx)) => match flatD dx with
    | true => match aE c ρ with
      | some (a, ρ1) => match argD ρ1 a with
        | some dy => match g dx dy with
          | some s => if i < ρ1.length then some (.nx (ρ1.set i (some s))) else none
          | none => none
        | none => none
      | none => none
    | false => none
  | _ => none
theorem ss_aug {X : Cx} {T : List (Addr × Str)} {fz : Nat → Bool} {i : Nat} {x : Str} {e : Expr} {c : Cd} {op : Operator} {r : R2} {g : D → D → Option Slt} {pos' pos : Pos} (hN : X.N.Nodup) (hi : X.N[i]? = some x) (hx : Loc X.env.scope x) (he : ES X T e c)
    (ho : OpR X (inplaceOp op) r) (hg : Sem2 X.K T r g) (hf : X.fn x = true ∨ X.env.scope.names.lookup x = some .local) (hz : fz i = false) : PS X (.AugAssign (.Name x pos') op e pos) (tS X.K T fz (sAug g i c)) := by
  refine ps_imp (ps_aug hN hi hx he.o ho hf) fun D σ H q => ?_
  obtain ⟨O, ρ, out, S, h, q⟩ := q
  unfold sAug at h
  split at h
  · rename_i dx hs
    split at h
    · rename_i hfl
      split at h
      · rename_i a ρ1 h1
        split at h
        · rename_i dy h2
          split at h
          · rename_i s h3
            split at h
            · rename_i hl
              cases h
              obtain ⟨v, hv, dv⟩ := S.val i dx hs
              refine ⟨v, hv, seq1 S h1 fun w O1 H1 S1 t1 p1 a1 => hg O1 ρ1 σ H1 v w dx dy s _ S1 (.inl (flat_dp dv hfl)) (a1.rep S1 h2) h3 fun u O2 H2 S2 t2 p2 r2 => ?_⟩
              exact q O2 _ H2 (set_ok (H0 := H1) S2 hl r2) (set_tr S2 (t1.trans S.cov' t2) hl (r2.back t1)) (FzR.set hz)
            · cases h
          · cases h
        · cases h
      · cases h
    · cases h
  · cases h
def gAug (a b : D) : Option Slt := match a, b with
  | .int i, .int j => some (.val (.int (i + j)))
  | .str i, .str j => if i.length + j.length ≤ sizeLine then some (.val (.str (i ++ j))) else none
  | _, _ => none
theorem sem_aug {K : PySem.W.Frag} {T : List (Addr × Str)} : Sem2 K T (fun x y H Q => rI0 (fun i j => .int (i + j)) x y H Q ∨ rAddS x y H Q) gAug := by
  intro O ρ σ H x y dx dy s Q S hx hy g q
  unfold gAug at g
  split at g
  · cases g
    exact .inl ⟨_, _, hx.int, hy.int, res_val S (.int _) q⟩
  · split at g
    · rename_i hl
      cases g
      exact .inr ⟨_, _, hx.str.1, hy.str.1, hl, res_val S (.str _ (strOk_app hx.str.2 hy.str.2)) q⟩
    · cases g
  · cases g
theorem iop_add2 {X : Cx} : OpR X (inplaceOp .Add) (fun x y H Q => rI0 (fun i j => .int (i + j)) x y H Q ∨ rAddS x y H Q) := iop_add.or (show OpR X (inplaceOp .Add) rAddS from iop_add_str)
/-! ### constants -/
def eLit (d : D) : RF := fun ρ => some (.val d, ρ)
theorem es_lit {X : Cx} {T : List (Addr × Str)} {e : Expr} {v : V} {d : D} (h : PE X e (tC v)) (hd : ∀ H, Dp X.K H v d) : PE X e (tE X.K T true (eLit d)) := by
  refine pe_imp h fun σ H Q q => ?_
  obtain ⟨O, ρ, s, ρ', S, e, q⟩ := q
  cases e
  exact q v O H S Tr.refl (fun _ => Kp.refl H) (hd _)
end Pv

/-! FwS: sorted of data that is alike. -/
namespace Pv
open PySem PySem.Spec PyProof.Rows L2
def alikeB (ds : List D) : Bool := ds.all fun x => ds.all fun y => PySem.W.alike x y
def isTup1 : D → Bool
  | .tuple (_ :: _) => true
  | _ => false
def noTup : D → Bool
  | .tuple _ => false
  | .none => false
  | _ => true
def sortableB (ds : List D) : Bool := ds.all isTup1 || ds.all noTup
theorem alikeB_ok {ds : List D} (h : alikeB ds = true) : PySem.W.AllAlike ds := fun x hx y hy => List.all_eq_true.mp (List.all_eq_true.mp h x hx) y hy
theorem sortableB_ok {ds : List D} (h : sortableB ds = true) : PySem.W.Sortable ds := by
  unfold sortableB at h
  rw [Bool.or_eq_true] at h
  rcases h with h | h
  · refine .inl fun d hd => ?_
    have := List.all_eq_true.mp h d hd
    unfold isTup1 at this
    split at this
    · exact ⟨_, _, rfl⟩
    · cases this
  · refine .inr fun d hd => ?_
    have := List.all_eq_true.mp h d hd
    constructor
    · intro e; subst e; cases this
    · intro xs e; subst e; cases this
def srtD (ds : List D) : List D := ds.mergeSort (PySem.W.dataLe false fun d => d)
def gSorted (ds : List D) : Option Slt := match ds with
  | [.list xs] => match alikeB xs, sortableB xs with
    | true, true => if PyData.depthAll xs ≤ 64 ∧ xs.length ≤ sizeLine then some (.own (srtD xs)) else none
    | _, _ => none
  | _ => none
def rSortedD (K : PySem.W.Frag) : List V → Hp → VK → Prop := fun vs H Q => ∃ (a : Addr) (xs : List V) (ds : List D), vs = [V.ref a] ∧ SqL K H a xs ∧ L2.DpAll K H xs ds ∧ PySem.W.AllAlike ds ∧ PySem.W.Sortable ds ∧ PyData.depthAll ds ≤ 64 ∧
  ∀ (bs : List (V × D)) (p : Addr), bs.map (·.2) = srtD ds → (∀ b ∈ bs, b ∈ xs.zip ds) → H p = none → Q (.ref p) (upd H p (.lst (bs.map (·.1))))
theorem dpl_len {K : PySem.W.Frag} {H : Hp} : ∀ {xs : List V} {ds : List D}, L2.DpAll K H xs ds → xs.length = ds.length
  | _, _, .nil => rfl
  | _, _, .cons _ t => congrArg (· + 1) (dpl_len t)
theorem each_zip : ∀ {xs : List V} {us : List Value} {ds : List D}, Vals xs us → xs.length = ds.length → ∀ (S : List (V × D)), (∀ b ∈ xs.zip ds, b ∈ S) → PySem.W.EachIs (fun u (b : V × D) => RelV b.1 u ∧ b ∈ S) us (xs.zip ds)
  | [], _, [], .nil, _, _, _ => .nil
  | x :: xs, _, d :: ds, .cons r t, hl, S, hS => by
    rw [List.zip_cons_cons] at hS ⊢
    exact .cons ⟨r, hS _ List.mem_cons_self⟩ (each_zip t (by simpa using hl) S fun b hb => hS b (List.mem_cons_of_mem _ hb))
theorem each_reads {X : Cx} {pins : List (Addr × Obj)} {σ : L2.St} {H : Hp} {s : Shared} (I : Inv X pins σ H s) : ∀ {xs : List V} {us : List Value} {ds : List D}, Vals xs us → L2.DpAll X.K H xs ds → PySem.W.EachIs (fun u (b : V × D) => ∃ as, Reads s.heap u b.2 as) us (xs.zip ds)
  | [], _, _, .nil, .nil => .nil
  | x :: xs, _, _, .cons r t, .cons h t2 => by
    rw [List.zip_cons_cons]
    exact .cons (L2.Dp.reads I _ _ _ h r) (each_reads I t t2)
theorem each_vals {S : List (V × D)} : ∀ {us : List Value} {bs : List (V × D)}, PySem.W.EachIs (fun u (b : V × D) => RelV b.1 u ∧ b ∈ S) us bs → Vals (bs.map (·.1)) us ∧ ∀ b ∈ bs, b ∈ S
  | _, _, .nil => ⟨.nil, by simp⟩
  | _, _, .cons h t => by
    obtain ⟨h1, h2⟩ := each_vals t
    refine ⟨.cons h.1 h1, fun b hb => ?_⟩
    rcases List.mem_cons.mp hb with rfl | hb
    · exact h.2
    · exact h2 b hb
theorem le_all {k : Nat} : ∀ {ds : List D} {d : D}, PyData.depthAll ds ≤ k → d ∈ ds → d.depth ≤ k
  | d :: ds, e, h, hm => by
    simp only [PyData.depthAll] at h
    rcases List.mem_cons.mp hm with rfl | hm
    · omega
    · exact le_all (ds := ds) (by omega) hm
theorem cr_sortedD {X : Cx} (hu : X.A.units + 200 < cLine) : CallR X (.builtin "sorted") (rSortedD X.K) := by
  intro pins s σ H vs us Q I r h
  obtain ⟨a, xs, ds, rfl, hs, hd, hal, hsr, hdp, q⟩ := h
  obtain ⟨its, rv, hl, hz⟩ := I.list hs
  rw [Vals.ref1 r]
  have hlen := dpl_len hd
  have e2 : (xs.zip ds).map (fun b => b.2) = ds := by
    rw [List.map_snd_zip]
    omega
  refine PySem.W.sorted_data (enc := fun b : V × D => b.2) (R := fun u (b : V × D) => RelV b.1 u ∧ b ∈ xs.zip ds) hl.isList (each_zip rv hlen _ fun _ h => h) (each_reads I rv hd) (by rw [e2]; exact hal) (by rw [e2]; exact hsr) ?_ (fun b hb => ?_) fun out ho he => ?_
  · rw [List.length_zip]; omega
  · have := le_all hdp (show b.2 ∈ ds by rw [← e2]; exact List.mem_map.mpr ⟨b, hb, rfl⟩)
    omega
  · obtain ⟨k1, k2⟩ := each_vals he
    obtain ⟨ep, he'⟩ := PyProof.Rows.sortedAll_at s.heap its out.toArray
    have hle : (((xs.zip ds).mergeSort (PySem.W.dataLe false fun b => b.2)).map (fun b => b.1)).length ≤ sizeLine := by
      rw [List.length_map, List.length_mergeSort, List.length_zip]; omega
    have hm : ((xs.zip ds).mergeSort (PySem.W.dataLe false fun b => b.2)).map (fun b => b.2) = srtD ds := by
      unfold srtD
      conv => rhs; rw [← e2]
      refine List.map_mergeSort fun b _ c _ => rfl
    exact ⟨.ref _, upd H (s.heap.objs.size + 1) (.lst (((xs.zip ds).mergeSort (PySem.W.dataLe false fun b => b.2)).map fun b => b.1)), I.laid (t' := s.toks) (fun _ _ => PyProof.Rows.sortedAll_old) (Nat.le_succ _) ⟨hle, out, ep, k1, he'⟩, rfl, q _ _ hm k2 (I.hok.fresh (Nat.le_succ _))⟩
theorem dps_zip {K : PySem.W.Frag} {B : Hp} : ∀ {xs : List V} {ds : List D}, DpAll K B xs ds → ∀ b ∈ xs.zip ds, Dp K B b.1 b.2
  | _, _, .nil, b, hb => by simp at hb
  | _, _, .cons h t, b, hb => by
    rw [List.zip_cons_cons] at hb
    rcases List.mem_cons.mp hb with rfl | hb
    · exact h
    · exact dps_zip t b hb
theorem dps_of {K : PySem.W.Frag} {B : Hp} : ∀ {bs : List (V × D)}, (∀ b ∈ bs, Dp K B b.1 b.2) → DpAll K B (bs.map (·.1)) (bs.map (·.2))
  | [], _ => .nil
  | b :: bs, h => .cons (h b (by simp)) (dps_of fun c hc => h c (by simp [hc]))
theorem sem_sorted {K : PySem.W.Frag} {T : List (Addr × Str)} : SemN K T (rSortedD K) gSorted := by
  intro O ρ σ H xs ds s Q S hr g q
  unfold gSorted at g
  split at g
  · split at g
    · rename_i e1 e2
      split at g
      · rename_i e3
        cases g
        obtain ⟨v, rfl, h⟩ := reps1 hr
        obtain ⟨a, vs, rfl, h1, h2⟩ := h.list
        refine ⟨a, vs, _, rfl, .inl h1, ((Kp.mask O H).dps h2).l2, alikeB_ok e1, sortableB_ok e2, e3.1, fun bs p hb hm nl => ?_⟩
        rw [← hb] at q
        exact res_list S (dps_of fun b hb => dps_zip h2 b (hm b hb)) nl q
      · cases g
    · cases g
  · cases g
end Pv

/-! FwT: a list handed from name to name; f-strings; split; startswith; insert. -/
namespace Pv
open PySem PySem.Spec PyProof.Rows L2
/-! ### x = y, where y's own list goes over to x (y is not read any more) -/
def sMov (j i : Nat) : SF := fun ρ => match ρ[j]? with
  | some (some s) => if i < ρ.length then some (.nx ((ρ.set j none).set i (some s))) else none
  | _ => none
section
variable {X : Cx} {T : List (Addr × Str)} {fz : Nat → Bool} {e : Expr} {c : Cd} {pos : Pos}
theorem ss_mov {i j : Nat} {x : Str} {pos' : Pos} (hN : X.N.Nodup) (hi : X.N[i]? = some x) (hx : Loc X.env.scope x) (h : PE X e (tVar j)) (hs : swapsWith e (some (.Name x pos')) pos.line X.env = pure false)
    (hf : X.fn x = true ∨ X.env.scope.names.lookup x = some .local) (hz : fz i = false) : PS X (.Assign [.Name x pos'] e pos) (tS X.K T fz (sMov j i)) :=
  ⟨fun pins s σ H D I q => by
    refine (ps_set hN hi hx h hs hf).run pins s σ H D I ?_
    obtain ⟨O, ρ, out, S, e, q⟩ := q
    unfold sMov at e
    split at e
    · rename_i sl hsl
      split at e
      · rename_i hl
        cases e
        obtain ⟨v, hv⟩ := S.slot hsl
        obtain ⟨S', t'⟩ := unset_ok (i := j) S
        have hl' : i < (ρ.set j none).length := by rw [List.length_set]; exact hl
        have rv : ResV X.K O H (ρ.set j none) σ (fun _ => none) v sl := by
          cases sl with
          | val d =>
            obtain ⟨w, e1, e2⟩ := S.val j d hsl
            rw [hv] at e1
            cases e1
            exact e2
          | vdc kvs =>
            obtain ⟨w, e1, e2⟩ := S.vdc j kvs hsl
            rw [hv] at e1
            cases e1
            exact e2
          | own ds =>
            obtain ⟨p, vs, e1, e2, e3, e4⟩ := S.own j ds hsl
            rw [hv] at e1
            cases e1
            refine ⟨p, vs, rfl, e2, fun z => ?_, rfl, e3, e4⟩
            obtain ⟨k, ne, h1, es, h2, hw⟩ := z.unset.2
            exact ne (S.inj k j p _ _ h2 hsl hw rfl h1 hv)
          | dct kvs =>
            obtain ⟨p, vs, e1, e2, e3, e4⟩ := S.dct j kvs hsl
            rw [hv] at e1
            cases e1
            refine ⟨p, vs, rfl, e2, fun z => ?_, rfl, e3, e4⟩
            obtain ⟨k, ne, h1, es, h2, hw⟩ := z.unset.2
            exact ne (S.inj k j p _ _ h2 hsl hw rfl h1 hv)
        refine ⟨v, hv, q O (σ.set i (some v)) H (set_ok (H0 := fun _ => none) S' hl' rv) ⟨t'.sub, t'.keep, t'.oth, fun a ha => ?_, t'.dom⟩ (FzR.set hz)⟩
        obtain ⟨k, ds, h1, hw, h2⟩ := ha
        have hi' : i < σ.length := by rw [← S.len]; exact hl
        rcases set_some h1 with ⟨rfl, z, _⟩ | ⟨ne, h1⟩
        · cases z
          rw [List.getElem?_set_self hi'] at h2
          cases h2
          exact .inl ⟨j, _, hsl, hw, hv⟩
        · rw [List.getElem?_set_ne ne] at h2
          exact t'.pres a ⟨k, ds, h1, hw, h2⟩
      · cases e
    · cases e⟩
/-! ### f-strings -/
def fmtD : D → Option Str
  | .str y => if y.length ≤ sizeLine then some y else none
  | .int i => if i.natAbs.log2 < 1920 then some (toString i) else none
  | _ => none
def gFmt (d : D) : Option Slt := match fmtD d with
  | some y => some (.val (.str y))
  | none => none
theorem es_fmt (h : ES X T e c) : PE X (.FormattedValue e (-1) none pos) (tE X.K T c.pu (eOp1 gFmt c)) := by
  refine pe_imp (pe_fmt h.o) fun σ H Q q => ?_
  refine tOp1 (r := fun x H Q => (∃ y : Str, x = .str y ∧ y.length ≤ sizeLine ∧ Q (.str y) H) ∨ ∃ i : Int, x = .int i ∧ i.natAbs.log2 < 1920 ∧ Q (.str (toString i)) H) ?_ q
  intro O ρ σ H x dx s Q S hx g q
  unfold gFmt at g
  split at g
  · rename_i y hy
    cases g
    unfold fmtD at hy
    split at hy
    · split at hy
      · rename_i hl
        cases hy
        exact .inl ⟨_, hx.str.1, hl, res_val S (.str _ hx.str.2) q⟩
      · cases hy
    · split at hy
      · rename_i hl
        cases hy
        exact .inr ⟨_, hx.int, hl, res_val S (.str _ (strOk_str _)) q⟩
      · cases hy
    · cases hy
  · cases g
def jsD : List Cd → Str → Rho → Option (Str × Rho)
  | [], acc, ρ => some (acc, ρ)
  | c :: cs, acc, ρ => match vE c ρ with
    | some (.str y, ρ1) => if (acc ++ y).length ≤ sizeLine then jsD cs (acc ++ y) ρ1 else none
    | _ => none
def eJs (cs : List Cd) : RF := fun ρ => match jsD cs Str.empty ρ with
  | some (y, ρ1) => some (.val (.str y), ρ1)
  | none => none
theorem js_read {K : PySem.W.Frag} : ∀ (cs : List Cd) {O : Addr → Bool} {ρ ρ' : Rho} {σ : L2.St} {H : Hp} {acc y : Str} {R : Str → Hp → Prop}, SOk K T O ρ σ H → jsD cs acc ρ = some (y, ρ') → PyData.strOk acc = true →
    (∀ O' H', SOk K T O' ρ' σ H' → Tr O ρ σ H O' ρ' σ H' → (cpu cs = true → Kp H H') → PyData.strOk y = true → R y H') → tJs (cs.map (tV K T)) acc σ H R
  | [], O, ρ, ρ', σ, H, acc, y, R, S, e, ho, q => by
    cases e
    exact q O H S Tr.refl (fun _ => Kp.refl H) ho
  | c :: cs, O, ρ, ρ', σ, H, acc, y, R, S, e, ho, q => by
    unfold jsD at e
    split at e
    · rename_i z ρ1 e1
      split at e
      · rename_i hl
        refine ⟨O, ρ, .str z, ρ1, S, e1, fun v O1 H1 S1 t1 p1 dv => ?_⟩
        cases dv with
        | str _ hz =>
          refine ⟨z, rfl, hl, js_read cs S1 e (strOk_app ho hz) fun O2 H2 S2 t2 p2 hy => q O2 H2 S2 (t1.trans S.cov' t2) (fun z => ?_) hy⟩
          unfold cpu at z
          rw [List.all_cons, Bool.and_eq_true] at z
          exact (p1 z.1).trans (p2 z.2)
      · cases e
    · cases e
theorem pj_of : ∀ {es : List Expr} {cs : List Cd}, ESs X T es cs → PJ X es (cs.map (tV X.K T))
  | _, _, .nil => .nil
  | _, _, .cons h _ t => .cons h.v (pj_of t)
theorem es_js {v1 v2 : Expr} {rest : List Expr} {cs : List Cd} (h : ESs X T (v1 :: v2 :: rest) cs) : PE X (.JoinedStr (v1 :: v2 :: rest) pos) (tE X.K T (cpu cs) (eJs cs)) := by
  refine pe_imp (pe_joined (pj_of h)) fun σ H Q q => ?_
  obtain ⟨O, ρ, s, ρ', S, e, q⟩ := q
  unfold eJs at e
  split at e
  · rename_i y ρ1 e1
    cases e
    exact js_read cs S e1 (by decide +kernel : PyData.strOk Str.empty = true) fun O' H' S' t' p' hy => q _ O' H' S' t' p' (.str _ hy)
  · cases e
end
/-! ### split, startswith -/
section
variable {K : PySem.W.Frag} {T : List (Addr × Str)}
def gSplit (a b : D) : Option Slt := match a, b with
  | .str x, .str y => if ((y.length == 0) = false ∧ x.length + 2 ≤ sizeLine) ∧ (Txt.split x y).all PyData.strOk = true then some (.own ((Txt.split x y).map .str)) else none
  | _, _ => none
def rSplitR : R2 := fun x y H Q => ∃ a b, x = .str a ∧ y = .str b ∧ (b.length == 0) = false ∧ a.length + 2 ≤ sizeLine ∧ rNewStrs (Txt.split a b) H Q
theorem strs_dp {B : Hp} : ∀ {ys : List Str}, ys.all PyData.strOk = true → DpAll K B (ys.map V.str) (ys.map PyData.str)
  | [], _ => .nil
  | y :: ys, h => by
    rw [List.all_cons, Bool.and_eq_true] at h
    exact .cons (.str y h.1) (strs_dp h.2)
theorem sem_split : Sem2 K T rSplitR gSplit := by
  intro O ρ σ H x y dx dy s Q S hx hy g q
  unfold gSplit at g
  split at g
  · split at g
    · rename_i h
      cases g
      exact ⟨_, _, hx.str.1, hy.str.1, h.1.1, h.1.2, fun p np => res_list S (strs_dp h.2) np q⟩
    · cases g
  · cases g
def gStarts (a b : D) : Option Slt := match a, b with
  | .str x, .str y => some (.val (.bool (Txt.startswith x y)))
  | _, _ => none
def rStartsR : R2 := fun x y H Q => ∃ a b, x = .str a ∧ y = .str b ∧ Q (.bl (Txt.startswith a b)) H
theorem sem_starts : Sem2 K T rStartsR gStarts := by
  intro O ρ σ H x y dx dy s Q S hx hy g q
  unfold gStarts at g
  split at g
  · cases g
    exact ⟨_, _, hx.str.1, hy.str.1, res_val S (.bl _) q⟩
  · cases g
end
/-! ### xs.insert(i, x) -/
def eM2 (g : D → D → List D → Option (D × List D)) (i : Nat) (c1 c2 : Cd) : RF := fun ρ => match ρ[i]? with
  | some (some (.own _)) => match vE c1 ρ with
    | some (d1, ρ1) => match vE c2 ρ1 with
      | some (d2, ρ2) => match ρ2[i]? with
        | some (some (.own ds)) => match g d1 d2 ds with
          | some (d, ds') => some (.val d, ρ2.set i (some (.own ds')))
          | none => none
        | _ => none
      | none => none
    | none => none
  | _ => none
def SemM2 (r : V → List V → Hp → VK → Prop) (g : D → D → List D → Option (D × List D)) : Prop :=
  ∀ (K : PySem.W.Frag) (B H : Hp) (p : Addr) (vs : List V) (ds : List D) (x y : V) (dx dy d : D) (ds' : List D) (Q : VK), Kp B H → H p = some (.lst vs) → DpAll K B vs ds → Dp K B x dx → Dp K B y dy → g dx dy ds = some (d, ds') →
    (∀ v ws, Dp K B v d → DpAll K B ws ds' → Q v (upd H p (.lst ws))) → r (.ref p) [x, y] H Q
section
variable {X : Cx} {T : List (Addr × Str)} {i : Nat} {o e e2 : Expr} {c c2 : Cd} {name : Str} {apos cpos : Pos} {id : String} {r : V → List V → Hp → VK → Prop}
theorem tM2 {K : PySem.W.Frag} {g : D → D → List D → Option (D × List D)} (hg : SemM2 r g) {σ : L2.St} {H : Hp} {Q : VK} (q : tE K T false (eM2 g i c c2) σ H Q) : tBM K "list" r (tVar i) (tCons (tV K T c) (tCons (tV K T c2) tNil)) σ H Q := by
  obtain ⟨O, ρ, s, ρ', S, e, q⟩ := q
  unfold eM2 at e
  split at e
  · rename_i ds0 hs0
    split at e
    · rename_i d1 ρ1 hc
      split at e
      · rename_i d2 ρ2 hc2
        split at e
        · rename_i ds hs
          split at e
          · rename_i d ds' hgd
            cases e
            obtain ⟨p0, vs0, e1, e2, e3, e4⟩ := S.own i ds0 hs0
            refine ⟨_, e1, .inl ⟨rfl, vs0, .inl (.inl e3)⟩, O, ρ, d1, ρ1, S, hc, fun x O1 H1 S1 t1 p1 dpx => ⟨O1, ρ1, d2, ρ2, S1, hc2, fun y O2 H2 S2 t2 p2 dpy => ?_⟩⟩
            obtain ⟨p, vs, f1, f2, f3, f4⟩ := S2.own i ds hs
            rw [e1] at f1
            cases f1
            refine hg K (mask O2 H2) H2 p0 vs ds x y d1 d2 d ds' Q (Kp.mask O2 H2) f3 f4 (t2.mask.dp dpx) dpy hgd fun v ws dv dws => ?_
            obtain ⟨S3, t3⟩ := put_ok S2 hs e1 f3 dws
            exact q v O2 _ S3 ((t1.trans S.cov' t2).trans S.cov' t3) (fun z => by cases z) (by show Dp K (mask O2 _) v d; rw [mask_put f2]; exact dv)
          · cases e
        · cases e
      · cases e
    · cases e
  · cases e
theorem es_m2 {g : D → D → List D → Option (D × List D)} (slot : Slot "list" name id) (hty : typeOf (.builtin id) = pure (.type "method_descriptor")) (hm : MtR X id r) (hg : SemM2 r g) (ho : PE X o (tVar i)) (hc : ES X T e c) (hp : plainE e = true) (hc2 : ES X T e2 c2) (hp2 : plainE e2 = true)
    (hbase : attributeBase o name X.env (eval o X.env) = eval o X.env) (hline : (apos.endLine == cpos.line) = true) : PE X (.Call (.Attribute o name apos) [e, e2] [] cpos) (tE X.K T false (eM2 g i c c2)) := by
  have h2 : starEach [e2] X.env = [(false, eval e2 X.env)] := plain_star hp2
  have hs : starEach [e, e2] X.env = (false, eval e X.env) :: starEach [e2] X.env := plain_star hp
  refine pe_imp (pe_bm PySem.F.plainAttrs_list slot hty hm ho (pa_cons hc.v (pa_cons hc2.v pa_nil (plain_star hp2)) (plain_star hp)) hbase ?_ hline (plain_star hp) ?_) fun σ H Q q => tM2 hg q
  · rw [hs, h2]
    rfl
  · rw [h2]
    rfl
end
def gInsert (a d : D) (ds : List D) : Option (D × List D) := match a with
  | .int i => if ds.length < sizeLine ∧ 0 ≤ i ∧ i < 2 ^ 63 then some (.none, ds.take i.toNat ++ [d] ++ ds.drop i.toNat) else none
  | _ => none
def rInsert : V → List V → Hp → VK → Prop := fun x vs H Q => ∃ (l : Addr) (xs : List V) (i : Int) (y : V), x = .ref l ∧ vs = [.int i, y] ∧ H l = some (.lst xs) ∧ xs.length < sizeLine ∧ 0 ≤ i ∧ i < 2 ^ 63 ∧ Q .non (upd H l (.lst (xs.take i.toNat ++ [y] ++ xs.drop i.toNat)))
theorem sm_insert : SemM2 rInsert gInsert := by
  intro K B H p vs ds x y dx dy d ds' Q kp hp hds hx hy hg q
  unfold gInsert at hg
  split at hg
  · split at hg
    · rename_i i h
      cases hg
      cases hx
      exact ⟨p, vs, i, y, rfl, rfl, hp, by rw [dps_len hds]; exact h.1, h.2.1, h.2.2, q .non _ .non (dps_app (dps_app (dps_take _ hds) (.cons hy .nil)) (dps_drop _ hds))⟩
    · cases hg
  · cases hg
end Pv

/-! FwU: a text times a number. -/
namespace Pv
open PySem PySem.Spec PyProof.Rows L2
def repS (x : Str) (n : Int) : Str := if n < 1 then Str.empty else if (n == 1 || x.length == 0) = true then x else ⟨(List.replicate n.toNat x.cps).foldl (· ++ ·) #[]⟩
def rRepS : R2 := fun x y H Q => ∃ a n, x = .str a ∧ y = .int n ∧ a.length * n.toNat ≤ 1000000 ∧ -(2 ^ 62) ≤ n ∧ n < 2 ^ 62 ∧ Q (.str (repS a n)) H
theorem rep_size {xs : Array Nat} : ∀ {k : Nat} {acc : Array Nat}, ((List.replicate k xs).foldl (· ++ ·) acc).size = acc.size + k * xs.size
  | 0, acc => by simp
  | k + 1, acc => by
    rw [List.replicate_succ, List.foldl_cons, rep_size, Array.size_append, Nat.succ_mul]
    omega
theorem op_mulS {X : Cx} : OpR X (binaryOp .Mult) rRepS := by
  intro pins s σ H x y v u Q I rx ry h
  obtain ⟨a, n, rfl, rfl, h1, h2, h3, q⟩ := h
  obtain ⟨t, rfl⟩ := rx
  obtain ⟨t2, rfl⟩ := ry
  have hlen : ¬ n < 1 → (a.length : Int) * n ≤ 1000000 := fun hn => by
    have e : (n.toNat : Int) = n := Int.toNat_of_nonneg (by omega)
    have : ((a.length * n.toNat : Nat) : Int) ≤ ((1000000 : Nat) : Int) := Int.ofNat_le.mpr h1
    rw [Int.natCast_mul, e] at this
    exact this
  refine PySem.P.mul_str ?_ (fun hn _ => ?_) (fun hn _ => ?_) ?_
  · have e1 : decide (n < -(2 ^ 63 : Int)) = false := decide_eq_false (by omega)
    have e2 : decide (n ≥ 2 ^ 63) = false := decide_eq_false (by omega)
    rw [e1, e2]
    rfl
  · have := hlen hn
    have h4 : (a.length : Int) ≤ (2 ^ 63 - 1) / n := (Int.le_ediv_iff_mul_le (by omega)).mpr (by omega)
    omega
  · have h5 : (1000000 : Nat) ≤ sizeLine := by decide
    show decide (a.length * n.toNat > sizeLine) = false
    exact decide_eq_false (by omega)
  · unfold repS at q
    have h5 : (1000000 : Nat) ≤ sizeLine := by decide
    split
    · rename_i hn
      rw [if_pos hn] at q
      exact ⟨Nat.zero_le _, .str _, H, I.tok _, ⟨_, rfl⟩, q⟩
    · rename_i hn
      rw [if_neg hn] at q
      split
      · rename_i h6
        rw [if_pos h6] at q
        exact ⟨.str _, H, I, ⟨_, rfl⟩, q⟩
      · rename_i h6
        rw [if_neg h6] at q
        refine ⟨?_, .str _, H, I.tok _, ⟨_, rfl⟩, q⟩
        show ((List.replicate n.toNat a.cps).foldl (· ++ ·) #[]).size ≤ sizeLine
        rw [rep_size]
        have : n.toNat * a.cps.size = a.length * n.toNat := Nat.mul_comm _ _
        simp only [List.size_toArray, List.length_nil, Nat.zero_add]
        omega
def gMulS (a b : D) : Option Slt := match a, b with
  | .str x, .int n => if (x.length * n.toNat ≤ 1000000 ∧ -(2 ^ 62) ≤ n ∧ n < 2 ^ 62) ∧ PyData.strOk (repS x n) = true then some (.val (.str (repS x n))) else none
  | a, b => gMul a b
theorem sem_mulS {K : PySem.W.Frag} {T : List (Addr × Str)} : Sem2 K T (fun x y H Q => rI CMul (fun i j => .int (i * j)) x y H Q ∨ rRepS x y H Q) gMulS := by
  intro O ρ σ H x y dx dy s Q S hx hy g q
  unfold gMulS at g
  split at g
  · split at g
    · rename_i h
      cases g
      exact .inr ⟨_, _, hx.str.1, hy.int, h.1.1, h.1.2.1, h.1.2.2, res_val S (.str _ h.2) q⟩
    · cases g
  · exact .inl (sem_mul O ρ σ H x y dx dy s Q S hx hy g q)
end Pv

/-! FwK: sorted(xs, key=f), f a def of one's own (over the heap; the frames' slots may change). -/
namespace Pv
open PySem PySem.Spec PyProof.Rows L2 PySem.W PySem.Calls

/-- all that was there stays, the frames' slots apart -/
def KB (fs : List Addr) (h h' : Heap) : Prop := ∀ b o, h.get? b = some o → (b ∉ fs → h'.get? b = some o) ∧ ∃ sl, h'.get? b = some { o with slots := sl }
theorem KB.refl {fs : List Addr} (h : Heap) : KB fs h h := fun b o e => ⟨fun _ => e, o.slots, e⟩
theorem KB.trans {fs : List Addr} {h h1 h2 : Heap} (p : KB fs h h1) (q : KB fs h1 h2) : KB fs h h2 := fun b o e => by
  obtain ⟨p1, sl, p2⟩ := p b o e
  refine ⟨fun n => (q b o (p1 n)).1 n, ?_⟩
  obtain ⟨_, sl', q2⟩ := q b _ p2
  exact ⟨sl', q2⟩
theorem KB.of {fs : List Addr} {h h' : Heap} (k : ∀ b o, h.get? b = some o → h'.get? b = some o) : KB fs h h' := fun b o e => ⟨fun _ => k b o e, o.slots, k b o e⟩
theorem KB.trans' {fs : List Addr} {h h1 h2 : Heap} (p : KB fs h h1) (q : ∀ b o ob, h.get? b = some ob → h1.get? b = some o → h2.get? b = some o) : KB fs h h2 := fun b o e => by
  obtain ⟨p1, sl, p2⟩ := p b o e
  exact ⟨fun n => q b _ _ e (p1 n), sl, q b _ _ e p2⟩
mutual
theorem Reads.keepsF {h h' : Heap} (k : ∀ b o, h.get? b = some o → ∃ sl, h'.get? b = some { o with slots := sl }) : ∀ {v : Value} {d : PyData} {as : List Addr}, Reads h v d as → Reads h' v d as
  | _, _, _, .none => .none
  | _, _, _, .bool b => .bool b
  | _, _, _, .int i t => .int i t
  | _, _, _, .str x t => .str x t
  | _, _, _, .list h1 h2 h3 r => by
    obtain ⟨sl, e⟩ := k _ _ h1
    exact .list e h2 h3 (ReadsAll.keepsF k r)
  | _, _, _, .tuple h1 h2 h3 r => by
    obtain ⟨sl, e⟩ := k _ _ h1
    exact .tuple e h2 h3 (ReadsAll.keepsF k r)
  | _, _, _, .dict h1 h2 h3 r q => by
    obtain ⟨sl, e⟩ := k _ _ h1
    exact .dict e h2 h3 (ReadsAll.keepsF k r) (ReadsAll.keepsF k q)
theorem ReadsAll.keepsF {h h' : Heap} (k : ∀ b o, h.get? b = some o → ∃ sl, h'.get? b = some { o with slots := sl }) : ∀ {v : List Value} {d : List PyData} {as : List Addr}, ReadsAll h v d as → ReadsAll h' v d as
  | _, _, _, .nil => .nil
  | _, _, _, .cons r t => .cons (Reads.keepsF k r) (ReadsAll.keepsF k t)
end
/-- the first n objects -/
def cutH (h : Heap) (n : Nat) : Heap := ⟨h.objs.extract 0 n, h.life⟩
theorem cutH_lt {h : Heap} {n b : Nat} (l : b < n) : (cutH h n).get? b = h.get? b := by
  unfold cutH Heap.get?
  have : (h.objs.extract 0 n)[b]? = h.objs[b]? := by
    rw [Array.getElem?_extract]
    by_cases e : b < h.objs.size
    · rw [if_pos (by omega), Nat.zero_add]
    · rw [if_neg (by omega), Array.getElem?_eq_none (by omega)]
  rw [this]
theorem cutH_ge {h : Heap} {n b : Nat} (l : n ≤ b) : (cutH h n).get? b = none := by
  unfold cutH Heap.get?
  have : (h.objs.extract 0 n)[b]? = none := by
    rw [Array.getElem?_extract, if_neg (by omega)]
  simp only [this]
/-- a key: its lists are old, or new in this call -/
structure KeyFr (fs : List Addr) (lo : Nat) (k : PyData) (s1 : Shared) (v : Value) (s2 : Shared) : Prop where
  os : s2.os = s1.os
  bare : AllBare s2.gens
  kb : KB fs s1.heap s2.heap
  rd : ∃ as, Reads s2.heap v k as ∧ ∀ a ∈ as, a < lo ∨ s1.heap.get? a = none
structure StB (fs : List Addr) (h1 : Heap) (s s2 : Shared) : Prop where
  os : s2.os = s.os
  bare : AllBare s2.gens
  kb : KB fs h1 s2.heap
section
variable {prog : Program} {w : World} {A : Around} {E : Value → Shared → Prop} {s : Shared} {fs : List Addr} {h1 : Heap} {a kS : Addr} {b : Bool} {vs : List Value} {e1 : Nat} {P : PySem.Fin → Shared → Prop} {kz : List PyData} {f : Value}
theorem keyRest_ok (S0 : StB fs h1 s s) (hk0 : h1.objs.size ≤ kS) (ha0 : h1.objs.size ≤ a) (hfs : ∀ b ∈ fs, b < h1.objs.size)
    (nk : s.heap.get? kS = some (seqObj "list" #[] 0)) (na : s.heap.get? a = some (seqObj "list" #[] e1)) (hka : kS ≠ a) (hlen : kz.length = vs.length) (hZ : vs.length ≤ sizeLine)
    (hal : AllAlike kz) (hsk : Sortable kz) (hu : ∀ d, d ∈ kz → A.units + d.depth < cLine)
    (turn : ∀ (i : Nat) (v : Value) (k : PyData), vs[i]? = some v → kz[i]? = some k → ∀ s2 : Shared, StB fs h1 s s2 → wpAny (model prog w) A (call f [v]) (KeyFr fs h1.objs.size k s2) (fun _ _ => False) s2)
    (fin : ∀ (s2 : Shared) (out : List Value) (c : Nat), StB fs h1 s s2 → s2.heap.get? a = some (seqObj "list" out.toArray c) → KeyedOut b kz vs out → P (.done (.ret .none)) s2) :
    wpAny (model prog w) A (ksk_rest a f b vs.toArray e1 (.ref kS)) P E s := by
  have nfk : kS ∉ fs := fun z => Nat.lt_irrefl _ (Nat.lt_of_lt_of_le (hfs _ z) hk0)
  have nfa : a ∉ fs := fun z => Nat.lt_irrefl _ (Nat.lt_of_lt_of_le (hfs _ z) ha0)
  unfold ksk_rest
  refine wpAny_bind (wpAny_rule ?_)
  rw [← Array.forIn_toList]
  simp only [List.toList_toArray]
  refine wpAny_bind (ksk_fold (fun i s' => StB fs h1 s s' ∧ ∃ (kA : Array Value) (e : Nat), s'.heap.get? kS = some (seqObj "list" kA e) ∧ s'.heap.get? a = some (seqObj "list" #[] e1) ∧
      EachIs (fun v k => (∃ as, Reads s'.heap v k as ∧ kS ∉ as) ∧ alike k k = true) kA.toList (kz.take i)) vs 0 s ⟨S0, #[], 0, nk, na, by rw [List.take_zero]; exact EachIs.nil⟩ ?_ ?_)
  · rintro j x s' hx ⟨S1, kA, e, nk1, na1, hk⟩
    simp only [Nat.zero_add] at hk ⊢
    have hj : j < vs.length := (List.getElem?_eq_some_iff.mp hx).1
    have hkj : kz[j]? = some kz[j] := List.getElem?_eq_getElem (by omega)
    have hkk : alike kz[j] kz[j] = true := hal _ (List.getElem_mem _) _ (List.getElem_mem _)
    have hz : kA.size ≤ vs.length := by
      have := hk.length
      rw [Array.length_toList, List.length_take] at this
      omega
    refine wpAny_bind (wpAny_attempt (wpAny_mono (turn j x _ hx hkj s' S1) (fun v s2 he => ?_) fun _ _ z => z.elim))
    dsimp only
    have nk2 : s2.heap.get? kS = some (seqObj "list" kA e) := (he.kb _ _ nk1).1 nfk
    have na2 : s2.heap.get? a = some (seqObj "list" #[] e1) := (he.kb _ _ na1).1 nfa
    have sb := Heap.SameBut.update s2.heap kS (Obj.mapSeq (·.push v))
    obtain ⟨c2, hc2⟩ : ∃ c2, (s2.heap.update kS (Obj.mapSeq (·.push v))).get? kS = some (seqObj "list" (kA.push v) c2) := ⟨_, get?_update_seq nk2 (·.push v)⟩
    have hpz : (kA.push v).size ≤ sizeLine + 1 := Nat.le_trans (Nat.le_of_eq (Array.size_push v)) (Nat.succ_le_succ (Nat.le_trans hz hZ))
    refine wpAny_bind (listUpdate_at nk2 rfl ?_ (Nat.le_trans hz hZ) hpz)
    have go : ∀ (u : Value) (d : PyData), (∃ as, Reads s2.heap u d as ∧ kS ∉ as) ∧ alike d d = true → (∃ as, Reads (s2.heap.update kS (Obj.mapSeq (·.push v))) u d as ∧ kS ∉ as) ∧ alike d d = true := fun u d q => by
      obtain ⟨⟨as, q1, q2⟩, q3⟩ := q
      exact ⟨⟨as, Reads.keepBut (fun b o hb e => (sb.2 b hb).trans e) (fun o e => by rw [nk2] at e; cases e; rfl) d u as q3 q1 q2, q2⟩, q3⟩
    have old : ∀ (u : Value) (d : PyData), (∃ as, Reads s'.heap u d as ∧ kS ∉ as) ∧ alike d d = true → (∃ as, Reads s2.heap u d as ∧ kS ∉ as) ∧ alike d d = true := fun u d q => by
      obtain ⟨⟨as, q1, q2⟩, q3⟩ := q
      exact ⟨⟨as, Pv.Reads.keepsF (fun b o e => (he.kb b o e).2) q1, q2⟩, q3⟩
    obtain ⟨as, hr1, hr2⟩ := he.rd
    have hrk : kS ∉ as := fun z => by
      rcases hr2 kS z with z | z
      · exact Nat.lt_irrefl _ (Nat.lt_of_lt_of_le z hk0)
      · rw [nk1] at z; cases z
    refine wpAny_pure ⟨rfl, ⟨he.os.trans S1.os, he.bare, ?_⟩, kA.push v, c2, hc2, (sb.2 a hka.symm).trans na2, ?_⟩
    · refine (S1.kb.trans he.kb).trans' fun b o ob hb e => ?_
      have : b ≠ kS := Nat.ne_of_lt (Nat.lt_of_lt_of_le (Heap.lt_size hb) hk0)
      exact (sb.2 b this).trans e
    · rw [show (kA.push v).toList = kA.toList ++ [v] by simp, show kz.take (j + 1) = kz.take j ++ [kz[j]] by rw [List.take_add_one, hkj]; rfl]
      exact each_snoc (R := fun (u : Value) (d : PyData) => (∃ as, Reads (s2.heap.update kS (Obj.mapSeq (·.push v))) u d as ∧ kS ∉ as) ∧ alike d d = true) (go v _ ⟨⟨as, hr1, hrk⟩, hkk⟩) (hk.mono fun u d q => go u d (old u d q))
  · rintro s' ⟨S1, kA, e, nk1, na1, hk⟩
    have hk' : EachIs (fun v k => ∃ as, Reads s'.heap v k as) kA.toList kz := by
      rw [List.take_of_length_le (show kz.length ≤ 0 + vs.length by omega)] at hk
      exact hk.mono fun v k q => by
        obtain ⟨⟨as, q1, _⟩, _⟩ := q
        exact ⟨as, q1⟩
    have hsz : kA.size = vs.length := by
      have := hk'.length
      rw [Array.length_toList] at this
      omega
    try dsimp only
    refine wpAny_bind (listItems_at nk1 rfl ?_)
    refine keyH_end (κ := dataKind s'.heap kz) (h₁ := cutH s'.heap h1.objs.size) (fun b o hb q => ?_) (cutH_ge hk0) nk1 na1 hka (SortsAt.data hk' hal hsk hu) hsz hZ fun h3 tk3 c k3 n3 => ?_
    · by_cases l : b < h1.objs.size
      · rwa [cutH_lt l] at q
      · rw [cutH_ge (Nat.le_of_not_lt l)] at q
        cases q
    · refine fin { s' with heap := h3, toks := tk3 } _ c ⟨S1.os, S1.bare, S1.kb.trans' fun b o ob hb q => ?_⟩ n3 ⟨s'.heap, kA.toList, hal, rfl, hk'⟩
      have l := Heap.lt_size hb
      exact k3 b o (Nat.ne_of_lt (Nat.lt_of_lt_of_le l ha0)) (by rw [cutH_lt l]; exact q)
end
section
variable {prog : Program} {w : World} {A : Around} {E : Value → Shared → Prop} {s : Shared} {fs : List Addr} {b : Bool} {vs : List Value} {f : Value} {β : Type} {bs : List β} {R : Value → β → Prop}
theorem sorted_keyF {l : Addr} {kw : List (Str × Value)} {Q : Value → Shared → Prop} (k : β → PyData) (hl : s.heap.IsList l vs.toArray) (e : EachIs R vs bs) (hal : AllAlike (bs.map k)) (hk : Sortable (bs.map k)) (hL : bs.length ≤ sizeLine)
    (hu : ∀ x, x ∈ bs → A.units + 2 + (k x).depth < cLine) (ha1 : argsOk "sorted" ⟨[.ref l], kw⟩) (ha2 : ∀ x, argsOk "list.sort" ⟨[.ref x], kw⟩) (ht : ∀ x, Builtin.«list.sort» ⟨[.ref x], kw⟩ = ksk_tree x f b)
    (bare : AllBare s.gens) (hfs : ∀ c ∈ fs, c < s.heap.objs.size)
    (turn : ∀ (v : Value) (x : β), R v x → x ∈ bs → ∀ s2 : Shared, StB fs s.heap s s2 → wpAny (model prog w) A.in1.in1 (call f [v]) (KeyFr fs s.heap.objs.size (k x) s2) (fun _ _ => False) s2)
    (fin : ∀ (out : List Value) (c : Nat) (s2 : Shared), StB fs s.heap s s2 → s.heap.get? (s.heap.objs.size + 1) = none → s2.heap.get? (s.heap.objs.size + 1) = some (seqObj "list" out.toArray c) → out.length = bs.length → EachIs R out (bs.mergeSort (dataLe b k)) → Q (.ref (s.heap.objs.size + 1)) s2) :
    wpAny (model prog w) A (call (.builtin "sorted") [.ref l] kw) Q E s := by
  have hvl : vs.length = bs.length := e.length
  refine sorted_of_sort hl (by omega) ha1 ha2 fun E' => ?_
  rw [ht]
  have ho := copyHeap_at s.heap vs
  have hlt : (s.heap.objs.size : Nat) + 1 < (copyHeap s.heap vs).objs.size := Heap.lt_size ho
  obtain ⟨e1, ho1⟩ : ∃ e1, ((copyHeap s.heap vs).update (s.heap.objs.size + 1) (Obj.mapSeq fun _ => (#[] : Array Value))).get? (s.heap.objs.size + 1) = some (seqObj "list" #[] e1) := ⟨_, get?_update_seq ho fun _ => #[]⟩
  have hsz : (((copyHeap s.heap vs).update (s.heap.objs.size + 1) (Obj.mapSeq fun _ => (#[] : Array Value))).push (seqObj "tuple" vs.toArray 0)).objs.size = (copyHeap s.heap vs).objs.size + 1 := by rw [size_push', Heap.size_update]
  unfold ksk_tree
  refine wpAny_bind (listItems_at ho rfl ?_)
  refine wpAny_bind (listUpdate_at ho rfl ?_ (by rw [List.size_toArray]; omega) (Nat.zero_le _))
  refine wpAny_bind (seqEpoch_at ho1 rfl ?_)
  refine wpAny_bind (wpAny_newTuple ?_ (by show vs.length ≤ _; omega))
  refine wpAny_bind (wpAny_newList ?_ (Nat.zero_le _))
  refine wpAny_holding ?_
  refine keyRest_ok (kz := bs.map k) (h1 := s.heap) (fs := fs) (s := { s with heap := sortingHeap (copyHeap s.heap vs) (s.heap.objs.size + 1) vs }) (kS := (((copyHeap s.heap vs).update (s.heap.objs.size + 1) (Obj.mapSeq fun _ => (#[] : Array Value))).push (seqObj "tuple" vs.toArray 0)).objs.size)
    ⟨rfl, bare, KB.of fun _ _ => sorting_copy_old⟩ (by rw [hsz]; exact Nat.le_of_lt (Nat.lt_succ_of_lt (Nat.lt_of_succ_lt hlt))) (Nat.le_succ _) hfs (Heap.get?_push_size _ rfl) (Heap.get?_push_of_some _ (Heap.get?_push_of_some _ ho1)) (by rw [hsz]; exact Nat.ne_of_gt (Nat.lt_succ_of_lt hlt)) (by rw [List.length_map]; exact hvl.symm) (by omega) hal hk
    (fun d hd => ?_) (fun i v d hv hd s2 S2 => ?_) fun s2 out c S2 ha ko => ⟨rfl, ?_⟩
  · obtain ⟨x, hx, rfl⟩ := List.mem_map.mp hd
    exact hu x hx
  · rw [List.getElem?_map] at hd
    obtain ⟨x, hx, hd⟩ := Option.map_eq_some_iff.mp hd
    subst hd
    have hz : (v, x) ∈ vs.zip bs := List.mem_of_getElem? (i := i) (by rw [List.getElem?_zip_eq_some]; exact ⟨hv, hx⟩)
    exact turn v x (e.zip _ hz) (List.mem_of_getElem? hx) s2 ⟨S2.os, S2.bare, S2.kb⟩
  · exact fin out c s2 ⟨S2.os, S2.bare, S2.kb⟩ (Heap.get?_none_of_le (Nat.le_succ _)) ha ((ko.length (by rw [List.length_map]; exact hvl.symm)).trans hvl) (keyedOut_each k ko e)
end
end Pv

/-! FwL: a lambda of one parameter as the key of sorted. -/
namespace Pv
open PySem PySem.Spec PyProof.Rows L2

/-! ### a heap that is only read -/
def frzO (h : Heap) (a : Addr) : Option HO → Option HO
  | some (.lst xs) => (h.get? a).map fun o => .frz o (.lst xs)
  | some (.tup xs) => (h.get? a).map fun o => .frz o (.tup xs)
  | some (.frz o (.lst xs)) => some (.frz o (.lst xs))
  | some (.frz o (.tup xs)) => some (.frz o (.tup xs))
  | _ => none
def frzH (H : Hp) (h : Heap) : Hp := fun a => frzO h a (H a)
section
variable {P : Program} {w : World} {H : Hp} {h h' : Heap} {K : PySem.W.Frag}
theorem frzH_none {a : Addr} (e : H a = none) : frzH H h a = none := by
  unfold frzH
  rw [e]
  rfl
theorem frzH_some {a : Addr} {u : HO} (ok : HOk P w H h) (e : frzH H h a = some u) : ∃ o v, u = .frz o v ∧ h.get? a = some o ∧ H a ≠ none ∧ ∀ H', ObjOk P w H' h a v := by
  unfold frzH at e
  cases q : H a with
  | none => rw [q] at e; cases e
  | some t =>
    rw [q] at e
    have ho := ok a t q
    cases t with
    | lst xs =>
      obtain ⟨o, e1, e2⟩ := Option.map_eq_some_iff.mp (show (h.get? a).map _ = some u from e)
      exact ⟨o, _, e2.symm, e1, by simp, fun _ => ho⟩
    | tup xs =>
      obtain ⟨o, e1, e2⟩ := Option.map_eq_some_iff.mp (show (h.get? a).map _ = some u from e)
      exact ⟨o, _, e2.symm, e1, by simp, fun _ => ho⟩
    | frz o v =>
      obtain ⟨h1, h2⟩ := ho
      cases v with
      | lst xs => cases (show some (HO.frz o (.lst xs)) = some u from e); exact ⟨o, _, rfl, h1, by simp, fun _ => h2⟩
      | tup xs => cases (show some (HO.frz o (.tup xs)) = some u from e); exact ⟨o, _, rfl, h1, by simp, fun _ => h2⟩
      | _ => cases e
    | _ => cases e
theorem frzH_ok (ok : HOk P w H h) {fs : List Addr} (kb : KB fs h h') (hf : ∀ b ∈ fs, H b = none) : HOk P w (frzH H h) h' := fun a u e => by
  obtain ⟨o, v, rfl, h1, h2, h3⟩ := frzH_some ok e
  have k : ∀ b ob, H b ≠ none → h.get? b = some ob → h'.get? b = some ob := fun b ob n e => (kb b ob e).1 fun z => n (hf b z)
  refine ⟨k a o h2 h1, ?_⟩
  unfold frzH at e
  cases q : H a with
  | none => exact absurd q h2
  | some t =>
    rw [q] at e
    have key : ∀ xs, (v = .lst xs ∨ v = .tup xs) → ObjOk P w (frzH H h) h' a v := fun xs hv => by
      have h4 := h3 (frzH H h)
      rcases hv with rfl | rfl
      · obtain ⟨z, its, n, r, e⟩ := h4
        exact ⟨z, its, n, r, k a _ h2 e⟩
      · obtain ⟨z, its, r, ob, e, c⟩ := h4
        exact ⟨z, its, r, ob, k a _ h2 e, c⟩
    cases t with
    | lst xs =>
      obtain ⟨o, e1, e2⟩ := Option.map_eq_some_iff.mp (show (h.get? a).map _ = some (HO.frz _ v) from e)
      cases e2
      exact key xs (.inl rfl)
    | tup xs =>
      obtain ⟨o, e1, e2⟩ := Option.map_eq_some_iff.mp (show (h.get? a).map _ = some (HO.frz _ v) from e)
      cases e2
      exact key xs (.inr rfl)
    | frz o2 v2 =>
      cases v2 with
      | lst xs => cases e; exact key xs (.inl rfl)
      | tup xs => cases e; exact key xs (.inr rfl)
      | _ => cases e
    | _ => cases e
theorem frz_lst (ok : HOk P w H h) {a : Addr} {xs : List V} (r : Rd H a (.lst xs)) : Rd (frzH H h) a (.lst xs) := by
  rcases r with e | ⟨o, e⟩
  · obtain ⟨_, its, n, _, e2⟩ := ok a _ e
    exact .inr ⟨_, by unfold frzH; rw [e]; show (h.get? a).map _ = _; rw [e2]; rfl⟩
  · exact .inr ⟨o, by unfold frzH; rw [e]; rfl⟩
theorem frz_tup (ok : HOk P w H h) {a : Addr} {xs : List V} (r : SqT K H a xs) : SqT K (frzH H h) a xs := by
  rcases r with (e | ⟨o, e⟩) | r
  · obtain ⟨_, its, _, ob, e2, _⟩ := ok a _ e
    exact .inl (.inr ⟨_, by unfold frzH; rw [e]; show (h.get? a).map _ = _; rw [e2]; rfl⟩)
  · exact .inl (.inr ⟨o, by unfold frzH; rw [e]; rfl⟩)
  · exact .inr r
theorem frz_tpl {a : Addr} {xs : List V} (r : Tpl K H a xs) : Tpl K (frzH H h) a xs := by
  rcases r with ⟨o, e, d⟩ | r
  · exact .inl ⟨o, by unfold frzH; rw [e]; rfl, d⟩
  · exact .inr r
mutual
theorem frz_dp (ok : HOk P w H h) : ∀ {v : V} {d : D}, Dp K H v d → Dp K (frzH H h) v d
  | _, _, .non => .non
  | _, _, .bl b => .bl b
  | _, _, .int i => .int i
  | _, _, .str x s => .str x s
  | _, _, .lst r t => .lst (frz_lst ok r) (frz_dps ok t)
  | _, _, .tup r t => .tup (frz_tpl r) (frz_dps ok t)
theorem frz_dps (ok : HOk P w H h) : ∀ {v : List V} {d : List D}, DpAll K H v d → DpAll K (frzH H h) v d
  | _, _, .nil => .nil
  | _, _, .cons r t => .cons (frz_dp ok r) (frz_dps ok t)
end
end
mutual
/-- data without lists reads off no list -/
theorem reads_nil {h : Heap} : ∀ {d : D} {v : Value} {as : List Addr}, noL d = true → Reads h v d as → as = []
  | .none, _, _, _, .none => rfl
  | .bool _, _, _, _, .bool _ => rfl
  | .int _, _, _, _, .int _ _ => rfl
  | .str _, _, _, _, .str _ _ => rfl
  | .tuple xs, _, _, n, .tuple _ _ _ r => readsAll_nil (show noLs xs = true from n) r
  | .list _, _, _, n, _ => by cases n
  | .dict _, _, _, n, _ => by cases n
theorem readsAll_nil {h : Heap} : ∀ {ds : List D} {vs : List Value} {as : List Addr}, noLs ds = true → ReadsAll h vs ds as → as = []
  | [], _, _, _, .nil => rfl
  | d :: ds, _, _, n, .cons r t => by
    unfold noLs at n
    rw [Bool.and_eq_true] at n
    rw [reads_nil n.1 r, readsAll_nil n.2 t]
    rfl
end
/-! ### the lambda's frame -/
structure LamS1 (sc scope : Scope) (x : Str) : Prop where
  kind : scope.kind = .function
  co : scope.isCoroutine = false
  gen : scope.isGenerator = false
  par : scope.names.lookup x = some .local
  own : ∀ y ∈ scope.names, y.2 ≠ .cell ∧ (y.2 = .local → y.1 = x)
  free : ∀ y ∈ scope.names, y.2 = .free → sc.names.lookup y.1 = some .cell ∨ sc.names.lookup y.1 = some .free
def lamS1B (sc scope : Scope) (x : Str) : Bool :=
  decide (scope.kind = .function) && !scope.isCoroutine && !scope.isGenerator && decide (scope.names.lookup x = some .local) && scope.names.all fun y => !decide (y.2 = .cell) && (!decide (y.2 = .local) || y.1 == x) && (!decide (y.2 = .free) || decide (sc.names.lookup y.1 = some .cell) || decide (sc.names.lookup y.1 = some .free))
theorem lamS1_by {sc scope : Scope} {x : Str} (h : lamS1B sc scope x = true) : LamS1 sc scope x := by
  unfold lamS1B at h
  simp only [Bool.and_eq_true, Bool.or_eq_true, Bool.not_eq_true', decide_eq_true_eq, decide_eq_false_iff_not, List.all_eq_true, beq_iff_eq] at h
  obtain ⟨⟨⟨⟨h1, h2⟩, h3⟩, h4⟩, h5⟩ := h
  refine ⟨h1, h2, h3, h4, fun y hy => ⟨(h5 y hy).1.1, fun e => ?_⟩, fun y hy e => ?_⟩
  · rcases (h5 y hy).1.2 with z | z
    · exact absurd e z
    · exact z
  · rcases (h5 y hy).2 with (z | z) | z
    · exact absurd e z
    · exact .inl z
    · exact .inr z
section
variable {X : Cx} {pins : List (Addr × Obj)} {σ : L2.St} {H HZ : Hp} {s s2 : Shared}
theorem LamS1.has {scope : Scope} {x : Str} (L : LamS1 X.env.scope scope x) (ok : X.Ok) : ∀ y ∈ scope.names, y.2 = .free → ∃ c, X.env.cells.lookup y.1 = some c := fun y hy e => by
  rcases L.free y hy e with k | k
  · exact ok.has _ (.inl k)
  · exact ok.has _ (.inr k)
theorem lam1_start {A : Around} {outer : List PySem.Env} {E : XK} {scope : Scope} {f c' : Addr} {x : Str} {i : Nat} {v : V} {u : Value} {h₁ : Heap} {tk : Nat} (I : Inv X pins σ H s) (nd : X.N.Nodup) (hi : X.N[i]? = some x) (L : LamS1 X.env.scope scope x)
    (kb : KB (frs X.stack) s.heap s2.heap) (e0 : Env0 X.prog X.w X.K X.mg X.base A outer s2 HZ) (hd : A.handled = none) (hZ : ∀ b, H b = none → HZ b = none) (rv : RelV v u)
    (hns : h₁.Ns s2.heap.objs.size fun y => ([(x, u)] : List (Str × Value)).reverse.lookup y) (kp : ∀ b o, s2.heap.get? b = some o → h₁.get? b = some o) :
    Inv (LamX.lamCx X A outer s2 HZ E scope f c') [] (σ.set i (some v)) HZ { s2 with heap := h₁, toks := tk } := by
  have hfree := L.has I.ok
  have cm : ∀ {y c}, (cloFrom X.env.cells scope.names []).lookup y = some c → X.env.cells.lookup y = some c := fun {y c} e => by
    rcases cloFrom_mem (PySem.mem_of_lookup e) with hm | ⟨h1, h2⟩
    · cases hm
    · obtain ⟨c1, hc⟩ := hfree _ h1 rfl
      have hc : X.env.cells.lookup y = some c1 := hc
      have e2 : c = c1 := by
        rw [h2, hc] <;> rfl
      rw [e2]
      exact hc
  have look : ∀ {y}, scope.names.lookup y = some .free → ∃ c, (cloFrom X.env.cells scope.names []).lookup y = some c := fun {y} hl => mem_lookup (cloFrom_has (cells := X.env.cells) (acc := []) (PySem.mem_of_lookup hl))
  have cellK : ∀ {c : Addr} {v : Option Value}, s.heap.IsCell c v → h₁.IsCell c v := fun {c v} ⟨o, ho, hd⟩ => by
    obtain ⟨_, sl, q⟩ := kb c o ho
    exact ⟨_, kp _ _ q, hd⟩
  have nil : ∀ b : Addr, b ∉ (LamX.lamCx X A outer s2 HZ E scope f c').ex := fun b z => absurd (show b ∈ ([] : List Addr) from z) (by simp)
  exact {
    ok := {
      mod := e0.mod
      kind := L.kind
      glob := rfl
      blt := rfl
      above := Nat.le_refl _
      inj := fun y z c e1 e2 => I.ok.inj y z c (cm e1) (cm e2)
      has := fun y hy => by
        rcases (show scope.names.lookup y = some .cell ∨ scope.names.lookup y = some .free from hy) with hy | hy
        · exact absurd rfl (L.own _ (PySem.mem_of_lookup hy)).1
        · exact look hy
      cab := fun y c z _ => by cases (show false = true from z)
      hd := fun _ => hd
      frames := Around.frames_deeper e0.frames
      stk := .inr ⟨rfl, rfl⟩
      exf := fun b z => absurd z (nil b)
      bs := e0.bs
      bsz := e0.bsz
      noex := fun b _ _ => nil b
      exfs := fun b z => absurd z (nil b)
      funs := e0.funs
      frf := e0.frf }
    os := rfl
    bare := e0.bare
    base := Un.kept kp
    loc := ⟨_, hns, fun j y v' e1 e2 e3 => by
      have e1 : X.N[j]? = some y := e1
      by_cases hj : j = i
      · subst hj
        rw [hi] at e1
        cases e1
        have hlt : j < σ.length := by
          rw [I.len]
          exact (List.getElem?_eq_some_iff.mp hi).1
        rw [List.getElem?_set_self hlt] at e2
        cases e2
        refine ⟨u, rv, .inl ⟨L.par, ?_⟩⟩
        show ([(x, u)] : List (Str × Value)).reverse.lookup x = some u
        simp
      · rw [List.getElem?_set_ne (Ne.symm hj)] at e2
        have nx : y ≠ x := fun z => by
          subst z
          have l1 := (List.getElem?_eq_some_iff.mp e1).1
          have l2 := (List.getElem?_eq_some_iff.mp hi).1
          have h1 := (List.getElem?_eq_some_iff.mp e1).2
          have h2 := (List.getElem?_eq_some_iff.mp hi).2
          exact hj ((List.getElem_inj nd).mp (h1.trans h2.symm))
        have hfr : scope.names.lookup y = some .free := by
          rcases (show Vis scope y from e3) with k | k | k
          · exact absurd ((L.own _ (PySem.mem_of_lookup k)).2 rfl) nx
          · exact absurd rfl (L.own _ (PySem.mem_of_lookup k)).1
          · exact k
        obtain ⟨m, hn, hl⟩ := I.loc
        have hy2 := L.free _ (PySem.mem_of_lookup hfr) rfl
        have hvis : Vis X.env.scope y := hy2.elim (fun k => .inr (.inl k)) (fun k => .inr (.inr k))
        obtain ⟨w', r, q⟩ := hl j y v' e1 e2 hvis
        obtain ⟨c2, h2⟩ := look hfr
        refine ⟨w', r, .inr ⟨.inr hfr, c2, h2, ?_⟩⟩
        have c1 := cm h2
        rcases q with ⟨k', _⟩ | ⟨_, c3, e', z⟩
        · have k' : X.env.scope.names.lookup y = some .local := k'
          rcases hy2 with k2 | k2 <;> rw [show X.env.scope.names.lookup y = _ from k2] at k' <;> cases k'
        · rw [c1] at e'
          cases e'
          exact cellK z⟩
    cell := fun y c e => by
      obtain ⟨w', z⟩ := I.cell y c (cm e)
      exact ⟨w', cellK z⟩
    free := e0.hok.fresh (Nat.le_refl _)
    freeC := fun y c e => hZ c (I.freeC y c (cm e))
    pin := fun q hq => absurd (show q ∈ ([] : List (Addr × Obj)) ++ [] from hq) (by simp)
    hok := e0.hok.kept kp
    len := by rw [List.length_set]; exact I.len }
/-- from what an own run keeps of a heap that is only read -/
theorem un_kb {P : Program} {w : World} {fs : List Addr} {h0 h1 h2 : Heap} {H' : Hp} (ok : HOk P w H h0) (k01 : KB fs h0 h1) (hf : ∀ b ∈ fs, H b = none) (un : Un fs [] (frzH H h0) H' h1 h2) (ok' : HOk P w H' h2) : KB fs h1 h2 := fun b o e => by
  cases q : frzH H h0 b with
  | none =>
    by_cases hb : b ∈ fs
    · obtain ⟨sl, z⟩ := un.slot b o e q hb (by simp)
      exact ⟨fun n => absurd hb n, sl, z⟩
    · have z := un.keep b o e q hb (by simp)
      exact ⟨fun _ => z, o.slots, z⟩
  | some t =>
    obtain ⟨ob, v, rfl, g1, g2, _⟩ := frzH_some ok q
    have hb : b ∉ fs := fun z => g2 (hf b z)
    have e2 := (k01 b ob g1).1 hb
    rw [e] at e2
    cases e2
    obtain ⟨z, _⟩ := ok' b _ (un.frzs b o v q)
    exact ⟨fun _ => z, o.slots, z⟩
end
end Pv

/-! FwL2: sorted(xs, key=lambda x: ..). -/
namespace Pv
open PySem PySem.Spec PyProof.Rows L2
section
variable {K : PySem.W.Frag} {T : List (Addr × Str)} {O : Addr → Bool} {ρ : Rho} {σ : L2.St} {H H' : Hp}
theorem kp_mask (k : Kp H H') : Kp (mask O H) (mask O H') := fun b o e n => by
  obtain ⟨h1, h2⟩ := mask_some.mp e
  exact mask_some.mpr ⟨h1, k b o h2 n⟩
theorem SOk.kp (S : SOk K T O ρ σ H) (k : Kp H H') (t : Tabs T H') : SOk K T O ρ σ H' := by
  refine ⟨S.len, fun a e => ?_, fun i d e => ?_, fun i ds e => ?_, S.inj, t, fun i kvs e => ?_, fun i kvs e => ?_⟩
  · obtain ⟨xs, q, m⟩ := S.cov a e
    exact ⟨xs, k a _ q m.tbl, m⟩
  · obtain ⟨v, e1, e2⟩ := S.val i d e
    exact ⟨v, e1, (kp_mask k).dp e2⟩
  · obtain ⟨p, vs, e1, e2, e3, e4⟩ := S.own i ds e
    exact ⟨p, vs, e1, e2, k p _ e3 lst_ne_tbl, (kp_mask k).dps e4⟩
  · obtain ⟨p, vs, e1, e2, e3, e4⟩ := S.dct i kvs e
    exact ⟨p, vs, e1, e2, k p _ e3 Mo.dk.tbl, e4.mono (kp_mask k)⟩
  · obtain ⟨v, e1, e2⟩ := S.vdc i kvs e
    exact ⟨v, e1, e2.mono (kp_mask k)⟩
theorem Tr.kp (S : SOk K T O ρ σ H) (k : Kp H H') (dm : ∀ a, H a ≠ none → H' a ≠ none) : Tr O ρ σ H O ρ σ H' :=
  ⟨fun _ h => .inl h, fun a o _ h n => k a o h n, fun a h _ => ⟨h, by
    obtain ⟨xs, q, m⟩ := S.cov a h
    rw [q]; exact k a _ q m.tbl⟩, fun _ h => .inl h, dm⟩
end
/-- how the heap of a def looks when a lambda of it is made: its table may have grown -/
def Grown (P : Addr) (q : Str) (H H1 : Hp) (c' : Addr) : Prop :=
  (H1 = H ∧ H c' = some (LamX.CodeO c' q)) ∨ ∃ (ps more : Array Value), H P = some (.tbl ps) ∧ H c' = none ∧ TriplesOk (ps ++ more).toList ∧ (∀ pos cv, codeAmong pos (ps ++ more).toList = some cv → codeAmong pos ps.toList = some cv ∨ cv = .ref c') ∧ H1 = upd (upd H P (.tbl (ps ++ more))) c' (LamX.CodeO c' q)
section
variable {P c' : Addr} {q : Str} {H H1 : Hp} {T : List (Addr × Str)}
theorem codeO_tbl {c : Addr} {q : Str} (ps : Array Value) : LamX.CodeO c q ≠ .tbl ps := fun z => by
  unfold LamX.CodeO at z
  cases z
theorem Grown.kp (g : Grown P q H H1 c') : Kp H H1 := by
  rcases g with ⟨rfl, _⟩ | ⟨ps, more, h1, h2, _, _, rfl⟩
  · exact Kp.refl _
  · intro b o e n
    rw [upd_ne (ne_of_none e h2)]
    by_cases hb : b = P
    · subst hb
      rw [h1] at e
      exact absurd (Option.some.inj e).symm (n ps)
    · rw [upd_ne hb]; exact e
theorem Grown.dom (g : Grown P q H H1 c') : ∀ a, H a ≠ none → H1 a ≠ none := by
  rcases g with ⟨rfl, _⟩ | ⟨ps, more, h1, h2, _, _, rfl⟩
  · exact fun _ h => h
  · intro a h
    have : a ≠ c' := fun z => h (z ▸ h2)
    rw [upd_ne this]
    unfold upd
    split
    · simp
    · exact h
theorem Grown.code (g : Grown P q H H1 c') : H1 c' = some (LamX.CodeO c' q) := by
  rcases g with ⟨rfl, h⟩ | ⟨ps, more, h1, h2, _, _, rfl⟩
  · exact h
  · exact upd_same
theorem Grown.tabs (g : Grown P q H H1 c') (hT : Tabs T H) (hq : q ≠ gexq) (hu : ∀ p ∈ T, p.1 = P → p.2 = q) : Tabs T H1 := by
  have k := g.kp
  rcases g with ⟨rfl, _⟩ | ⟨ps, more, h1, h2, h3, h4, rfl⟩
  · exact hT
  · intro p hp
    by_cases hb : p.1 = P
    · have hpq := hu p hp hb
      obtain ⟨ps', a1, a2, a3⟩ := (hT p hp).lam (by rw [hpq]; exact hq)
      refine .of _ _ (fun z => absurd (hpq.symm.trans z) hq) fun _ => ?_
      rw [hpq, hb]
      rw [hb, h1] at a1
      cases a1
      have nPc : P ≠ c' := ne_of_none h1 h2
      refine ⟨ps ++ more, by rw [upd_ne nPc, upd_same], h3, fun pos cv hc => ?_⟩
      rcases h4 pos cv hc with z | rfl
      · obtain ⟨c0, e1, e2⟩ := a3 pos cv z
        rw [hpq] at e2
        exact ⟨c0, e1, k _ _ e2 codeO_tbl⟩
      · exact ⟨c', rfl, upd_same⟩
    · refine (hT p hp).move (fun ps' a1 => ?_) fun c0 q0 e2 => k _ _ e2 codeO_tbl
      have : p.1 ≠ c' := fun z => by rw [z, h2] at a1; cases a1
      rw [upd_ne this, upd_ne hb]
      exact a1
end
section
variable {X : Cx} {pins : List (Addr × Obj)} {σ : L2.St} {H : Hp} {s : Shared} {T : List (Addr × Str)}
theorem lam_make3 {c P : Addr} {params : Arguments} {body : Expr} {scope : Scope} {pos : Pos} {E Q : Value → Shared → Prop} (I : Inv X pins σ H s) (TB : LamX.TabB X.base X.mg c P) (hcode : X.env.code = .ref c)
    (hm : (P, X.env.qual ++ "<lambda>") ∈ T) (hq : X.env.qual ++ "<lambda>" ≠ gexq) (hT : Tabs T H) (hdef : defaultsOf params X.env = ([], [])) (hfree : ∀ y ∈ scope.names, y.2 = .free → ∃ c, X.env.cells.lookup y.1 = some c)
    (fin : ∀ (f c' : Addr) (pm ctv : Value) (H1 : Hp) (s' : Shared), Inv X pins σ H1 s' → Grown P (X.env.qual ++ "<lambda>") H H1 c' →
      s'.heap.get? f = some (PySem.W.kla_obj "<lambda>" (X.env.qual ++ "<lambda>") params body scope (cloFrom X.env.cells scope.names []) pm c' ctv) → f ∉ frs X.stack → Q (.ref f) s') :
    wpAny (model X.prog X.w) X.A (eval (.Lambda params body scope pos) X.env) Q E s := by
  obtain ⟨ps, hP, ht, ha⟩ := (hT _ hm).lam hq
  have oP : s.heap.get? P = some { cls := .none, data := .fields ps } := I.hok P _ hP
  have nf : ∀ f, s.heap.objs.size ≤ f → f ∉ frs X.stack := fun f hf z => by
    rcases List.mem_cons.mp (I.stkSub _ z) with e | e
    · exact Nat.lt_irrefl _ (Nat.lt_of_lt_of_le (e ▸ I.lt : f < s.heap.objs.size) hf)
    · exact I.nofs hf e
  have gl := I.mod.glob.keeps I.bk
  have bP := TB.bm.keeps I.bk
  have cP := TB.code.keeps I.bk
  refine PySem.W.kla_eval hdef ?_
  rcases hc : codeAmong pos ps.toList with _ | cv
  · refine PySem.W.kla_makeFunction (c := c) (closure_ok hfree) I.ok.glob gl hcode cP oP ht hc TB.gP bP fun c' ctv h' tk hx hge hlt hrec htb => ?_
    obtain ⟨c2, oc, vs, t, e2, hoc, hd, hv⟩ := hrec
    cases e2
    have big : s.heap.objs.size ≤ h'.objs.size := Nat.le_of_lt (Nat.lt_of_le_of_lt hge hlt)
    refine fin h'.objs.size c' _ ctv _ _ (LamX.inv_table (t' := tk) (more := #[rawInt pos.line, rawInt pos.col, .ref c']) (h' := h'.push _) I hP (fun b o hb e => Heap.get?_push_of_some _ (hx b o hb e)) (Heap.get?_push_of_some _ htb) hge ⟨oc, vs, t, Heap.get?_push_of_some _ hoc, hd, hv⟩)
      (.inr ⟨ps, _, hP, I.hok.fresh hge, ?_, fun pos' cv hcv => ?_, rfl⟩) (Heap.get?_push_size _ rfl) (nf _ big)
    · rw [Array.toList_append]
      exact PySem.TriplesOk_snoc _ _ _ _ ht
    · rw [Array.toList_append] at hcv
      exact LamX.among_app _ ht hcv
  · obtain ⟨c', e, hco⟩ := ha pos cv hc
    subst e
    refine PySem.W.kla_makeFunctionHit (c := c) (closure_ok hfree) I.ok.glob gl hcode cP oP ht hc bP fun ctv h' tk hx hsz => ?_
    exact fin h'.objs.size c' _ ctv H _ (I.kept fun b o e => Heap.get?_push_of_some _ (hx b o e)) (.inl ⟨rfl, hco⟩) (Heap.get?_push_size _ rfl) (nf _ hsz)
end
end Pv

/-! FwL3: sorted(xs, key=lambda x: ..), what it computes. -/
namespace Pv
open PySem PySem.Spec PyProof.Rows L2
/-- the names, to be read only -/
def shS : Option Slt → Option Slt
  | some (.val d) => some (.val d)
  | some (.own ds) => some (.val (.list ds))
  | _ => none
theorem shS_some {o : Option Slt} {t : Slt} (e : shS o = some t) : ∃ s d, o = some s ∧ ndD s = some d ∧ t = .val d := by
  cases o with
  | none => cases e
  | some s => cases s with
    | val d => cases e; exact ⟨_, d, rfl, rfl, rfl⟩
    | own ds => cases e; exact ⟨_, _, rfl, rfl, rfl⟩
    | dct kvs => cases e
    | vdc kvs => cases e
def shR (ρ : Rho) : Rho := ρ.map shS
theorem shR_get {ρ : Rho} {j : Nat} {t : Slt} (e : (shR ρ)[j]? = some (some t)) : ∃ s d, ρ[j]? = some (some s) ∧ ndD s = some d ∧ t = .val d := by
  unfold shR at e
  rw [List.getElem?_map] at e
  cases q : ρ[j]? with
  | none => rw [q] at e; cases e
  | some o =>
    rw [q] at e
    obtain ⟨s, d, rfl, h2, h3⟩ := shS_some (Option.some.inj e)
    exact ⟨s, d, rfl, h2, h3⟩
def keysD (el : Cd) (i : Nat) (ρ : Rho) : List D → Option (List D)
  | [] => some []
  | d :: ds => match vE el ((shR ρ).set i (some (.val d))), keysD el i ρ ds with
    | some (k, _), some ks => some (k :: ks)
    | _, _ => none
def srtK (xs ks : List D) : List D := ((xs.zip ks).mergeSort (PySem.W.dataLe false fun p : D × D => p.2)).map (·.1)
def eSortK (c : Cd) (i : Nat) (el : Cd) : RF := fun ρ => match aE c ρ with
  | some (a, ρ1) => match argD ρ1 a with
    | some (.list xs) => match keysD el i ρ1 xs with
      | some ks => match alikeB ks, sortableB ks with
        | true, true => if PyData.depthAll ks ≤ 64 ∧ xs.length ≤ sizeLine then some (.own (srtK xs ks), ρ1) else none
        | _, _ => none
      | none => none
    | _ => none
  | none => none
theorem keysD_len {el : Cd} {i : Nat} {ρ : Rho} : ∀ {xs ks : List D}, keysD el i ρ xs = some ks → ks.length = xs.length
  | [], _, e => by cases e; rfl
  | d :: xs, _, e => by
    unfold keysD at e
    split at e
    · rename_i h1 h2
      cases e
      rw [List.length_cons, List.length_cons, keysD_len h2]
    · cases e
theorem keysD_zip {el : Cd} {i : Nat} {ρ : Rho} : ∀ {xs ks : List D}, keysD el i ρ xs = some ks → ∀ p ∈ xs.zip ks, ∃ ρ', vE el ((shR ρ).set i (some (.val p.1))) = some (p.2, ρ')
  | [], _, e, p, hp => by cases e; cases hp
  | d :: xs, _, e, p, hp => by
    unfold keysD at e
    split at e
    · rename_i k ρ' ks h1 h2
      cases e
      rw [List.zip_cons_cons] at hp
      rcases List.mem_cons.mp hp with rfl | hp
      · exact ⟨_, h1⟩
      · exact keysD_zip h2 p hp
    · cases e
theorem eSortK_inv {c : Cd} {i : Nat} {el : Cd} {ρ ρ' : Rho} {s : Slt} (e : eSortK c i el ρ = some (s, ρ')) : ∃ a xs ks, aE c ρ = some (a, ρ') ∧ argD ρ' a = some (.list xs) ∧ keysD el i ρ' xs = some ks ∧ alikeB ks = true ∧ sortableB ks = true ∧
    PyData.depthAll ks ≤ 64 ∧ xs.length ≤ sizeLine ∧ s = .own (srtK xs ks) := by
  unfold eSortK at e
  split at e
  · split at e
    · split at e
      · split at e
        · split at e
          · rename_i h1 _ _ h2 _ _ h3 _ _ h4 h5 h7
            cases e
            exact ⟨_, _, _, h1, h2, h3, h4, h5, h7.1, h7.2, rfl⟩
          · cases e
        · cases e
      · cases e
    · cases e
  · cases e
section
variable {X : Cx} {pins : List (Addr × Obj)} {σ : L2.St} {H : Hp} {s s2 : Shared} {T : List (Addr × Str)} {O : Addr → Bool} {ρ : Rho}
/-- the names of a def, as its lambda reads them -/
theorem sok_lam {h : Heap} {i : Nat} {v : V} {d : D} (ok : HOk X.prog X.w H h) (S : SOk X.K T O ρ σ H) (dv : Dp X.K H v d) (hi : i < σ.length) :
    SOk X.K [] (fun _ => false) ((shR ρ).set i (some (.val d))) (σ.set i (some v)) (frzH H h) := by
  have mk : mask (fun _ => false) (frzH H h) = frzH H h := by
    funext a
    unfold mask
    simp
  have no : ∀ {j : Nat} {t : Slt}, ((shR ρ).set i (some (.val d)))[j]? = some (some t) → t.ow = true → False := fun {j t} e w => by
    rcases set_some e with ⟨rfl, e1, _⟩ | ⟨ne, e1⟩
    · cases e1; cases w
    · obtain ⟨t, _, h1, _, h2⟩ := shR_get e1
      cases h2; cases w
  have nov : ∀ {j : Nat} {kvs : List (Key × D)}, ((shR ρ).set i (some (.val d)))[j]? = some (some (.vdc kvs)) → False := fun {j kvs} e => by
    rcases set_some e with ⟨rfl, e1, _⟩ | ⟨ne, e1⟩
    · cases e1
    · obtain ⟨t, _, h1, _, h2⟩ := shR_get e1
      cases h2
  refine ⟨by rw [List.length_set, List.length_set]; unfold shR; rw [List.length_map]; exact S.len, fun a e => (by cases e), fun j d' e => ?_, fun j ds e => (no e rfl).elim, fun j k p s t e1 _ w1 => (no e1 w1).elim, fun p hp => (by cases hp), fun j kvs e => (no e rfl).elim, fun j kvs e => (nov e).elim⟩
  rw [mk]
  rcases set_some e with ⟨rfl, e1, _⟩ | ⟨ne, e1⟩
  · cases e1
    exact ⟨v, List.getElem?_set_self hi, frz_dp ok dv⟩
  · obtain ⟨t, dt, h1, h3, h2⟩ := shR_get e1
    cases h2
    obtain ⟨w, hw⟩ := S.slot h1
    refine ⟨w, by rw [List.getElem?_set_ne ne]; exact hw, frz_dp ok ?_⟩
    have := ArgR.rep (a := .slot j) (v := w) S hw (show argD ρ (.slot j) = some d' by simp only [argD, h1]; exact h3)
    exact this.dp
mutual
theorem dp_readsA {X : Cx} (I : Inv X pins σ H s) : ∀ (d : PyData) (v : V) (u : Value), L2.Dp X.K H v d → RelV v u → ∃ as, Reads s.heap u d as ∧ ∀ a ∈ as, H a ≠ none ∨ X.base.get? a ≠ none
  | .none, _, _, h, r => by
    cases h
    cases r
    exact ⟨_, Reads.none, by simp⟩
  | .bool b, _, _, h, r => by
    cases h
    cases r
    exact ⟨_, Reads.bool b, by simp⟩
  | .int i, _, _, h, r => by
    cases h
    obtain ⟨t, rfl⟩ := r
    exact ⟨_, Reads.int i t, by simp⟩
  | .str x, _, _, h, r => by
    cases h
    obtain ⟨t, rfl⟩ := r
    exact ⟨_, Reads.str x t, by simp⟩
  | .list ds, _, _, h, r => by
    cases h with
    | lst hs ha =>
      cases r
      obtain ⟨its, rv, ⟨o, n, ho, hc, _, hd⟩, _⟩ := I.list hs
      obtain ⟨as, hr, hk⟩ := dp_readsAllA I ds _ its ha rv
      refine ⟨_, Reads.list ho hc hd hr, fun a h => ?_⟩
      rcases List.mem_cons.mp h with rfl | h
      · rcases hs with (e | ⟨_, e⟩) | ⟨o, _, _, e, _⟩
        · exact .inl (by rw [e]; simp)
        · exact .inl (by rw [e]; simp)
        · exact .inr (by rw [I.ok.mod.kin _ _ e]; simp)
      · exact hk a h
  | .tuple ds, _, _, h, r => by
    cases h with
    | tup hs ha =>
      cases r
      obtain ⟨its, rv, ⟨o, ho, hc, n, hd⟩, _⟩ := I.tuple hs
      obtain ⟨as, hr, hk⟩ := dp_readsAllA I ds _ its ha rv
      exact ⟨_, Reads.tuple ho hc hd hr, hk⟩
  | .dict _, _, _, h, _ => by cases h
theorem dp_readsAllA {X : Cx} (I : Inv X pins σ H s) : ∀ (ds : List PyData) (vs : List V) (us : List Value), L2.DpAll X.K H vs ds → Vals vs us → ∃ as, ReadsAll s.heap us ds as ∧ ∀ a ∈ as, H a ≠ none ∨ X.base.get? a ≠ none
  | [], _, _, h, r => by
    cases h
    cases r
    exact ⟨_, ReadsAll.nil, by simp⟩
  | d :: ds, _, _, h, r => by
    cases h with
    | cons h1 h2 =>
      cases r with
      | cons r1 r2 =>
        obtain ⟨as, q1, k1⟩ := dp_readsA I d _ _ h1 r1
        obtain ⟨bs, q2, k2⟩ := dp_readsAllA I ds _ _ h2 r2
        refine ⟨_, ReadsAll.cons q1 q2, fun a h => ?_⟩
        rcases List.mem_append.mp h with h | h
        · exact k1 a h
        · exact k2 a h
end
theorem lam1_run {A : Around} {params : Arguments} {body : Expr} {scope : Scope} {f c' : Addr} {pm ctv : Value} {x : Str} {i k : Nat} {el : Cd} {v : V} {u : Value} {d kd : D} {ρx : Rho} (I : Inv X pins σ H s) (nd : X.N.Nodup) (hi : X.N[i]? = some x) (L : LamS1 X.env.scope scope x) (S : SOk X.K T O ρ σ H)
    (hf : s.heap.get? f = some (PySem.W.kla_obj "<lambda>" (X.env.qual ++ "<lambda>") params body scope (cloFrom X.env.cells scope.names []) pm c' ctv)) (hfr : f ∉ frs X.stack) (hco : H c' = some (LamX.CodeO c' (X.env.qual ++ "<lambda>")))
    (hbind : ∀ u : Value, bindArgs (PySem.W.kla_fn "<lambda>" (X.env.qual ++ "<lambda>") params body scope (cloFrom X.env.cells scope.names []) pm (.ref c') ctv) ⟨[u], []⟩ = pure [(x, u)])
    (hbody : ∀ (A : Around) (outer : List PySem.Env) (s : Shared) (H : Hp) (E : XK), Room k (A.deeper (LamX.lamEnv X scope s.heap.objs.size f c')) → PE (LamX.lamCx X A outer s H E scope f c').nox body (tV X.K [] el))
    (hr : Room (k + 1) A) (hA : A.frames = some X.stack) (St : StB (frs X.stack) s.heap s s2) (rv : RelV v u) (dv : Dp X.K H v d) (hk : vE el ((shR ρ).set i (some (.val d))) = some (kd, ρx)) :
    wpAny (model X.prog X.w) A (call (.ref f) [u]) (KeyFr (frs X.stack) s.heap.objs.size kd s2) (fun _ _ => False) s2 := by
  have kb := St.kb
  have fr0 : ∀ b o, X.base.get? b = some o → b ∉ frs X.stack := fun b o e z => by
    have := (I.stack.mem z).1
    rw [e] at this
    cases this
  have e0 : Env0 X.prog X.w X.K X.mg X.base A X.stack s2 (frzH H s.heap) := {
    frames := hA
    mod := I.env0.mod
    bs := fun b o e => ⟨(kb b o (I.bs b o e).1).1 (fr0 b o e), frzH_none (I.bs b o e).2⟩
    bsz := by
      obtain ⟨m, ⟨o, es, ep, ho, _⟩, _⟩ := I.loc
      obtain ⟨_, sl, q⟩ := kb _ _ ho
      exact Nat.le_of_lt (Nat.lt_of_le_of_lt (Nat.le_trans I.ok.bsz I.ok.above) (Heap.lt_size q))
    funs := I.stack.of_keeps fun b o e _ => by
      obtain ⟨_, sl, q⟩ := kb b o e
      exact ⟨_, q, rfl⟩
    frf := fun b hb => frzH_none (I.stkFree b hb)
    hok := frzH_ok I.hok kb I.stkFree
    bare := St.bare }
  have of2 := (kb _ _ hf).1 hfr
  have hcf : c' ∉ frs X.stack := fun z => by
    have := I.stkFree _ z
    rw [hco] at this
    cases this
  obtain ⟨⟨oc, vs, t, hoc, hdc, hvc⟩, _, _⟩ := I.hok c' _ hco
  have hoc2 := (kb _ _ hoc).1 hcf
  refine wpAny_call (codeAny_mono (R := fun r s' => match r with | .ok (.ret u') => KeyFr (frs X.stack) s.heap.objs.size kd s2 u' s' | _ => False) (PySem.W.kla_callFunE hr.depth of2 rfl L.co L.gen rfl ⟨c', oc, vs, t, rfl, hoc2, hdc, hvc⟩ ?_) fun r s' hq => ?_)
  · rw [hbind]
    refine wpAny_pure (wpAny_newFunctionEnv (fun y hy => (L.own y hy).1) (fun y hy => ?_) (fun h₁ hns hsb => ⟨(e0.mod.nolimit.keeps fun b o e => (e0.bs b o e).1).fresh _ hsb, ?_⟩) L.kind)
    · rw [List.mem_singleton.mp hy]
      exact L.par
    · show codeAny _ _ (.expr body (LamX.lamEnv X scope s2.heap.objs.size f c')) _ _
      have kp : ∀ b o, s2.heap.get? b = some o → h₁.get? b = some o := fun b o e => hsb.extBut b o (Nat.ne_of_lt (Heap.lt_size e)) (Heap.get?_push_of_some _ e)
      have J := lam1_start (f := f) (c' := c') (E := fun _ _ _ => False) (h₁ := h₁) (tk := s2.toks + ([(x, u)] : List (Str × Value)).length) I nd hi L kb e0 hr.hd (fun b e => frzH_none e) rv hns kp
      have hil : i < σ.length := by
        rw [I.len]
        exact (List.getElem?_eq_some_iff.mp hi).1
      have S2 := sok_lam (X := X) (h := s.heap) I.hok S dv hil
      refine PySem.W.kla_codeExpr (wpAny_mono ((hbody A X.stack s2 (frzH H s.heap) (fun _ _ _ => False) (hr.deeper _)).run [] _ _ (frzH H s.heap) (fun w H' => ∃ O', Dp X.K (mask O' H') w kd) (J.wish _) ⟨_, _, kd, ρx, S2, hk, fun w O' H' _ _ _ dp => ⟨O', dp⟩⟩) (fun u' s' hq => ?_) fun _ _ z => False.elim z)
      obtain ⟨w', H', J', rv', O', dp'⟩ := hq
      have J' := J'.unwish
      refine ⟨J'.os, J'.bare, un_kb I.hok kb I.stkFree (show Un (frs X.stack) [] (frzH H s.heap) H' s2.heap s'.heap from J'.base) J'.hok, ?_⟩
      obtain ⟨as, hrd, has⟩ := dp_readsA J' kd w' u' ((Kp.mask O' H').dp dp').l2 rv'
      refine ⟨as, hrd, fun a ha => ?_⟩
      rcases has a ha with z | z
      · refine Classical.byContradiction fun c => ?_
        rw [not_or, Nat.not_lt] at c
        obtain ⟨o, ho⟩ : ∃ o, s2.heap.get? a = some o := Option.ne_none_iff_exists'.mp c.2
        have hn : frzH H s.heap a = none := frzH_none (I.hok.fresh c.1)
        exact z ((show Un (frs X.stack) [] (frzH H s.heap) H' s2.heap s'.heap from J'.base).free a o ho hn (by simp))
      · cases q : X.base.get? a with
        | none => exact absurd q z
        | some o => exact .inl (Heap.lt_size (I.bs a o q).1)
  · cases r with
    | error e => exact hq.elim
    | ok fl =>
      cases fl with
      | ret u' => exact hq
      | next => exact hq.elim
      | brk => exact hq.elim
      | cont => exact hq.elim
/-- sorted(e, key=lambda x: body) -/
theorem es_sortK {e : Expr} {ca : Cd} {c P : Addr} {params : Arguments} {body : Expr} {scope : Scope} {x : Str} {i k : Nat} {el : Cd} {p lpos kpos pos : Pos} (hg : Gl X "sorted") (hm : X.mg "sorted" = none) (ha : ESs X T [e] [ca]) (TB : LamX.TabB X.base X.mg c P) (hcode : X.env.code = .ref c)
    (hmT : (P, X.env.qual ++ "<lambda>") ∈ T) (hq : X.env.qual ++ "<lambda>" ≠ gexq) (hu : ∀ p ∈ T, p.1 = P → p.2 = X.env.qual ++ "<lambda>") (nd : X.N.Nodup) (hi : X.N[i]? = some x) (L : LamS1 X.env.scope scope x) (hr : Room (k + 3) X.A) (hdef : defaultsOf params X.env = ([], []))
    (hbind : ∀ (q : Str) (cl : List (Str × Addr)) (pm cv ctv u : Value), bindArgs (PySem.W.kla_fn "<lambda>" q params body scope cl pm cv ctv) ⟨[u], []⟩ = pure [(x, u)])
    (hbody : ∀ (A : Around) (outer : List PySem.Env) (s : Shared) (H : Hp) (E : XK) (f c' : Addr), Room k (A.deeper (LamX.lamEnv X scope s.heap.objs.size f c')) → PE (LamX.lamCx X A outer s H E scope f c').nox body (tV X.K [] el)) :
    PE X (.Call (.Name "sorted" p) [e] [⟨some "key", .Lambda params body scope lpos, kpos⟩] pos) (tE X.K T ca.pu (eSortK ca i el)) := by
  refine ⟨fun pins s σ H Q I h => ?_⟩
  obtain ⟨O, ρ, r, ρ', S, hf, q⟩ := h
  obtain ⟨a, xs, ks, e1, e2, e3, e4, e5, e7, e8, rfl⟩ := eSortK_inv hf
  have hp := ha.plain
  rw [List.all_cons, Bool.and_eq_true] at hp
  have h1 : tAs X.K T [ca] σ H fun vs H1 => ∃ v O1, vs = [v] ∧ SOk X.K T O1 ρ' σ H1 ∧ Tr O ρ σ H O1 ρ' σ H1 ∧ (ca.pu = true → Kp H H1) ∧ ArgR X.K O1 H1 σ v a := by
    refine ⟨O, ρ, [a], ρ', S, by unfold aEs; rw [e1]; rfl, fun vs O1 H1 S1 t1 p1 a1 => ?_⟩
    cases a1 with
    | cons b1 b2 =>
      cases b2
      exact ⟨_, O1, rfl, S1, t1, fun z => p1 (by simp [cpu, z]), b1⟩
  refine wpAny_Call_Name_kw (ld_blt I hg hm (u := .builtin "sorted") (by decide +kernel) ?_)
  refine PyProof.Rows.callWith_kw (thn (ha.pa.run pos pins s σ H _ I h1) fun us s1 ⟨vs, H1, I1, r1, v, O1, hv, S1, t1, p1, a1⟩ => ?_) (by rw [plain_star hp.1]; rfl) (plain_any (by simp [hp.1]))
  subst hv
  show wpAny _ _ (evalAll ((do let v ← eval (.Lambda params body scope lpos) X.env; standAt pos; pure v) :: [])) _ _ s1
  refine wpAny_evalAll_cons (wpAny_bind (lam_make3 I1 TB hcode hmT hq S1.tabs hdef (L.has I1.ok) fun f c' pm ctv H2 s2 I2 G hfo hfr => wpAny_bind (wpAny_standAt (wpAny_pure (wpAny_evalAll_nil ?_)))))
  have tabs2 := G.tabs S1.tabs hq hu
  have S2 : SOk X.K T O1 ρ' σ H2 := S1.kp G.kp tabs2
  have t2 : Tr O1 ρ' σ H1 O1 ρ' σ H2 := Tr.kp S1 G.kp G.dom
  have a2 : ArgR X.K O1 H2 σ v a := a1.mono t2
  obtain ⟨u0, rfl, rv⟩ : ∃ u0, us = [u0] ∧ RelV v u0 := by
    cases r1 with
    | cons rv rn => cases rn; exact ⟨_, rfl, rv⟩
  obtain ⟨b, ws, rfl, g1, g2⟩ := (a2.rep S2 e2).list
  obtain rfl : u0 = Value.ref b := rv
  obtain ⟨its, rz, hl, hz⟩ := I2.list (.inl g1)
  have hwl := dps_len g2
  have hkl := keysD_len e3
  have hvl := rz.length
  have hun := hr.un
  have m1 : (ws.zip (xs.zip ks)).map (·.2) = xs.zip ks := List.map_snd_zip (by rw [List.length_zip]; omega)
  have mk : (ws.zip (xs.zip ks)).map (fun b : V × D × D => b.2.2) = ks := by
    rw [show (fun b : V × D × D => b.2.2) = (fun p : D × D => p.2) ∘ (fun b : V × D × D => b.2) from rfl, ← List.map_map, m1]
    exact List.map_snd_zip (by omega)
  have each : PySem.W.EachIs (fun u (b : V × D × D) => RelV b.1 u ∧ Dp X.K H2 b.1 b.2.1 ∧ b.2 ∈ xs.zip ks) its (ws.zip (xs.zip ks)) := by
    have gen : ∀ (ws : List V) (its : List Value) (ps : List (D × D)), Vals ws its → ws.length = ps.length → (∀ p ∈ ps, p ∈ xs.zip ks) → (∀ q ∈ ws.zip ps, Dp X.K H2 q.1 q.2.1) → PySem.W.EachIs (fun u (b : V × D × D) => RelV b.1 u ∧ Dp X.K H2 b.1 b.2.1 ∧ b.2 ∈ xs.zip ks) its (ws.zip ps) := by
      intro ws
      induction ws with
      | nil => intro its ps r hl _ _; cases r; exact .nil
      | cons w ws ih =>
        intro its ps r hl hm hd
        cases r with
        | cons r t =>
          cases ps with
          | nil => cases hl
          | cons p ps =>
            rw [List.zip_cons_cons] at hd ⊢
            exact .cons ⟨r, hd _ List.mem_cons_self, hm _ List.mem_cons_self⟩ (ih _ ps t (by simpa using hl) (fun q hq => hm q (List.mem_cons_of_mem _ hq)) fun q hq => hd q (List.mem_cons_of_mem _ hq))
    refine gen ws its (xs.zip ks) rz (by rw [List.length_zip]; omega) (fun _ h => h) fun q hq => ?_
    have hq2 : (q.1, q.2.1) ∈ ws.zip xs := by
      obtain ⟨j, hj⟩ := List.getElem?_of_mem hq
      rw [List.getElem?_zip_eq_some, List.getElem?_zip_eq_some] at hj
      exact List.mem_of_getElem? (i := j) (by rw [List.getElem?_zip_eq_some]; exact ⟨hj.1, hj.2.1⟩)
    exact (Kp.mask O1 H2).dp (dps_zip g2 _ hq2)
  have al := alikeB_ok e4
  have so := sortableB_ok e5
  refine sorted_keyF (k := fun b : V × D × D => b.2.2) (b := false) (fs := frs X.stack) hl.isList each (by rw [mk]; exact al) (by rw [mk]; exact so) (by rw [List.length_zip, List.length_zip]; omega) (fun b hb => ?_) (PyProof.Rows.ksk_s1 _ _) (fun y => PyProof.Rows.ksk_l1 _ _) (fun y => PyProof.Rows.ksk_t1 f y) I2.bare (fun b hb => ?_)
    (fun u b hb hm s3 St => ?_) fun out cc s3 St hfresh hD hlo eo => ?_
  · have : b.2.2 ∈ ks := by rw [← mk]; exact List.mem_map.mpr ⟨b, hb, rfl⟩
    have := le_all e7 this
    omega
  · obtain ⟨_, o, ho, _⟩ := I2.stack.mem hb
    exact Heap.lt_size ho
  · obtain ⟨h1, h2, h3⟩ := hb
    obtain ⟨ρx, h4⟩ := keysD_zip e3 _ h3
    have hr1 : Room (k + 1) X.A.in1.in1 := (Room.in1 (k := k + 2) hr).in1
    exact lam1_run I2 nd hi L S2 hfo hfr G.code (fun u => hbind _ _ _ _ _ u) (fun A outer s H E => hbody A outer s H E f c') hr1 I2.ok.frames St h1 h2 h4
  · have fsl : ∀ b ∈ frs X.stack, H2 b = none := I2.stkFree
    have nD : H2 (s2.heap.objs.size + 1) = none := I2.hok.fresh (Nat.le_succ _)
    have rout : Vals ((((ws.zip (xs.zip ks)).mergeSort (PySem.W.dataLe false fun b : V × D × D => b.2.2))).map (·.1)) out := by
      have gen : ∀ (us : List Value) (bs : List (V × D × D)), PySem.W.EachIs (fun u (b : V × D × D) => RelV b.1 u ∧ Dp X.K H2 b.1 b.2.1 ∧ b.2 ∈ xs.zip ks) us bs → Vals (bs.map (·.1)) us := by
        intro us bs h
        induction h with
        | nil => exact .nil
        | cons h _ ih => exact .cons h.1 ih
      exact gen _ _ eo
    have keep : ∀ b o, H2 b ≠ none → s2.heap.get? b = some o → s3.heap.get? b = some o := fun b o n e => (St.kb b o e).1 fun z => n (fsl b z)
    have I3 : Inv X pins σ (upd H2 (s2.heap.objs.size + 1) (.lst ((((ws.zip (xs.zip ks)).mergeSort (PySem.W.dataLe false fun b : V × D × D => b.2.2))).map (·.1)))) s3 := by
      refine I2.call' (ch := []) St.os ⟨fun b o e n hb _ => (St.kb b o e).1 hb, fun b o e n hb _ => (St.kb b o e).2, fun b o e n _ => ?_, fun b o e _ => ?_, fun b ys e => ?_, fun b o u e => ?_, fun b ps e => ?_⟩ (fun b u e => ?_) St.bare (fun b hb => absurd hb (by simp))
      · rw [upd_ne (Nat.ne_of_lt (Nat.lt_succ_of_lt (Heap.lt_size e)))]; exact n
      · obtain ⟨_, sl, z⟩ := St.kb b o e
        exact ⟨_, z⟩
      · rw [upd_ne (ne_of_none e nD)]; exact e
      · rw [upd_ne (ne_of_none e nD)]; exact e
      · exact ⟨#[], by rw [upd_ne (ne_of_none e nD)]; simpa using e⟩
      · by_cases hb : b = s2.heap.objs.size + 1
        · subst hb
          rw [upd_same] at e
          cases e
          exact ⟨by rw [List.length_map, List.length_mergeSort, List.length_zip, List.length_zip]; omega, out, cc, rout, hD⟩
        · rw [upd_ne hb] at e
          refine (I2.hok b u e).stay (fun b' o' hb' e' => keep b' o' ?_ e') (fun b' e' => by rw [upd_ne (ne_of_none e' nD)]; exact e') (fun b' ys e' => by rw [upd_ne (ne_of_none e' nD)]; exact e')
          rcases hb' with rfl | hb'
          · rw [e]; simp
          · rw [hb']; simp
    refine ⟨.ref (s2.heap.objs.size + 1), _, I3, rfl, ?_⟩
    have hdat : DpAll X.K (mask O1 H2) ((((ws.zip (xs.zip ks)).mergeSort (PySem.W.dataLe false fun b : V × D × D => b.2.2))).map (·.1)) (srtK xs ks) := by
      have hms : srtK xs ks = (((ws.zip (xs.zip ks)).mergeSort (PySem.W.dataLe false fun b : V × D × D => b.2.2))).map (fun b => b.2.1) := by
        unfold srtK
        rw [← m1, show (fun b : V × D × D => b.2.1) = (fun p : D × D => p.1) ∘ (fun b : V × D × D => b.2) from rfl, ← List.map_map]
        congr 1
        rw [m1]
        conv => lhs; rw [← m1]
        exact (List.map_mergeSort (f := fun b : V × D × D => b.2) (r := PySem.W.dataLe false fun b : V × D × D => b.2.2) (s := PySem.W.dataLe false fun p : D × D => p.2) fun b _ c _ => rfl).symm
      rw [hms]
      have hall : ∀ b ∈ ((ws.zip (xs.zip ks)).mergeSort (PySem.W.dataLe false fun b : V × D × D => b.2.2)), Dp X.K (mask O1 H2) b.1 b.2.1 := fun b hb => by
        rw [List.mem_mergeSort] at hb
        obtain ⟨j, hj⟩ := List.getElem?_of_mem hb
        rw [List.getElem?_zip_eq_some, List.getElem?_zip_eq_some] at hj
        exact dps_zip g2 (b.1, b.2.1) (List.mem_of_getElem? (i := j) (by rw [List.getElem?_zip_eq_some]; exact ⟨hj.1, hj.2.1⟩))
      generalize ((ws.zip (xs.zip ks)).mergeSort (PySem.W.dataLe false fun b : V × D × D => b.2.2)) = bs at hall
      clear eo rout I3
      induction bs with
      | nil => exact .nil
      | cons b bs ih => exact .cons (hall b List.mem_cons_self) (ih fun c hc => hall c (List.mem_cons_of_mem _ hc))
    refine res_list S2 hdat nD fun w O' H' S' t' k' rw' => ?_
    have t12 := t1.trans S.cov' t2
    exact q w O' H' S' (t12.trans S.cov' t') (fun z => ((p1 z).trans G.kp).trans k') (rw'.back t12)
end
end Pv

/-! FwG: all(x in G for x in text), any(..): G a global text. -/
namespace Pv
open PySem PySem.Spec PyProof.Rows L2
/-- a test of the sign c, in the generator's frame -/
def TestG (X : Cx) (scope : Scope) (x : Str) (elt : Expr) (tst : Nat → Bool) : Prop :=
  ∀ (g : PySem.Env) (B : Around) (F : Value → Shared → Prop) (sign : Nat) (tk : Tok) (st : Shared) (m : Str → Option Value), g.scope = scope → g.globals = mainGlobals → st.heap.Ns mainGlobals X.mg → st.heap.Ns g.locals m → m x = some (.str ⟨#[sign]⟩ tk) →
    wpAny (model X.prog X.w) B (eval elt g) (fun y st' => y = .bool (tst sign) ∧ Keeps st st') F st
theorem gen_txt {X : Cx} {pins : List (Addr × Obj)} {σ : L2.St} {H : Hp} {s : Shared} {c P : Addr} {elt iter : Expr} {x : Str} {px gp : Pos} {scope : Scope} {tst : Nat → Bool} {te : TE} {k : Nat} {Q' : Value → Shared → Prop} {R : Str → Hp → Prop}
    (room : Room k X.A) (TB : GxR.TabB X.base X.mg c P) (hcode : X.env.code = .ref c) (S : GxR.GenS X.env scope x) (hi : PE X iter te) (hel : TestG X scope x elt tst) (hfo : ∀ v, genFold iter X.env v = pure v) (I : Inv X pins σ H s)
    (h : te σ H fun v H1 => ∃ a : Str, v = .str a ∧ GxR.TabG H1 P ∧ R a H1) (fin : ∀ a H1 g s5, R a H1 → GxR.Ready X pins σ H1 P a tst g s5 → Q' (.ref g) s5) :
    wpAny (model X.prog X.w) X.A (eval (.GeneratorExp elt [⟨.Name x px, iter, [], 0⟩] scope gp) X.env) Q' X.xe s := by
  refine wpAny_GeneratorExp_walksQ room.hd S.co (closure_ok S.free) S.cell S.dot S.loc S.kind room.depth ?_ hfo
  refine thn (hi.run pins s σ H _ I h) fun xv s1 ⟨v, H1, I1, r1, a, ev, ⟨ps, hP, ht⟩, hR⟩ => ?_
  subst ev
  obtain ⟨tk0, rfl⟩ : ∃ t, xv = .str a t := r1
  refine wpAny_pyIter_str fun o St W hst => ?_
  have o1 : s1.heap.get? P = some { cls := .none, data := .fields ps } := I1.hok P _ hP
  have ltP := Heap.lt_size o1
  have o2 : (s1.heap.push o).get? P = some { cls := .none, data := .fields ps } := Heap.get?_push_of_some _ o1
  have hd : PySem.W.CodeHd (s1.heap.push o) c P := TB.code.keeps fun b u e => Heap.get?_push_of_some _ (I1.bk b u e)
  have nl := I1.nolimit.push o
  have main : ∀ (code : Value) (g3 : Heap) (tk : Nat) (ps' : Array Value), Heap.ExtBut P (s1.heap.push o) g3 → (s1.heap.push o).objs.size ≤ g3.objs.size → g3.get? P = some { cls := .none, data := .fields ps' } → (∃ more, ps' = ps ++ more) → TriplesOk ps'.toList →
      wpAny (model X.prog X.w) X.A (builtinsFor X.env.globals X.env.builtins) (fun bi s4 => ∃ J fp wr n0 Pf St0 pz F, Value.ref s1.heap.objs.size = .ref J ∧ (∀ A' : Around, A'.handled = none → Walks X.prog X.w A' J fp wr n0 Pf St0) ∧ St0 0 s4.heap ∧
        (∀ b ∈ fp, b < s4.heap.objs.size) ∧ s4.heap.NoLimit ∧ cStatics ∉ wr ∧
        (∀ href : Heap, (∀ b u, s4.heap.get? b = some u → href.get? b = some u) → QuietGen X.prog X.w (genEnv scope (cloFrom X.env.cells scope.names []) s4.heap.objs.size code bi X.env) x [] elt (List.range s4.heap.objs.size) wr Pf pz F href) ∧
        (∀ a' h5 tk' gs, gs.bare = true → s4.heap.objs.size < a' → h5.objs.size = a' + 1 → (∀ b u, s4.heap.get? b = some u → h5.get? b = some u) →
          WalksS X.prog X.w X.A.in4 a' (a' :: s4.heap.objs.size :: List.range s4.heap.objs.size) (s4.heap.objs.size :: wr) (GenOnlyQ s4.gens.size) (passing pz n0 0).length (fun j y => ∃ i, (passing pz n0 0)[j]? = some i ∧ F i y)
            (GenAt X.prog X.w X.A.in4 a' s4.gens.size s4.heap.objs.size (List.range s4.heap.objs.size) wr pz n0 F) →
          GenAt X.prog X.w X.A.in4 a' s4.gens.size s4.heap.objs.size (List.range s4.heap.objs.size) wr pz n0 F 0 { s4 with gens := s4.gens.push gs, toks := tk', heap := h5 } →
          Q' (.ref a') { s4 with gens := s4.gens.push gs, toks := tk', heap := h5 })) X.xe { s1 with heap := g3, toks := tk } := by
    intro code g3 tk ps' ext szg oP3 grew tr3
    obtain ⟨bm, ob, b1, b2, b3, b4, b5, b6, b7, b8⟩ := TB.bm
    have cs_lt : cStatics < s1.heap.objs.size := let ⟨_, q, _⟩ := I1.nolimit; q.lt
    have csP : cStatics ≠ P := fun z => by
      obtain ⟨_, ⟨o', es, ep, ho, hdd, _⟩, _⟩ := I1.nolimit
      rw [z, o1] at ho
      cases ho
      cases hdd
    have up : (s1.heap.push o).objs.size = s1.heap.objs.size + 1 := Heap.size_push ..
    have old : ∀ b u, b ≠ P → s1.heap.get? b = some u → g3.get? b = some u := fun b u n e => ext b u n (Heap.get?_push_of_some _ e)
    have glb : g3.Ns mainGlobals X.mg := ((I1.mod.glob.keeps I1.bk).push o).extBut ext TB.gP
    refine wpAny_builtinsFor (m := X.mg) (by rw [I1.ok.glob]; exact glb) b1 b2 (old _ _ b4 (I1.bk _ _ b5)) b6 b7 b8 ?_
    refine ⟨s1.heap.objs.size, [s1.heap.objs.size], [s1.heap.objs.size], a.cps.size, SignAt a, St, (fun _ => true), (fun i y => ∃ cc, a.cps[i]? = some cc ∧ y = .bool (tst cc)), rfl, W, ?_, ?_, nl.extBut ext csP, ?_, ?_, ?_⟩
    · refine (W X.A room.hd).frame _ _ _ hst fun b hb u e => ext b u (fun z => ?_) e
      rw [List.mem_singleton.mp hb] at z
      exact Nat.ne_of_lt ltP z.symm
    · intro b hb
      rw [List.mem_singleton.mp hb]
      exact Nat.lt_of_lt_of_le (by rw [up]; exact Nat.lt_succ_self _) szg
    · rw [List.mem_singleton]
      exact Nat.ne_of_lt cs_lt
    · intro href sub
      refine ⟨fun A' E' i v st m hA hPv hn hm hk => ?_, fun A' E' i v st m hA hPv hp hn hm hk => ?_⟩
      · simp only [List.forIn_nil]
        exact wpAny_pure ⟨rfl, GxR.keeps_refl _⟩
      · obtain ⟨cc, u, hcc, rfl⟩ := hPv
        have gst : st.heap.Ns mainGlobals X.mg := by
          obtain ⟨og, es, ep, q1, q2, q3⟩ := glb
          refine ⟨og, es, ep, hk mainGlobals (List.mem_range.mpr (Heap.lt_size q1)) (fun z => ?_) og (sub _ _ q1), q2, q3⟩
          obtain ⟨og', es', ep', z1, _⟩ := I1.mod.glob.keeps I1.bk
          rw [List.mem_singleton.mp z] at z1
          exact Nat.lt_irrefl _ (Heap.lt_size z1)
        exact wpAny_mono (hel _ A' E' cc u st m rfl I1.ok.glob gst hn hm) (fun y s3 r => ⟨⟨cc, hcc, r.1⟩, r.2⟩) fun _ _ e => e
    · intro g h5 tk5 gs bare5 big5 sz5 keep5 W5 at5
      simp only [GxR.passing_true, List.length_range] at W5
      refine fin a H1 g _ hR ⟨_, _, _, _, _, W5.in4_1, at5, ?_, fun s' mv => ?_⟩
      · intro j y sj Qj Ej hy hQj
        obtain ⟨i, hij, cc, hcc, rfl⟩ := hy
        obtain ⟨lj, ej⟩ := List.getElem?_eq_some_iff.mp hij
        rw [List.getElem_range] at ej
        subst ej
        have hQ2 : Qj (GxR.trF tst a.cps.toList j) sj := hQj
        rw [GxR.trF_some (by rw [Array.getElem?_toList]; exact hcc)] at hQ2
        exact wpAny_truthy_bool hQ2
      · obtain ⟨more, em⟩ := grew
        have apart : ∀ b u, s1.heap.get? b = some u → b ∉ g3.objs.size :: [s1.heap.objs.size] := fun b u e hb => by
          have l := Heap.lt_size e
          rcases List.mem_cons.mp hb with z | z
          · rw [z] at l
            exact Nat.lt_irrefl _ (Nat.lt_trans l (Nat.lt_of_lt_of_le (by rw [up]; exact Nat.lt_succ_self _) szg))
          · rw [List.mem_singleton.mp z] at l
            exact Nat.lt_irrefl _ l
        have J := GxR.inv_tab (more := more) (h' := s'.heap) (g' := s'.gens) (d' := s'.drawn) (t' := s'.toks) I1 hP (fun b u n e => mv.heap b u (apart b u e) (keep5 b u (old b u n e)))
          (by rw [← em]; exact mv.heap P _ (apart P _ o1) (keep5 P _ oP3)) (AllBare.movedS (I1.bare.push bare5) mv)
        rw [GxR.sh_eta s1 s' mv.os] at J
        exact ⟨upd H1 P (.tbl (ps ++ more)), ⟨⟨ps ++ more, upd_same, em ▸ tr3⟩, fun b n => upd_ne n⟩, J⟩
  refine ⟨nl, ?_⟩
  rcases hf : codeAmong gp ps.toList with _ | cv
  · refine wpAny_genexprCodeX hcode (hd.code o2 ht) (hd.tab o2) hf fun c' h' tk hx hge hlt hco' _ htab' _ => ?_
    obtain ⟨q1, vs, f1, tf, fl, tg, inF, tx, tt, op, _, _, _, _, _, _, _, _, _, htr, _⟩ := hco'
    exact main _ h' tk _ hx (Nat.le_trans hge (Nat.le_of_lt hlt)) htab'.2 ⟨_, rfl⟩ htr
  · exact wpAny_genexprCode_hit hcode (hd.code o2 ht) hf (main cv (s1.heap.push o) s1.toks ps (Heap.ExtBut.refl _ _) (Nat.le_refl _) o2 ⟨#[], by simp⟩ ht)
/-! ### x in G -/
theorem testG_in {X : Cx} {scope : Scope} {x G : Str} {gs : Str} {gt : Tok} {p1 p2 p3 : Pos} (hk : scope.kind = .function) (hl : scope.names.lookup x = some .local) (hg : scope.names.lookup G = some .globalImplicit) (hm : X.mg G = some (.str gs gt))
    (dx : (x == ("__debug__" : Str)) = false) (dg : (G == ("__debug__" : Str)) = false) : TestG X scope x (.Compare (.Name x p1) [.In] [.Name G p2] p3) fun c => decide (c ∈ gs.cps.toList) := by
  intro g B F sign tk st m hs hgl hns hn hx
  refine wpAny_Compare1 (wpAny_Name (wpAny_loadName_local (by rw [hs]; exact hk) (show g.scope.names.lookup x = some .local by rw [hs]; exact hl) hn hx ?_) dx) (by rfl)
  refine Calls.Name_function_global (by rw [hs]; exact hk) (show g.scope.names.lookup G = some .globalImplicit by rw [hs]; exact hg) (Calls.loadGlobal_global (by rw [hgl]; exact hns) hm ?_) dg
  refine PyProof.Rows.in_str ⟨?_, GxR.keeps_refl _⟩
  rw [PySem.StrLaws.found_one]
section
variable {X : Cx} {T : List (Addr × Str)}
/-- all(test for x in text), any(..) -/
def eQuG (all : Bool) (tst : Nat → Bool) (c : Cd) : RF := fun ρ => match aE c ρ with
  | some (a, ρ1) => match argD ρ1 a with
    | some (.str z) => some (.val (.bool (if all = true then z.cps.toList.all tst else z.cps.toList.any tst)), ρ1)
    | _ => none
  | none => none
theorem eQuG_inv {all : Bool} {tst : Nat → Bool} {c : Cd} {ρ ρ' : Rho} {r : Slt} (h : eQuG all tst c ρ = some (r, ρ')) : ∃ a z, aE c ρ = some (a, ρ') ∧ argD ρ' a = some (.str z) ∧ r = .val (.bool (if all = true then z.cps.toList.all tst else z.cps.toList.any tst)) := by
  unfold eQuG at h
  split at h
  · split at h
    · rename_i h1 _ _ h2
      cases h
      exact ⟨_, _, h1, h2, rfl⟩
    · cases h
  · cases h
theorem tabs_grown {O : Addr → Bool} {ρ : Rho} {σ : L2.St} {P : Addr} {H H' : Hp} (S : SOk X.K T O ρ σ H) (hm : (P, gexq) ∈ T) (hu : ∀ p ∈ T, p.1 = P → p.2 = gexq) (t : GxR.Tabbed P H H') : Kp H H' ∧ Tabs T H' ∧ ∀ a, H a ≠ none → H' a ≠ none := by
  obtain ⟨ps, hP, ht⟩ := (S.tabs _ hm).gen rfl
  obtain ⟨⟨ps', hP', ht'⟩, same⟩ := t
  refine ⟨fun b o e n => ?_, fun p hp => ?_, fun a h => ?_⟩
  · rw [same b fun z => by subst z; rw [hP] at e; exact n ps (Option.some.inj e).symm]
    exact e
  · by_cases hb : p.1 = P
    · refine .of _ _ (fun _ => ⟨ps', by rw [hb]; exact hP', ht'⟩) fun z => absurd (hu p hp hb) z
    · refine (S.tabs p hp).move (fun ps e => by rw [same _ hb]; exact e) fun c q e => ?_
      rw [same c fun z => by subst z; rw [hP] at e; unfold LamX.CodeO at e; cases e]
      exact e
  · by_cases hb : a = P
    · subst hb; rw [hP']; simp
    · rw [same a hb]; exact h
theorem es_quG {all : Bool} {tst : Nat → Bool} {e elt : Expr} {ca : Cd} {c P : Addr} {x : Str} {px p pos gp : Pos} {scope : Scope} {k : Nat} {nm : Str} (hnm : nm = if all = true then "all" else "any") (hg : Gl X nm) (hm : X.mg nm = none) (ha : ES X T e ca) (TB : GxR.TabB X.base X.mg c P)
    (hcode : X.env.code = .ref c) (hmT : (P, gexq) ∈ T) (hu : ∀ p ∈ T, p.1 = P → p.2 = gexq) (room : Room k X.A) (S : GxR.GenS X.env scope x) (hel : TestG X scope x elt tst) (hfo : ∀ v, genFold e X.env v = pure v) :
    PE X (.Call (.Name nm p) [.GeneratorExp elt [⟨.Name x px, e, [], 0⟩] scope gp] [] pos) (tE X.K T ca.pu (eQuG all tst ca)) := by
  refine ⟨fun pins s σ H Q I h => ?_⟩
  obtain ⟨O, ρ, r, ρ', S0, hf, q⟩ := h
  obtain ⟨a, z, e1, e2, rfl⟩ := eQuG_inv hf
  have h1 : tO X.K T ca σ H fun v H1 => ∃ y : Str, v = .str y ∧ GxR.TabG H1 P ∧ (y = z ∧ ∃ O1, SOk X.K T O1 ρ' σ H1 ∧ Tr O ρ σ H O1 ρ' σ H1 ∧ (ca.pu = true → Kp H H1)) := by
    refine ⟨O, ρ, a, ρ', S0, e1, fun v O1 H1 S1 t1 p1 a1 => ?_⟩
    exact ⟨z, (a1.rep S1 e2).str.1, (S1.tabs _ hmT).gen rfl, rfl, O1, S1, t1, p1⟩
  have he : starEach [.GeneratorExp elt [⟨.Name x px, e, [], 0⟩] scope gp] X.env = (false, eval (.GeneratorExp elt [⟨.Name x px, e, [], 0⟩] scope gp) X.env) :: starEach [] X.env := by rfl
  have fin : ∀ (y : Str) (H1 : Hp), (y = z ∧ ∃ O1, SOk X.K T O1 ρ' σ H1 ∧ Tr O ρ σ H O1 ρ' σ H1 ∧ (ca.pu = true → Kp H H1)) → ∀ H2, GxR.Tabbed P H1 H2 → Q (.bl (if all = true then y.cps.toList.all tst else y.cps.toList.any tst)) H2 := by
    rintro y H1 ⟨rfl, O1, S1, t1, p1⟩ H2 t
    obtain ⟨k1, k2, k3⟩ := tabs_grown S1 hmT hu t
    have S2 := S1.kp k1 k2
    exact q _ O1 H2 S2 (t1.trans S0.cov' (Tr.kp S1 k1 k3)) (fun z => (p1 z).trans k1) (.bl _)
  cases all with
  | true =>
    obtain rfl : nm = "all" := hnm
    refine wpAny_Call_Name_kw (ld_blt I hg hm (u := .builtin "all") (by decide +kernel) (PyProof.Rows.callWith_builtin1 ?_ he (by rfl)))
    rw [he]
    show wpAny _ _ (spliced ((false, eval (.GeneratorExp elt [⟨.Name x px, e, [], 0⟩] scope gp) X.env) :: backTo pos (starEach [] X.env))) _ _ s
    refine Calls.spliced_cons (gen_txt room TB hcode S ha.o hel hfo I h1 fun y H1 g s5 hR hG => ?_)
    obtain ⟨fp, wr, G, F, St, W, hst, htr, hI⟩ := hG
    refine Calls.spliced_nil (call_all_walkS (W.self 0 _ _ _ hst ⟨g, fp, wr, G, _, F, St, _, rfl, W, hst, htr, fun s' mv => ?_⟩))
    obtain ⟨H2, hT, J⟩ := hI s' mv
    refine ⟨.bl _, H2, J, rfl, ?_⟩
    rw [GxR.all_signs]
    exact fin y H1 hR H2 hT
  | false =>
    obtain rfl : nm = "any" := hnm
    refine wpAny_Call_Name_kw (ld_blt I hg hm (u := .builtin "any") (by decide +kernel) (PyProof.Rows.callWith_builtin1 ?_ he (by rfl)))
    rw [he]
    show wpAny _ _ (spliced ((false, eval (.GeneratorExp elt [⟨.Name x px, e, [], 0⟩] scope gp) X.env) :: backTo pos (starEach [] X.env))) _ _ s
    refine Calls.spliced_cons (gen_txt room TB hcode S ha.o hel hfo I h1 fun y H1 g s5 hR hG => ?_)
    obtain ⟨fp, wr, G, F, St, W, hst, htr, hI⟩ := hG
    refine Calls.spliced_nil (call_any_walkS (W.self 0 _ _ _ hst ⟨g, fp, wr, G, _, F, St, _, rfl, W, hst, htr, fun s' mv => ?_⟩))
    obtain ⟨H2, hT, J⟩ := hI s' mv
    refine ⟨.bl _, H2, J, rfl, ?_⟩
    rw [GxR.any_signs]
    exact fin y H1 hR H2 hT
end
end Pv

/-! FwI: xs.index(x), text.endswith(y), a, b, c = x, y, z. -/
namespace Pv
open PySem PySem.Spec PyProof.Rows L2
/-- a list's method of one argument that changes nothing -/
def eLm (g : D → D → Option Slt) (a b : Cd) : RF := fun ρ => match aE a ρ with
  | some (x, ρ1) => match argD ρ1 x with
    | some (.list _) => match aE b ρ1 with
      | some (y, ρ2) => match argD ρ2 x, argD ρ2 y with
        | some dx, some dy => match g dx dy with
          | some s => some (s, ρ2)
          | none => none
        | _, _ => none
      | none => none
    | _ => none
  | none => none
section
variable {X : Cx} {T : List (Addr × Str)} {e : Expr} {c : Cd} {pos : Pos}
theorem es_lm1 {id : String} {name : Str} {apos : Pos} {o : Expr} {co : Cd} {r : V → List V → Hp → VK → Prop} {r2 : R2} {g : D → D → Option Slt} (slot : Slot "list" name id) (ty : typeOf (.builtin id) = pure (.type "method_descriptor")) (rule : MtR X id r)
    (hr : ∀ x y H Q, r2 x y H Q → r x [y] H Q) (hg : Sem2 X.K T r2 g) (ho : ES X T o co) (h : ES X T e c) (hp : plainE e = true)
    (hbase : attributeBase o name X.env (eval o X.env) = eval o X.env) (hline : (apos.endLine == pos.line) = true) :
    PE X (.Call (.Attribute o name apos) [e] [] pos) (tE X.K T (co.pu && c.pu) (eLm g co c)) := by
  refine pe_imp (pe_bm PySem.F.plainAttrs_list slot ty rule ho.o (pa_cons h.o pa_nil (plain_star hp)) hbase ?_ hline (plain_star hp) rfl) fun σ H Q q => ?_
  · rw [plain_star hp]
    rfl
  obtain ⟨O, ρ, s, ρ', S, e, q⟩ := q
  unfold eLm at e
  split at e
  · rename_i x ρ1 e1
    split at e
    · rename_i ds e2
      split at e
      · rename_i y ρ2 e3
        split at e
        · rename_i dx dy e4 e5
          split at e
          · rename_i s' e6
            cases e
            refine ⟨O, ρ, x, ρ1, S, e1, fun v O1 H1 S1 t1 p1 a1 => ?_⟩
            obtain ⟨a, vs, rfl, g1, g2⟩ := (a1.rep S1 e2).list
            refine ⟨.inl ⟨rfl, vs, .inl g1⟩, O1, ρ1, y, ρ', S1, e3, fun w O2 H2 S2 t2 p2 a2 => hr _ _ _ _ ?_⟩
            refine hg O2 ρ' σ H2 (V.ref a) w dx dy s Q S2 ((a1.mono t2).rep S2 e4) (a2.rep S2 e5) e6 fun v' O3 H3 S3 t3 k3 r3 => ?_
            have t12 := t1.trans S.cov' t2
            exact q v' O3 H3 S3 (t12.trans S.cov' t3) (fun z => by
              rw [Bool.and_eq_true] at z
              exact ((p1 z.1).trans (p2 z.2)).trans k3) (r3.back t12)
          · cases e
        · cases e
      · cases e
    · cases e
  · cases e
def gIndex (a b : D) : Option Slt := match a with
  | .list ds => if PyData.depthAll ds ≤ 63 ∧ b.depth ≤ 64 then match ds.findIdx? fun z => PyData.eqv z b with
    | some j => some (.val (.int (j : Nat)))
    | none => none else none
  | _ => none
def rIndex2 (K : PySem.W.Frag) : R2 := fun x y H Q => rIndexD K x [y] H Q
theorem sem_index {K : PySem.W.Frag} : Sem2 K T (rIndex2 K) gIndex := by
  intro O ρ σ H x y dx dy s Q S hx hy g q
  unfold gIndex at g
  split at g
  · rename_i ds
    split at g
    · rename_i hd
      split at g
      · rename_i j hj
        cases g
        obtain ⟨a, vs, rfl, g1, g2⟩ := hx.list
        have dl : Dp K H (.ref a) (.list ds) := .lst g1 ((Kp.mask O H).dps g2)
        obtain ⟨hl, h1, h2⟩ := List.findIdx?_eq_some_iff_getElem.mp hj
        refine ⟨a, y, dy, ds, j, ds[j], rfl, rfl, dl.l2, hy.dp.l2, ?_, ?_, List.getElem?_eq_getElem hl, h1, fun m z' hm hz => ?_, res_val S (.int _) q⟩
        · unfold SeqAt.shaped
          rw [dl.lay]
          simp only [PyData.depth]
          simp; omega
        · unfold SeqAt.shaped
          rw [hy.dp.lay]
          simp [hd.2]
        · have hml : m < ds.length := by omega
          rw [List.getElem?_eq_getElem hml] at hz
          cases hz
          simpa using h2 m hm
      · cases g
    · cases g
  · cases g
def gEnds (a b : D) : Option Slt := match a, b with
  | .str x, .str y => some (.val (.bool (Txt.endswith x y)))
  | _, _ => none
def rEndsR : R2 := fun x y H Q => ∃ a b, x = .str a ∧ y = .str b ∧ Q (.bl (Txt.endswith a b)) H
theorem sem_ends {K : PySem.W.Frag} : Sem2 K T rEndsR gEnds := by
  intro O ρ σ H x y dx dy s Q S hx hy g q
  unfold gEnds at g
  split at g
  · cases g
    exact ⟨_, _, hx.str.1, hy.str.1, res_val S (.bl _) q⟩
  · cases g
end
/-! ### a, b, c = x, y, z -/
def sPar3 (i j l : Nat) (a b c : Cd) : SF := fun ρ => match vE a ρ with
  | some (x, ρ1) => match vE b ρ1 with
    | some (y, ρ2) => match vE c ρ2 with
      | some (z, ρ3) => if i < ρ3.length ∧ j < ρ3.length ∧ l < ρ3.length then some (.nx (((ρ3.set i (some (.val x))).set j (some (.val y))).set l (some (.val z)))) else none
      | none => none
    | none => none
  | none => none
theorem ss_par3 {X : Cx} {T : List (Addr × Str)} {fz : Nat → Bool} {i j l : Nat} {x y z : Str} {a b c : Expr} {ca cb cc : Cd} {px py pz pt pos : Pos} {kt k2 : Nat} {pt2 : Pos} (hc : X.calm = true) (hN : X.N.Nodup) (hi : X.N[i]? = some x) (hj : X.N[j]? = some y) (hl : X.N[l]? = some z) (hij : i ≠ j) (hil : i ≠ l) (hjl : j ≠ l)
    (hx : X.env.scope.names.lookup x = some .local) (hy : X.env.scope.names.lookup y = some .local) (hz : X.env.scope.names.lookup z = some .local) (ha : ES X T a ca) (hb : ES X T b cb) (hcc : ES X T c cc) (pa : plainE a = true) (pb : plainE b = true) (pc : plainE c = true) (zi : fz i = false) (zj : fz j = false) (zl : fz l = false)
    (hw : swappedStores [.Tuple [.Name x px, .Name y py, .Name z pz] kt pt] (.Tuple [a, b, c] k2 pt2) X.env = pure (some [x, y, z])) :
    PS X (.Assign [.Tuple [.Name x px, .Name y py, .Name z pz] kt pt] (.Tuple [a, b, c] k2 pt2) pos) (tS X.K T fz (sPar3 i j l ca cb cc)) := by
  refine ps_imp (ps_par3 hc hN hi hj hl hij hil hjl hx hy hz (pa_cons ha.v (pa_cons hb.v (pa_cons hcc.v pa_nil (plain_star pc)) (plain_star pb)) (plain_star pa)) hw) fun D σ H q => ?_
  obtain ⟨O, ρ, out, S, e, q⟩ := q
  unfold sPar3 at e
  split at e
  · rename_i d ρ1 e1
    split at e
    · rename_i d2 ρ2 e2
      split at e
      · rename_i d3 ρ3 e3
        split at e
        · rename_i hlt
          cases e
          refine ⟨O, ρ, d, ρ1, S, e1, fun v O1 H1 S1 t1 p1 dv => ⟨O1, ρ1, d2, ρ2, S1, e2, fun w O2 H2 S2 t2 p2 dw => ⟨O2, ρ2, d3, ρ3, S2, e3, fun u O3 H3 S3 t3 p3 du => ⟨v, w, u, rfl, ?_⟩⟩⟩⟩
          have dv3 := t3.mask.dp (t2.mask.dp dv)
          have dw3 := t3.mask.dp dw
          have t13 := (t1.trans S.cov' t2).trans S.cov' t3
          have S4 := set_ok (r := .val d) (H0 := H) S3 hlt.1 dv3
          have t4 := set_tr (r := .val d) S3 t13 hlt.1 dv3
          have hl2 : j < (ρ3.set i (some (.val d))).length := by rw [List.length_set]; exact hlt.2.1
          have S5 := set_ok (r := .val d2) (H0 := H) S4 hl2 dw3
          have t5 := set_tr (r := .val d2) S4 t4 hl2 dw3
          have hl3 : l < ((ρ3.set i (some (.val d))).set j (some (.val d2))).length := by rw [List.length_set, List.length_set]; exact hlt.2.2
          exact q O3 _ H3 (set_ok (r := .val d3) (H0 := H) S5 hl3 du) (set_tr (r := .val d3) S5 t5 hl3 du) (((FzR.set zi).trans (FzR.set zj)).trans (FzR.set zl))
        · cases e
      · cases e
    · cases e
  · cases e
end Pv

/-! FwC: [elt for tg in it if c for tg1 in it1 if c1]. -/
namespace Pv
open PySem PySem.Spec PyProof.Rows L2
theorem it2 {J : It} {n : Nat} {G : Hp → Prop} {Y : Nat → Hp → V → Hp → Prop} (w : Walk J n G Y) (Pv : Nat → Hp → Prop) {H0 : Hp} {Qd : Hp → Prop} {B : (Hp → Prop) → V → Hp → Prop} (h0 : Pv 0 H0) (hG : ∀ i H, i ≤ n → Pv i H → G H)
    (hs : ∀ i x H H', i < n → Pv i H → Y i H x H' → B (Pv (i + 1)) x H') (hd : ∀ H, Pv n H → Qd H) :
    ∃ W : Nat → Nat → Hp → Prop, (∃ m, W 0 m H0) ∧ ∀ i m H, W i m H →
      (J.stop i H ∧ Qd H) ∨ (J.go i H ∧ ∃ Nx : Hp → Prop, (∀ H', Nx H' → ∃ m', m' < m ∧ W (i + 1) m' H') ∧ ∀ x H', J.yld i H x H' → B Nx x H') := by
  refine ⟨fun i m H => m = n - i ∧ i ≤ n ∧ Pv i H, ⟨n, by simp, Nat.zero_le _, h0⟩, ?_⟩
  rintro i m H ⟨rfl, hi, p⟩
  have q := hG i H hi p
  by_cases hlt : i < n
  · exact .inr ⟨w.goes i H hlt q, Pv (i + 1), fun H' p' => ⟨n - (i + 1), by omega, rfl, hlt, p'⟩, fun x H' y => hs i x H H' hlt p (w.yields i H x H' hlt q y)⟩
  · have e : i = n := by omega
    subst e
    exact .inl ⟨w.stops H q, hd H p⟩
def lcD2 (vs : List Nat) (g : GF) (c : BF) (f1 : IF) (vs1 : List Nat) (g1 : GF) (c1 : BF) (el : Cd) : List D → Rho → List D → Option (List D × Rho)
  | [], ρ, acc => some (acc, ρ)
  | d :: ds, ρ, acc => match g d ρ with
    | some ρ1 => match c ρ1 with
      | some (true, ρ2) => match f1 ρ2 with
        | some (es, ρ3) => match lcD vs1 g1 c1 el es (wipeR ρ3 vs1) acc with
          | some (acc', ρ4) => lcD2 vs g c f1 vs1 g1 c1 el ds (wipeR ρ4 vs) acc'
          | none => none
        | none => none
      | some (false, ρ2) => lcD2 vs g c f1 vs1 g1 c1 el ds (wipeR ρ2 vs) acc
      | none => none
    | none => none
def eLc2 (vs : List Nat) (f : IF) (g : GF) (c : BF) (f1 : IF) (vs1 : List Nat) (g1 : GF) (c1 : BF) (el : Cd) : RF := fun ρ => match f ρ with
  | some (ds, ρ1) => match lcD2 vs g c f1 vs1 g1 c1 el ds (wipeR ρ1 vs) [] with
    | some (acc, ρ2) => some (.own acc, restR ρ1 ρ2 vs)
    | none => none
  | none => none
section
variable {K : PySem.W.Frag} {T : List (Addr × Str)}
/-- what the inner loop keeps: O4, H4: where it began -/
structure LcJ (K : PySem.W.Frag) (T : List (Addr × Str)) (O1 : Addr → Bool) (ρ1 : Rho) (σo : L2.St) (H1 : Hp) (O4 : Addr → Bool) (H4 : Hp) (σi : L2.St) (Dl : Addr) (fin : List D × Rho) (run : Rho → List D → Option (List D × Rho)) (pu : Bool) (H : Hp) : Prop where
  ex : ∃ (O : Addr → Bool) (ρ : Rho) (acc : List D) (xs : List V), SOk K T O ρ σi H ∧ Tr O1 ρ1 σo H1 O ρ σi H ∧ O Dl = true ∧ ¬ Own ρ σi Dl ∧ H Dl = some (.lst xs) ∧ DpAll K (mask O H) xs acc ∧ run ρ acc = some fin ∧ (pu = true → Kp H1 H) ∧ Kp (mask O4 H4) (mask O H)
theorem lc_inner {vs1 : List Nat} {g1 : GF} {c1 : BF} {el : Cd} {puC1 pu : Bool} {O1 O4 : Addr → Bool} {ρ1 ρ3 ρ4 : Rho} {σo σ2 : L2.St} {H1 H4 : Hp} {Dl : Addr} {xs : List V} {a' acc' es : List D} {J1 : It} {Nx : Hp → Prop} {wk1 : Bool}
    (hp : pu = true → puC1 = true ∧ el.pu = true) (cov1 : ∀ a, O1 a = true → H1 a ≠ none) (nD : H1 Dl = none)
    (S4 : SOk K T O4 ρ3 σ2 H4) (t4 : Tr O1 ρ1 σo H1 O4 ρ3 σ2 H4) (hO4 : O4 Dl = true) (hn4 : ¬ Own ρ3 σ2 Dl) (hD4 : H4 Dl = some (.lst xs)) (hds4 : DpAll K (mask O4 H4) xs a') (pk4 : pu = true → Kp H1 H4)
    (e : lcD vs1 g1 c1 el es (wipeR ρ3 vs1) a' = some (acc', ρ4)) (it : ItOk K wk1 O4 H4 false J1 es)
    (fin : ∀ O H xs', SOk K T O ρ4 (wipe σ2 vs1) H → Tr O1 ρ1 σo H1 O ρ4 (wipe σ2 vs1) H → O Dl = true → ¬ Own ρ4 (wipe σ2 vs1) Dl → H Dl = some (.lst xs') → DpAll K (mask O H) xs' acc' → (pu = true → Kp H1 H) → Nx H) :
    ∃ W1 : Nat → Nat → Hp → Prop, (∃ m, W1 0 m H4) ∧ ∀ j k H, W1 j k H →
      (J1.stop j H ∧ Nx H) ∨ (J1.go j H ∧ ∃ Nx1 : Hp → Prop, (∀ H', Nx1 H' → ∃ k', k' < k ∧ W1 (j + 1) k' H') ∧ ∀ x H', J1.yld j H x H' → tG K T (fzBut vs1) wk1 g1 x (wipe σ2 vs1) H' fun σ3 H5 => wipe σ3 vs1 = wipe σ2 vs1 ∧ tT K T puC1 c1 σ3 H5 fun b H6 =>
        if b = true then tV K T el σ3 H6 fun y H7 => ∃ acc, H7 Dl = some (.lst acc) ∧ acc.length < sizeLine ∧ Nx1 (upd H7 Dl (.lst (acc ++ [y]))) else Nx1 H6) := by
  obtain ⟨G, Y, w, hG, hY⟩ := it
  have S4w : SOk K T O4 (wipeR ρ3 vs1) (wipe σ2 vs1) H4 := wipe_ok S4
  refine it2 w (fun j H' => LcJ K T O1 ρ1 σo H1 O4 H4 (wipe σ2 vs1) Dl (acc', ρ4) (fun ρ a => lcD vs1 g1 c1 el (es.drop j) ρ a) pu H')
    ⟨O4, wipeR ρ3 vs1, a', xs, S4w, t4.wipe, hO4, fun z => hn4 z.wipe, hD4, hds4, e, pk4, fun _ _ h _ => h⟩
    (fun j H' _ h => ?_) (fun j x H' H'' hj h y => ?_) (fun H' h => ?_)
  · obtain ⟨O', ρ', a', xs, S', t', _, _, _, _, _, _, km⟩ := h.ex
    exact hG H' (km.trans (Kp.mask O' H'))
  · obtain ⟨O', ρ', a', xs, S', t', hO, hn, hD, hds, e', pk, km⟩ := h.ex
    obtain ⟨d, hd, y⟩ := hY j H' x H'' hj (km.trans (Kp.mask O' H')) y
    obtain ⟨S2, t2, k2, dp⟩ := y.ok S' km
    have hD2 : H'' Dl = some (.lst xs) := by
      obtain ⟨_, q2⟩ := t2.oth Dl hO hn
      rw [q2]; exact hD
    have hdr : es.drop j = d :: es.drop (j + 1) := by
      have hj' : j < es.length := hj
      rw [List.drop_eq_getElem_cons hj']
      rw [List.getElem?_eq_getElem hj'] at hd
      rw [Option.some.inj hd]
    rw [hdr] at e'
    simp only [lcD] at e'
    split at e'
    · rename_i ρa ea
      refine ⟨O', ρ', d, ρa, S2, dp, ea, fun σ3 S3 t3 f3 => ?_⟩
      have e3 : wipe σ3 vs1 = wipe σ2 vs1 := by
        rw [← wipe_wipe σ2 vs1]
        exact wipe_of_fz f3.1 fun j hj => f3.2 j (by simp [fzBut, hj])
      refine ⟨e3, ?_⟩
      have hn3 : ¬ Own ρa σ3 Dl := fun z => by
        rcases t3.pres Dl z with z | z
        · exact hn z
        · rw [hD2] at z; cases z
      have t3' := (t'.trans cov1 t2).trans cov1 t3
      have km3 := km.trans (t2.mask.trans t3.mask)
      split at e'
      · rename_i ρb eb
        refine ⟨O', ρa, true, ρb, S3, eb, fun O5 H5 S5 t5 p5 => iteT ?_⟩
        split at e'
        · rename_i y' ρc ec
          split at e'
          · rename_i hz
            refine ⟨O5, ρb, y', ρc, S5, ec, fun v O6 H6 S6 t6 p6 dp6 => ?_⟩
            obtain ⟨hO5, hD5⟩ := t5.oth Dl hO hn3
            have hn5 : ¬ Own ρb σ3 Dl := fun z => by
              rcases t5.pres Dl z with z | z
              · exact hn3 z
              · rw [hD2] at z; cases z
            obtain ⟨hO6, hD6⟩ := t6.oth Dl hO5 hn5
            have hD6' : H6 Dl = some (.lst xs) := by rw [hD6, hD5]; exact hD2
            have hn6 : ¬ Own ρc σ3 Dl := fun z => by
              rcases t6.pres Dl z with z | z
              · exact hn5 z
              · rw [hD5, hD2] at z; cases z
            have hds6 := (t2.mask.trans (t3.mask.trans (t5.mask.trans t6.mask))).dps hds
            have S7 : SOk K T O6 (wipeR ρc vs1) (wipe σ3 vs1) H6 := wipe_ok S6
            have t7 : Tr O1 ρ1 σo H1 O6 (wipeR ρc vs1) (wipe σ3 vs1) H6 := ((t3'.trans cov1 t5).trans cov1 t6).wipe
            have hn7 : ¬ Own (wipeR ρc vs1) (wipe σ3 vs1) Dl := fun z => hn6 z.wipe
            rw [e3] at S7 t7 hn7
            refine ⟨xs, hD6', by rw [dps_len hds]; exact hz, ⟨O6, wipeR ρc vs1, a' ++ [y'], xs ++ [v], put_free S7 hO6 hD6' hn7, t7.putNew cov1 nD, hO6, hn7, upd_same, ?_, e', fun p => ?_, ?_⟩⟩
            · rw [mask_put hO6]
              exact dps_app hds6 (.cons dp6 .nil)
            · exact (((((pk p).trans k2).trans (p5 (hp p).1)).trans (p6 (hp p).2))).putNew nD
            · rw [mask_put hO6]
              exact km3.trans (t5.mask.trans t6.mask)
          · cases e'
        · cases e'
      · rename_i ρb eb
        refine ⟨O', ρa, false, ρb, S3, eb, fun O5 H5 S5 t5 p5 => iteF ?_⟩
        obtain ⟨hO5, hD5⟩ := t5.oth Dl hO hn3
        have hn5 : ¬ Own ρb σ3 Dl := fun z => by
          rcases t5.pres Dl z with z | z
          · exact hn3 z
          · rw [hD2] at z; cases z
        have hds5 := (t2.mask.trans (t3.mask.trans t5.mask)).dps hds
        have S7 : SOk K T O5 (wipeR ρb vs1) (wipe σ3 vs1) H5 := wipe_ok S5
        have t7 : Tr O1 ρ1 σo H1 O5 (wipeR ρb vs1) (wipe σ3 vs1) H5 := (t3'.trans cov1 t5).wipe
        have hn7 : ¬ Own (wipeR ρb vs1) (wipe σ3 vs1) Dl := fun z => hn5 z.wipe
        rw [e3] at S7 t7 hn7
        exact ⟨O5, wipeR ρb vs1, a', xs, S7, t7, hO5, hn7, by rw [hD5]; exact hD2, hds5, e', fun p => ((pk p).trans k2).trans (p5 (hp p).1), km3.trans t5.mask⟩
      · cases e'
    · cases e'
  · obtain ⟨O', ρ', a', xs, S', t', hO, hn, hD, hds, e', pk, km⟩ := h.ex
    rw [List.drop_length] at e'
    cases e'
    exact fin O' H' xs S' t' hO hn hD hds pk
theorem wipe_sub {σ : L2.St} {vs vs1 : List Nat} (h : ∀ i ∈ vs1, i ∈ vs) : wipe (wipe σ vs1) vs = wipe σ vs := wipe_of_fz (wipe_length σ vs1) fun i hi => wipe_out fun z => hi (h i z)
theorem lc2_read {vs vs1 : List Nat} {f f1 : IF} {g g1 : GF} {c c1 : BF} {el : Cd} {wk wk1 bor puI puC puI1 puC1 : Bool} {σ : L2.St} {H : Hp} {Q : VK} (hv : ∀ i ∈ vs1, i ∈ vs) (hb : bor = true → (puC && (puI1 && (puC1 && el.pu))) = true)
    (q : tE K T (puI && (puC && (puI1 && (puC1 && el.pu)))) (eLc2 vs f g c f1 vs1 g1 c1 el) σ H Q) : tLc2 (tI K T wk bor puI f) (tG K T (fzBut vs) wk g) (tT K T puC c) (tI K T wk1 false puI1 f1) (tG K T (fzBut vs1) wk1 g1) (tT K T puC1 c1) (tV K T el) vs vs1 σ H Q := by
  obtain ⟨O, ρ, r, ρ', S, e, q⟩ := q
  unfold eLc2 at e
  split at e
  · rename_i ds ρ1 e1
    split at e
    · rename_i acc ρ2 e2
      cases e
      refine ⟨O, ρ, ds, ρ1, S, e1, fun J O1 H1 S1 t1 p1 it Dl nD => ?_⟩
      obtain ⟨G, Y, w, hG, hY⟩ := it
      have Sw : SOk K T O1 (wipeR ρ1 vs) (wipe σ vs) H1 := wipe_ok S1
      refine it2 w (fun i H' => LcI K T O1 (wipeR ρ1 vs) (wipe σ vs) H1 Dl (acc, ρ2) (fun ρ a => lcD2 vs g c f1 vs1 g1 c1 el (ds.drop i) ρ a) (puC && (puI1 && (puC1 && el.pu))) H')
        ⟨oAdd O1 Dl, wipeR ρ1 vs, [], [], Sw.newOwn nD, Tr.newOwn Sw nD, by simp [oAdd], Sw.notOwn nD, upd_same, .nil, e2, fun _ => Kp.upd nD⟩
        (fun i H' _ h => ?_) (fun i x H' H'' hi h y => ?_) (fun H' h => ?_)
      · obtain ⟨O', ρ', a', xs, S', t', _, _, _, _, _, pk⟩ := h.ex
        refine hG H' ?_
        cases bor with
        | false => exact t'.mask.trans (Kp.mask O' H')
        | true => exact pk (hb rfl)
      · obtain ⟨O', ρ', a', xs, S', t', hO, hn, hD, hds, e', pk⟩ := h.ex
        obtain ⟨d, hd, y⟩ := hY i H' x H'' hi (t'.mask.trans (Kp.mask O' H')) y
        obtain ⟨S2, t2, k2, dp⟩ := y.ok S' t'.mask
        have hD2 : H'' Dl = some (.lst xs) := by
          obtain ⟨_, q2⟩ := t2.oth Dl hO hn
          rw [q2]; exact hD
        have hdr : ds.drop i = d :: ds.drop (i + 1) := by
          have hi' : i < ds.length := hi
          rw [List.drop_eq_getElem_cons hi']
          rw [List.getElem?_eq_getElem hi'] at hd
          rw [Option.some.inj hd]
        rw [hdr] at e'
        simp only [lcD2] at e'
        split at e'
        · rename_i ρa ea
          refine ⟨O', ρ', d, ρa, S2, dp, ea, fun σ3 S3 t3 f3 => ?_⟩
          have e3 : wipe σ3 vs = wipe σ vs := by
            rw [← wipe_wipe σ vs]
            exact wipe_of_fz f3.1 fun j hj => f3.2 j (by simp [fzBut, hj])
          refine ⟨e3, ?_⟩
          have hn3 : ¬ Own ρa σ3 Dl := fun z => by
            rcases t3.pres Dl z with z | z
            · exact hn z
            · rw [hD2] at z; cases z
          have t3' := (t'.trans S1.cov' t2).trans S1.cov' t3
          split at e'
          · rename_i ρb eb
            refine ⟨O', ρa, true, ρb, S3, eb, fun O4 H4 S4 t4 p4 => iteT ?_⟩
            obtain ⟨hO4, hD4⟩ := t4.oth Dl hO hn3
            have hn4 : ¬ Own ρb σ3 Dl := fun z => by
              rcases t4.pres Dl z with z | z
              · exact hn3 z
              · rw [hD2] at z; cases z
            split at e'
            · rename_i es ρc ec
              split at e'
              · rename_i acc' ρd ed
                refine ⟨O4, ρb, es, ρc, S4, ec, fun J1 O5 H5 S5 t5 p5 it1 => ?_⟩
                obtain ⟨hO5, hD5⟩ := t5.oth Dl hO4 hn4
                have hn5 : ¬ Own ρc σ3 Dl := fun z => by
                  rcases t5.pres Dl z with z | z
                  · exact hn4 z
                  · rw [hD4, hD2] at z; cases z
                refine lc_inner (pu := puC && (puI1 && (puC1 && el.pu))) (fun p => ?_) (fun a ha => S1.cov' a ha) nD S5 ((t3'.trans S1.cov' t4).trans S1.cov' t5) hO5 hn5 (by rw [hD5, hD4]; exact hD2) ((t2.mask.trans (t3.mask.trans (t4.mask.trans t5.mask))).dps hds) (fun p => ?_) ed it1 fun O6 H6 xs6 S6 t6 hO6 hn6 hD6 hds6 pk6 => ?_
                · simp only [Bool.and_eq_true] at p
                  exact p.2.2
                · have p' := p
                  simp only [Bool.and_eq_true] at p'
                  exact (((pk p).trans k2).trans (p4 p'.1)).trans (p5 p'.2.1)
                · have S7 : SOk K T O6 (wipeR ρd vs) (wipe (wipe σ3 vs1) vs) H6 := wipe_ok S6
                  have t7 : Tr O1 (wipeR ρ1 vs) (wipe σ vs) H1 O6 (wipeR ρd vs) (wipe (wipe σ3 vs1) vs) H6 := t6.wipe
                  have hn7 : ¬ Own (wipeR ρd vs) (wipe (wipe σ3 vs1) vs) Dl := fun z => hn6 z.wipe
                  rw [wipe_sub hv, e3] at S7 t7 hn7
                  exact ⟨O6, wipeR ρd vs, acc', xs6, S7, t7, hO6, hn7, hD6, hds6, e', pk6⟩
              · cases e'
            · cases e'
          · rename_i ρb eb
            refine ⟨O', ρa, false, ρb, S3, eb, fun O4 H4 S4 t4 p4 => iteF ?_⟩
            obtain ⟨hO4, hD4⟩ := t4.oth Dl hO hn3
            have hn4 : ¬ Own ρb σ3 Dl := fun z => by
              rcases t4.pres Dl z with z | z
              · exact hn3 z
              · rw [hD2] at z; cases z
            have hds4 := (t2.mask.trans (t3.mask.trans t4.mask)).dps hds
            have S6 : SOk K T O4 (wipeR ρb vs) (wipe σ3 vs) H4 := wipe_ok S4
            have t6 : Tr O1 (wipeR ρ1 vs) (wipe σ vs) H1 O4 (wipeR ρb vs) (wipe σ3 vs) H4 := (t3'.trans S1.cov' t4).wipe
            have hn6 : ¬ Own (wipeR ρb vs) (wipe σ3 vs) Dl := fun z => hn4 z.wipe
            rw [e3] at S6 t6 hn6
            refine ⟨O4, wipeR ρb vs, a', xs, S6, t6, hO4, hn6, by rw [hD4]; exact hD2, hds4, e', fun p => ?_⟩
            have p' := p
            rw [Bool.and_eq_true] at p'
            exact ((pk p).trans k2).trans (p4 p'.1)
          · cases e'
        · cases e'
      · obtain ⟨O', ρ', a', xs, S', t', hO, hn, hD, hds, e', pk⟩ := h.ex
        rw [List.drop_length] at e'
        cases e'
        obtain ⟨S7, t7⟩ := rest_ok S1 S' t'
        have hn7 : ¬ Own (restR ρ1 ρ2 vs) σ Dl := fun z => by
          rcases t7.pres Dl z with z | z
          · exact S1.notOwn nD z
          · rw [nD] at z
            obtain ⟨i, es, h1, hw, h2⟩ := ‹Own _ _ Dl›
            rcases restR_some (by rw [S1.len, S'.len, wipe_length]) h1 with ⟨hi, h1⟩ | ⟨hi, h1⟩
            · exact S1.notOwn nD ⟨i, es, h1, hw, h2⟩
            · exact hn ⟨i, es, h1, hw, by rw [wipe_out hi]; exact h2⟩
        refine q _ O' H' S7 (t1.trans S.cov' t7) (fun p => ?_) ((show ResV K O' H' (restR ρ1 ρ2 vs) σ H1 (.ref Dl) (.own acc) from ⟨Dl, xs, rfl, hO, hn7, nD, hD, hds⟩).back t1)
        rw [Bool.and_eq_true] at p
        exact (p1 p.1).trans (pk p.2)
    · cases e
  · cases e
end
section
variable {X : Cx} {T : List (Addr × Str)} {elt tg iter tg1 iter1 : Expr} {ifs ifs1 : List Expr} {scope : Scope} {own : List (Str × Nat)} {vs1 : List Nat} {pos : Pos} {f f1 : IF} {g g1 : GF} {c c1 : BF} {el : Cd} {wk wk1 bor puI puC puI1 puC1 : Bool}
theorem es_lc2 (hc : X.calm = true) (hN : X.N.Nodup) (hi : PI X tg iter (tI X.K T wk bor puI f)) (ok : BlkOk X.N X.env.scope scope own) (hv : ∀ i ∈ vs1, i ∈ own.map (·.2))
    (hg : ∀ (s : Shared) (H : Hp) (C : Addr) (cl : List (Str × Addr)) (fp : List Addr), PG (X.blk s H scope (compEnvC scope cl C X.env) fp) tg (tG X.K T (fzBut (own.map (·.2))) wk g))
    (ht : ∀ (s : Shared) (H : Hp) (C : Addr) (cl : List (Str × Addr)) (fp : List Addr), PTs (X.blk s H scope (compEnvC scope cl C X.env) fp) ifs (tT X.K T puC c))
    (hi1 : ∀ (s : Shared) (H : Hp) (C : Addr) (cl : List (Str × Addr)) (fp : List Addr), PI (X.blk s H scope (compEnvC scope cl C X.env) fp) tg1 iter1 (tI X.K T wk1 false puI1 f1))
    (hg1 : ∀ (s : Shared) (H : Hp) (C : Addr) (cl : List (Str × Addr)) (fp : List Addr), PG (X.blk s H scope (compEnvC scope cl C X.env) fp) tg1 (tG X.K T (fzBut vs1) wk1 g1))
    (ht1 : ∀ (s : Shared) (H : Hp) (C : Addr) (cl : List (Str × Addr)) (fp : List Addr), PTs (X.blk s H scope (compEnvC scope cl C X.env) fp) ifs1 (tT X.K T puC1 c1))
    (he : ∀ (s : Shared) (H : Hp) (C : Addr) (cl : List (Str × Addr)) (fp : List Addr), PE (X.blk s H scope (compEnvC scope cl C X.env) fp) elt (tV X.K T el)) (hp : plainE iter = true) (hp1 : plainE iter1 = true)
    (hb : bor = true → (puC && (puI1 && (puC1 && el.pu))) = true) :
    PE X (.ListComp elt [⟨tg, iter, ifs, 0⟩, ⟨tg1, iter1, ifs1, 0⟩] scope pos) (tE X.K T (puI && (puC && (puI1 && (puC1 && el.pu)))) (eLc2 (own.map (·.2)) f g c f1 vs1 g1 c1 el)) :=
  pe_imp (pe_lc2 hc hN hi ok hv hg ht hi1 hg1 ht1 he (plain_fold hp) fun _ => plain_fold hp1) fun _ _ _ q => lc2_read hv hb q
theorem ss_setLc2 {i : Nat} {y : Str} {py spos : Pos} {fz : Nat → Bool} (hc : X.calm = true) (hN : X.N.Nodup) (hy : X.N[i]? = some y) (hyl : X.env.scope.names.lookup y = some .local)
    (hsw : swapsWith (.ListComp elt [⟨tg, iter, ifs, 0⟩, ⟨tg1, iter1, ifs1, 0⟩] scope pos) (some (.Name y py)) spos.line X.env = pure true) (hz : fz i = false) (hi : PI X tg iter (tI X.K T wk bor puI f)) (ok : BlkOk X.N X.env.scope scope own) (hv : ∀ i ∈ vs1, i ∈ own.map (·.2))
    (hg : ∀ (s : Shared) (H : Hp) (C : Addr) (cl : List (Str × Addr)) (fp : List Addr), PG (X.blk s H scope (compEnvC scope cl C X.env) fp) tg (tG X.K T (fzBut (own.map (·.2))) wk g))
    (ht : ∀ (s : Shared) (H : Hp) (C : Addr) (cl : List (Str × Addr)) (fp : List Addr), PTs (X.blk s H scope (compEnvC scope cl C X.env) fp) ifs (tT X.K T puC c))
    (hi1 : ∀ (s : Shared) (H : Hp) (C : Addr) (cl : List (Str × Addr)) (fp : List Addr), PI (X.blk s H scope (compEnvC scope cl C X.env) fp) tg1 iter1 (tI X.K T wk1 false puI1 f1))
    (hg1 : ∀ (s : Shared) (H : Hp) (C : Addr) (cl : List (Str × Addr)) (fp : List Addr), PG (X.blk s H scope (compEnvC scope cl C X.env) fp) tg1 (tG X.K T (fzBut vs1) wk1 g1))
    (ht1 : ∀ (s : Shared) (H : Hp) (C : Addr) (cl : List (Str × Addr)) (fp : List Addr), PTs (X.blk s H scope (compEnvC scope cl C X.env) fp) ifs1 (tT X.K T puC1 c1))
    (he : ∀ (s : Shared) (H : Hp) (C : Addr) (cl : List (Str × Addr)) (fp : List Addr), PE (X.blk s H scope (compEnvC scope cl C X.env) fp) elt (tV X.K T el)) (hp : plainE iter = true) (hp1 : plainE iter1 = true)
    (hb : bor = true → (puC && (puI1 && (puC1 && el.pu))) = true) :
    PS X (.Assign [.Name y py] (.ListComp elt [⟨tg, iter, ifs, 0⟩, ⟨tg1, iter1, ifs1, 0⟩] scope pos) spos) (tS X.K T fz (sAsg (.ex (puI && (puC && (puI1 && (puC1 && el.pu)))) (eLc2 (own.map (·.2)) f g c f1 vs1 g1 c1 el)) i)) :=
  ps_imp (ps_setLc2 hc hN hy hyl hsw hi ok hv hg ht hi1 hg1 ht1 he (plain_fold hp) fun _ => plain_fold hp1) fun _ _ _ q => lc2_read hv hb (asg_tE hz q)
end
end Pv

/-! FwR: promises of defs that are called outside of every repr (no guard stands around the call); repr of data. -/
namespace Pv
open PySem PySem.Spec PyProof.Rows L2
/-- a def's promise where no guard stands around the call -/
structure FnG (P : Program) (w : World) (K : PySem.W.Frag) (mg : Str → Option Value) (base : Heap) (k : Nat) (f : Addr) (fd : FuncData) (ps : List Str) (sp : Sp) : Prop where
  arity : ∀ {vs : List V} {H : Hp} {Q : VK} {E : XK}, sp vs H Q E → vs.length = ps.length
  go : ∀ {A : Around} {outer : List PySem.Env} {s : Shared} {H : Hp} {args : Args} {us : List Value} {vs : List V} {Q : VK} {E : XK}, A.guards = some [] → Room k A → Env0 P w K mg base A outer s H → BindsTo s fd args (ps.zip us) → Vals vs us → sp vs H Q E →
    codeAny (model P w) A (.call (.ref f) args) (CR CX0 outer P w H s Q E) s
section
variable {P : Program} {w : World} {K : PySem.W.Frag} {mg : Str → Option Value} {base : Heap} {j k : Nat} {f : Addr} {fd : FuncData} {ps : List Str} {sp : Sp}
theorem FnG.of (F : FnOk P w K mg base CX0 k f fd ps sp) : FnG P w K mg base k f fd ps sp := ⟨fun q => F.len _ _ _ _ q, fun _ hr e b v q => F.run _ _ _ _ _ _ _ _ _ hr e b v q⟩
theorem FnG.mono (F : FnG P w K mg base j f fd ps sp) (h : j ≤ k) : FnG P w K mg base k f fd ps sp := ⟨F.arity, fun hg hr e b v q => F.go hg (hr.mono h) e b v q⟩
end
/-- a def that may be called here -/
def Callee (X : Cx) (k : Nat) (f : Addr) (fd : FuncData) (ps : List Str) (sp : Sp) : Prop :=
  FnOk X.prog X.w X.K X.mg X.base CX0 k f fd ps sp ∨ (X.A.guards = some [] ∧ FnG X.prog X.w X.K X.mg X.base k f fd ps sp)
section
variable {X : Cx} {k : Nat} {f : Addr} {fd : FuncData} {ps : List Str} {sp : Sp} {E : XK} {x : Str} {p pos : Pos} {e : Expr} {es : List Expr} {t : TA}
theorem Callee.go (F : Callee X k f fd ps sp) {pins : List (Addr × Obj)} {σ : L2.St} {H : Hp} {s : Shared} {Q : VK} {us : List Value} {vs : List V} (hr : Room k X.A) (hb : Binds X.K fd ps []) (I : Inv X pins σ H s) (r : Vals vs us) (h : sp vs H Q E) :
    wpAny (model X.prog X.w) X.A (call (.ref f) us) (EP X pins σ Q) X.xe s := by
  rcases F with F | ⟨hg, F⟩
  · exact run_fn (E := E) F hr hb .nil pass0 I r (by rw [List.append_nil]; exact h)
  · have bt := hb s us I.kIn (by rw [List.append_nil, ← r.length]; exact F.arity h)
    rw [List.append_nil] at bt
    refine wpAny_call (codeAny_mono (F.go hg hr I.env0 bt r h) fun res s' c => ?_)
    match res, c with
    | .error _, c => exact c.elim
    | .ok (.ret _), c => exact I.after c
    | .ok .next, c => exact c.elim
    | .ok .brk, c => exact c.elim
    | .ok .cont, c => exact c.elim
theorem pe_callC (F : Callee X k f fd ps sp) (hr : Room k X.A) (hg : Gl X x) (hm : X.mg x = some (.ref f)) (hk : PySem.W.keepIn X.K (.ref f) = true) (hb : Binds X.K fd ps [])
    (ha : PA X (e :: es) t) (hdb : (x == ("__debug__" : Str)) = false) (he : starEach (e :: es) X.env = (false, eval e X.env) :: starEach es X.env) (hpl : (backTo pos (starEach es X.env)).any (·.1) = false) :
    PE X (.Call (.Name x p) (e :: es) [] pos) (tCall sp [] E t) := ⟨fun pins s σ H Q I h =>
  wpAny_Call_Name_kw (ld_glob I hg hm (PySem.W.callWith_K (h₀ := X.base) I.ok.mod.kin hk (thn (ha.run pos pins s σ H _ I h) fun us s1 ⟨vs, H1, I1, r, q⟩ => ⟨I1.kIn, F.go (E := E) hr hb I1 r (by have z : sp (vs ++ []) H1 Q E := q; rw [List.append_nil] at z; exact z)⟩) he hpl) hdb)⟩
theorem pe_callC0 (F : Callee X k f fd ps sp) (hr : Room k X.A) (hg : Gl X x) (hm : X.mg x = some (.ref f)) (hk : PySem.W.keepIn X.K (.ref f) = true) (hb : Binds X.K fd ps [])
    (hdb : (x == ("__debug__" : Str)) = false) : PE X (.Call (.Name x p) [] [] pos) (tCall sp [] E tNil) := ⟨fun pins s σ H Q I h =>
  wpAny_Call_Name_kw (ld_glob I hg hm (PySem.W.callWith_K0 I.kIn hk (F.go (E := E) (us := []) hr hb I .nil h)) hdb)⟩
end
/-! ### a def by its body -/
section
variable {P : Program} {w : World} {K : PySem.W.Frag} {mg : Str → Option Value} {base : Heap} {k : Nat} {sp : Sp} {f : Addr} {name qual : Str} {params : Arguments} {body : List Stmt} {scope : Scope} {dV kV doc pm cdv ct oc : Value} {an od : Option Addr} {osl : Array (Option Value)} {N ps : List Str}
theorem fnG_of (lk : K.lookup f = some ⟨oc, od, .func (PySem.W.fnOf name qual params body scope dV kV doc pm an cdv ct), osl⟩) (hcd : PySem.W.codeIn K cdv qual = true) (S : FnScope N ps scope) (ar : ∀ {vs : List V} {H : Hp} {Q : VK} {E : XK}, sp vs H Q E → vs.length = ps.length)
    (hb : ∀ (A : Around) (outer : List PySem.Env) (s : Shared) (H : Hp) (vs : List V) (Q : VK) (E : XK), A.guards = some [] → Room k (A.deeper (envOfC qual scope s.heap.objs.size f cdv)) → sp vs H Q E →
      ∃ t, PSs (cxOf CX0 P w K mg base N qual scope f cdv A outer s H E) body t ∧ t { nx := fun _ H' => Q .non H', rt := Q } (start N vs) H) :
    FnG P w K mg base (k + 1) f (PySem.W.fnOf name qual params body scope dV kV doc pm an cdv ct) ps sp := by
  refine ⟨ar, fun {A outer s H args us vs Q E} hg hr e0 bt rv q => ?_⟩
  have kin : K.In s.heap := e0.mod.kin.keeps fun b o z => (e0.bs b o z).1
  have loc : ∀ y ∈ ps.zip us, scope.names.lookup y.1 = some .local ∨ (scope.names.lookup y.1 = some .cell ∧ ((cellsFrom (s.heap.objs.size + 1) scope.names []).lookup y.1).isSome = true) := fun y hy =>
    (S.par y.1 (List.of_mem_zip hy).1).imp id fun z => ⟨z, PySem.W.cellsFrom_some _ _ _ (.inl z)⟩
  refine codeAny_call_function hr.depth (kin _ _ lk) rfl S.co S.gen rfl (PySem.W.codeRec_of kin hcd) (bt _ _ _ _ (wpAny_newFunctionEnv_cells S.kind loc fun env ee s1 fr => ?_))
  subst ee
  obtain ⟨t, ht, hq⟩ := hb A outer s H vs Q E hg (hr.deeper _) q
  refine ⟨(e0.mod.nolimit.keeps fun b o z => (e0.bs b o z).1).keeps fr.toInCall.keep, codeAny_func (wpAny_mono (ht.run [] s1 (start N vs) H _ (inv_start S hr.hd e0 (ar q) rv fr) hq) (fun fl s' hs => ?_) fun _ _ z => z)⟩
  match fl, hs with
  | .ret u, ⟨v, _, H', J, r, q⟩ => exact ⟨v, H', J.os, J.bare, J.base, J.hok, r, q⟩
  | .next, ⟨_, H', J, q⟩ => exact ⟨.non, H', J.os, J.bare, J.base, J.hok, rfl, q⟩
  | .brk, ⟨_, _, _, q⟩ => exact q.elim
  | .cont, ⟨_, _, _, q⟩ => exact q.elim
end
/-! ### repr of data -/
theorem repr_signs {q c : Nat} (hq : q < 0x110000) (hc : c < 0x110000) : ∀ d ∈ Builtin.Str.reprChar q c, d < 0x110000 := by
  have hx : ∀ (n : Nat) (d : Nat), d ∈ List.replicate n 48 ++ (Nat.toDigits 16 c).map Char.toNat → d < 0x110000 := fun n d hd => by
    rw [List.mem_append] at hd
    rcases hd with hd | hd
    · rw [List.eq_of_mem_replicate hd]; decide
    · obtain ⟨ch, _, rfl⟩ := List.mem_map.mp hd
      have h := ch.valid
      show ch.val.toNat < _
      simp only [UInt32.isValidChar, Nat.isValidChar] at h
      omega
  have two : ∀ {a b d : Nat}, a < 0x110000 → b < 0x110000 → d ∈ [a, b] → d < 0x110000 := fun ha hb hd => by
    rcases List.mem_cons.mp hd with rfl | hd
    · exact ha
    · rw [List.mem_singleton.mp hd]; exact hb
  intro d hd
  unfold Builtin.Str.reprChar at hd
  simp only at hd
  split at hd
  · exact two (by decide) hc hd
  split at hd
  · exact two (by decide) (by decide) hd
  split at hd
  · exact two (by decide) (by decide) hd
  split at hd
  · exact two (by decide) (by decide) hd
  split at hd
  · rw [List.mem_singleton.mp hd]; exact hc
  split at hd
  · rcases List.mem_append.mp hd with hd | hd
    · exact two (by decide) (by decide) hd
    · exact hx _ d hd
  split at hd
  · rcases List.mem_append.mp hd with hd | hd
    · exact two (by decide) (by decide) hd
    · exact hx _ d hd
  · rcases List.mem_append.mp hd with hd | hd
    · exact two (by decide) (by decide) hd
    · exact hx _ d hd
theorem repr_fold_signs {q : Nat} (hq : q < 0x110000) : ∀ (l : List Nat) (acc : Array Nat), (∀ c ∈ l, c < 0x110000) → (∀ c ∈ acc.toList, c < 0x110000) → ∀ d ∈ (l.foldl (fun out c => out ++ (Builtin.Str.reprChar q c).toArray) acc).toList, d < 0x110000
  | [], _, _, ha => ha
  | c :: l, acc, hl, ha => by
    rw [List.foldl_cons]
    refine repr_fold_signs hq l _ (fun x hx => hl x (by simp [hx])) fun d hd => ?_
    rw [Array.toList_append, List.mem_append] at hd
    rcases hd with hd | hd
    · exact ha d hd
    · exact repr_signs hq (hl c (by simp)) d (by simpa using hd)
theorem strOk_repr {x : Str} (h : PyData.strOk x = true) : PyData.strOk (reprText x) = true := by
  have hq : reprQuote x < 0x110000 := by unfold reprQuote; split <;> decide
  rw [strOk_iff] at h ⊢
  intro c hc
  unfold reprText at hc
  rw [Array.toList_push, List.mem_append, ← Array.foldl_toList] at hc
  rcases hc with hc | hc
  · refine repr_fold_signs hq x.cps.toList #[reprQuote x] h (fun d hd => ?_) c hc
    have z : d = reprQuote x := by simpa using hd
    rw [z]
    exact hq
  · have z : c = reprQuote x := by simpa using hc
    rw [z]
    exact hq
theorem strOk_textFrom : ∀ (ts : List Str) (k : Nat) (acc : Str), PyData.strOk acc = true → (∀ t ∈ ts, PyData.strOk t = true) → PyData.strOk (textFrom k acc ts) = true
  | [], _, _, h, _ => h
  | t :: ts, k, acc, h, ht => by
    unfold textFrom
    refine strOk_textFrom ts _ _ (strOk_app (strOk_app h ?_) (ht t (by simp))) fun u hu => ht u (by simp [hu])
    split <;> decide +kernel
theorem strOk_listText {ts : List Str} (h : ∀ t ∈ ts, PyData.strOk t = true) : PyData.strOk (listText ts) = true :=
  strOk_app (strOk_textFrom ts 0 "[" (by decide +kernel) h) (by decide +kernel)
theorem strOk_tupleText {ts : List Str} (h : ∀ t ∈ ts, PyData.strOk t = true) : PyData.strOk (tupleText ts) = true := by
  unfold tupleText
  refine strOk_app (strOk_app (by decide +kernel) (strOk_join (by decide +kernel) h)) ?_
  split <;> decide +kernel
section
variable {K : PySem.W.Frag} {H : Hp}
mutual
theorem Dp.shownOk : ∀ {v : V} {d : D}, Dp K H v d → PyData.strOk d.shown = true
  | _, _, .non => by decide +kernel
  | _, _, .bl b => by cases b <;> decide +kernel
  | _, _, .int i => strOk_str i
  | _, _, .str x h => strOk_repr h
  | _, _, .lst _ h => strOk_listText (DpAll.shownOk h)
  | _, _, .tup _ h => strOk_tupleText (DpAll.shownOk h)
theorem DpAll.shownOk : ∀ {vs : List V} {ds : List D}, DpAll K H vs ds → ∀ t ∈ PyData.shownAll ds, PyData.strOk t = true
  | _, _, .nil => fun _ h => by cases h
  | _, _, .cons h t => fun u hu => by
    rcases List.mem_cons.mp hu with rfl | hu
    · exact Dp.shownOk h
    · exact DpAll.shownOk t u hu
end
end
/-! how long it is, at most -/
theorem reprText_len' {x : Str} (h : PyData.strOk x = true) : (reprText x).length ≤ 10 * x.length + 2 :=
  StrLaws.reprText_len x fun c hc => Nat.lt_trans (strOk_iff.mp h c hc) (by decide)
mutual
def shl : D → Nat
  | .none => 4
  | .bool _ => 5
  | .int i => if i.natAbs < 1000000 then 8 else 1930
  | .str x => 10 * x.length + 2
  | .list xs => shlA xs + 2
  | .tuple xs => shlA xs + 3
  | .dict _ => 0
def shlA : List D → Nat
  | [] => 0
  | x :: xs => (shl x + 2) + shlA xs
end
theorem listText_len (ts : List Str) : (listText ts).length ≤ piled ts + 2 := by
  cases ts with
  | nil => decide
  | cons t r =>
    have h := textFrom_length_pos r 1 (("[" : Str) ++ (if (0 : Nat) > 0 then ", " else "" : String) ++ t) (Nat.succ_pos 0)
    show (textFrom 1 (("[" : Str) ++ (if (0 : Nat) > 0 then ", " else "" : String) ++ t) r ++ "]").length ≤ _
    rw [strLen_append, h, strLen_append, strLen_append, piled_cons]
    have e1 : ((("[" : String) : Str)).length = 1 := rfl
    have e2 : ((("]" : String) : Str)).length = 1 := rfl
    have e3 : (((if (0 : Nat) > 0 then ", " else "" : String) : Str)).length = 0 := rfl
    omega
theorem tupleText_len (ts : List Str) : (tupleText ts).length ≤ piled ts + 3 := by
  unfold tupleText
  rw [strLen_append, strLen_append]
  have e1 : ((("(" : String) : Str)).length = 1 := rfl
  have e3 : (((if ts.length == 1 then ",)" else ")" : String) : Str)).length ≤ 2 := by split <;> decide
  by_cases h : ts = []
  · subst h
    have : (Str.join ", " []).length = 0 := rfl
    omega
  · have := join_length_add ts h
    omega
section
variable {K : PySem.W.Frag} {H : Hp}
mutual
theorem Dp.shownLen : ∀ {v : V} {d : D}, Dp K H v d → d.showable = true → d.shown.length ≤ shl d
  | _, _, .non, _ => by decide
  | _, _, .bl b, _ => by cases b <;> decide
  | _, _, .int i, hs => by
    have hs : i.natAbs.log2 < 1920 := by simpa [PyData.showable] using hs
    show (Str.ofString (toString i)).length ≤ shl (.int i)
    have e : (Str.ofString (toString i)).length = (toString i).length := PySem.ofString_length _
    rw [e]
    unfold shl
    split
    · rename_i h
      have := int_text_length_le10 (a := i) (k := 6) (by decide) h
      omega
    · have := int_text_length_le (a := i) (k := 1920) (by decide) hs
      omega
  | _, _, .str x h, _ => reprText_len' h
  | _, _, .lst (ds := ds) _ h, hs => by
    have := DpAll.shownLen h (by simpa [PyData.showable] using hs)
    have h2 := listText_len (PyData.shownAll ds)
    show (listText (PyData.shownAll ds)).length ≤ shl (.list ds)
    unfold shl
    omega
  | _, _, .tup (ds := ds) _ h, hs => by
    have := DpAll.shownLen h (by simpa [PyData.showable] using hs)
    have h2 := tupleText_len (PyData.shownAll ds)
    show (tupleText (PyData.shownAll ds)).length ≤ shl (.tuple ds)
    unfold shl
    omega
theorem DpAll.shownLen : ∀ {vs : List V} {ds : List D}, DpAll K H vs ds → PyData.showableAll ds = true → piled (PyData.shownAll ds) ≤ shlA ds
  | _, _, .nil, _ => by decide
  | _, _, .cons (d := d) (ds := ds) h t, hs => by
    simp only [PyData.showableAll, Bool.and_eq_true] at hs
    have h1 := Dp.shownLen h hs.1
    have h2 := DpAll.shownLen t hs.2
    show piled (d.shown :: PyData.shownAll ds) ≤ (shl d + 2) + shlA ds
    rw [piled_cons]
    omega
end
end
def rRepr (K : PySem.W.Frag) : List V → Hp → VK → Prop := fun xs H Q => ∃ a d, xs = [V.ref a] ∧ L2.Dp K H (.ref a) d ∧ d.showable = true ∧ d.hasDict = false ∧ d.depth ≤ 64 ∧ d.shown.length ≤ sizeLine ∧ Q (.str d.shown) H
theorem cr_repr {X : Cx} (hg : X.A.guards = some []) (hu : X.A.units + 200 < cLine) : CallR X (.builtin "repr") (rRepr X.K) := by
  intro pins s σ H vs us Q I r h
  obtain ⟨a, d, rfl, hd, hs, hn, hdp, hz, q⟩ := h
  rw [Vals.ref1 r]
  obtain ⟨as, rd⟩ := L2.Dp.reads I _ _ (.ref a) hd rfl
  exact repr_of_reads' rd hs (fun z => by rw [hn] at z; cases z) hg (by omega) (fun _ _ z => z) (fun h' u tk hk => ⟨.str d.shown, H, I.kept (t' := tk) hk, ⟨u, rfl⟩, q⟩) hz
def isSeqD : D → Bool
  | .list _ => true
  | .tuple _ => true
  | _ => false
def gRepr (ds : List D) : Option Slt := match ds with
  | [d] => if isSeqD d = true ∧ d.showable = true ∧ d.hasDict = false ∧ d.depth ≤ 64 ∧ shl d ≤ sizeLine then some (.val (.str d.shown)) else none
  | _ => none
theorem sem_repr {K : PySem.W.Frag} {T : List (Addr × Str)} : SemN K T (rRepr K) gRepr := by
  intro O ρ σ H xs ds s Q S hr g q
  unfold gRepr at g
  split at g
  · split at g
    · rename_i d h
      cases g
      obtain ⟨v, rfl, hd⟩ := reps1 hr
      have hok := hd.dp.shownOk
      have hl := hd.l2
      obtain ⟨a, rfl⟩ : ∃ a, v = .ref a := by
        have h1 := h.1
        unfold isSeqD at h1
        split at h1
        · obtain ⟨a, _, e, _⟩ := hd.list; exact ⟨a, e⟩
        · obtain ⟨a, _, e, _⟩ := hd.tuple; exact ⟨a, e⟩
        · cases h1
      exact ⟨a, d, rfl, hl, h.2.1, h.2.2.1, h.2.2.2.1, Nat.le_trans (hd.dp.shownLen h.2.1) h.2.2.2.2, res_val S (.str _ hok) q⟩
    · cases g
  · cases g
end Pv

/-! FwD: dicts of one's own. -/
namespace Pv
open PySem PySem.Spec PyProof.Rows L2
def keyOf : D → Option Key
  | .int i => some (.inl i)
  | .str x => some (.inr x)
  | _ => none
def valD : List (Key × D) → Key → Option D
  | [], _ => none
  | kv :: r, k => if kv.1 = k then some kv.2 else valD r k
def putD (kvs : List (Key × D)) (k : Key) (v : D) : List (Key × D) :=
  if (kvs.any fun kv => decide (kv.1 = k)) = true then kvs.map (fun kv => if kv.1 = k then (kv.1, v) else kv) else kvs ++ [(k, v)]
section
variable {K : PySem.W.Frag} {M : Hp}
theorem DkR.nil : DkR K M [] [] := ⟨rfl, .nil⟩
theorem DkR.cons_inv {p : Key × V} {kw : List (Key × V)} {q : Key × D} {kvs : List (Key × D)} (h : DkR K M (p :: kw) (q :: kvs)) : p.1 = q.1 ∧ Dp K M p.2 q.2 ∧ DkR K M kw kvs := by
  obtain ⟨h1, h2⟩ := h
  rw [List.map_cons, List.map_cons] at h1 h2
  injection h1 with h3 h4
  cases h2 with
  | cons h5 h6 => exact ⟨h3, h5, h4, h6⟩
theorem DkR.cons {p : Key × V} {kw : List (Key × V)} {q : Key × D} {kvs : List (Key × D)} (h1 : p.1 = q.1) (h2 : Dp K M p.2 q.2) (h3 : DkR K M kw kvs) : DkR K M (p :: kw) (q :: kvs) := by
  refine ⟨?_, ?_⟩
  · rw [List.map_cons, List.map_cons, h1, h3.1]
  · rw [List.map_cons, List.map_cons]
    exact .cons h2 h3.2
theorem DkR.len {kw : List (Key × V)} {kvs : List (Key × D)} (h : DkR K M kw kvs) : kw.length = kvs.length := by
  have := congrArg List.length h.1
  simpa using this
theorem DkR.val : ∀ {kw : List (Key × V)} {kvs : List (Key × D)}, DkR K M kw kvs → ∀ k : Key, (valV kw k = none ∧ valD kvs k = none) ∨ ∃ v d, valV kw k = some v ∧ valD kvs k = some d ∧ Dp K M v d
  | [], [], _, k => .inl ⟨rfl, rfl⟩
  | [], _ :: _, h, _ => by have := h.len; cases this
  | _ :: _, [], h, _ => by have := h.len; cases this
  | p :: kw, q :: kvs, h, k => by
    obtain ⟨h1, h2, h3⟩ := h.cons_inv
    unfold valD
    by_cases e : q.1 = k
    · rw [if_pos e, valV_pos (h1.trans e)]
      exact .inr ⟨_, _, rfl, rfl, h2⟩
    · rw [if_neg e, valV_neg (fun z => e (h1.symm.trans z))]
      exact DkR.val h3 k
theorem DkR.any : ∀ {kw : List (Key × V)} {kvs : List (Key × D)}, DkR K M kw kvs → ∀ k : Key, (kw.any fun kv => decide (kv.1 = k)) = kvs.any fun kv => decide (kv.1 = k)
  | [], [], _, k => rfl
  | [], _ :: _, h, _ => by have := h.len; cases this
  | _ :: _, [], h, _ => by have := h.len; cases this
  | p :: kw, q :: kvs, h, k => by
    obtain ⟨h1, h2, h3⟩ := h.cons_inv
    rw [List.any_cons, List.any_cons, DkR.any h3 k, h1]
theorem DkR.app : ∀ {kw : List (Key × V)} {kvs : List (Key × D)}, DkR K M kw kvs → ∀ {k : Key} {v : V} {d : D}, Dp K M v d → DkR K M (kw ++ [(k, v)]) (kvs ++ [(k, d)])
  | [], [], _, k, v, d, hd => .cons rfl hd .nil
  | [], _ :: _, h, _, _, _, _ => by have := h.len; cases this
  | _ :: _, [], h, _, _, _, _ => by have := h.len; cases this
  | p :: kw, q :: kvs, h, k, v, d, hd => by
    obtain ⟨h1, h2, h3⟩ := h.cons_inv
    exact .cons h1 h2 (DkR.app h3 hd)
theorem DkR.repl : ∀ {kw : List (Key × V)} {kvs : List (Key × D)}, DkR K M kw kvs → ∀ {k : Key} {v : V} {d : D}, Dp K M v d → DkR K M (kw.map fun kv => if kv.1 = k then (kv.1, v) else kv) (kvs.map fun kv => if kv.1 = k then (kv.1, d) else kv)
  | [], [], _, k, v, d, hd => .nil
  | [], _ :: _, h, _, _, _, _ => by have := h.len; cases this
  | _ :: _, [], h, _, _, _, _ => by have := h.len; cases this
  | p :: kw, q :: kvs, h, k, v, d, hd => by
    obtain ⟨h1, h2, h3⟩ := h.cons_inv
    rw [List.map_cons, List.map_cons]
    by_cases e : q.1 = k
    · rw [if_pos e, if_pos (h1.trans e)]
      exact .cons h1 hd (DkR.repl h3 hd)
    · rw [if_neg e, if_neg (fun z => e (h1.symm.trans z))]
      exact .cons h1 h2 (DkR.repl h3 hd)
theorem DkR.put {kw : List (Key × V)} {kvs : List (Key × D)} {k : Key} {v : V} {d : D} (h : DkR K M kw kvs) (hd : Dp K M v d) : DkR K M (putK kw k v) (putD kvs k d) := by
  unfold putK putD
  rw [h.any k]
  split
  · exact h.repl hd
  · exact h.app hd
theorem Dp.key {v : V} {d : D} {k : Key} (h : Dp K M v d) (e : keyOf d = some k) : v = kV k := by
  cases h <;> cases e <;> rfl
end
theorem noSl_plain {k : Expr} (h : plainE k = true) : NoSl k := fun ov iv => by
  cases k <;> first | rfl | cases h
/-- what a name's dict holds -/
def dcO (ρ : Rho) (i : Nat) : Option (List (Key × D)) := match ρ[i]? with
  | some (some (.dct kvs)) => some kvs
  | some (some (.vdc kvs)) => some kvs
  | _ => none
theorem SOk.dco {K : PySem.W.Frag} {T : List (Addr × Str)} {O : Addr → Bool} {ρ : Rho} {σ : L2.St} {H : Hp} (S : SOk K T O ρ σ H) {i : Nat} {kvs : List (Key × D)} (e : dcO ρ i = some kvs) : ∃ p kw, σ[i]? = some (some (V.ref p)) ∧ H p = some (.dK kw) ∧ DkR K (mask O H) kw kvs := by
  unfold dcO at e
  split at e
  · rename_i k hs
    cases e
    obtain ⟨p, kw, h1, h2, h3, h4⟩ := S.dct i _ hs
    exact ⟨p, kw, h1, h3, h4⟩
  · rename_i k hs
    cases e
    obtain ⟨v, h1, p, kw, rfl, h3, h4⟩ := S.vdc i _ hs
    exact ⟨p, kw, h1, (mask_some.mp h3).2, h4⟩
  · cases e
/-! ### d[k] -/
def eDGet (i : Nat) (c : Cd) : RF := fun ρ => match dcO ρ i with
  | some _ => match aE c ρ with
    | some (a, ρ1) => match argD ρ1 a, dcO ρ1 i with
      | some d, some kvs => match keyOf d with
        | some k => match valD kvs k with
          | some v => some (.val v, ρ1)
          | none => none
        | none => none
      | _, _ => none
    | none => none
  | none => none
section
variable {X : Cx} {T : List (Addr × Str)} {i : Nat} {o k : Expr} {ck : Cd} {pos : Pos}
theorem es_dget (hu : X.A.units + 1 < cLine) (ho : PE X o (tVar i)) (hk : ES X T k ck) (hp : plainE k = true) : PE X (.Subscript o k pos) (tE X.K T ck.pu (eDGet i ck)) := by
  refine pe_imp (pe_dget hu ho hk.o (noSl_plain hp)) fun σ H Q q => ?_
  obtain ⟨O, ρ, r, ρ', S, e, q⟩ := q
  unfold eDGet at e
  split at e
  · rename_i kvs0 hs0
    split at e
    · rename_i a ρ1 e1
      split at e
      · rename_i d kvs e2 hs
        split at e
        · rename_i kk e3
          split at e
          · rename_i v e4
            cases e
            obtain ⟨p0, kw0, hv0, _⟩ := S.dco hs0
            refine ⟨_, hv0, O, ρ, a, _, S, e1, fun y O1 H1 S1 t1 p1 a1 => ?_⟩
            obtain ⟨p, kw, f1, f3, f4⟩ := S1.dco hs
            rw [hv0] at f1
            cases f1
            have hy := (a1.rep S1 e2).dp.key e3
            subst hy
            rcases f4.val kk with ⟨_, z⟩ | ⟨w, d', h1, h2, h3⟩
            · rw [e4] at z; cases z
            · rw [e4] at h2
              cases h2
              exact ⟨p0, w, rfl, by rw [← h1]; exact DGet.k f3, q w O1 H1 S1 t1 p1 h3⟩
          · cases e
        · cases e
      · cases e
    · cases e
  · cases e
end
/-! ### d.setdefault(k, v) -/
def eDSet (i : Nat) (ck cv : Cd) : RF := fun ρ => match ρ[i]? with
  | some (some (.dct _)) => match aE ck ρ with
    | some (a, ρ1) => match argD ρ1 a with
      | some d => match keyOf d with
        | some k => match vE cv ρ1 with
          | some (v, ρ2) => match ρ2[i]? with
            | some (some (.dct kvs)) => if kvs.length < sizeLine then (match valD kvs k with
              | some w => some (.val w, ρ2)
              | none => some (.val v, ρ2.set i (some (.dct (putD kvs k v))))) else none
            | _ => none
          | none => none
        | none => none
      | none => none
    | none => none
  | _ => none
section
variable {X : Cx} {T : List (Addr × Str)} {i : Nat} {o k v : Expr} {ck cv : Cd} {apos cpos : Pos}
theorem es_dset (hb : ∀ m : Str, attributeBase o m X.env (eval o X.env) = eval o X.env) (ho : PE X o (tVar i)) (hk : ES X T k ck) (hpk : plainE k = true) (hv : ES X T v cv) (hpv : plainE v = true) (hl : (apos.endLine == cpos.line) = true) :
    PE X (.Call (.Attribute o "setdefault" apos) [k, v] [] cpos) (tE X.K T false (eDSet i ck cv)) := by
  have h2 : starEach [v] X.env = [(false, eval v X.env)] := plain_star hpv
  have hs : starEach [k, v] X.env = [(false, eval k X.env), (false, eval v X.env)] := by rw [show starEach [k, v] X.env = (false, eval k X.env) :: starEach [v] X.env from plain_star hpk, h2]
  have m : M2 X o "setdefault" apos k v cpos := ⟨hb _, by rw [hs]; rfl, hl, by rw [hs]; rfl⟩
  refine pe_imp (pe_dsetd ho hk.o hv.v m) fun σ H Q q => ?_
  obtain ⟨O, ρ, r, ρ', S, e, q⟩ := q
  unfold eDSet at e
  split at e
  · rename_i kvs0 hs0
    split at e
    · rename_i a ρ1 e1
      split at e
      · rename_i d e2
        split at e
        · rename_i kk e3
          split at e
          · rename_i y ρ2 e4
            split at e
            · rename_i kvs hs2
              split at e
              · rename_i hz
                obtain ⟨p0, kw0, hv0, _, hH, _⟩ := S.dct i _ hs0
                refine ⟨_, hv0, p0, rfl, .inl ⟨kw0, .inl hH⟩, O, ρ, a, ρ1, S, e1, fun yk O1 H1 S1 t1 p1 a1 => ⟨O1, ρ1, y, ρ2, S1, e4, fun yv O2 H2 S2 t2 p2 dv => ?_⟩⟩
                obtain ⟨p, kw, f1, f2, f3, f4⟩ := S2.dct i kvs hs2
                rw [hv0] at f1
                cases f1
                have hy := (a1.rep S1 e2).dp.key e3
                subst hy
                have t12 := t1.trans S.cov' t2
                refine ⟨kw, kk, f3, rfl, by rw [f4.len]; exact hz, fun w hw => ?_, fun hn => ?_⟩
                · rcases f4.val kk with ⟨z, _⟩ | ⟨w', d', h1, h2', h3⟩
                  · rw [hw] at z; cases z
                  · rw [hw] at h1
                    cases h1
                    rw [h2'] at e
                    cases e
                    exact q w O2 H2 S2 t12 (fun z => by cases z) h3
                · rcases f4.val kk with ⟨_, z⟩ | ⟨w', d', h1, _⟩
                  · rw [z] at e
                    cases e
                    obtain ⟨S3, t3⟩ := put_okO (u := .dct (putD kvs kk y)) S2 hs2 rfl hv0 ⟨_, rfl, f4.put dv⟩
                    exact q yv O2 _ S3 (t12.trans S.cov' t3) (fun z => by cases z) (by show Dp X.K (mask O2 _) yv y; rw [mask_put f2]; exact dv)
                  · rw [hn] at h1; cases h1
              · cases e
            · cases e
          · cases e
        · cases e
      · cases e
    · cases e
  · cases e
end
/-! ### d is None -/
def isNs : Slt → Bool
  | .val .none => true
  | _ => false
def eIsD (neg : Bool) (i : Nat) : RF := fun ρ => match ρ[i]? with
  | some (some s) => some (.val (.bool (if neg then !isNs s else isNs s)), ρ)
  | _ => none
section
variable {X : Cx} {T : List (Addr × Str)} {i j : Nat} {o : Expr} {p pos : Pos}
theorem isNs_ok {K : PySem.W.Frag} {O : Addr → Bool} {ρ : Rho} {σ : L2.St} {H : Hp} {v : V} {s : Slt} (S : SOk K T O ρ σ H) (hs : ρ[i]? = some (some s)) (hv : σ[i]? = some (some v)) : decide (v = .non) = isNs s := by
  cases s with
  | val d =>
    obtain ⟨w, e1, e2⟩ := S.val i d hs
    rw [hv] at e1
    cases e1
    cases e2 <;> rfl
  | own ds =>
    obtain ⟨q, ws, e1, _⟩ := S.own i ds hs
    rw [hv] at e1
    cases e1
    rfl
  | dct kvs =>
    obtain ⟨q, ws, e1, _⟩ := S.dct i kvs hs
    rw [hv] at e1
    cases e1
    rfl
  | vdc kvs =>
    obtain ⟨w, e1, q, kw, rfl, _⟩ := S.vdc i kvs hs
    rw [hv] at e1
    cases e1
    rfl
def opIs : Bool → CmpOp
  | false => .Is
  | true => .IsNot
theorem isD_core {neg : Bool} {σ : L2.St} {H : Hp} {Q : VK} (q : tE X.K T true (eIsD neg i) σ H Q) : tOp (match neg with | false => rIsA | true => rNotA) (tVar i) (tC .non) σ H Q := by
  obtain ⟨O, ρ, r, ρ', S, e, q⟩ := q
  unfold eIsD at e
  split at e
  · rename_i s hs
    cases e
    obtain ⟨v, hv⟩ := S.slot hs
    have := isNs_ok S hs hv
    cases neg with
    | false =>
      refine ⟨v, hv, .inl ⟨rfl, ?_⟩⟩
      rw [this]
      exact q _ O H S Tr.refl (fun _ => Kp.refl H) (.bl _)
    | true =>
      refine ⟨v, hv, .inl ⟨rfl, ?_⟩⟩
      rw [this]
      exact q _ O H S Tr.refl (fun _ => Kp.refl H) (.bl _)
  · cases e
theorem es_isD {neg : Bool} (ho : PE X o (tVar i)) : PE X (.Compare o [opIs neg] [.Constant .none j p] pos) (tE X.K T true (eIsD neg i)) := by
  cases neg with
  | false => exact pe_imp (pe_cmpR op_isA ho pe_non rfl) fun σ H Q q => isD_core q
  | true => exact pe_imp (pe_cmpR op_notA ho pe_non rfl) fun σ H Q q => isD_core q
theorem et_isD {neg : Bool} (ho : PE X o (tVar i)) : PT X (.Compare o [opIs neg] [.Constant .none j p] pos) (tT X.K T true (bOf (eIsD neg i))) := by
  have key : ∀ {σ : L2.St} {H : Hp} {Q : Bool → Hp → Prop}, tT X.K T true (bOf (eIsD neg i)) σ H Q → tE X.K T true (eIsD neg i) σ H fun v H1 => ∃ b, v = .bl b ∧ Q b H1 := fun {σ H Q} q => by
    obtain ⟨O, ρ, k, ρ', S, h, q⟩ := q
    unfold bOf at h
    split at h
    · rename_i b ρ1 h1
      cases h
      refine ⟨O, ρ, _, _, S, h1, fun v O1 H1 S1 t1 p1 rv => ?_⟩
      have rv' : Dp X.K (mask O1 H1) v (.bool k) := rv
      cases rv'
      exact ⟨k, rfl, q O1 H1 S1 t1 p1⟩
    · cases h
  cases neg with
  | false => exact pt_imp (pt_cmpR op_isA ho pe_non rfl) fun σ H Q q => isD_core (key q)
  | true => exact pt_imp (pt_cmpR op_notA ho pe_non rfl) fun σ H Q q => isD_core (key q)
end
/-! ### {k: v for ..} -/
def dcD (vs : List Nat) (g : GF) (c : BF) (ek ev : Cd) : List D → Rho → List (Key × D) → Option (List (Key × D) × Rho)
  | [], ρ, acc => some (acc, ρ)
  | d :: ds, ρ, acc => match g d ρ with
    | some ρ1 => match c ρ1 with
      | some (true, ρ2) => match vE ek ρ2 with
        | some (x, ρ3) => match keyOf x with
          | some k => match vE ev ρ3 with
            | some (y, ρ4) => if acc.length < sizeLine then dcD vs g c ek ev ds (wipeR ρ4 vs) (putD acc k y) else none
            | none => none
          | none => none
        | none => none
      | some (false, ρ2) => dcD vs g c ek ev ds (wipeR ρ2 vs) acc
      | none => none
    | none => none
def eDc (vs : List Nat) (f : IF) (g : GF) (c : BF) (ek ev : Cd) : RF := fun ρ => match f ρ with
  | some (ds, ρ1) => match dcD vs g c ek ev ds (wipeR ρ1 vs) [] with
    | some (acc, ρ2) => some (.dct acc, restR ρ1 ρ2 vs)
    | none => none
  | none => none
structure DcI (K : PySem.W.Frag) (T : List (Addr × Str)) (O1 : Addr → Bool) (ρ1 : Rho) (σw : L2.St) (H1 : Hp) (Dl : Addr) (fin : List (Key × D) × Rho) (run : Rho → List (Key × D) → Option (List (Key × D) × Rho)) (pu : Bool) (H : Hp) : Prop where
  ex : ∃ (O : Addr → Bool) (ρ : Rho) (acc : List (Key × D)) (kw : List (Key × V)), SOk K T O ρ σw H ∧ Tr O1 ρ1 σw H1 O ρ σw H ∧ O Dl = true ∧ ¬ Own ρ σw Dl ∧ H Dl = some (.dK kw) ∧ DkR K (mask O H) kw acc ∧ run ρ acc = some fin ∧ (pu = true → Kp H1 H)
theorem Tr.putNewO {O1 O : Addr → Bool} {ρ1 ρ : Rho} {σ1 σ : L2.St} {H1 H : Hp} {p : Addr} {ob : HO} (c : ∀ a, O1 a = true → H1 a ≠ none) (t : Tr O1 ρ1 σ1 H1 O ρ σ H) (np : H1 p = none) : Tr O1 ρ1 σ1 H1 O ρ σ (upd H p ob) := by
  have ne : ∀ {a : Addr} {o : HO}, H1 a = some o → a ≠ p := fun h => ne_of_none h np
  refine ⟨t.sub, fun a o h1 h2 n => by rw [upd_ne (ne h2)]; exact t.keep a o h1 h2 n, fun a h1 h2 => ?_, t.pres, fun a h => ?_⟩
  · obtain ⟨q1, q2⟩ := t.oth a h1 h2
    have : a ≠ p := fun z => c a h1 (by rw [z]; exact np)
    exact ⟨q1, by rw [upd_ne this]; exact q2⟩
  · by_cases z : a = p
    · subst z; rw [upd_same]; simp
    · rw [upd_ne z]; exact t.dom a h
theorem Kp.putNewO {H1 H : Hp} {p : Addr} {ob : HO} (k : Kp H1 H) (np : H1 p = none) : Kp H1 (L2.upd H p ob) := fun b o h n => by
  rw [upd_ne (ne_of_none h np)]
  exact k b o h n
theorem dc_it {J : It} {n : Nat} {G : Hp → Prop} {Y : Nat → Hp → V → Hp → Prop} (w : Walk J n G Y) {g : TG} {tt : TT} {tk tv : TE} {vs : List Nat} {σ : L2.St} {H1 : Hp} {D : Addr} {Qd : Hp → Prop} (Pv : Nat → Hp → Prop) (h0 : Pv 0 (upd H1 D (.dK []))) (hG : ∀ i H, i ≤ n → Pv i H → G H)
    (hs : ∀ i x H H', i < n → Pv i H → Y i H x H' → g x (wipe σ vs) H' fun σ2 H2 => wipe σ2 vs = wipe σ vs ∧ tt σ2 H2 fun b H3 =>
      if b = true then tk σ2 H3 fun y H4 => tv σ2 H4 fun z H5 => ∃ kvs k, y = kV k ∧ H5 D = some (.dK kvs) ∧ kvs.length < sizeLine ∧ Pv (i + 1) (upd H5 D (.dK (putK kvs k z))) else Pv (i + 1) H3) (hd : ∀ H, Pv n H → Qd H) :
    ∃ W : Nat → Nat → Hp → Prop, (∃ m, W 0 m (upd H1 D (.dK []))) ∧ ∀ i m H, W i m H →
      (J.stop i H ∧ Qd H) ∨ (J.go i H ∧ ∃ Nx : Hp → Prop, (∀ H', Nx H' → ∃ m', m' < m ∧ W (i + 1) m' H') ∧ ∀ x H', J.yld i H x H' → g x (wipe σ vs) H' fun σ2 H2 => wipe σ2 vs = wipe σ vs ∧ tt σ2 H2 fun b H3 =>
        if b = true then tk σ2 H3 fun y H4 => tv σ2 H4 fun z H5 => ∃ kvs k, y = kV k ∧ H5 D = some (.dK kvs) ∧ kvs.length < sizeLine ∧ Nx (upd H5 D (.dK (putK kvs k z))) else Nx H3) := by
  refine ⟨fun i m H => m = n - i ∧ i ≤ n ∧ Pv i H, ⟨n, by simp, Nat.zero_le _, h0⟩, ?_⟩
  rintro i m H ⟨rfl, hi, p⟩
  have q := hG i H hi p
  by_cases hlt : i < n
  · refine .inr ⟨w.goes i H hlt q, Pv (i + 1), fun H' p' => ⟨n - (i + 1), by omega, rfl, hlt, p'⟩, fun x H' y => hs i x H H' hlt p (w.yields i H x H' hlt q y)⟩
  · have e : i = n := by omega
    subst e
    exact .inl ⟨w.stops H q, hd H p⟩
section
variable {K : PySem.W.Frag} {T : List (Addr × Str)}
theorem dc_read {vs : List Nat} {f : IF} {g : GF} {c : BF} {ek ev : Cd} {wk bor puI puC : Bool} {σ : L2.St} {H : Hp} {Q : VK} (hb : bor = true → (puC && (ek.pu && ev.pu)) = true)
    (q : tE K T (puI && (puC && (ek.pu && ev.pu))) (eDc vs f g c ek ev) σ H Q) : tDc (tI K T wk bor puI f) (tG K T (fzBut vs) wk g) (tT K T puC c) (tV K T ek) (tV K T ev) vs σ H Q := by
  obtain ⟨O, ρ, r, ρ', S, e, q⟩ := q
  unfold eDc at e
  split at e
  · rename_i ds ρ1 e1
    split at e
    · rename_i acc ρ2 e2
      cases e
      refine ⟨O, ρ, ds, ρ1, S, e1, fun J O1 H1 S1 t1 p1 it Dl nD => ?_⟩
      obtain ⟨G, Y, w, hG, hY⟩ := it
      have Sw : SOk K T O1 (wipeR ρ1 vs) (wipe σ vs) H1 := wipe_ok S1
      refine dc_it w (fun i H' => DcI K T O1 (wipeR ρ1 vs) (wipe σ vs) H1 Dl (acc, ρ2) (fun ρ a => dcD vs g c ek ev (ds.drop i) ρ a) (puC && (ek.pu && ev.pu)) H')
        ⟨oAdd O1 Dl, wipeR ρ1 vs, [], [], Sw.newOwnO .dk nD, Tr.newOwn Sw nD, by simp [oAdd], Sw.notOwn nD, upd_same, .nil, e2, fun _ => Kp.upd nD⟩
        (fun i H' _ h => ?_) (fun i x H' H'' hi h y => ?_) (fun H' h => ?_)
      · obtain ⟨O', ρ', a', xs, S', t', _, _, _, _, _, pk⟩ := h.ex
        refine hG H' ?_
        cases bor with
        | false => exact t'.mask.trans (Kp.mask O' H')
        | true => exact pk (hb rfl)
      · obtain ⟨O', ρ', a', xs, S', t', hO, hn, hD, hds, e', pk⟩ := h.ex
        obtain ⟨d, hd, y⟩ := hY i H' x H'' hi (t'.mask.trans (Kp.mask O' H')) y
        obtain ⟨S2, t2, k2, dp⟩ := y.ok S' t'.mask
        have hD2 : H'' Dl = some (.dK xs) := by
          obtain ⟨_, q2⟩ := t2.oth Dl hO hn
          rw [q2]; exact hD
        have hdr : ds.drop i = d :: ds.drop (i + 1) := by
          have hi' : i < ds.length := hi
          rw [List.drop_eq_getElem_cons hi']
          rw [List.getElem?_eq_getElem hi'] at hd
          rw [Option.some.inj hd]
        rw [hdr] at e'
        simp only [dcD] at e'
        split at e'
        · rename_i ρa ea
          refine ⟨O', ρ', d, ρa, S2, dp, ea, fun σ3 S3 t3 f3 => ?_⟩
          have e3 : wipe σ3 vs = wipe σ vs := by
            rw [← wipe_wipe σ vs]
            exact wipe_of_fz f3.1 fun j hj => f3.2 j (by simp [fzBut, hj])
          refine ⟨e3, ?_⟩
          have hO3 : O' Dl = true := hO
          have hn3 : ¬ Own ρa σ3 Dl := fun z => by
            rcases t3.pres Dl z with z | z
            · exact hn z
            · rw [hD2] at z; cases z
          have t3' := (t'.trans S1.cov' t2).trans S1.cov' t3
          split at e'
          · rename_i ρb eb
            refine ⟨O', ρa, true, ρb, S3, eb, fun O4 H4 S4 t4 p4 => iteT ?_⟩
            obtain ⟨hO4, hD4⟩ := t4.oth Dl hO3 hn3
            have hn4 : ¬ Own ρb σ3 Dl := fun z => by
              rcases t4.pres Dl z with z | z
              · exact hn3 z
              · rw [hD2] at z; cases z
            have hD4' : H4 Dl = some (.dK xs) := by rw [hD4]; exact hD2
            split at e'
            · rename_i x' ρc ec
              split at e'
              · rename_i kk ek'
                split at e'
                · rename_i y' ρd ed
                  split at e'
                  · rename_i hz
                    refine ⟨O4, ρb, x', ρc, S4, ec, fun vk O5 H5 S5 t5 p5 dp5 => ?_⟩
                    obtain ⟨hO5, hD5⟩ := t5.oth Dl hO4 hn4
                    have hn5 : ¬ Own ρc σ3 Dl := fun z => by
                      rcases t5.pres Dl z with z | z
                      · exact hn4 z
                      · rw [hD4'] at z; cases z
                    have hD5' : H5 Dl = some (.dK xs) := by rw [hD5]; exact hD4'
                    refine ⟨O5, ρc, y', ρd, S5, ed, fun vv O6 H6 S6 t6 p6 dp6 => ?_⟩
                    obtain ⟨hO6, hD6⟩ := t6.oth Dl hO5 hn5
                    have hn6 : ¬ Own ρd σ3 Dl := fun z => by
                      rcases t6.pres Dl z with z | z
                      · exact hn5 z
                      · rw [hD5'] at z; cases z
                    have hD6' : H6 Dl = some (.dK xs) := by rw [hD6]; exact hD5'
                    have hds6 := hds.mono (t2.mask.trans (t3.mask.trans (t4.mask.trans (t5.mask.trans t6.mask))))
                    have S7 : SOk K T O6 (wipeR ρd vs) (wipe σ3 vs) H6 := wipe_ok S6
                    have t7 : Tr O1 (wipeR ρ1 vs) (wipe σ vs) H1 O6 (wipeR ρd vs) (wipe σ3 vs) H6 := (((t3'.trans S1.cov' t4).trans S1.cov' t5).trans S1.cov' t6).wipe
                    have hn7 : ¬ Own (wipeR ρd vs) (wipe σ3 vs) Dl := fun z => hn6 z.wipe
                    rw [e3] at S7 t7 hn7
                    refine ⟨xs, kk, dp5.key ek', hD6', by rw [hds.len]; exact hz, ⟨O6, wipeR ρd vs, putD a' kk y', putK xs kk vv, put_freeO S7 hO6 hD6' .dk .dk hn7, t7.putNewO S1.cov' nD, hO6, hn7, upd_same, ?_, e', fun p => ?_⟩⟩
                    · rw [mask_put hO6]
                      exact hds6.put dp6
                    · have p' := p
                      rw [Bool.and_eq_true, Bool.and_eq_true] at p'
                      exact (((((pk p).trans k2).trans (p4 p'.1)).trans (p5 p'.2.1)).trans (p6 p'.2.2)).putNewO nD
                  · cases e'
                · cases e'
              · cases e'
            · cases e'
          · rename_i ρb eb
            refine ⟨O', ρa, false, ρb, S3, eb, fun O4 H4 S4 t4 p4 => iteF ?_⟩
            obtain ⟨hO4, hD4⟩ := t4.oth Dl hO3 hn3
            have hn4 : ¬ Own ρb σ3 Dl := fun z => by
              rcases t4.pres Dl z with z | z
              · exact hn3 z
              · rw [hD2] at z; cases z
            have hds4 := hds.mono (t2.mask.trans (t3.mask.trans t4.mask))
            have S6 : SOk K T O4 (wipeR ρb vs) (wipe σ3 vs) H4 := wipe_ok S4
            have t6 : Tr O1 (wipeR ρ1 vs) (wipe σ vs) H1 O4 (wipeR ρb vs) (wipe σ3 vs) H4 := (t3'.trans S1.cov' t4).wipe
            have hn6 : ¬ Own (wipeR ρb vs) (wipe σ3 vs) Dl := fun z => hn4 z.wipe
            rw [e3] at S6 t6 hn6
            refine ⟨O4, wipeR ρb vs, a', xs, S6, t6, hO4, hn6, by rw [hD4]; exact hD2, hds4, e', fun p => ?_⟩
            have p' := p
            rw [Bool.and_eq_true] at p'
            exact ((pk p).trans k2).trans (p4 p'.1)
          · cases e'
        · cases e'
      · obtain ⟨O', ρ', a', xs, S', t', hO, hn, hD, hds, e', pk⟩ := h.ex
        rw [List.drop_length] at e'
        cases e'
        obtain ⟨S7, t7⟩ := rest_ok S1 S' t'
        have hn7 : ¬ Own (restR ρ1 ρ2 vs) σ Dl := fun z => by
          rcases t7.pres Dl z with z | z
          · exact S1.notOwn nD z
          · rw [nD] at z
            obtain ⟨i, es, h1, hw, h2⟩ := ‹Own _ _ Dl›
            rcases restR_some (by rw [S1.len, S'.len, wipe_length]) h1 with ⟨hi, h1⟩ | ⟨hi, h1⟩
            · exact S1.notOwn nD ⟨i, es, h1, hw, h2⟩
            · exact hn ⟨i, es, h1, hw, by rw [wipe_out hi]; exact h2⟩
        refine q _ O' H' S7 (t1.trans S.cov' t7) (fun p => ?_) ((show ResV K O' H' (restR ρ1 ρ2 vs) σ H1 (.ref Dl) (.dct acc) from ⟨Dl, xs, rfl, hO, hn7, nD, hD, hds⟩).back t1)
        rw [Bool.and_eq_true] at p
        exact (p1 p.1).trans (pk p.2)
    · cases e
  · cases e
end
section
variable {X : Cx} {T : List (Addr × Str)} {kx vx tg iter : Expr} {ifs : List Expr} {scope : Scope} {own : List (Str × Nat)} {pos : Pos} {f : IF} {g : GF} {c : BF} {ek ev : Cd} {wk bor puI puC : Bool}
theorem es_dc (hc : X.calm = true) (hN : X.N.Nodup) (hi : PI X tg iter (tI X.K T wk bor puI f)) (ok : BlkOk X.N X.env.scope scope own)
    (hg : ∀ (s : Shared) (H : Hp) (C : Addr) (cl : List (Str × Addr)) (fp : List Addr), PG (X.blk s H scope (compEnvC scope cl C X.env) fp) tg (tG X.K T (fzBut (own.map (·.2))) wk g))
    (ht : ∀ (s : Shared) (H : Hp) (C : Addr) (cl : List (Str × Addr)) (fp : List Addr), PTs (X.blk s H scope (compEnvC scope cl C X.env) fp) ifs (tT X.K T puC c))
    (hk : ∀ (s : Shared) (H : Hp) (C : Addr) (cl : List (Str × Addr)) (fp : List Addr), PE (X.blk s H scope (compEnvC scope cl C X.env) fp) kx (tV X.K T ek))
    (he : ∀ (s : Shared) (H : Hp) (C : Addr) (cl : List (Str × Addr)) (fp : List Addr), PE (X.blk s H scope (compEnvC scope cl C X.env) fp) vx (tV X.K T ev)) (hp : plainE iter = true) (hb : bor = true → (puC && (ek.pu && ev.pu)) = true) :
    PE X (.DictComp kx vx [⟨tg, iter, ifs, 0⟩] scope pos) (tE X.K T (puI && (puC && (ek.pu && ev.pu))) (eDc (own.map (·.2)) f g c ek ev)) :=
  pe_imp (pe_dc hc hN hi ok hg ht hk he (plain_fold hp)) fun _ _ _ q => dc_read hb q
theorem sw_trueD {kx vx : Expr} {gs : List Comprehension} {scope : Scope} {pos py : Pos} {y : Str} {l : Nat} {env : PySem.Env} (hk : env.scope.kind = .function) (hy : env.scope.names.lookup y = some .local) (hl : (py.line == pos.line) = true)
    (ha : (scope.names.any fun (n, k) => n == y && (k == .local || k == .cell)) = false) : swapsWith (.DictComp kx vx gs scope pos) (some (.Name y py)) l env = pure true := by
  have ky : env.kindOf y = some .local := hy
  have hb : env.blockKind = .function := by unfold Env.blockKind; rw [hk]; rfl
  unfold swapsWith
  simp only [hb, ky, ha, Expr.pos, hl]
  rfl
theorem ps_setDc {i : Nat} {y : Str} {py spos : Pos} {wi : TI} {g : TG} {tt : TT} {tk tv : TE} (hc : X.calm = true) (hN : X.N.Nodup) (hy : X.N[i]? = some y) (hyl : X.env.scope.names.lookup y = some .local)
    (hsw : swapsWith (.DictComp kx vx [⟨tg, iter, ifs, 0⟩] scope pos) (some (.Name y py)) spos.line X.env = pure true) (hi : PI X tg iter wi) (ok : BlkOk X.N X.env.scope scope own)
    (hg : ∀ (s : Shared) (H : Hp) (C : Addr) (cl : List (Str × Addr)) (fp : List Addr), PG (X.blk s H scope (compEnvC scope cl C X.env) fp) tg g) (ht : ∀ (s : Shared) (H : Hp) (C : Addr) (cl : List (Str × Addr)) (fp : List Addr), PTs (X.blk s H scope (compEnvC scope cl C X.env) fp) ifs tt)
    (hk : ∀ (s : Shared) (H : Hp) (C : Addr) (cl : List (Str × Addr)) (fp : List Addr), PE (X.blk s H scope (compEnvC scope cl C X.env) fp) kx tk)
    (he : ∀ (s : Shared) (H : Hp) (C : Addr) (cl : List (Str × Addr)) (fp : List Addr), PE (X.blk s H scope (compEnvC scope cl C X.env) fp) vx tv) (hs : ∀ x, foldedSetIterable iter X.env x = pure x := by intro _; rfl) :
    PS X (.Assign [.Name y py] (.DictComp kx vx [⟨tg, iter, ifs, 0⟩] scope pos) spos) (tAsg (tDc wi g tt tk tv (own.map (·.2))) (gName i)) := by
  refine ⟨fun pins s σ H D I h => ?_⟩
  rw [exec_Assign_Name_used _ _ _ _ hsw]
  refine wpAny_bind (wpAny_standAt (wpAny_bind ?_))
  show wpAny _ X.A (do let _ ← comprehension (.DictComp kx vx [⟨tg, iter, ifs, 0⟩] scope pos) scope X.env (firstIterPos [⟨tg, iter, ifs, 0⟩] pos) newDict false (eval iter X.env) (some (assign (.Name y py) X.env))) _ _ s
  have h : tDc wi g tt tk tv (own.map (·.2)) σ H (fun x H1 => gName i x σ H1 D.nx) := h
  refine wpAny_bind (thn (dc_core (Qf := fun _ s' => SP X pins D .next s') hc hN I hi ok hg ht hk he hs h fun L C s' m H' I' q hn f => ?_) fun _ s' hq => wpAny_pure (wpAny_pure hq))
  show wpAny _ _ (assign (.Name y py) X.env (.ref L)) _ _ _
  refine wpAny_assign_Name (store_ok2 (v := V.ref L) I' hN hy (.inl hyl) rfl (fun s2 I2 ⟨a, sb, ha⟩ => ?_) (.inr hyl))
  obtain ⟨f0, f1, f2, f3, f4, f5⟩ := f
  have haC : C ≠ a := by
    rcases ha with z | z
    · rw [z]; exact f1
    · exact fun e => f4 y a z e.symm
  refine ⟨m, hn.sameBut sb haC, fun h3 sb3 => ?_⟩
  exact ⟨_, H', I2.turned (t' := s2.toks) (fun b o hb e => (sb3.2 b hb).trans e) f0 f1 f3 f4 f5, q⟩
theorem ss_setDc {i : Nat} {y : Str} {py spos : Pos} {fz : Nat → Bool} (hc : X.calm = true) (hN : X.N.Nodup) (hy : X.N[i]? = some y) (hyl : X.env.scope.names.lookup y = some .local)
    (hsw : swapsWith (.DictComp kx vx [⟨tg, iter, ifs, 0⟩] scope pos) (some (.Name y py)) spos.line X.env = pure true) (hz : fz i = false) (hi : PI X tg iter (tI X.K T wk bor puI f)) (ok : BlkOk X.N X.env.scope scope own)
    (hg : ∀ (s : Shared) (H : Hp) (C : Addr) (cl : List (Str × Addr)) (fp : List Addr), PG (X.blk s H scope (compEnvC scope cl C X.env) fp) tg (tG X.K T (fzBut (own.map (·.2))) wk g))
    (ht : ∀ (s : Shared) (H : Hp) (C : Addr) (cl : List (Str × Addr)) (fp : List Addr), PTs (X.blk s H scope (compEnvC scope cl C X.env) fp) ifs (tT X.K T puC c))
    (hk : ∀ (s : Shared) (H : Hp) (C : Addr) (cl : List (Str × Addr)) (fp : List Addr), PE (X.blk s H scope (compEnvC scope cl C X.env) fp) kx (tV X.K T ek))
    (he : ∀ (s : Shared) (H : Hp) (C : Addr) (cl : List (Str × Addr)) (fp : List Addr), PE (X.blk s H scope (compEnvC scope cl C X.env) fp) vx (tV X.K T ev)) (hp : plainE iter = true) (hb : bor = true → (puC && (ek.pu && ev.pu)) = true) :
    PS X (.Assign [.Name y py] (.DictComp kx vx [⟨tg, iter, ifs, 0⟩] scope pos) spos) (tS X.K T fz (sAsg (.ex (puI && (puC && (ek.pu && ev.pu))) (eDc (own.map (·.2)) f g c ek ev)) i)) :=
  ps_imp (ps_setDc hc hN hy hyl hsw hi ok hg ht hk he (plain_fold hp)) fun _ _ _ q => dc_read hb (asg_tE hz q)
end
/-! ### {} -/
def eDNew : RF := fun ρ => some (.dct [], ρ)
theorem es_dnew {X : Cx} {T : List (Addr × Str)} {pos : Pos} : PE X (.Dict [] [] pos) (tE X.K T true eDNew) := by
  refine pe_imp pe_dnewK fun σ H Q q => ?_
  obtain ⟨O, ρ, r, ρ', S, e, q⟩ := q
  cases e
  intro p np
  refine q _ (oAdd O p) _ (S.newOwnO .dk np) (Tr.newOwn S np) (fun _ => Kp.upd np) ⟨p, [], rfl, by simp [oAdd], S.notOwn np, np, upd_same, .nil⟩
end Pv

/-! FwD2: dict(pairs), d[k] = v, k in d. -/
namespace Pv
open PySem PySem.Spec PyProof.Rows L2
/-! ### dict(x): x a tuple or a list of pairs -/
def pairD : D → Option (Key × D)
  | .tuple [k, v] => (keyOf k).map fun k => (k, v)
  | _ => none
def pairsD : List D → Option (List (Key × D))
  | [] => some []
  | d :: ds => match pairD d, pairsD ds with
    | some p, some ps => some (p :: ps)
    | _, _ => none
def mkK (acc : List (Key × D)) (kvs : List (Key × D)) : List (Key × D) := kvs.foldl (fun acc kv => putD acc kv.1 kv.2) acc
def gDict (ds : List D) : Option Slt := match ds with
  | [.tuple xs] => (pairsD xs).map fun kvs => .dct (mkK [] kvs)
  | [.list xs] => (pairsD xs).map fun kvs => .dct (mkK [] kvs)
  | _ => none
section
variable {K : PySem.W.Frag} {M : Hp}
theorem DkR.merge : ∀ {mw : List (Key × V)} {ms : List (Key × D)} {kw : List (Key × V)} {kvs : List (Key × D)}, DkR K M mw ms → DkR K M kw kvs → DkR K M (mergeK kw mw) (mkK kvs ms)
  | [], [], kw, kvs, _, h => h
  | [], _ :: _, _, _, h, _ => by have := h.len; cases this
  | _ :: _, [], _, _, h, _ => by have := h.len; cases this
  | p :: mw, q :: ms, kw, kvs, h, h2 => by
    obtain ⟨e1, e2, e3⟩ := h.cons_inv
    show DkR K M (mergeK (putK kw p.1 p.2) mw) (mkK (putD kvs q.1 q.2) ms)
    rw [e1]
    exact DkR.merge e3 (h2.put e2)
/-- the pairs of data, as they stand -/
theorem pairs_dp : ∀ {vs : List V} {ds : List D} {kvs : List (Key × D)}, DpAll K M vs ds → pairsD ds = some kvs →
    ∃ (ps : List Addr) (kw : List (Key × V)), vs = ps.map V.ref ∧ Paired (fun p kv => SqT K M p [kV kv.1, kv.2]) ps kw ∧ DkR K M kw kvs
  | _, _, _, .nil, e => by cases e; exact ⟨[], [], rfl, .nil, .nil⟩
  | _, _, _, .cons (v := v) (d := d) h t, e => by
    unfold pairsD at e
    split at e
    · rename_i p ps e1 e2
      cases e
      obtain ⟨qs, kw, rfl, h1, h2⟩ := pairs_dp t e2
      unfold pairD at e1
      split at e1
      · rename_i k x
        obtain ⟨kk, hk, rfl⟩ := Option.map_eq_some_iff.mp e1
        cases h with
        | tup hs ha =>
          cases ha with
          | cons ha hb =>
            cases hb with
            | cons hb hc =>
              cases hc
              have := ha.key hk
              subst this
              exact ⟨_ :: qs, (kk, _) :: kw, rfl, .cons hs.sqT h1, .cons rfl hb h2⟩
      · cases e1
    · cases e
end
section
variable {X : Cx} {pins : List (Addr × Obj)} {σ : L2.St} {H : Hp} {s : Shared}
theorem inv_tpl (I : Inv X pins σ H s) {a : Addr} {xs : List V} (h : Tpl X.K H a xs) : ∃ its : List Value, Vals xs its ∧ PlainSeq "tuple" s.heap a its.toArray ∧ xs.length ≤ sizeLine := by
  rcases h with ⟨o, h, hd⟩ | ⟨o, its, n, hk, hc, hd, hs, hz, r⟩
  · obtain ⟨e, z, its, r, ob, e2, hc, n, hs⟩ := I.hok a _ h
    rw [e] at e2
    cases e2
    exact ⟨its, r, ⟨o, n, e, hc, hd, hs⟩, z⟩
  · refine ⟨its.toList, r, ⟨o, n, I.kIn a o hk, hc, hd, by simpa using hs⟩, ?_⟩
    have e := r.length
    simp only [Array.length_toList] at e
    omega
/-- the pairs of a tuple, as the heap has them -/
theorem pairs_raw (I : Inv X pins σ H s) : ∀ {ps : List Addr} {kw : List (Key × V)}, Paired (fun p kv => SqT X.K H p [kV kv.1, kv.2]) ps kw →
    ∃ (raw : List (Value × Value)) (prs : List (Key × Value)), KV kw prs ∧ raw.length = ps.length ∧ prs.length = ps.length ∧
      ∀ (j : Nat) (k v : Value), raw[j]? = some (k, v) → (∃ b, ps[j]? = some b ∧ s.heap.IsTuple b #[k, v]) ∧ ∃ kk, prs[j]? = some (kk, v) ∧ keyIs kk k = true
  | _, _, .nil => ⟨[], [], .nil, rfl, rfl, fun j k v e => by simp at e⟩
  | _, _, .cons (a := p) (b := kv) h t => by
    obtain ⟨raw, prs, r, h1, h2, hp⟩ := pairs_raw I t
    obtain ⟨its, rv, ht, _⟩ := I.tuple h
    obtain ⟨u, y, ei, ru, ry⟩ := vals2 rv
    subst ei
    refine ⟨(u, y) :: raw, (kv.1, y) :: prs, .cons ⟨rfl, ry⟩ r, by simp [h1], by simp [h2], fun j k v e => ?_⟩
    cases j with
    | zero =>
      cases (Option.some.inj e)
      exact ⟨⟨p, rfl, ht⟩, kv.1, rfl, kV_is (P := X.prog) (w := X.w) ru⟩
    | succ j => exact hp j k v (by simpa using e)
theorem call_dictT (hcalm : X.calm = true) : CallR X (.type "dict") (fun xs H Q => ∃ (a : Addr) (ps : List Addr) (kvs : List (Key × V)), xs = [.ref a] ∧ Tpl X.K H a (ps.map V.ref) ∧ Paired (fun p kv => SqT X.K H p [kV kv.1, kv.2]) ps kvs ∧
    ∀ p, H p = none → Q (.ref p) (upd H p (.dK (mergeK [] kvs)))) := by
  intro pins s σ H xs us Q I r q
  obtain ⟨a, ps, kvs, ex, hq, hp, q⟩ := q
  subst ex
  obtain ⟨u, eu, rx⟩ := vals1 r
  subst eu
  cases rx
  obtain ⟨its, rv, pl, hz⟩ := inv_tpl I hq
  have ei := refs_at rv
  subst ei
  rw [List.length_map] at hz
  obtain ⟨raw, prs, rel, l1, l2, hpr⟩ := pairs_raw I hp
  have items : PairItems s.heap (ps.map Value.ref).toArray (fun j => ps.getD j 0) raw := by
    refine ⟨by simp [l1], fun j k v hj => ?_⟩
    obtain ⟨⟨b, hb, ht⟩, _⟩ := hpr j k v hj
    have : ps.getD j 0 = b := by rw [List.getD_eq_getElem?_getD, hb]; rfl
    exact ⟨by simp [this, hb], .inl (show s.heap.IsTuple (ps.getD j 0) #[k, v] by rw [this]; exact ht)⟩
  refine PySem.call_dict_pairs (knd := mixKind X.prog X.w) (kvs := prs) (PairArg.tuple a _ (fun j => ps.getD j 0) raw) (I.ok.hd hcalm) ⟨pl, items⟩ ⟨by rw [l1, l2], fun i key v h => ?_⟩ (by rw [l1]; exact hz) fun h' tk hd' k => ?_
  · obtain ⟨_, kk, h1, h2⟩ := hpr i key v h
    exact ⟨kk, h1, h2⟩
  · have hm : (s.heap.objs.size == sysModules) = false := beq_eq_false_iff_ne.mpr (Nat.ne_of_gt I.big)
    have hlen : (mergeK [] kvs).length ≤ sizeLine := by
      refine Nat.le_trans (length_mergeK kvs []) ?_
      rw [List.length_nil, Nat.zero_add, rel.length, l2]
      exact hz
    exact ⟨.ref s.heap.objs.size, upd H s.heap.objs.size (.dK (mergeK [] kvs)), I.laid (t' := tk) (fun b o e => k b o (by simp) e) (Nat.le_refl _) (show ObjOk X.prog X.w _ _ _ (.dK (mergeK [] kvs)) from ⟨hlen, hm, merged [] prs, KV.merge rel .nil, hd'⟩), rfl, q _ (I.hok.fresh (Nat.le_refl _))⟩
end
theorem sem_dict {K : PySem.W.Frag} {T : List (Addr × Str)} : SemN K T (fun xs H Q => (∃ (a : Addr) (ps : List Addr) (kvs : List (Key × V)), xs = [.ref a] ∧ Tpl K H a (ps.map V.ref) ∧ Paired (fun p kv => SqT K H p [kV kv.1, kv.2]) ps kvs ∧
    ∀ p, H p = none → Q (.ref p) (upd H p (.dK (mergeK [] kvs)))) ∨ (∃ (a : Addr) (ps : List Addr) (kvs : List (Key × V)), xs = [.ref a] ∧ SqL K H a (ps.map V.ref) ∧ Paired (fun p kv => SqT K H p [kV kv.1, kv.2]) ps kvs ∧
    ∀ p, H p = none → Q (.ref p) (upd H p (.dK (mergeK [] kvs))))) gDict := by
  intro O ρ σ H xs ds s Q S hr g q
  have fin : ∀ {kw : List (Key × V)} {kvs : List (Key × D)}, DkR K (mask O H) kw kvs → s = .dct (mkK [] kvs) → ∀ p, H p = none → Q (.ref p) (upd H p (.dK (mergeK [] kw))) := fun {kw kvs} hk hs p np => by
    subst hs
    exact q _ (oAdd O p) _ (S.newOwnO .dk np) (Tr.newOwn S np) (Kp.upd np) ⟨p, _, rfl, by simp [oAdd], S.notOwn np, np, upd_same, by rw [mask_add np]; exact hk.merge .nil⟩
  unfold gDict at g
  split at g
  · obtain ⟨kvs, e, rfl⟩ := Option.map_eq_some_iff.mp g
    obtain ⟨v, rfl, h⟩ := reps1 hr
    obtain ⟨a, vs, rfl, h1, h2⟩ := h.tupleP
    obtain ⟨ps, kw, rfl, hp, hk⟩ := pairs_dp h2 e
    exact .inl ⟨a, ps, kw, rfl, (Kp.mask O H).tpl h1, L2.Paired.mapP hp fun _ _ h => (Kp.mask O H).sqT h, fin hk rfl⟩
  · obtain ⟨kvs, e, rfl⟩ := Option.map_eq_some_iff.mp g
    obtain ⟨v, rfl, h⟩ := reps1 hr
    obtain ⟨a, vs, rfl, h1, h2⟩ := h.list
    obtain ⟨ps, kw, rfl, hp, hk⟩ := pairs_dp h2 e
    exact .inr ⟨a, ps, kw, rfl, .inl h1, L2.Paired.mapP hp fun _ _ h => (Kp.mask O H).sqT h, fin hk rfl⟩
  · cases g
/-! ### d[k] = v -/
def sSetD (i : Nat) (ck cv : Cd) : SF := fun ρ => match ρ[i]? with
  | some (some (.dct _)) => match vE cv ρ with
    | some (v, ρ1) => match aE ck ρ1 with
      | some (a, ρ2) => match argD ρ2 a, ρ2[i]? with
        | some d, some (some (.dct kvs)) => match keyOf d with
          | some k => if kvs.length < sizeLine then some (.nx (ρ2.set i (some (.dct (putD kvs k v))))) else none
          | none => none
        | _, _ => none
      | none => none
    | none => none
  | _ => none
theorem ss_setD {X : Cx} {T : List (Addr × Str)} {fz : Nat → Bool} {i : Nat} {o k e : Expr} {ck ce : Cd} {pos' pos : Pos} (hu : X.A.units + 1 < cLine) (ho : PE X o (tVar i)) (hk : ES X T k ck) (he : ES X T e ce) :
    PS X (.Assign [.Subscript o k pos'] e pos) (tS X.K T fz (sSetD i ck ce)) := by
  have hsw : swapsWith e (some (.Subscript o k pos')) pos.line X.env = pure false := by
    cases e <;> rfl
  refine ps_imp (ps_dput hu ho hk.o he.v hsw) fun D σ H q => ?_
  obtain ⟨O, ρ, out, S, e, q⟩ := q
  unfold sSetD at e
  split at e
  · rename_i kvs0 hs0
    split at e
    · rename_i v ρ1 e1
      split at e
      · rename_i a ρ2 e2
        split at e
        · rename_i d kvs e3 e4
          split at e
          · rename_i kk e5
            split at e
            · rename_i hz
              cases e
              obtain ⟨p0, vs0, hv0, _⟩ := S.dct i kvs0 hs0
              refine ⟨O, ρ, v, ρ1, S, e1, fun x O1 H1 S1 t1 p1 dp => ⟨_, hv0, O1, ρ1, a, ρ2, S1, e2, fun y O2 H2 S2 t2 p2 a2 => ?_⟩⟩
              have hy := (a2.rep S2 e3).dp.key e5
              subst hy
              obtain ⟨p, kw, f1, f2, f3, f4⟩ := S2.dct i kvs e4
              rw [hv0] at f1
              cases f1
              obtain ⟨S3, t3⟩ := put_okO (u := .dct (putD kvs kk v)) S2 e4 rfl hv0 ⟨_, rfl, f4.put (t2.mask.dp dp)⟩
              exact ⟨p0, _, rfl, DPut.k f3 (by rw [f4.len]; exact hz), q O2 σ _ S3 ((t1.trans S.cov' t2).trans S.cov' t3) FzR.refl⟩
            · cases e
          · cases e
        · cases e
      · cases e
    · cases e
  · cases e
/-! ### k in d -/
def eDIn (neg : Bool) (i : Nat) (ck : Cd) : RF := fun ρ => match dcO ρ i with
  | some _ => match aE ck ρ with
    | some (a, ρ1) => match argD ρ1 a, dcO ρ1 i with
      | some d, some kvs => match keyOf d with
        | some k => some (.val (.bool (if neg then !(valD kvs k).isSome else (valD kvs k).isSome)), ρ1)
        | none => none
      | _, _ => none
    | none => none
  | none => none
def opIn : Bool → CmpOp
  | false => .In
  | true => .NotIn
section
variable {X : Cx} {T : List (Addr × Str)} {i : Nat} {o k : Expr} {ck : Cd} {pos : Pos} {neg : Bool}
theorem pc_dinB (hu : X.A.units + 1 < cLine) (ho : PE X o (tVar i)) (hk : ES X T k ck) : PC X (opIn neg) k o (tE X.K T ck.pu (eDIn neg i ck)) := by
  have key : ∀ {σ : L2.St} {H : Hp} {Q : VK}, tE X.K T ck.pu (eDIn neg i ck) σ H Q → tO X.K T ck σ H fun y H1 => tVar i σ H1 fun x H2 => ∃ a o, x = .ref a ∧ DGet H2 a y o ∧ Q (.bl (if neg then !o.isSome else o.isSome)) H2 := by
    intro σ H Q q
    obtain ⟨O, ρ, r, ρ', S, e, q⟩ := q
    unfold eDIn at e
    split at e
    · rename_i kvs0 hs0
      split at e
      · rename_i a ρ1 e1
        split at e
        · rename_i d kvs e2 hs
          split at e
          · rename_i kk e3
            cases e
            refine ⟨O, ρ, a, _, S, e1, fun y O1 H1 S1 t1 p1 a1 => ?_⟩
            obtain ⟨p, kw, f1, f3, f4⟩ := S1.dco hs
            have hy := (a1.rep S1 e2).dp.key e3
            subst hy
            refine ⟨_, f1, p, _, rfl, DGet.k f3, ?_⟩
            have : (valV kw kk).isSome = (valD kvs kk).isSome := by
              rcases f4.val kk with ⟨z1, z2⟩ | ⟨w, d', h1, h2, h3⟩
              · rw [z1, z2]; rfl
              · rw [h1, h2]; rfl
            rw [this]
            exact q _ O1 H1 S1 t1 p1 (.bl _)
          · cases e
        · cases e
      · cases e
    · cases e
  cases neg with
  | false => exact ⟨fun pins s σ H Q I h => (pc_din hu hk.o ho).run pins s σ H Q I (key h)⟩
  | true => exact ⟨fun pins s σ H Q I h => (pc_dnotin hu hk.o ho).run pins s σ H Q I (key h)⟩
theorem es_dIn (hu : X.A.units + 1 < cLine) (ho : PE X o (tVar i)) (hk : ES X T k ck) (hb : behindInMarks (opIn neg) o = false) : PE X (.Compare k [opIn neg] [o] pos) (tE X.K T ck.pu (eDIn neg i ck)) := pe_cmp (pc_dinB hu ho hk) hb
theorem et_dIn (hu : X.A.units + 1 < cLine) (ho : PE X o (tVar i)) (hk : ES X T k ck) (hb : behindInMarks (opIn neg) o = false) : PT X (.Compare k [opIn neg] [o] pos) (tT X.K T ck.pu (bOf (eDIn neg i ck))) := by
  refine pt_imp (pt_cmp (pc_dinB hu ho hk) hb) fun σ H Q q => ?_
  obtain ⟨O, ρ, b, ρ', S, h, q⟩ := q
  unfold bOf at h
  split at h
  · rename_i b ρ1 h1
    cases h
    refine ⟨O, ρ, _, _, S, h1, fun v O1 H1 S1 t1 p1 rv => ?_⟩
    have rv' : Dp X.K (mask O1 H1) v (.bool b) := rv
    cases rv'
    exact ⟨b, rfl, q O1 H1 S1 t1 p1⟩
  · cases h
/-! ### dict(x)[k] -/
def eDGetX (f : RF) (ck : Cd) : RF := fun ρ => match f ρ with
  | some (.dct kvs, ρ1) => match aE ck ρ1 with
    | some (a, ρ2) => match argD ρ2 a with
      | some d => match keyOf d with
        | some k => match valD kvs k with
          | some v => some (.val v, ρ2)
          | none => none
        | none => none
      | none => none
    | none => none
  | _ => none
theorem es_dgetX {pu : Bool} {f : RF} (hu : X.A.units + 1 < cLine) (ho : PE X o (tE X.K T pu f)) (hk : ES X T k ck) (hp : plainE k = true) : PE X (.Subscript o k pos) (tE X.K T (pu && ck.pu) (eDGetX f ck)) := by
  refine pe_imp (pe_dget hu ho hk.o (noSl_plain hp)) fun σ H Q q => ?_
  obtain ⟨O, ρ, r, ρ', S, e, q⟩ := q
  unfold eDGetX at e
  split at e
  · rename_i kvs ρ1 e1
    split at e
    · rename_i a ρ2 e2
      split at e
      · rename_i d e3
        split at e
        · rename_i kk e4
          split at e
          · rename_i v e5
            cases e
            refine ⟨O, ρ, _, ρ1, S, e1, fun x O1 H1 S1 t1 p1 rv => ?_⟩
            obtain ⟨p, kw, rfl, hO, hn, hs, hH, hd⟩ := rv
            refine ⟨O1, ρ1, a, _, S1, e2, fun y O2 H2 S2 t2 p2 a2 => ?_⟩
            obtain ⟨_, hp2⟩ := t2.oth p hO hn
            have hy := (a2.rep S2 e3).dp.key e4
            subst hy
            rcases hd.val kk with ⟨_, z⟩ | ⟨w, d', h1, h2, h3⟩
            · rw [e5] at z; cases z
            · rw [e5] at h2
              cases h2
              refine ⟨p, w, rfl, by rw [← h1]; exact DGet.k (by rw [hp2]; exact hH), q w O2 H2 S2 (t1.trans S.cov' t2) (fun z => ?_) (t2.mask.dp h3)⟩
              rw [Bool.and_eq_true] at z
              exact (p1 z.1).trans (p2 z.2)
          · cases e
        · cases e
      · cases e
    · cases e
  · cases e
end
end Pv

/-! FwD3: sorted(d.items()). -/
namespace Pv
open PySem PySem.Spec PyProof.Rows L2
def kyD : Key → D
  | .inl i => .int i
  | .inr x => .str x
def itD (kv : Key × D) : D := .tuple [kyD kv.1, kv.2]
/-- tuples laid, without attributes -/
def putF (H : Hp) : List (Addr × Obj × List V) → Hp
  | [] => H
  | t :: ts => upd (putF H ts) t.1 (.frz t.2.1 (.tup t.2.2))
theorem putF_off {b : Addr} {H : Hp} : ∀ {ts : List (Addr × Obj × List V)}, b ∉ ts.map (·.1) → putF H ts b = H b
  | [], _ => rfl
  | t :: ts, h => by
    rw [List.map_cons, List.mem_cons, not_or] at h
    show upd (putF H ts) t.1 _ b = H b
    rw [upd_ne h.1, putF_off h.2]
theorem putF_at {H : Hp} : ∀ {ts : List (Addr × Obj × List V)}, (ts.map (·.1)).Nodup → ∀ t, t ∈ ts → putF H ts t.1 = some (.frz t.2.1 (.tup t.2.2))
  | [], _, t, ht => by cases ht
  | u :: ts, hn, t, ht => by
    rw [List.map_cons, List.nodup_cons] at hn
    have e : putF H (u :: ts) t.1 = upd (putF H ts) u.1 (.frz u.2.1 (.tup u.2.2)) t.1 := rfl
    rw [e]
    cases ht with
    | head => exact upd_same
    | tail _ ht =>
      have hm : t.1 ∈ ts.map (·.1) := List.mem_map.mpr ⟨t, ht, rfl⟩
      have ne : t.1 ≠ u.1 := fun z => hn.1 (by rw [← z]; exact hm)
      rw [upd_ne ne]
      exact putF_at hn.2 t ht
theorem takeF {X : Cx} {pins : List (Addr × Obj)} {σ : L2.St} {H0 : Hp} {s : Shared} {h' : Heap} {tk : Nat} (I0 : Inv X pins σ H0 s) : ∀ (ts : List (Addr × Obj × List V)) (H1 : Hp), Inv X pins σ H1 { s with heap := h', toks := tk } → (ts.map (·.1)).Nodup →
    (∀ t ∈ ts, s.heap.objs.size ≤ t.1 ∧ H1 t.1 = none ∧ ∀ H2, ObjOk X.prog X.w H2 h' t.1 (.frz t.2.1 (.tup t.2.2))) → Inv X pins σ (putF H1 ts) { s with heap := h', toks := tk }
  | [], H1, I1, _, _ => I1
  | t :: ts, H1, I1, hn, h => by
    rw [List.map_cons, List.nodup_cons] at hn
    obtain ⟨hb, hnone, ok⟩ := h t (by simp)
    have I2 := takeF I0 ts H1 I1 hn.2 fun u hu => h u (by simp [hu])
    exact I2.take (h' := h') (t' := tk) (fun b ob _ e => e) (I0.fpOk hb (by rw [putF_off hn.1]; exact hnone)) (ok _)
section
variable {X : Cx}
def rItemsK : V → List V → Hp → VK → Prop := fun x xs H Q => ∃ (a : Addr) (kvs : List (Key × V)), x = .ref a ∧ xs = [] ∧ H a = some (.dK kvs) ∧ ∀ p, H p = none → Q (.ref p) (upd H p (DX.itemsO p a))
theorem mt_itemsK : MtR X "dict.items" rItemsK := by
  intro pins s σ H x xs v us Q I rx rxs h
  obtain ⟨a, kvs, rfl, rfl, ha, q⟩ := h
  cases rx
  cases rxs
  obtain ⟨hz, hs0, vs, kv, o, es, ep, ho, hx, hdat, _⟩ := I.hok a _ ha
  refine DT.callItems (es := es) (ep := ep) hs0 ⟨o, ho, hx, hdat⟩ ?_
  have hf : H s.heap.objs.size = none := I.hok.fresh (Nat.le_refl _)
  exact ⟨.ref s.heap.objs.size, upd H s.heap.objs.size (DX.itemsO s.heap.objs.size a), I.laid (t' := s.toks) (fun b u e => Heap.get?_push_of_some _ e) (Nat.le_refl _) (DX.itemsO_ok (Heap.get?_push_size _ rfl)), rfl, q _ hf⟩
end
theorem each_refs {α : Type} {R : Value → Addr × α → Prop} : ∀ {as : List Addr} {xs : List α}, as.length = xs.length → (∀ b, b ∈ as.zip xs → R (.ref b.1) b) → PySem.W.EachIs R (as.map Value.ref) (as.zip xs)
  | [], [], _, _ => .nil
  | [], _ :: _, h, _ => by cases h
  | _ :: _, [], h, _ => by cases h
  | a :: as, x :: xs, h, k => by
    rw [List.zip_cons_cons] at k ⊢
    exact .cons (k _ List.mem_cons_self) (each_refs (by simpa using h) fun b hb => k b (List.mem_cons_of_mem _ hb))
theorem each_out {α : Type} {S : Addr × α → Prop} : ∀ {us : List Value} {bs : List (Addr × α)}, PySem.W.EachIs (fun u b => u = .ref b.1 ∧ S b) us bs → Vals (bs.map fun b => V.ref b.1) us ∧ ∀ b, b ∈ bs → S b
  | _, _, .nil => ⟨.nil, fun b hb => by cases hb⟩
  | _, _, .cons h t => by
    obtain ⟨h1, h2⟩ := each_out t
    refine ⟨.cons h.1 h1, fun b hb => ?_⟩
    rcases List.mem_cons.mp hb with rfl | hb
    · exact h.2
    · exact h2 b hb
theorem dpl_get {K : PySem.W.Frag} {H : Hp} : ∀ {vs : List V} {ds : List D} {j : Nat} {v : V} {d : D}, L2.DpAll K H vs ds → vs[j]? = some v → ds[j]? = some d → L2.Dp K H v d
  | _, _, _, _, _, .nil, h, _ => by simp at h
  | _, _, 0, _, _, .cons h _, e1, e2 => by
    simp only [List.getElem?_cons_zero, Option.some.injEq] at e1 e2
    subst e1 e2
    exact h
  | _, _, j + 1, _, _, .cons _ t, e1, e2 => dpl_get t (by simpa using e1) (by simpa using e2)
section
variable {X : Cx}
def rSortItK (K : PySem.W.Frag) : List V → Hp → VK → Prop := fun us H Q => ∃ (p a : Addr) (kw : List (Key × V)) (kvs : List (Key × D)), us = [V.ref p] ∧ H p = some (DX.itemsO p a) ∧ H a = some (.dK kw) ∧ kw.map (·.1) = kvs.map (·.1) ∧ L2.DpAll K H (kw.map (·.2)) (kvs.map (·.2)) ∧ PySem.W.AllAlike (kvs.map itD) ∧ PySem.W.Sortable (kvs.map itD) ∧ PyData.depthAll (kvs.map itD) ≤ 64 ∧
  ∀ (l : Addr) (ts : List (Addr × Obj × List V)) (bs : List (Addr × (Key × V) × (Key × D))), (ts.map (·.1)).Nodup → l ∉ ts.map (·.1) → H l = none → (∀ t ∈ ts, H t.1 = none ∧ t.2.1.dict = none) → (∀ b ∈ bs, b.2 ∈ kw.zip kvs ∧ ∃ o, (b.1, o, [kV b.2.1.1, b.2.1.2]) ∈ ts) → bs.map (fun b => itD b.2.2) = srtD (kvs.map itD) → Q (.ref l) (putF (upd H l (.lst (bs.map fun b => V.ref b.1))) ts)
theorem cr_sortItK (hc : X.calm = true) (hu : X.A.units + 200 < cLine) : CallR X (.builtin "sorted") (rSortItK X.K) := by
  intro pins s σ H us0 us Q I r h
  obtain ⟨p, a, kw, kvs, rfl, hp, ha, hkk, hd, hal, hsr, hdp, q⟩ := h
  rw [Vals.ref1 r]
  have view : s.heap.IsItemsView p a := (show ObjOk X.prog X.w H s.heap p (DX.itemsO p a) from I.hok p _ hp).1
  obtain ⟨hz, hs0, vs, kv, hdo⟩ := I.hok a _ ha
  obtain ⟨ep, hat⟩ := hdo.dictAt
  have lk : kw.length = vs.length := Paired.length kv
  refine PySem.Calls.call_function_entry kind_sorted plain_sorted entry_sorted (args_sorted1 _) ?_
  unfold Builtin.«sorted»
  refine wpAny_bind (m := checkCount "sorted" 1 1 _) (wpAny_pure ?_)
  refine wpAny_bind (PySem.W.kdx_collect (A := X.A.in1) (knd := mixKind X.prog X.w) (kvs := vs) (ep := ep) (I.ok.hd hc) view hat (by omega) fun h' tk as hk hl hG => ?_)
  refine wpAny_bind (wpAny_newList ?_ (by rw [List.length_map, hl]; omega))
  have lkv : kw.length = kvs.length := by have := congrArg List.length hkk; simpa using this
  have lz : (kw.zip kvs).length = as.length := by rw [List.length_zip]; omega
  have e1 : (as.zip (kw.zip kvs)).map (fun b => b.1) = as := List.map_fst_zip (by omega)
  have e2 : (as.zip (kw.zip kvs)).map (fun b => itD b.2.2) = kvs.map itD := by
    rw [show (fun b : Addr × (Key × V) × (Key × D) => itD b.2.2) = itD ∘ (fun c : (Key × V) × (Key × D) => c.2) ∘ (fun b : Addr × (Key × V) × (Key × D) => b.2) from rfl, ← List.map_map, ← List.map_map, List.map_snd_zip (by omega), List.map_snd_zip (by omega)]
  have ho : (h'.push { cls := .type "list", data := .seq (as.map Value.ref).toArray }).get? h'.objs.size = some (PyProof.Rows.seqObj "list" (as.map Value.ref).toArray 0) := Heap.get?_push_size _ rfl
  have one : ∀ b : Addr × (Key × V) × (Key × D), b ∈ as.zip (kw.zip kvs) → ∃ (key : Value) (k : Key) (x : Value) (d : Unit), b.2.1.1 = k ∧ k = b.2.2.1 ∧ keyIs k key = true ∧ h'.get? b.1 = some { cls := .type "tuple", data := .seq #[key, x] } ∧ RelV b.2.1.2 x ∧ L2.Dp X.K H b.2.1.2 b.2.2.2 := fun b hb => by
    obtain ⟨j, hj⟩ := List.mem_iff_getElem?.mp hb
    obtain ⟨j1, j2⟩ := List.getElem?_zip_eq_some.mp hj
    obtain ⟨j3, j4⟩ := List.getElem?_zip_eq_some.mp j2
    obtain ⟨key, k, x, p1, p2, p3⟩ := hG.pairs j b.1 j1
    obtain ⟨y, y1, y2, y3⟩ := LiI.paired_get kv j3
    rw [p1] at y1
    cases y1
    have kk : b.2.1.1 = b.2.2.1 := by
      have t1 : (kw.map (·.1))[j]? = some b.2.1.1 := by rw [List.getElem?_map, j3]; rfl
      have t2 : (kvs.map (·.1))[j]? = some b.2.2.1 := by rw [List.getElem?_map, j4]; rfl
      rw [hkk, t2] at t1
      exact (Option.some.inj t1).symm
    refine ⟨key, k, x, (), y2, y2.symm.trans kk, p2, p3, y3, dpl_get hd (j := j) (by rw [List.getElem?_map, j3]; rfl) (by rw [List.getElem?_map, j4]; rfl)⟩
  have ee : PySem.W.EachIs (fun (u : Value) (b : Addr × (Key × V) × (Key × D)) => u = .ref b.1 ∧ b ∈ as.zip (kw.zip kvs)) (as.map Value.ref) (as.zip (kw.zip kvs)) := each_refs lz.symm fun b hb => ⟨rfl, hb⟩
  have er : PySem.W.EachIs (fun (v : Value) (b : Addr × (Key × V) × (Key × D)) => ∃ rs, Reads (h'.push { cls := .type "list", data := .seq (as.map Value.ref).toArray }) v (itD b.2.2) rs ∧ h'.objs.size ∉ rs) (as.map Value.ref) (as.zip (kw.zip kvs)) := each_refs lz.symm fun b hb => by
    obtain ⟨key, k, x, d, f1, f2, f3, f4, f5, f6⟩ := one b hb
    obtain ⟨rs, g1, g2⟩ := dp_readsA I _ _ _ f6 f5
    have g3 : Reads (h'.push { cls := .type "list", data := .seq (as.map Value.ref).toArray }) x b.2.2.2 rs := PyProof.Rows.Reads.keeps (fun c o e => Heap.get?_push_of_some _ (hk c o e)) g1
    have g4 : Reads (h'.push { cls := .type "list", data := .seq (as.map Value.ref).toArray }) key (kyD b.2.2.1) [] := by
      rw [f2] at f3
      rcases keyIs_shape f3 with ⟨i, t, e, rfl⟩ | ⟨y, t, e, rfl⟩
      · rw [e]; exact .int i t
      · rw [e]; exact .str y t
    refine ⟨_, Reads.tuple (Heap.get?_push_of_some _ f4) rfl rfl (.cons g4 (.cons g3 .nil)), fun hm => ?_⟩
    have hm : h'.objs.size ∈ rs := by simpa using hm
    rcases g2 _ hm with z | z
    · exact z ((I.kept (t' := s.toks) hk).hok.fresh (Nat.le_refl _))
    · cases q3 : X.base.get? h'.objs.size with
      | none => exact z q3
      | some o => exact Nat.lt_irrefl _ (Heap.lt_size (hk _ _ (I.bk _ _ q3)))
  refine wpAny_bind (wpAny_holding (wpAny_mono (PySem.W.list_sort_data (A := X.A.in1) (s := { s with heap := h'.push { cls := .type "list", data := .seq (as.map Value.ref).toArray }, toks := tk }) (a := h'.objs.size) (n := 0) (vs := as.map Value.ref) (bs := as.zip (kw.zip kvs)) (enc := fun b => itD b.2.2) (R := fun u b => u = .ref b.1 ∧ b ∈ as.zip (kw.zip kvs))
    (Q := fun _ s' => EP X pins σ Q (.ref h'.objs.size) s') ho ee er (by rw [e2]; exact hal) (by rw [e2]; exact hsr) (by rw [List.length_zip]; omega) (fun b hb => ?_) fun out ho2 eo => ?_) (fun _ s' x => ?_) fun _ _ e => e))
  · have := le_all hdp (show itD b.2.2 ∈ kvs.map itD by rw [← e2]; exact List.mem_map.mpr ⟨b, hb, rfl⟩)
    show X.A.units + 1 + 1 + (itD b.2.2).depth < cLine
    omega
  · obtain ⟨rv, hin⟩ := each_out eo
    have kN : ∀ c o, h'.get? c = some o → (PyProof.Rows.sortedHeap (h'.push { cls := .type "list", data := .seq (as.map Value.ref).toArray }) h'.objs.size (as.map Value.ref) out.toArray).get? c = some o := fun c o e => by
      have e' := Heap.get?_push_of_some { cls := .type "list", data := .seq (as.map Value.ref).toArray } e
      exact (PyProof.Rows.sortedHeap_old (Nat.ne_of_lt (Heap.lt_size e)) (Heap.lt_size e')).trans e'
    obtain ⟨eF, heF⟩ := PyProof.Rows.sortedHeap_at (vs := as.map Value.ref) (out := out.toArray) ho
    generalize hHF : PyProof.Rows.sortedHeap (h'.push { cls := .type "list", data := .seq (as.map Value.ref).toArray }) h'.objs.size (as.map Value.ref) out.toArray = hF at kN heF ⊢
    have I1 : Inv X pins σ H { s with heap := hF, toks := tk } := I.kept (t' := tk) fun b o e => kN b o (hk b o e)
    have I0 : Inv X pins σ H { s with heap := h', toks := tk } := I.kept (t' := tk) hk
    have hn0 : H h'.objs.size = none := I0.hok.fresh (Nat.le_refl _)
    have hlen : (((as.zip (kw.zip kvs)).mergeSort (PySem.W.dataLe false fun b => itD b.2.2)).map fun b => V.ref b.1).length ≤ sizeLine := by
      rw [List.length_map, List.length_mergeSort, List.length_zip]; omega
    have hm : ((as.zip (kw.zip kvs)).mergeSort (PySem.W.dataLe false fun b => itD b.2.2)).map (fun b => itD b.2.2) = srtD (kvs.map itD) := by
      unfold srtD
      conv => rhs; rw [← e2]
      exact List.map_mergeSort fun b _ c _ => rfl
    generalize (as.zip (kw.zip kvs)).mergeSort (PySem.W.dataLe false fun b => itD b.2.2) = bs at rv hin hlen hm
    have I2 : Inv X pins σ (upd H h'.objs.size (.lst (bs.map fun b => V.ref b.1))) { s with heap := hF, toks := tk } :=
      I1.take (h' := hF) (t' := tk) (fun b ob _ e => e) (I0.fpOk (Nat.le_refl _) hn0) ⟨hlen, out, eF, rv, heF⟩
    let ts : List (Addr × Obj × List V) := (as.zip (kw.zip kvs)).map fun b => (b.1, (h'.get? b.1).getD { cls := .none, data := .fields #[] }, [kV b.2.1.1, b.2.1.2])
    have hts : ts = (as.zip (kw.zip kvs)).map fun b => (b.1, (h'.get? b.1).getD { cls := .none, data := .fields #[] }, [kV b.2.1.1, b.2.1.2]) := rfl
    clear_value ts
    have t1 : ts.map (·.1) = as := by rw [hts, List.map_map]; exact e1
    have nd : (ts.map (·.1)).Nodup := by rw [t1]; exact List.Pairwise.imp (fun h => Nat.ne_of_lt h) hG.rise
    have tof : ∀ t ∈ ts, ∃ b ∈ as.zip (kw.zip kvs), ∃ key x, t = (b.1, { cls := .type "tuple", data := .seq #[key, x] }, [kV b.2.1.1, b.2.1.2]) ∧ h'.get? b.1 = some { cls := .type "tuple", data := .seq #[key, x] } ∧ RelV (kV b.2.1.1) key ∧ RelV b.2.1.2 x ∧ b.1 ∈ as := fun t ht => by
      rw [hts] at ht
      obtain ⟨b, hb, rfl⟩ := List.mem_map.mp ht
      obtain ⟨key, k, x, _, f1, f2, f3, f4, f5, f6⟩ := one b hb
      refine ⟨b, hb, key, x, by rw [f4]; rfl, f4, by rw [f1]; exact relV_key f3, f5, ?_⟩
      rw [← e1]
      exact List.mem_map.mpr ⟨b, hb, rfl⟩
    have I3 := takeF I ts _ I2 nd fun t ht => by
      obtain ⟨b, hb, key, x, rfl, f4, r1, r2, hm⟩ := tof t ht
      have hab : s.heap.objs.size ≤ b.1 := Nat.le_of_lt (hG.above _ hm)
      have hne : b.1 ≠ h'.objs.size := Nat.ne_of_lt (Heap.lt_size f4)
      refine ⟨hab, ?_, fun H2 => ⟨kN _ _ f4, by show 2 ≤ sizeLine; decide, [key, x], .cons r1 (.cons r2 .nil), ⟨_, kN _ _ f4, rfl, _, rfl⟩⟩⟩
      show upd H h'.objs.size _ b.1 = none
      rw [upd_ne hne]
      exact I.hok.fresh hab
    refine ⟨.ref h'.objs.size, _, I3, rfl, q h'.objs.size ts bs nd (fun hm => ?_) hn0 (fun t ht => ?_) (fun b hb => ?_) hm⟩
    · rw [t1] at hm
      exact Nat.lt_irrefl _ (hG.there hm)
    · obtain ⟨b, hb, key, x, rfl, f4, r1, r2, hm⟩ := tof t ht
      exact ⟨I.hok.fresh (Nat.le_of_lt (hG.above _ hm)), rfl⟩
    · have hb' := hin b hb
      refine ⟨(List.of_mem_zip hb').2, (h'.get? b.1).getD { cls := .none, data := .fields #[] }, ?_⟩
      rw [hts]
      exact List.mem_map.mpr ⟨b, hb', rfl⟩
  · exact wpAny_pure ⟨_, rfl, x⟩
end
section
variable {K : PySem.W.Frag} {T : List (Addr × Str)} {O : Addr → Bool} {ρ : Rho} {σ : L2.St} {H : Hp}
theorem putF_ok (S : SOk K T O ρ σ H) : ∀ (ts : List (Addr × Obj × List V)), (ts.map (·.1)).Nodup → (∀ t, t ∈ ts → H t.1 = none) → SOk K T O ρ σ (putF H ts) ∧ Tr O ρ σ H O ρ σ (putF H ts) ∧ Kp H (putF H ts)
  | [], _, _ => ⟨S, Tr.refl, Kp.refl _⟩
  | t :: ts, hn, h => by
    rw [List.map_cons, List.nodup_cons] at hn
    obtain ⟨S1, t1, k1⟩ := putF_ok S ts hn.2 fun u hu => h u (List.mem_cons_of_mem _ hu)
    have np : putF H ts t.1 = none := by
      rw [putF_off hn.1]
      exact h t List.mem_cons_self
    exact ⟨S1.new np, t1.trans S.cov' (Tr.new S1 np), k1.trans (Kp.upd np)⟩
theorem dkr_zip {M : Hp} : ∀ {kw : List (Key × V)} {kvs : List (Key × D)}, DkR K M kw kvs → ∀ b, b ∈ kw.zip kvs → b.1.1 = b.2.1 ∧ Dp K M b.1.2 b.2.2
  | [], [], _, b, hb => by cases hb
  | [], _ :: _, h, _, _ => by have := h.len; cases this
  | _ :: _, [], h, _, _ => by have := h.len; cases this
  | p :: kw, q :: kvs, h, b, hb => by
    obtain ⟨h1, h2, h3⟩ := h.cons_inv
    rw [List.zip_cons_cons] at hb
    cases hb with
    | head => exact ⟨h1, h2⟩
    | tail _ hb => exact dkr_zip h3 b hb
end
theorem dps_map {K : PySem.W.Frag} {M : Hp} {α : Type} {f : α → V} {g : α → D} : ∀ {bs : List α}, (∀ b, b ∈ bs → Dp K M (f b) (g b)) → DpAll K M (bs.map f) (bs.map g)
  | [], _ => .nil
  | b :: bs, h => .cons (h b List.mem_cons_self) (dps_map fun c hc => h c (List.mem_cons_of_mem _ hc))
def okKey : Key → Bool
  | .inl _ => true
  | .inr x => PyData.strOk x
def gItems (kvs : List (Key × D)) : Option Slt := match kvs.all fun kv => okKey kv.1, alikeB (kvs.map itD), sortableB (kvs.map itD) with
  | true, true, true => if PyData.depthAll (kvs.map itD) ≤ 64 then some (.own (srtD (kvs.map itD))) else none
  | _, _, _ => none
def eSItems (i : Nat) : RF := fun ρ => match dcO ρ i with
  | some kvs => match gItems kvs with
    | some s => some (s, ρ)
    | none => none
  | none => none
theorem mem_srt {ds : List D} {d : D} : d ∈ srtD ds ↔ d ∈ ds := by unfold srtD; rw [List.mem_mergeSort]
theorem es_sitems {X : Cx} {T : List (Addr × Str)} {i : Nat} {o : Expr} {p apos cpos pos : Pos} (hc : X.calm = true) (hu : X.A.units + 200 < cLine) (hg : Gl X "sorted") (hm : X.mg "sorted" = none) (ho : PE X o (tVar i)) (hb : ∀ m : Str, attributeBase o m X.env (eval o X.env) = eval o X.env) (hl : (apos.endLine == cpos.line) = true) :
    PE X (.Call (.Name "sorted" p) [.Call (.Attribute o "items" apos) [] [] cpos] [] pos) (tE X.K T true (eSItems i)) := by
  have hi : PE X (.Call (.Attribute o "items" apos) [] [] cpos) (tBM0 X.K "dict" rItemsK (tVar i)) := pe_bm0 PySem.F.plainAttrs_dict PySem.F.slot_dict_items PySem.F.type_dict_items mt_itemsK ho (hb _) hl
  refine pe_imp (pe_callB (cr_sortItK hc hu) hg hm (by decide +kernel) (pa_cons hi pa_nil)) fun σ H Q q => ?_
  obtain ⟨O, ρ, r, ρ', S, e, q⟩ := q
  unfold eSItems at e
  split at e
  · rename_i kvs hs
    split at e
    · rename_i s hgi
      cases e
      unfold gItems at hgi
      split at hgi
      · rename_i g1 g2 g3
        split at hgi
        · rename_i g4
          cases hgi
          obtain ⟨d, kw, hv, hH, hk⟩ := S.dco hs
          refine ⟨_, hv, .inr (.inr (.inl ⟨rfl, .inl ⟨kw, hH⟩⟩)), d, kw, rfl, rfl, hH, fun w nw => ?_⟩
          have hne : d ≠ w := ne_of_none hH nw
          have k1 : Kp H (L2.upd H w (DX.itemsO w d)) := Kp.upd nw
          have S1 := S.new (o := DX.itemsO w d) nw
          have t1 := Tr.new (o := DX.itemsO w d) S nw
          refine ⟨w, d, kw, kvs, rfl, upd_same, by rw [upd_ne hne]; exact hH, hk.1, (k1.dps ((Kp.mask O H).dps hk.2)).l2, alikeB_ok g2, sortableB_ok g3, g4, fun l ts bs nd nin nl hts hbs hm => ?_⟩
          have un : ∀ c, L2.upd H w (DX.itemsO w d) c = none → H c = none := fun c h => by
            unfold L2.upd at h
            split at h
            · cases h
            · exact h
          have hl0 := un l nl
          have S2 := S1.newOwn (xs := bs.map fun b => V.ref b.1) nl
          have t2 := Tr.newOwn (ob := .lst (bs.map fun b => V.ref b.1)) S1 nl
          have nel : ∀ t, t ∈ ts → t.1 ≠ l := fun t ht z => nin (by rw [← z]; exact List.mem_map.mpr ⟨t, ht, rfl⟩)
          obtain ⟨S3, t3, k3⟩ := putF_ok S2 ts nd fun t ht => by
            have ne := nel t ht
            rw [upd_ne ne]
            exact (hts t ht).1
          have full := (t1.trans S.cov' t2).trans S.cov' t3
          refine q (.ref l) (oAdd O l) _ S3 full (fun _ => k1.trans ((Kp.upd nl).trans k3)) ⟨l, _, rfl, by simp [oAdd], S.notOwn hl0, hl0, by rw [putF_off nin]; exact upd_same, ?_⟩
          rw [← hm]
          refine dps_map fun b hb => ?_
          obtain ⟨hz, ob, hob⟩ := hbs b hb
          obtain ⟨ek, dv⟩ := dkr_zip hk _ hz
          have hkey := List.all_eq_true.mp g1 b.2.2 (List.of_mem_zip hz).2
          have hO := S1.free (hts _ hob).1
          have nb := nel _ hob
          have hO' : oAdd O l b.1 = false := by
            simp only [oAdd]
            simp [nb, hO]
          refine .tup (.inl ⟨ob, mask_some.mpr ⟨hO', putF_at nd _ hob⟩, (hts _ hob).2⟩) (.cons ?_ (.cons (full.mask.dp dv) .nil))
          rw [ek]
          cases hkk : b.2.2.1 with
          | inl i => exact .int i
          | inr x =>
            rw [hkk] at hkey
            exact .str x hkey
        · cases hgi
      · cases hgi
    · cases e
  · cases e
end Pv

/-! Fw11: from the text's expressions to what they compute. -/
namespace Pv
open PySem PySem.Spec PyProof.Rows L2

structure Ct where
  N : List Str
  sc : Scope
  fnc : Str → Bool
  fns : List (Str × FEnt)
  cst : List (Str × D)
  blt : List Str
  fz : Nat → Bool
  mv : List Int
  /-- this def may make lambdas (whose bodies call fns0), or generator expressions over texts -/
  lam : Bool := false
  gex : Bool := false
  fns0 : List (Str × FEnt) := []
  /-- this def runs where no guard stands around (repr) -/
  rep : Bool := false
structure XOk (X : Cx) (T : List (Addr × Str)) (c : Ct) : Prop where
  hN : X.N = c.N
  nd : c.N.Nodup
  sc : X.env.scope = c.sc
  kind : c.sc.kind = .function
  calm : X.calm = true
  nx : X.xe = fun _ _ => False
  fn : ∀ x, c.fnc x = true → X.fn x = true
  un : X.A.units + 200 < cLine
  fns : ∀ x e, c.fns.lookup x = some e → ∃ (k : Nat) (f : Addr) (fd : FuncData) (ps : List Str), Callee X k f fd ps (spD X.K T e) ∧ Room k X.A ∧ X.mg x = some (.ref f) ∧ PySem.W.keepIn X.K (.ref f) = true ∧ Binds X.K fd ps []
  cst : ∀ x d, c.cst.lookup x = some d → ∃ v u, X.mg x = some u ∧ RelV v u ∧ ∀ H, Dp X.K H v d
  blt : ∀ x, x ∈ c.blt → X.mg x = none
  lam : c.lam = true → ∃ (cc P : Addr) (k : Nat), Room (k + 3) X.A ∧ LamX.TabB X.base X.mg cc P ∧ X.env.code = .ref cc ∧ (P, X.env.qual ++ "<lambda>") ∈ T ∧ X.env.qual ++ "<lambda>" ≠ gexq ∧ (∀ p ∈ T, p.1 = P → p.2 = X.env.qual ++ "<lambda>") ∧
    ∀ x e, c.fns0.lookup x = some e → ∃ (f : Addr) (fd : FuncData) (ps : List Str), FnOk X.prog X.w X.K X.mg X.base CX0 k f fd ps (spD X.K [] e) ∧ X.mg x = some (.ref f) ∧ PySem.W.keepIn X.K (.ref f) = true ∧ Binds X.K fd ps []
  gex : c.gex = true → ∃ (cc P : Addr) (k : Nat), Room k X.A ∧ GxR.TabB X.base X.mg cc P ∧ X.env.code = .ref cc ∧ (P, gexq) ∈ T ∧ ∀ p ∈ T, p.1 = P → p.2 = gexq
  rep : c.rep = true → X.A.guards = some []

/-! ### names -/
def findN (x : Str) : List Str → Nat → Option Nat
  | [], _ => none
  | y :: ys, k => if y = x then some k else findN x ys (k + 1)
theorem findN_some {x : Str} : ∀ {l : List Str} {k i : Nat}, findN x l k = some i → k ≤ i ∧ l[i - k]? = some x
  | y :: ys, k, i, h => by
    unfold findN at h
    split at h
    · rename_i e
      cases h
      exact ⟨Nat.le_refl _, by rw [Nat.sub_self, e]; rfl⟩
    · obtain ⟨h1, h2⟩ := findN_some h
      refine ⟨by omega, ?_⟩
      have : i - k = (i - (k + 1)) + 1 := by omega
      rw [this]
      exact h2
theorem findN_zero {x : Str} {l : List Str} {i : Nat} (h : findN x l 0 = some i) : l[i]? = some x := (findN_some h).2
def okNm (x : Str) : Bool := !(x == ("__debug__" : Str)) && !(x == ("__classdict__" : Str)) && !(x == ("__name__" : Str))
theorem okNm_d {x : Str} (h : okNm x = true) : (x == ("__debug__" : Str)) = false ∧ (x == ("__classdict__" : Str)) = false ∧ x ≠ "__name__" := by
  unfold okNm at h
  simp only [Bool.and_eq_true, Bool.not_eq_true'] at h
  exact ⟨h.1.1, h.1.2, fun e => by rw [e] at h; have := h.2; simp at this⟩
def visK : Option NameKind → Bool
  | some .local => true
  | some .cell => true
  | some .free => true
  | _ => false
def locK : Option NameKind → Bool
  | some .local => true
  | some .cell => true
  | _ => false
def gblK : Option NameKind → Bool
  | some .globalImplicit => true
  | _ => false
theorem visK_or {k : Option NameKind} (h : visK k = true) : k = some .local ∨ k = some .cell ∨ k = some .free := by
  unfold visK at h
  split at h <;> first | exact .inl rfl | exact .inr (.inl rfl) | exact .inr (.inr rfl) | cases h
theorem locK_or {k : Option NameKind} (h : locK k = true) : k = some .local ∨ k = some .cell := by
  unfold locK at h
  split at h <;> first | exact .inl rfl | exact .inr rfl | cases h
theorem gblK_eq {k : Option NameKind} (h : gblK k = true) : k = some .globalImplicit := by
  unfold gblK at h
  split at h <;> first | rfl | cases h
def visN (c : Ct) (x : Str) : Option Nat := match visK (c.sc.names.lookup x), okNm x with
  | true, true => findN x c.N 0
  | _, _ => none
def gblN (c : Ct) (x : Str) : Bool := gblK (c.sc.names.lookup x) && okNm x
section
variable {X : Cx} {T : List (Addr × Str)} {c : Ct} {x : Str} {pos : Pos}
theorem visN_ok (h : XOk X T c) {i : Nat} (e : visN c x = some i) : PE X (.Name x pos) (tVar i) := by
  unfold visN at e
  split at e
  · rename_i h1 h2
    have hd := okNm_d h2
    refine pe_var (by rw [h.hN]; exact findN_zero e) ?_ hd.1 hd.2.1
    show X.env.scope.names.lookup x = some .local ∨ X.env.scope.names.lookup x = some .cell ∨ X.env.scope.names.lookup x = some .free
    rw [h.sc]
    exact visK_or h1
  · cases e
theorem gblN_ok (h : XOk X T c) (e : gblN c x = true) : Gl X x ∧ (x == ("__debug__" : Str)) = false ∧ x ≠ "__name__" := by
  unfold gblN at e
  rw [Bool.and_eq_true] at e
  have hd := okNm_d e.2
  refine ⟨?_, hd.1, hd.2.2⟩
  show X.env.scope.names.lookup x = some .globalImplicit
  rw [h.sc]
  exact gblK_eq e.1
end
def nameC (c : Ct) (x : Str) : Option Cd := match visN c x with
  | some i => some (.slot i)
  | none => match gblN c x, c.cst.lookup x with
    | true, some d => some (.ex true (eLit d))
    | _, _ => none
def constC : Const → Option Cd
  | .none => some (.ex true (eLit .none))
  | .bool b => some (.ex true (eLit (.bool b)))
  | .int i => some (.ex true (eLit (.int i)))
  | .str s => match PyData.strOk s with
    | true => some (.ex true (eLit (.str s)))
    | false => none
  | _ => none
def binG : Operator → Option (D → D → Option Slt)
  | .Add => some gAdd
  | .Sub => some gSub
  | .Mult => some gMulS
  | .FloorDiv => some gFloor
  | .Mod => some gMod
  | .Pow => some gPow
  | _ => none
def cmpG : CmpOp → (D → D → Option Slt)
  | .Eq => gEq
  | .NotEq => gNe
  | .Lt => gLt
  | .LtE => gLe
  | .Gt => gGt
  | .GtE => gGe
  | .Is => gIsN
  | .IsNot => gNotN
  | .In => gIn false
  | .NotIn => gIn true
section
variable {X : Cx} {T : List (Addr × Str)} {c : Ct} {x : Str} {pos : Pos}
theorem nameC_ok (h : XOk X T c) {cd : Cd} (e : nameC c x = some cd) : ES X T (.Name x pos) cd := by
  unfold nameC at e
  split at e
  · rename_i i hi
    cases e
    exact visN_ok h hi
  · split at e
    · rename_i h1 h2
      cases e
      obtain ⟨v, u, q1, q2, q3⟩ := h.cst x _ h2
      obtain ⟨g1, g2, g3⟩ := gblN_ok h h1
      exact es_lit (pe_glob g1 q1 q2 g2) q3
    · cases e
theorem constC_ok {k : Const} {j : Nat} {cd : Cd} (e : constC k = some cd) : ES X T (.Constant k j pos) cd := by
  unfold constC at e
  split at e
  · cases e; exact es_lit pe_non fun _ => .non
  · cases e; exact es_lit pe_bl fun _ => .bl _
  · cases e; exact es_lit pe_int fun _ => .int _
  · split at e
    · rename_i hs
      cases e
      exact es_lit pe_str fun _ => .str _ hs
    · cases e
  · cases e
theorem binG_ok {op : Operator} {g : D → D → Option Slt} (e : binG op = some g) : ∃ r, OpR X (binaryOp op) r ∧ Sem2 X.K T r g := by
  unfold binG at e
  split at e <;> first
    | (cases e; exact ⟨_, op_add4, sem_add⟩)
    | (cases e; exact ⟨_, op_sub, sem_sub⟩)
    | (cases e; exact ⟨_, op_mul.or op_mulS, sem_mulS⟩)
    | (cases e; exact ⟨_, op_fdiv, sem_floor⟩)
    | (cases e; exact ⟨_, op_mod, sem_mod⟩)
    | (cases e; exact ⟨_, op_pow, sem_pow⟩)
    | cases e
theorem cmpG_ok (h : XOk X T c) (op : CmpOp) : ∃ r, OpR X (compareOp op) r ∧ Sem2 X.K T r (cmpG op) := by
  have hu := h.un
  cases op with
  | Eq => exact ⟨_, op_eqR (by omega), sem_eq⟩
  | NotEq => exact ⟨_, op_neR (by omega), sem_ne⟩
  | Lt => exact ⟨_, op_ltB, sem_ord⟩
  | LtE => exact ⟨_, op_leB, sem_ord⟩
  | Gt => exact ⟨_, op_gtB, sem_ord⟩
  | GtE => exact ⟨_, op_geB, sem_ord⟩
  | Is => exact ⟨_, op_isA, sem_is⟩
  | IsNot => exact ⟨_, op_notA, sem_isnot⟩
  | In => exact ⟨_, (op_inR (by omega)).or op_inS, sem_in⟩
  | NotIn => exact ⟨_, (op_notInR (by omega)).or op_notInS, sem_in⟩
end
/-! ### built-ins -/
def bltG (f : Str) : Option (List D → Option Slt) :=
  if f = "len" then some gLen else if f = "int" then some gInt else if f = "str" then some gStr else if f = "list" then some gList else if f = "tuple" then some gTuple else
  if f = "any" then some gAny else if f = "all" then some gAll else if f = "sum" then some gSum else if f = "max" then some gMax else if f = "min" then some gMin else if f = "sorted" then some gSorted else if f = "dict" then some gDict else none
theorem bltG_ok {X : Cx} {T : List (Addr × Str)} {f : Str} {g : List D → Option Slt} (hc : X.calm = true) (hu : X.A.units + 200 < cLine) (e : bltG f = some g) :
    (∃ id r, CallR X (.builtin id) r ∧ SemN X.K T r g ∧ bootBuiltins f = some (.builtin id)) ∨ ∃ t r, CallR X (.type t) r ∧ SemN X.K T r g ∧ bootBuiltins f = some (.type t) := by
  unfold bltG at e
  split at e
  · rename_i hf; subst hf; cases e; exact .inl ⟨_, _, call_len, sem_len, by decide +kernel⟩
  split at e
  · rename_i hf; subst hf; cases e; exact .inr ⟨_, _, call_int1.or call_int_str, sem_int, by decide +kernel⟩
  split at e
  · rename_i hf; subst hf; cases e; exact .inr ⟨_, _, call_str_int, sem_str, by decide +kernel⟩
  split at e
  · rename_i hf; subst hf; cases e; exact .inr ⟨_, _, call_list_of, sem_list, by decide +kernel⟩
  split at e
  · rename_i hf; subst hf; cases e; exact .inr ⟨_, _, call_tupleP, sem_tuple, by decide +kernel⟩
  split at e
  · rename_i hf; subst hf; cases e; exact .inl ⟨_, _, cr_any hc, sem_any, by decide +kernel⟩
  split at e
  · rename_i hf; subst hf; cases e; exact .inl ⟨_, _, cr_all hc, sem_all, by decide +kernel⟩
  split at e
  · rename_i hf; subst hf; cases e; exact .inl ⟨_, _, cr_sum hc, sem_sum, by decide +kernel⟩
  split at e
  · rename_i hf; subst hf; cases e; exact .inl ⟨_, _, (cr_max hc).or (call_max2 hc), sem_max, by decide +kernel⟩
  split at e
  · rename_i hf; subst hf; cases e; exact .inl ⟨_, _, (cr_min hc).or (call_min2 hc), sem_min, by decide +kernel⟩
  split at e
  · rename_i hf; subst hf; cases e; exact .inl ⟨_, _, cr_sortedD hu, sem_sorted, by decide +kernel⟩
  split at e
  · rename_i hf; subst hf; cases e; exact .inr ⟨_, _, (call_dictT hc).or (call_dictP hc), sem_dict, by decide +kernel⟩
  · cases e
/-- .. and repr, where no guard stands around -/
def bltR (rep : Bool) (f : Str) : Option (List D → Option Slt) := match rep && decide (f = "repr") with
  | true => some gRepr
  | false => bltG f
theorem bltR_ok {X : Cx} {T : List (Addr × Str)} {rep : Bool} {f : Str} {g : List D → Option Slt} (hc : X.calm = true) (hu : X.A.units + 200 < cLine) (hr : rep = true → X.A.guards = some []) (e : bltR rep f = some g) :
    (∃ id r, CallR X (.builtin id) r ∧ SemN X.K T r g ∧ bootBuiltins f = some (.builtin id)) ∨ ∃ t r, CallR X (.type t) r ∧ SemN X.K T r g ∧ bootBuiltins f = some (.type t) := by
  unfold bltR at e
  split at e
  · rename_i hb
    rw [Bool.and_eq_true] at hb
    have hf : f = "repr" := by simpa using hb.2
    subst hf
    cases e
    exact .inl ⟨_, _, cr_repr (hr hb.1) hu, sem_repr, by decide +kernel⟩
  · exact bltG_ok hc hu e
def callC (c : Ct) (f : Str) (cs : List Cd) : Option Cd := match gblN c f with
  | true => match c.fns.lookup f with
    | some e => some (.ex (!e.io && cpu cs) (eCall e cs))
    | none => match cs.isEmpty, c.blt.contains f, bltR c.rep f with
      | false, true, some g => some (.ex (cpu cs) (eOpN g cs))
      | _, _, _ => none
  | false => none
theorem callC_ok {X : Cx} {T : List (Addr × Str)} {c : Ct} {f : Str} {es : List Expr} {cs : List Cd} {p pos : Pos} (h : XOk X T c) (hs : ESs X T es cs) {cd : Cd} (e : callC c f cs = some cd) : ES X T (.Call (.Name f p) es [] pos) cd := by
  unfold callC at e
  split at e
  · rename_i hg
    obtain ⟨g1, g2, g3⟩ := gblN_ok h hg
    split at e
    · rename_i fe hfe
      cases e
      obtain ⟨k, fa, fd, ps, F, hr, hm, hk, hb⟩ := h.fns f fe hfe
      cases es with
      | nil =>
        cases hs
        refine pe_imp (pe_callC0 (E := E0) F hr g1 hm hk hb g2) fun σ H Q q => ?_
        have q' := call_read (E := E0) q
        obtain ⟨O, ρ, as, ρ', S, e1, q'⟩ := q'
        cases e1
        exact q' [] O H S Tr.refl (fun _ => Kp.refl H) .nil
      | cons e0 es =>
        have hp := hs.plain
        rw [List.all_cons, Bool.and_eq_true] at hp
        exact pe_imp (pe_callC (E := E0) F hr g1 hm hk hb hs.pa g2 (plain_star hp.1) (plain_any hp.2)) fun σ H Q q => call_read q
    · split at e
      · rename_i g h1 h2 h3
        cases e
        have hm := h.blt f (by simpa using h2)
        cases hs with
        | nil => cases h1
        | cons h4 h5 h6 =>
          rcases bltR_ok (T := T) h.calm h.un h.rep h3 with ⟨id, r, hc, hgg, hv⟩ | ⟨t, r, hc, hgg, hv⟩
          · exact es_callB hc hgg g1 hm hv (.cons h4 h5 h6) g3 g2
          · exact es_callTy hc hgg g1 hm hv (.cons h4 h5 h6) g3 g2
      · cases e
  · cases e
def tyOf (t : Str) : Option TyN :=
  if t = "str" then some .str else if t = "int" then some .int else if t = "bool" then some .bool else if t = "list" then some .list else if t = "tuple" then some .tuple else none
theorem tyOf_eq {t : Str} {n : TyN} (e : tyOf t = some n) : t = Str.ofString n.s := by
  unfold tyOf at e
  split at e
  · rename_i hf; cases e; exact hf
  split at e
  · rename_i hf; cases e; exact hf
  split at e
  · rename_i hf; cases e; exact hf
  split at e
  · rename_i hf; cases e; exact hf
  split at e
  · rename_i hf; cases e; exact hf
  · cases e
/-- isinstance(x, T) -/
def isiC (c : Ct) (f t : Str) (a : Option Cd) : Option Cd := match decide (f = "isinstance"), gblN c f, gblN c t, c.blt.contains f, c.blt.contains t with
  | true, true, true, true, true => match tyOf t, a with
    | some n, some ca => some (.ex ca.pu (eOp1 (gIsi n) ca))
    | _, _ => none
  | _, _, _, _, _ => none
theorem isiC_ok {X : Cx} {T : List (Addr × Str)} {c : Ct} {f t : Str} {a : Expr} {ca : Option Cd} {p q pos : Pos} (h : XOk X T c) (hp : plainE a = true) (ha : ∀ cd, ca = some cd → ES X T a cd) {cd : Cd} (e : isiC c f t ca = some cd) :
    ES X T (.Call (.Name f p) [a, .Name t q] [] pos) cd := by
  unfold isiC at e
  split at e
  · rename_i h1 h2 h3 h4 h5
    split at e
    · rename_i n ca' hn
      cases e
      have e1 : f = "isinstance" := by simpa using h1
      have e2 := tyOf_eq hn
      subst e1 e2
      exact es_isi (gblN_ok h h2).1 (h.blt _ (by simpa using h4)) (gblN_ok h h3).1 (h.blt _ (by simpa using h5)) (ha _ rfl) hp
    · cases e
  · cases e
/-! ### methods -/
def noSup : Expr → Bool
  | .Call _ _ _ _ => false
  | _ => true
theorem noSup_ok {o : Expr} {m : Str} {env : PySem.Env} {w : Sem Value} (h : noSup o = true) : attributeBase o m env w = w := by
  cases o <;> first | rfl | cases h
def slotOf : Expr → Option Str
  | .Name x _ => some x
  | _ => none
/-- o.m() -/
def meth0C (c : Ct) (o : Expr) (m : Str) : Option Cd := match slotOf o with
  | some x => match visN c x with
    | some i => if m = "pop" then some (.ex false (eM0 gPop i)) else if m = "clear" then some (.ex false (eM0 gClear i)) else if m = "reverse" then some (.ex false (eM0 gReverse i)) else none
    | none => none
  | none => none
/-- methods of a text, with one argument -/
def smG (m : Str) : Option (D → D → Option Slt) := if m = "join" then some gJoin else if m = "split" then some gSplit else if m = "startswith" then some gStarts else if m = "endswith" then some gEnds else none
/-- o.m(e) -/
def meth1C (c : Ct) (o : Expr) (m : Str) (co ce : Option Cd) : Option Cd := match ce with
  | some ce => match slotOf o with
    | some x => match visN c x with
      | some i => if m = "append" then some (.ex false (eM1 gAppend i ce)) else if m = "extend" then some (.ex false (eM1 gExtend i ce)) else if m = "index" then some (.ex ce.pu (eLm gIndex (.slot i) ce)) else match smG m with
        | some g => some (.ex ce.pu (eSm g (.slot i) ce))
        | none => none
      | none => none
    | none => match co with
      | some co => match noSup o with
        | true => if m = "index" then some (.ex (co.pu && ce.pu) (eLm gIndex co ce)) else match smG m with
          | some g => some (.ex (co.pu && ce.pu) (eSm g co ce))
          | none => none
        | false => none
      | none => none
  | none => none
section
variable {X : Cx} {T : List (Addr × Str)} {c : Ct} {o e : Expr} {m : Str} {apos cpos : Pos} {co ce : Option Cd}
theorem slotOf_eq {x : Str} (h : slotOf o = some x) : ∃ p, o = .Name x p := by
  cases o <;> first | (cases h; exact ⟨_, rfl⟩) | cases h
theorem meth0C_ok (h : XOk X T c) (hl : (apos.endLine == cpos.line) = true) {cd : Cd} (e : meth0C c o m = some cd) : ES X T (.Call (.Attribute o m apos) [] [] cpos) cd := by
  unfold meth0C at e
  split at e
  · rename_i x hx
    obtain ⟨p, rfl⟩ := slotOf_eq hx
    split at e
    · rename_i i hi
      have ho := visN_ok (pos := p) h hi
      split at e
      · rename_i hm; subst hm; cases e
        exact es_m0 PySem.F.slot_list_pop PySem.F.type_list_pop mt_pop sm_pop ho rfl hl
      split at e
      · rename_i hm; subst hm; cases e
        exact es_m0 PySem.F.slot_list_clear PySem.F.type_list_clear mt_clear sm_clear ho rfl hl
      split at e
      · rename_i hm; subst hm; cases e
        exact es_m0 PySem.F.slot_list_reverse PySem.F.type_list_reverse mt_reverse sm_reverse ho rfl hl
      · cases e
    · cases e
  · cases e
theorem es_smG {o : Expr} {co : Cd} {ce : Cd} {g : D → D → Option Slt} (hg : smG m = some g) (ho : ES X T o co) (he : ES X T e ce) (hp : plainE e = true) (hb : attributeBase o m X.env (eval o X.env) = eval o X.env) (hl : (apos.endLine == cpos.line) = true) :
    PE X (.Call (.Attribute o m apos) [e] [] cpos) (tE X.K T (co.pu && ce.pu) (eSm g co ce)) := by
  unfold smG at hg
  split at hg
  · rename_i hm; subst hm; cases hg
    exact es_sm1 PySem.F.slot_str_join PySem.F.type_str_join mt_join (r2 := rJoinR X.K) (fun x y H Q h => by
      obtain ⟨a, p, ys, h1, h2, h3⟩ := h
      exact ⟨a, p, ys, h1, by rw [h2], h3⟩) sem_join ho he hp hb hl
  split at hg
  · rename_i hm; subst hm; cases hg
    exact es_sm1 PySem.F.slot_str_split PySem.F.type_str_split mt_split (r2 := rSplitR) (fun x y H Q h => by
      obtain ⟨a, b, h1, h2, h3⟩ := h
      exact ⟨a, b, h1, by rw [h2], h3⟩) sem_split ho he hp hb hl
  split at hg
  · rename_i hm; subst hm; cases hg
    exact es_sm1 PySem.F.slot_str_startswith PySem.F.type_str_startswith mt_startswith (r2 := rStartsR) (fun x y H Q h => by
      obtain ⟨a, b, h1, h2, h3⟩ := h
      exact ⟨a, b, h1, by rw [h2], h3⟩) sem_starts ho he hp hb hl
  split at hg
  · rename_i hm; subst hm; cases hg
    exact es_sm1 PySem.F.slot_str_endswith PySem.F.type_str_endswith mt_endswith (r2 := rEndsR) (fun x y H Q h => by
      obtain ⟨a, b, h1, h2, h3⟩ := h
      exact ⟨a, b, h1, by rw [h2], h3⟩) sem_ends ho he hp hb hl
  · cases hg
theorem es_index (h : XOk X T c) {o : Expr} {co : Cd} {ce : Cd} (ho : ES X T o co) (he : ES X T e ce) (hp : plainE e = true) (hb : attributeBase o "index" X.env (eval o X.env) = eval o X.env) (hl : (apos.endLine == cpos.line) = true) :
    PE X (.Call (.Attribute o "index" apos) [e] [] cpos) (tE X.K T (co.pu && ce.pu) (eLm gIndex co ce)) :=
  es_lm1 PySem.F.slot_list_index PySem.F.type_list_index (mt_indexD (by have := h.un; omega)) (r2 := rIndex2 X.K) (fun x y H Q h => h) sem_index ho he hp hb hl
theorem meth1C_ok (h : XOk X T c) (hl : (apos.endLine == cpos.line) = true) (hp : plainE e = true) (ho : ∀ cd, co = some cd → ES X T o cd) (he : ∀ cd, ce = some cd → ES X T e cd) {cd : Cd} (hh : meth1C c o m co ce = some cd) :
    ES X T (.Call (.Attribute o m apos) [e] [] cpos) cd := by
  unfold meth1C at hh
  split at hh
  · rename_i ce' _
    have hce := he _ rfl
    split at hh
    · rename_i x hx
      obtain ⟨p, rfl⟩ := slotOf_eq hx
      split at hh
      · rename_i i hi
        have ho := visN_ok (pos := p) h hi
        split at hh
        · rename_i hm; subst hm; cases hh
          exact es_m1 PySem.F.slot_list_append PySem.F.type_list_append mt_append sm_append ho hce hp rfl hl
        split at hh
        · rename_i hm; subst hm; cases hh
          exact es_m1 PySem.F.slot_list_extend PySem.F.type_list_extend mt_extendR sm_extend ho hce hp rfl hl
        split at hh
        · rename_i hm; subst hm; cases hh
          exact es_index h (show ES X T _ (.slot i) from ho) hce hp rfl hl
        split at hh
        · rename_i g hg; cases hh
          exact es_smG hg (show ES X T _ (.slot i) from ho) hce hp rfl hl
        · cases hh
      · cases hh
    · split at hh
      · rename_i co' _
        split at hh
        · rename_i hn
          split at hh
          · rename_i hm; subst hm; cases hh
            exact es_index h (ho _ rfl) hce hp (noSup_ok hn) hl
          split at hh
          · rename_i g hg; cases hh
            exact es_smG hg (ho _ rfl) hce hp (noSup_ok hn) hl
          · cases hh
        · cases hh
      · cases hh
  · cases hh
end
/-- o.m(e, e2) -/
def meth2C (c : Ct) (o : Expr) (m : Str) (ce cd : Option Cd) : Option Cd := match slotOf o, ce, cd with
  | some x, some ce, some cd => match visN c x with
    | some i => if m = "insert" then some (.ex false (eM2 gInsert i ce cd)) else none
    | none => none
  | _, _, _ => none
theorem meth2C_ok {X : Cx} {T : List (Addr × Str)} {c : Ct} {o e e2 : Expr} {m : Str} {apos cpos : Pos} {ce cd : Option Cd} (h : XOk X T c) (hl : (apos.endLine == cpos.line) = true) (he : ∀ k, ce = some k → ES X T e k ∧ plainE e = true) (he2 : ∀ k, cd = some k → ES X T e2 k ∧ plainE e2 = true) {k : Cd} (hh : meth2C c o m ce cd = some k) :
    ES X T (.Call (.Attribute o m apos) [e, e2] [] cpos) k := by
  unfold meth2C at hh
  split at hh
  · rename_i x ce' cd' hx
    obtain ⟨p, rfl⟩ := slotOf_eq hx
    split at hh
    · rename_i i hi
      have ho := visN_ok (pos := p) h hi
      split at hh
      · rename_i hm; subst hm; cases hh
        exact es_m2 PySem.F.slot_list_insert PySem.F.type_list_insert mt_insert sm_insert ho (he _ rfl).1 (he _ rfl).2 (he2 _ rfl).1 (he2 _ rfl).2 rfl hl
      · cases hh
    · cases hh
  · cases hh
/-! ### dicts: the names that hold one stand in mv, as -(place + 1) -/
def dnS (c : Ct) (a : Expr) : Option Nat := match slotOf a with
  | some x => match visN c x with
    | some i => match c.mv.contains (-((i : Int) + 1)) with
      | true => some i
      | false => none
    | none => none
  | none => none
theorem dnS_ok {X : Cx} {T : List (Addr × Str)} {c : Ct} {a : Expr} (h : XOk X T c) {i : Nat} (e : dnS c a = some i) : PE X a (tVar i) := by
  unfold dnS at e
  split at e
  · rename_i x hx
    obtain ⟨p, rfl⟩ := slotOf_eq hx
    split at e
    · rename_i j hj
      split at e
      · cases e; exact visN_ok h hj
      · cases e
    · cases e
  · cases e
theorem dnS_attr {c : Ct} {a : Expr} {i : Nat} {m : Str} {env : PySem.Env} {w : Sem Value} (e : dnS c a = some i) : attributeBase a m env w = w := by
  unfold dnS at e
  split at e
  · rename_i x hx
    obtain ⟨p, rfl⟩ := slotOf_eq hx
    rfl
  · cases e
/-- k in d -/
def dInC (c : Ct) : List CmpOp → List Expr → Option (Nat × Bool)
  | [.In], [o] => (dnS c o).map fun i => (i, false)
  | [.NotIn], [o] => (dnS c o).map fun i => (i, true)
  | _, _ => none
theorem dInC_eq {c : Ct} {ops : List CmpOp} {bs : List Expr} {i : Nat} {neg : Bool} (h : dInC c ops bs = some (i, neg)) : ops = [opIn neg] ∧ ∃ o, bs = [o] ∧ dnS c o = some i ∧ behindInMarks (opIn neg) o = false := by
  have nm : ∀ {o : Expr} {i : Nat} {op : CmpOp}, dnS c o = some i → behindInMarks op o = false := fun {o i op} e => by
    unfold dnS at e
    split at e
    · rename_i x hx
      obtain ⟨p, rfl⟩ := slotOf_eq hx
      cases op <;> rfl
    · cases e
  unfold dInC at h
  split at h
  · rename_i o
    obtain ⟨j, h1, h2⟩ := Option.map_eq_some_iff.mp h
    cases h2
    exact ⟨rfl, o, rfl, h1, nm h1⟩
  · rename_i o
    obtain ⟨j, h1, h2⟩ := Option.map_eq_some_iff.mp h
    cases h2
    exact ⟨rfl, o, rfl, h1, nm h1⟩
  · cases h
/-- sorted(d.items()) -/
def itemsC (c : Ct) (f : Str) : List Expr → Option Nat
  | [.Call (.Attribute o m apos) [] [] cpos] => match decide (f = "sorted"), decide (m = "items"), gblN c f, c.blt.contains f, apos.endLine == cpos.line with
    | true, true, true, true, true => dnS c o
    | _, _, _, _, _ => none
  | _ => none
theorem itemsC_ok {X : Cx} {T : List (Addr × Str)} {c : Ct} {f : Str} {args : List Expr} {i : Nat} {p pos : Pos} (h : XOk X T c) (e : itemsC c f args = some i) : PE X (.Call (.Name f p) args [] pos) (tE X.K T true (eSItems i)) := by
  unfold itemsC at e
  split at e
  · split at e
    · rename_i h1 h2 h3 h4 h5
      have h1 := of_decide_eq_true h1
      have h2 := of_decide_eq_true h2
      subst h1 h2
      obtain ⟨g1, g2, g3⟩ := gblN_ok h h3
      exact es_sitems h.calm h.un g1 (h.blt _ (by simpa using h4)) (dnS_ok (T := T) h e) (fun m => dnS_attr e) h5
    · cases e
  · cases e
def isDictC : Expr → Bool
  | .Call (.Name f _) [_] [] _ => decide (f = "dict")
  | _ => false
/-! ### and, or -/
def boolV (op : BoolOp) : List Cd → Option (Bool × RF)
  | [] => none
  | [a] => some (a.pu, eVal a)
  | a :: rest => match boolV op rest with
    | some (p, f) => match op with
      | .And => some (a.pu && p, eAnd a f)
      | .Or => some (a.pu && p, eOr a f)
    | none => none
def boolT (op : BoolOp) : List (Bool × BF) → Option (Bool × BF)
  | [] => none
  | [a] => some a
  | a :: rest => match boolT op rest with
    | some (p, f) => match op with
      | .And => some (a.1 && p, bAnd a.2 f)
      | .Or => some (a.1 && p, bOr a.2 f)
    | none => none
inductive ETs (X : Cx) (T : List (Addr × Str)) : List Expr → List (Bool × BF) → Prop
  | nil : ETs X T [] []
  | cons {e : Expr} {es : List Expr} {a : Bool × BF} {as : List (Bool × BF)} : PT X e (tT X.K T a.1 a.2) → ETs X T es as → ETs X T (e :: es) (a :: as)
section
variable {X : Cx} {T : List (Addr × Str)} {op : BoolOp} {pos : Pos}
theorem boolV_ok : ∀ {es : List Expr} {cs : List Cd} {pu : Bool} {f : RF}, ESs X T es cs → boolV op cs = some (pu, f) → PE X (.BoolOp op es pos) (tE X.K T pu f)
  | _, _, _, _, .nil, e => by cases e
  | _, _, _, _, .cons h _ .nil, e => by cases e; exact es_one h
  | _, _, _, _, .cons (c := a) h _ (.cons h1 h2 h3), e => by
    unfold boolV at e
    split at e
    · rename_i p f' e1
      have ih := boolV_ok (.cons h1 h2 h3) e1
      cases op with
      | And => cases e; exact es_and h ih
      | Or => cases e; exact es_or h ih
    · cases e
theorem boolT_ok : ∀ {es : List Expr} {cs : List (Bool × BF)} {pu : Bool} {f : BF}, ETs X T es cs → boolT op cs = some (pu, f) → PW X (.BoolOp op es pos) (tT X.K T pu f)
  | _, _, _, _, .nil, e => by cases e
  | _, _, _, _, .cons h .nil, e => by
    cases e
    cases op with
    | And => exact et_and1 h
    | Or => exact et_or1 h
  | _, _, _, _, .cons (a := a) h (.cons h1 h3), e => by
    unfold boolT at e
    split at e
    · rename_i p f' e1
      have ih := boolT_ok (.cons h1 h3) e1
      cases op with
      | And => cases e; exact et_and h ih
      | Or => cases e; exact et_or h ih
    · cases e
end
def mapC {α : Type} (f : Expr → Option α) : List Expr → Option (List α)
  | [] => some []
  | e :: es => match f e, mapC f es with
    | some c, some cs => some (c :: cs)
    | _, _ => none
theorem mapC_es {X : Cx} {T : List (Addr × Str)} {f : Expr → Option Cd} (hf : ∀ e cd, f e = some cd → ES X T e cd ∧ plainE e = true) : ∀ {es : List Expr} {cs : List Cd}, mapC f es = some cs → ESs X T es cs
  | [], _, e => by cases e; exact .nil
  | e0 :: es, cs, e => by
    unfold mapC at e
    split at e
    · rename_i c cs' h1 h2
      cases e
      exact .cons (hf _ _ h1).1 (hf _ _ h1).2 (mapC_es hf h2)
    · cases e
theorem mapC_et {X : Cx} {T : List (Addr × Str)} {f : Expr → Option (Bool × BF)} (hf : ∀ e a, f e = some a → PT X e (tT X.K T a.1 a.2)) : ∀ {es : List Expr} {cs : List (Bool × BF)}, mapC f es = some cs → ETs X T es cs
  | [], _, e => by cases e; exact .nil
  | e0 :: es, cs, e => by
    unfold mapC at e
    split at e
    · rename_i c cs' h1 h2
      cases e
      exact .cons (hf _ _ h1) (mapC_et hf h2)
    · cases e
/-! ### targets -/
def gC1 (c : Ct) (x : Str) : Option Nat := match locK (c.sc.names.lookup x), decide (c.sc.names.lookup x = some .local) || c.fnc x, findN x c.N 0 with
  | true, true, some i => match c.fz i with
    | false => some i
    | true => none
  | _, _, _ => none
def gCs0 (c : Ct) : List Expr → Option (List D → Rho → Option Rho)
  | [] => some gfNil
  | .Name x _ :: es => match gC1 c x, gCs0 c es with
    | some i, some g => some (gfCons (gfName i) g)
    | _, _ => none
  | _ :: _ => none
def gCs (c : Ct) : List Expr → Option (List D → Rho → Option Rho)
  | [] => some gfNil
  | .Name x _ :: es => match gC1 c x, gCs c es with
    | some i, some g => some (gfCons (gfName i) g)
    | _, _ => none
  | .Tuple ts _ _ :: es => match gCs0 c ts, gCs c es with
    | some f, some g => some (gfCons (gfTup f) g)
    | _, _ => none
  | _ :: _ => none
def gC (c : Ct) : Expr → Option GF
  | .Name x _ => (gC1 c x).map gfName
  | .Tuple es _ _ => (gCs c es).map gfTup
  | _ => none
section
variable {X : Cx} {T : List (Addr × Str)} {c : Ct}
theorem gC1_ok (h : XOk X T c) {x : Str} {i : Nat} (e : gC1 c x = some i) : X.N[i]? = some x ∧ Loc X.env.scope x ∧ (X.fn x = true ∨ X.env.scope.names.lookup x = some .local) ∧ c.fz i = false := by
  unfold gC1 at e
  split at e
  · rename_i i' h1 h2 h3
    split at e
    · rename_i h4
      cases e
      refine ⟨by rw [h.hN]; exact findN_zero h3, ?_, ?_, h4⟩
      · show X.env.scope.names.lookup x = some .local ∨ X.env.scope.names.lookup x = some .cell
        rw [h.sc]
        exact locK_or h1
      · rw [h.sc]
        rw [Bool.or_eq_true] at h2
        rcases h2 with h2 | h2
        · exact .inr (by simpa using h2)
        · exact .inl (h.fn x h2)
    · cases e
  · cases e
theorem gCs0_ok (h : XOk X T c) : ∀ {es : List Expr} {g : List D → Rho → Option Rho}, gCs0 c es = some g → PGs X es (tGs X.K T c.fz g) ∧ es.all plainTg = true ∧ ∀ ds ρ ρ', g ds ρ = some ρ' → ds.length = es.length
  | [], g, e => by cases e; exact ⟨eg_nil, rfl, fun ds ρ ρ' h => gfNil_len h⟩
  | .Name x p :: es, g, e => by
    unfold gCs0 at e
    split at e
    · rename_i i g' h1 h2
      cases e
      obtain ⟨q1, q2, q3, q4⟩ := gC1_ok h h1
      obtain ⟨k1, k2, k3⟩ := gCs0_ok h h2
      exact ⟨eg_cons (eg_name (by rw [h.hN]; exact h.nd) q1 q2 q3 q4) k1 rfl, by rw [List.all_cons, k2]; rfl, fun ds ρ ρ' hh => gfCons_len k3 hh⟩
    · cases e
theorem gCs_ok (h : XOk X T c) : ∀ {es : List Expr} {g : List D → Rho → Option Rho}, gCs c es = some g → PGs X es (tGs X.K T c.fz g) ∧ es.all plainTg = true ∧ ∀ ds ρ ρ', g ds ρ = some ρ' → ds.length = es.length
  | [], g, e => by cases e; exact ⟨eg_nil, rfl, fun ds ρ ρ' h => gfNil_len h⟩
  | .Name x p :: es, g, e => by
    unfold gCs at e
    split at e
    · rename_i i g' h1 h2
      cases e
      obtain ⟨q1, q2, q3, q4⟩ := gC1_ok h h1
      obtain ⟨k1, k2, k3⟩ := gCs_ok h h2
      exact ⟨eg_cons (eg_name (by rw [h.hN]; exact h.nd) q1 q2 q3 q4) k1 rfl, by rw [List.all_cons, k2]; rfl, fun ds ρ ρ' hh => gfCons_len k3 hh⟩
    · cases e
  | .Tuple ts k p :: es, g, e => by
    unfold gCs at e
    split at e
    · rename_i f g' h1 h2
      cases e
      obtain ⟨q1, q2, q3⟩ := gCs0_ok h h1
      obtain ⟨k1, k2, k3⟩ := gCs_ok h h2
      exact ⟨eg_cons (wk := false) (eg_tup h.calm q1 q2 q3) k1 rfl, by rw [List.all_cons, k2]; rfl, fun ds ρ ρ' hh => gfCons_len k3 hh⟩
    · cases e
/-- a tuple as a target takes what zip yields -/
def tgW : Expr → Bool
  | .Tuple _ _ _ => true
  | _ => false
theorem gC_ok (h : XOk X T c) {tg : Expr} {g : GF} (e : gC c tg = some g) : PG X tg (tG X.K T c.fz (tgW tg) g) := by
  unfold gC at e
  split at e
  · simp only [Option.map_eq_some_iff] at e
    obtain ⟨i, h1, rfl⟩ := e
    obtain ⟨q1, q2, q3, q4⟩ := gC1_ok h h1
    exact eg_name (by rw [h.hN]; exact h.nd) q1 q2 q3 q4
  · simp only [Option.map_eq_some_iff] at e
    obtain ⟨g', h1, rfl⟩ := e
    obtain ⟨k1, k2, k3⟩ := gCs_ok h h1
    exact eg_tup h.calm k1 k2 k3
  · cases e
end
end Pv

/-! Fw12: zip, enumerate; the whole of expressions. -/
namespace Pv
open PySem PySem.Spec PyProof.Rows L2

/-! ### zip, enumerate -/
def envB (bor : Bool) (as : List Arg) (ρ : Rho) : Rho := if bor = true then ρ else dropsA as ρ
def zipD (xs ys : List D) : List D := List.zipWith (fun x y => .tuple [x, y]) xs ys
def enumD (xs : List D) : List D := (List.range xs.length).map fun (i : Nat) => .tuple [.int (i : Int), xs.getD i .none]
def iZipF (bor : Bool) (cs : List Cd) : IF := fun ρ => match aEs cs ρ with
  | some (as, ρ1) => match argsD ρ1 as with
    | some [.list xs, .list ys] => some (zipD xs ys, envB bor as ρ1)
    | some [.tuple xs, .tuple ys] => some (zipD xs ys, envB bor as ρ1)
    | _ => none
  | none => none
def iEnumF (bor : Bool) (cs : List Cd) : IF := fun ρ => match aEs cs ρ with
  | some (as, ρ1) => match argsD ρ1 as with
    | some [.list xs] => some (enumD xs, envB bor as ρ1)
    | _ => none
  | none => none
section
variable {K : PySem.W.Frag} {T : List (Addr × Str)} {O : Addr → Bool} {ρ : Rho} {σ : L2.St} {H : Hp}
/-- the arguments of what is walked: read, or given up -/
theorem args_it {bor : Bool} {as : List Arg} {vs : List V} {ds : List D} (S : SOk K T O ρ σ H) (a1 : ArgRs K O H σ vs as) (e : argsD ρ as = some ds) :
    ∃ O', SOk K T O' (envB bor as ρ) σ H ∧ Tr O ρ σ H O' (envB bor as ρ) σ H ∧ RepBs K O' H vs ds ∧ (bor = false → DpAll K (mask O' H) vs ds) := by
  cases bor with
  | true => exact ⟨O, S, Tr.refl, a1.reps S e, fun z => by cases z⟩
  | false =>
    obtain ⟨O2, S2, t2, d2, _⟩ := dropsA_ok a1 S a1 e
    have k : ∀ {vs : List V} {ds : List D}, DpAll K (mask O2 H) vs ds → RepBs K O2 H vs ds := fun {vs ds} h => by
      induction h using DpAll.rec (motive_1 := fun _ _ _ => True) with
      | nil => exact .nil
      | cons h t _ ih => exact .cons (.inl h) ih
      | _ => trivial
    exact ⟨O2, S2, t2, k d2, fun _ => d2⟩
theorem rd_base {bor : Bool} {a : Addr} {ds : List D} {vs : List V} (h : Rd H a (.lst vs)) (hb : bor = false → ∃ ws, Rd (mask O H) a (.lst ws)) : Rd (if bor = true then H else mask O H) a (.lst vs) := by
  cases bor with
  | true => exact h
  | false =>
    obtain ⟨ws, h'⟩ := hb rfl
    show Rd (mask O H) a (.lst vs)
    rcases h' with h' | ⟨o, h'⟩
    · obtain ⟨h1, h2⟩ := mask_some.mp h'
      rcases h with h | ⟨o2, h⟩
      · exact .inl (mask_some.mpr ⟨h1, h⟩)
      · exact .inr ⟨o2, mask_some.mpr ⟨h1, h⟩⟩
    · obtain ⟨h1, h2⟩ := mask_some.mp h'
      rcases h with h | ⟨o2, h⟩
      · exact .inl (mask_some.mpr ⟨h1, h⟩)
      · exact .inr ⟨o2, mask_some.mpr ⟨h1, h⟩⟩
/-- what is walked by twos -/
theorem it_pairs {bor : Bool} {J : It} {n : Nat} {G : Hp → Prop} {f g : Nat → Option V} {ds : List D} (w : Walk J n G (YPair f g)) (hn : ds.length = n) (hG : ∀ H2, Kp (if bor = true then H else mask O H) H2 → G H2)
    (hy : ∀ i x y, i < n → f i = some x → g i = some y → ∃ d1 d2, ds[i]? = some (.tuple [d1, d2]) ∧ Dp K (mask O H) x d1 ∧ Dp K (mask O H) y d2) : ItOk K true O H bor J ds := by
  refine ⟨G, YPair f g, by rw [hn]; exact w, hG, fun i H1 v H2 hi k y => ?_⟩
  obtain ⟨p, x1, x2, rfl, np, rfl, h1, h2⟩ := y
  obtain ⟨d1, d2, e, k1, k2⟩ := hy i x1 x2 (by rw [← hn]; exact hi) h1 h2
  exact ⟨_, e, .inr ⟨rfl, p, x1, x2, d1, d2, rfl, np, rfl, rfl, k1, k2⟩⟩
theorem walk_zipT {a b : Addr} {xs ys : List V} {n : Nat} (hn : n = min xs.length ys.length) : Walk (RZ.ItzT K a b) n (fun H => SqT K H a xs ∧ SqT K H b ys) (YPair (fun i => xs[i]?) (fun i => ys[i]?)) := by
  subst hn
  refine ⟨fun i _ hi q => ?_, fun _ q => ⟨xs, ys, q.1, q.2, by omega⟩, fun i H v H' _ q y => ?_⟩
  · have h1 : i < xs.length := by omega
    have h2 : i < ys.length := by omega
    exact ⟨xs, ys, xs[i], ys[i], q.1, q.2, by simp [h1], by simp [h2]⟩
  · obtain ⟨T, x, z, h1, h2, h3, h4, h5⟩ := y
    exact ⟨T, x, z, h1, h2, h3, h4 xs q.1, h5 ys q.2⟩
theorem zip_items {vs ws : List V} {xs ys : List D} (h1 : DpAll K (mask O H) vs xs) (h2 : DpAll K (mask O H) ws ys) (i : Nat) (x y : V) (e1 : vs[i]? = some x) (e2 : ws[i]? = some y) :
    ∃ d1 d2, (zipD xs ys)[i]? = some (.tuple [d1, d2]) ∧ Dp K (mask O H) x d1 ∧ Dp K (mask O H) y d2 := by
  obtain ⟨d1, f1, k1⟩ := dps_get h1 e1
  obtain ⟨d2, f2, k2⟩ := dps_get h2 e2
  refine ⟨d1, d2, ?_, k1, k2⟩
  unfold zipD
  rw [List.getElem?_zipWith, f1, f2]
end
section
variable {X : Cx} {T : List (Addr × Str)} {e e2 : Expr} {cs : List Cd} {p pos tpos : Pos} {elts : List Expr} {kk : Nat} {bor : Bool}
theorem ei_zip (hg : Gl X "zip") (hm : X.mg "zip" = none) (h : ESs X T [e, e2] cs) : PI X (.Tuple elts kk tpos) (.Call (.Name "zip" p) [e, e2] [] pos) (tI X.K T true bor (cpu cs) (iZipF bor cs)) := by
  have hp := h.plain
  rw [List.all_cons, List.all_cons, Bool.and_eq_true, Bool.and_eq_true] at hp
  have hpl : [e2].all plainE = true := by rw [List.all_cons, hp.2.1]; rfl
  refine pi_imp (RZ.pi_zipA hg hm h.pa (plain_star hp.1) (plain_any hpl)) fun σ H R q => ?_
  obtain ⟨O, ρ, ds, ρ', S, e, q⟩ := q
  unfold iZipF at e
  split at e
  · rename_i as ρ1 e1
    split at e
    · rename_i xs ys e0
      cases e
      refine ⟨O, ρ, as, _, S, e1, fun vs O1 H1 S1 t1 p1 a1 => ?_⟩
      obtain ⟨O2, S2, t2, r2, d2⟩ := args_it (bor := bor) S1 a1 e0
      obtain ⟨v, w, rfl, rv, rw'⟩ := reps2 r2
      obtain ⟨a, us, rfl, g1, g2⟩ := rv.list
      obtain ⟨b, ws, rfl, g3, g4⟩ := rw'.list
      have b1 : Rd (if bor = true then H1 else mask O2 H1) a (.lst us) := rd_base (ds := xs) g1 fun z => by
        cases d2 z with
        | cons h _ => cases h with
          | lst h _ => exact ⟨_, h⟩
      have b2 : Rd (if bor = true then H1 else mask O2 H1) b (.lst ws) := rd_base (ds := ys) g3 fun z => by
        cases d2 z with
        | cons _ t => cases t with
          | cons h _ => cases h with
            | lst h _ => exact ⟨_, h⟩
      refine ⟨a, b, us, ws, rfl, .inl ⟨.inl g1, .inl g3, q _ O2 H1 S2 (t1.trans S.cov' t2) p1 (it_pairs (walk_zip rfl) ?_ (fun H2 k => ⟨.inl (k.rd b1), .inl (k.rd b2)⟩) fun i x y _ f1 f2 => zip_items g2 g4 i x y f1 f2)⟩⟩
      unfold zipD
      rw [List.length_zipWith, dps_len g2, dps_len g4]
    · rename_i xs ys e0
      cases e
      refine ⟨O, ρ, as, _, S, e1, fun vs O1 H1 S1 t1 p1 a1 => ?_⟩
      obtain ⟨O2, S2, t2, r2, d2⟩ := args_it (bor := bor) S1 a1 e0
      obtain ⟨v, w, rfl, rv, rw'⟩ := reps2 r2
      obtain ⟨a, us, rfl, g1, g2⟩ := rv.tuple
      obtain ⟨b, ws, rfl, g3, g4⟩ := rw'.tuple
      refine ⟨a, b, us, ws, rfl, .inr ⟨(Kp.mask O2 H1).sqT g1, (Kp.mask O2 H1).sqT g3, q _ O2 H1 S2 (t1.trans S.cov' t2) p1 (it_pairs (walk_zipT rfl) ?_ (fun H2 k => ⟨(kp_base H2 k).sqT g1, (kp_base H2 k).sqT g3⟩) fun i x y _ f1 f2 => zip_items g2 g4 i x y f1 f2)⟩⟩
      unfold zipD
      rw [List.length_zipWith, dps_len g2, dps_len g4]
    · cases e
  · cases e
theorem ei_enum (hg : Gl X "enumerate") (hm : X.mg "enumerate" = none) (h : ESs X T [e] cs) : PI X (.Tuple elts kk tpos) (.Call (.Name "enumerate" p) [e] [] pos) (tI X.K T true bor (cpu cs) (iEnumF bor cs)) := by
  have hp := h.plain
  rw [List.all_cons, Bool.and_eq_true] at hp
  refine pi_imp (pi_enum hg hm h.pa (plain_star hp.1)) fun σ H R q => ?_
  obtain ⟨O, ρ, ds, ρ', S, e, q⟩ := q
  unfold iEnumF at e
  split at e
  · rename_i as ρ1 e1
    split at e
    · rename_i xs e0
      cases e
      refine ⟨O, ρ, as, _, S, e1, fun vs O1 H1 S1 t1 p1 a1 => ?_⟩
      obtain ⟨O2, S2, t2, r2, d2⟩ := args_it (bor := bor) S1 a1 e0
      obtain ⟨v, rfl, rv⟩ := reps1 r2
      obtain ⟨a, us, rfl, g1, g2⟩ := rv.list
      have b1 : Rd (if bor = true then H1 else mask O2 H1) a (.lst us) := rd_base (ds := xs) g1 fun z => by
        cases d2 z with
        | cons h _ => cases h with
          | lst h _ => exact ⟨_, h⟩
      refine ⟨a, us, rfl, .inl g1, q _ O2 H1 S2 (t1.trans S.cov' t2) p1 (it_pairs walk_enum ?_ (fun H2 k => .inl (k.rd b1)) fun i x y hi f1 f2 => ?_)⟩
      · unfold enumD
        rw [List.length_map, List.length_range, dps_len g2]
      · cases f1
        obtain ⟨d, k1, k2⟩ := dps_get g2 f2
        refine ⟨.int (i : Nat), d, ?_, .int _, k2⟩
        unfold enumD
        have hi' : i < xs.length := by rw [← dps_len g2]; exact hi
        rw [List.getElem?_map, List.getElem?_range hi']
        show some (PyData.tuple [.int (i : Nat), xs.getD i .none]) = _
        rw [List.getD_eq_getElem?_getD, k1]
        rfl
    · cases e
  · cases e
end
/-! ### what is walked, in the text -/
def isTupE : Expr → Bool
  | .Tuple _ _ _ => true
  | _ => false
def itCall (c : Ct) (bor : Bool) (tg : Expr) (f : Str) (cs : List Cd) : Option (Bool × IF) := match gblN c f, c.blt.contains f with
  | true, true => if f = "range" then (match cs with
      | [_] => some (cpu cs, iRange1 cs)
      | [_, _] => some (cpu cs, iRange2 cs)
      | _ => none) else if f = "zip" then (match cs, isTupE tg with
      | [_, _], true => some (cpu cs, iZipF bor cs)
      | _, _ => none) else if f = "enumerate" then (match cs, isTupE tg with
      | [_], true => some (cpu cs, iEnumF bor cs)
      | _, _ => none) else none
  | _, _ => none
def itGen (bor : Bool) (cd : Option Cd) : Option (Bool × IF) := match cd with
  | some cd => some (cd.pu, if bor = true then iBor cd else iVal cd)
  | none => none
def itC (ev : Expr → Option Cd) (c : Ct) (bor : Bool) (tg iter : Expr) : Option (Bool × IF) := match iter with
  | .Call (.Name f p) args [] q => match mapC ev args with
    | some cs => match itCall c bor tg f cs with
      | some r => some r
      | none => itGen bor (ev (.Call (.Name f p) args [] q))
    | none => itGen bor (ev (.Call (.Name f p) args [] q))
  | e => itGen bor (ev e)
section
variable {X : Cx} {T : List (Addr × Str)} {c : Ct} {bor : Bool} {tg : Expr}
theorem itGen_ok {e : Expr} {o : Option Cd} (h : ∀ cd, o = some cd → ES X T e cd) {pu : Bool} {f : IF} (e1 : itGen bor o = some (pu, f)) : PI X tg e (tI X.K T (tgW tg) bor pu f) := by
  unfold itGen at e1
  split at e1
  · rename_i cd
    cases e1
    cases bor with
    | true => exact ei_bor (h _ rfl)
    | false => exact ei_val (h _ rfl)
  · cases e1
theorem itCall_ok (hx : XOk X T c) {f : Str} {args : List Expr} {cs : List Cd} {p q : Pos} (hs : ESs X T args cs) {pu : Bool} {g : IF} (e : itCall c bor tg f cs = some (pu, g)) : PI X tg (.Call (.Name f p) args [] q) (tI X.K T (tgW tg) bor pu g) := by
  unfold itCall at e
  split at e
  · rename_i h1 h2
    have hg := (gblN_ok hx h1).1
    have hm := hx.blt f (by simpa using h2)
    split at e
    · rename_i hf
      subst hf
      split at e
      · cases e
        cases hs with
        | cons a b t => cases t; exact ei_range1 hg hm (.cons a b .nil)
      · cases e
        cases hs with
        | cons a b t => cases t with
          | cons a2 b2 t2 => cases t2; exact ei_range2 hg hm (.cons a b (.cons a2 b2 .nil))
      · cases e
    · split at e
      · rename_i _ hf
        subst hf
        split at e
        · rename_i ht
          cases e
          cases tg with
          | Tuple _ _ _ =>
            cases hs with
            | cons a b t => cases t with
              | cons a2 b2 t2 => cases t2; exact ei_zip hg hm (.cons a b (.cons a2 b2 .nil))
          | _ => cases ht
        · cases e
      · split at e
        · rename_i _ hf
          subst hf
          split at e
          · rename_i ht
            cases e
            cases tg with
            | Tuple _ _ _ =>
              cases hs with
              | cons a b t => cases t; exact ei_enum hg hm (.cons a b .nil)
            | _ => cases ht
          · cases e
        · cases e
  · cases e
theorem itC_ok (hx : XOk X T c) {ev : Expr → Option Cd} (h : ∀ e cd, ev e = some cd → ES X T e cd ∧ plainE e = true) {iter : Expr} {pu : Bool} {g : IF} (e : itC ev c bor tg iter = some (pu, g)) : PI X tg iter (tI X.K T (tgW tg) bor pu g) := by
  unfold itC at e
  split at e
  · split at e
    · rename_i cs h1
      split at e
      · rename_i r h2
        cases e
        exact itCall_ok hx (mapC_es h h1) h2
      · exact itGen_ok (fun cd hc => (h _ _ hc).1) e
    · exact itGen_ok (fun cd hc => (h _ _ hc).1) e
  · exact itGen_ok (fun cd hc => (h _ _ hc).1) e
end
/-! ### comprehensions, in the text -/
def ownN (N : List Str) (scope : Scope) : List (Str × Nat) := scope.names.filterMap fun y => match locK (some y.2), findN y.1 N 0 with
  | true, some i => some (y.1, i)
  | _, _ => none
def Ct.blk (c : Ct) (scope : Scope) : Ct := { c with sc := relS scope c.sc, fnc := fun x => scope.names.lookup x == some .cell, fz := fzBut ((ownN c.N scope).map (·.2)), lam := false, gex := false, rep := false }
def lcC (ev : Ct → Expr → Option Cd) (et : Ct → Expr → Option (Bool × BF)) (c : Ct) (elt tg iter : Expr) (ifs : List Expr) (isa : Int) (scope : Scope) : Option Cd :=
  match decide (isa = 0), blkC c.N c.sc scope (ownN c.N scope), plainE iter with
  | true, true, true =>
    match ev (c.blk scope) elt, gC (c.blk scope) tg, (match ifs with
      | [] => some (true, bYes)
      | [t] => et (c.blk scope) t
      | _ => none) with
    | some el, some g, some (puC, cond) => match itC (ev c) c (puC && el.pu) tg iter with
      | some (puI, f) => some (.ex (puI && (puC && el.pu)) (eLc ((ownN c.N scope).map (·.2)) f g cond el))
      | none => none
    | _, _, _ => none
  | _, _, _ => none
theorem XOk.blk {X : Cx} {T : List (Addr × Str)} {c : Ct} (h : XOk X T c) {scope : Scope} (hk : scope.kind = .function) (s : Shared) (H : Hp) (C : Addr) (cl : List (Str × Addr)) (fp : List Addr) :
    XOk (X.blk s H scope (compEnvC scope cl C X.env) fp) T (c.blk scope) where
  hN := h.hN
  nd := h.nd
  sc := by
    show relabel scope X.env = relS scope c.sc
    rw [← h.sc]
    rfl
  kind := hk
  calm := h.calm
  nx := rfl
  fn := fun x e => e
  un := h.un
  fns := h.fns
  cst := h.cst
  blt := h.blt
  lam := fun z => by cases z
  gex := fun z => by cases z
  rep := fun z => by cases z
theorem blk_kind {N : List Str} {sc scope : Scope} {own : List (Str × Nat)} (h : blkC N sc scope own = true) : scope.kind = .function := (blkOk_by h).kind
section
variable {X : Cx} {T : List (Addr × Str)} {c : Ct} {ev : Ct → Expr → Option Cd} {et : Ct → Expr → Option (Bool × BF)} {elt tg iter : Expr} {ifs : List Expr} {isa : Int} {scope : Scope} {pos : Pos}
/-- the parts of a comprehension -/
structure LcP (X : Cx) (T : List (Addr × Str)) (c : Ct) (elt tg iter : Expr) (ifs : List Expr) (isa : Int) (scope : Scope) (pu : Bool) (F : RF) : Prop where
  is0 : isa = 0
  bo : BlkOk X.N X.env.scope scope (ownN c.N scope)
  pl : plainE iter = true
  ex : ∃ (f : IF) (g : GF) (cond : BF) (el : Cd) (bor puI puC : Bool), pu = (puI && (puC && el.pu)) ∧ F = eLc ((ownN c.N scope).map (·.2)) f g cond el ∧ PI X tg iter (tI X.K T (tgW tg) bor puI f) ∧
    (∀ (s : Shared) (H : Hp) (C : Addr) (cl : List (Str × Addr)) (fp : List Addr), PG (X.blk s H scope (compEnvC scope cl C X.env) fp) tg (tG X.K T (fzBut ((ownN c.N scope).map (·.2))) (tgW tg) g)) ∧
    (∀ (s : Shared) (H : Hp) (C : Addr) (cl : List (Str × Addr)) (fp : List Addr), PTs (X.blk s H scope (compEnvC scope cl C X.env) fp) ifs (tT X.K T puC cond)) ∧
    (∀ (s : Shared) (H : Hp) (C : Addr) (cl : List (Str × Addr)) (fp : List Addr), PE (X.blk s H scope (compEnvC scope cl C X.env) fp) elt (tV X.K T el)) ∧ (bor = true → (puC && el.pu) = true)
theorem lcC_ok (h : XOk X T c) (hv : ∀ (X : Cx) (c : Ct), XOk X T c → ∀ e cd, ev c e = some cd → ES X T e cd ∧ plainE e = true) (ht : ∀ (X : Cx) (c : Ct), XOk X T c → ∀ e pu f, et c e = some (pu, f) → PT X e (tT X.K T pu f))
    {cd : Cd} (e : lcC ev et c elt tg iter ifs isa scope = some cd) : ∃ pu F, cd = .ex pu F ∧ LcP X T c elt tg iter ifs isa scope pu F := by
  unfold lcC at e
  split at e
  · rename_i h1 h2 h3
    split at e
    · rename_i el g puC cond h4 h5 h6
      split at e
      · rename_i puI f h7
        cases e
        have hb : BlkOk X.N X.env.scope scope (ownN c.N scope) := by
          rw [h.hN, h.sc]
          exact blkOk_by h2
        have hk := blk_kind h2
        refine ⟨_, _, rfl, ⟨by simpa using h1, hb, h3, f, g, cond, el, puC && el.pu, puI, puC, rfl, rfl, itC_ok h (hv X c h) h7, fun s H C cl fp => ?_, fun s H C cl fp => ?_, fun s H C cl fp => ?_, fun z => z⟩⟩
        · exact gC_ok (h.blk hk s H C cl fp) h5
        · split at h6
          · cases h6; exact et_yes
          · exact pts_one (ht _ _ (h.blk hk s H C cl fp) _ _ _ h6)
          · cases h6
        · exact (hv _ _ (h.blk hk s H C cl fp) _ _ h4).1.v
      · cases e
    · cases e
  · cases e
theorem LcP.es {pu : Bool} {F : RF} (h : XOk X T c) (p : LcP X T c elt tg iter ifs isa scope pu F) : PE X (.ListComp elt [⟨tg, iter, ifs, isa⟩] scope pos) (tE X.K T pu F) := by
  obtain ⟨h0, hb, hp, f, g, cond, el, bor, puI, puC, rfl, rfl, hi, hg, ht, he, hbor⟩ := p
  subst h0
  exact es_lc h.calm (by rw [h.hN]; exact h.nd) hi hb hg ht he hp hbor
end
/-! ### a dict's comprehension, in the text -/
def dcC (ev : Ct → Expr → Option Cd) (et : Ct → Expr → Option (Bool × BF)) (c : Ct) (kx vx tg iter : Expr) (ifs : List Expr) (isa : Int) (scope : Scope) : Option Cd :=
  match decide (isa = 0), blkC c.N c.sc scope (ownN c.N scope), plainE iter with
  | true, true, true =>
    match ev (c.blk scope) kx, ev (c.blk scope) vx, gC (c.blk scope) tg, (match ifs with
      | [] => some (true, bYes)
      | [t] => et (c.blk scope) t
      | _ => none) with
    | some ek, some el, some g, some (puC, cond) => match itC (ev c) c (puC && (ek.pu && el.pu)) tg iter with
      | some (puI, f) => some (.ex (puI && (puC && (ek.pu && el.pu))) (eDc ((ownN c.N scope).map (·.2)) f g cond ek el))
      | none => none
    | _, _, _, _ => none
  | _, _, _ => none
section
variable {X : Cx} {T : List (Addr × Str)} {c : Ct} {ev : Ct → Expr → Option Cd} {et : Ct → Expr → Option (Bool × BF)} {kx vx tg iter : Expr} {ifs : List Expr} {isa : Int} {scope : Scope} {pos : Pos}
structure DcP (X : Cx) (T : List (Addr × Str)) (c : Ct) (kx vx tg iter : Expr) (ifs : List Expr) (isa : Int) (scope : Scope) (pu : Bool) (F : RF) : Prop where
  is0 : isa = 0
  bo : BlkOk X.N X.env.scope scope (ownN c.N scope)
  pl : plainE iter = true
  ex : ∃ (f : IF) (g : GF) (cond : BF) (ek el : Cd) (bor puI puC : Bool), pu = (puI && (puC && (ek.pu && el.pu))) ∧ F = eDc ((ownN c.N scope).map (·.2)) f g cond ek el ∧ PI X tg iter (tI X.K T (tgW tg) bor puI f) ∧
    (∀ (s : Shared) (H : Hp) (C : Addr) (cl : List (Str × Addr)) (fp : List Addr), PG (X.blk s H scope (compEnvC scope cl C X.env) fp) tg (tG X.K T (fzBut ((ownN c.N scope).map (·.2))) (tgW tg) g)) ∧
    (∀ (s : Shared) (H : Hp) (C : Addr) (cl : List (Str × Addr)) (fp : List Addr), PTs (X.blk s H scope (compEnvC scope cl C X.env) fp) ifs (tT X.K T puC cond)) ∧
    (∀ (s : Shared) (H : Hp) (C : Addr) (cl : List (Str × Addr)) (fp : List Addr), PE (X.blk s H scope (compEnvC scope cl C X.env) fp) kx (tV X.K T ek)) ∧
    (∀ (s : Shared) (H : Hp) (C : Addr) (cl : List (Str × Addr)) (fp : List Addr), PE (X.blk s H scope (compEnvC scope cl C X.env) fp) vx (tV X.K T el)) ∧ (bor = true → (puC && (ek.pu && el.pu)) = true)
theorem dcC_ok (h : XOk X T c) (hv : ∀ (X : Cx) (c : Ct), XOk X T c → ∀ e cd, ev c e = some cd → ES X T e cd ∧ plainE e = true) (ht : ∀ (X : Cx) (c : Ct), XOk X T c → ∀ e pu f, et c e = some (pu, f) → PT X e (tT X.K T pu f))
    {cd : Cd} (e : dcC ev et c kx vx tg iter ifs isa scope = some cd) : ∃ pu F, cd = .ex pu F ∧ DcP X T c kx vx tg iter ifs isa scope pu F := by
  unfold dcC at e
  split at e
  · rename_i h1 h2 h3
    split at e
    · rename_i ek el g puC cond h4 h4' h5 h6
      split at e
      · rename_i puI f h7
        cases e
        have hb : BlkOk X.N X.env.scope scope (ownN c.N scope) := by
          rw [h.hN, h.sc]
          exact blkOk_by h2
        have hk := blk_kind h2
        refine ⟨_, _, rfl, ⟨by simpa using h1, hb, h3, f, g, cond, ek, el, puC && (ek.pu && el.pu), puI, puC, rfl, rfl, itC_ok h (hv X c h) h7, fun s H C cl fp => ?_, fun s H C cl fp => ?_, fun s H C cl fp => ?_, fun s H C cl fp => ?_, fun z => z⟩⟩
        · exact gC_ok (h.blk hk s H C cl fp) h5
        · split at h6
          · cases h6; exact et_yes
          · exact pts_one (ht _ _ (h.blk hk s H C cl fp) _ _ _ h6)
          · cases h6
        · exact (hv _ _ (h.blk hk s H C cl fp) _ _ h4).1.v
        · exact (hv _ _ (h.blk hk s H C cl fp) _ _ h4').1.v
      · cases e
    · cases e
  · cases e
theorem DcP.es {pu : Bool} {F : RF} (h : XOk X T c) (p : DcP X T c kx vx tg iter ifs isa scope pu F) : PE X (.DictComp kx vx [⟨tg, iter, ifs, isa⟩] scope pos) (tE X.K T pu F) := by
  obtain ⟨h0, hb, hp, f, g, cond, ek, el, bor, puI, puC, rfl, rfl, hi, hg, ht, hk, he, hbor⟩ := p
  subst h0
  exact es_dc h.calm (by rw [h.hN]; exact h.nd) hi hb hg ht hk he hp hbor
end
/-! ### two clauses, in the text -/
def tgHas (x : Str) : Expr → Bool
  | .Name y _ => y == x
  | .Tuple es _ _ => es.any fun e => match e with
    | .Name y _ => y == x
    | .Tuple es _ _ => es.any fun e => match e with
      | .Name y _ => y == x
      | _ => false
    | _ => false
  | _ => false
def tgIx (own : List (Str × Nat)) (tg : Expr) : List Nat := (own.filter fun y => tgHas y.1 tg).map (·.2)
def ifsC (et : Expr → Option (Bool × BF)) : List Expr → Option (Bool × BF)
  | [] => some (true, bYes)
  | [t] => et t
  | _ => none
theorem ifsC_ok {X : Cx} {T : List (Addr × Str)} {et : Expr → Option (Bool × BF)} (h : ∀ e pu f, et e = some (pu, f) → PT X e (tT X.K T pu f)) {ifs : List Expr} {pu : Bool} {f : BF} (e : ifsC et ifs = some (pu, f)) : PTs X ifs (tT X.K T pu f) := by
  unfold ifsC at e
  split at e
  · cases e; exact et_yes
  · exact pts_one (h _ _ _ e)
  · cases e
theorem XOk.fz {X : Cx} {T : List (Addr × Str)} {c : Ct} (h : XOk X T c) (z : Nat → Bool) : XOk X T { c with fz := z } := ⟨h.hN, h.nd, h.sc, h.kind, h.calm, h.nx, h.fn, h.un, h.fns, h.cst, h.blt, h.lam, h.gex, h.rep⟩
def lc2C (ev : Ct → Expr → Option Cd) (et : Ct → Expr → Option (Bool × BF)) (c : Ct) (elt tg iter : Expr) (ifs : List Expr) (isa : Int) (tg1 iter1 : Expr) (ifs1 : List Expr) (isa1 : Int) (scope : Scope) : Option Cd :=
  match decide (isa = 0) && decide (isa1 = 0), blkC c.N c.sc scope (ownN c.N scope), plainE iter && plainE iter1 with
  | true, true, true =>
    match ev (c.blk scope) elt, gC (c.blk scope) tg, ifsC (et (c.blk scope)) ifs, itC (ev (c.blk scope)) (c.blk scope) false tg1 iter1, gC { c.blk scope with fz := fzBut (tgIx (ownN c.N scope) tg1) } tg1, ifsC (et (c.blk scope)) ifs1 with
    | some el, some g, some (puC, cond), some (puI1, f1), some g1, some (puC1, cond1) => match itC (ev c) c (puC && (puI1 && (puC1 && el.pu))) tg iter with
      | some (puI, f) => some (.ex (puI && (puC && (puI1 && (puC1 && el.pu)))) (eLc2 ((ownN c.N scope).map (·.2)) f g cond f1 (tgIx (ownN c.N scope) tg1) g1 cond1 el))
      | none => none
    | _, _, _, _, _, _ => none
  | _, _, _ => none
section
variable {X : Cx} {T : List (Addr × Str)} {c : Ct} {ev : Ct → Expr → Option Cd} {et : Ct → Expr → Option (Bool × BF)} {elt tg iter tg1 iter1 : Expr} {ifs ifs1 : List Expr} {isa isa1 : Int} {scope : Scope} {pos : Pos}
structure Lc2P (X : Cx) (T : List (Addr × Str)) (c : Ct) (elt tg iter : Expr) (ifs : List Expr) (isa : Int) (tg1 iter1 : Expr) (ifs1 : List Expr) (isa1 : Int) (scope : Scope) (pu : Bool) (F : RF) : Prop where
  is0 : isa = 0
  is1 : isa1 = 0
  bo : BlkOk X.N X.env.scope scope (ownN c.N scope)
  pl : plainE iter = true
  pl1 : plainE iter1 = true
  ex : ∃ (f f1 : IF) (g g1 : GF) (cond cond1 : BF) (el : Cd) (bor puI puC puI1 puC1 : Bool), pu = (puI && (puC && (puI1 && (puC1 && el.pu)))) ∧ F = eLc2 ((ownN c.N scope).map (·.2)) f g cond f1 (tgIx (ownN c.N scope) tg1) g1 cond1 el ∧ PI X tg iter (tI X.K T (tgW tg) bor puI f) ∧
    (∀ (s : Shared) (H : Hp) (C : Addr) (cl : List (Str × Addr)) (fp : List Addr), PG (X.blk s H scope (compEnvC scope cl C X.env) fp) tg (tG X.K T (fzBut ((ownN c.N scope).map (·.2))) (tgW tg) g)) ∧
    (∀ (s : Shared) (H : Hp) (C : Addr) (cl : List (Str × Addr)) (fp : List Addr), PTs (X.blk s H scope (compEnvC scope cl C X.env) fp) ifs (tT X.K T puC cond)) ∧
    (∀ (s : Shared) (H : Hp) (C : Addr) (cl : List (Str × Addr)) (fp : List Addr), PI (X.blk s H scope (compEnvC scope cl C X.env) fp) tg1 iter1 (tI X.K T (tgW tg1) false puI1 f1)) ∧
    (∀ (s : Shared) (H : Hp) (C : Addr) (cl : List (Str × Addr)) (fp : List Addr), PG (X.blk s H scope (compEnvC scope cl C X.env) fp) tg1 (tG X.K T (fzBut (tgIx (ownN c.N scope) tg1)) (tgW tg1) g1)) ∧
    (∀ (s : Shared) (H : Hp) (C : Addr) (cl : List (Str × Addr)) (fp : List Addr), PTs (X.blk s H scope (compEnvC scope cl C X.env) fp) ifs1 (tT X.K T puC1 cond1)) ∧
    (∀ (s : Shared) (H : Hp) (C : Addr) (cl : List (Str × Addr)) (fp : List Addr), PE (X.blk s H scope (compEnvC scope cl C X.env) fp) elt (tV X.K T el)) ∧ (bor = true → (puC && (puI1 && (puC1 && el.pu))) = true)
theorem tgIx_sub {own : List (Str × Nat)} {tg : Expr} : ∀ i ∈ tgIx own tg, i ∈ own.map (·.2) := fun i hi => by
  unfold tgIx at hi
  obtain ⟨y, h1, h2⟩ := List.mem_map.mp hi
  exact List.mem_map.mpr ⟨y, (List.mem_filter.mp h1).1, h2⟩
theorem lc2C_ok (h : XOk X T c) (hv : ∀ (X : Cx) (c : Ct), XOk X T c → ∀ e cd, ev c e = some cd → ES X T e cd ∧ plainE e = true) (ht : ∀ (X : Cx) (c : Ct), XOk X T c → ∀ e pu f, et c e = some (pu, f) → PT X e (tT X.K T pu f))
    {cd : Cd} (e : lc2C ev et c elt tg iter ifs isa tg1 iter1 ifs1 isa1 scope = some cd) : ∃ pu F, cd = .ex pu F ∧ Lc2P X T c elt tg iter ifs isa tg1 iter1 ifs1 isa1 scope pu F := by
  unfold lc2C at e
  split at e
  · rename_i h1 h2 h3
    split at e
    · rename_i el g puC cond puI1 f1 g1 puC1 cond1 h4 h5 h6 h8 h9 h10
      split at e
      · rename_i puI f h7
        cases e
        have hb : BlkOk X.N X.env.scope scope (ownN c.N scope) := by
          rw [h.hN, h.sc]
          exact blkOk_by h2
        have hk := blk_kind h2
        rw [Bool.and_eq_true] at h1 h3
        refine ⟨_, _, rfl, ⟨by simpa using h1.1, by simpa using h1.2, hb, h3.1, h3.2, f, f1, g, g1, cond, cond1, el, puC && (puI1 && (puC1 && el.pu)), puI, puC, puI1, puC1, rfl, rfl, itC_ok h (hv X c h) h7, fun s H C cl fp => ?_, fun s H C cl fp => ?_, fun s H C cl fp => ?_, fun s H C cl fp => ?_, fun s H C cl fp => ?_, fun s H C cl fp => ?_, fun z => z⟩⟩
        · exact gC_ok (h.blk hk s H C cl fp) h5
        · exact ifsC_ok (ht _ _ (h.blk hk s H C cl fp)) h6
        · exact itC_ok (h.blk hk s H C cl fp) (hv _ _ (h.blk hk s H C cl fp)) h8
        · exact gC_ok ((h.blk hk s H C cl fp).fz _) h9
        · exact ifsC_ok (ht _ _ (h.blk hk s H C cl fp)) h10
        · exact (hv _ _ (h.blk hk s H C cl fp) _ _ h4).1.v
      · cases e
    · cases e
  · cases e
theorem Lc2P.es {pu : Bool} {F : RF} (h : XOk X T c) (p : Lc2P X T c elt tg iter ifs isa tg1 iter1 ifs1 isa1 scope pu F) : PE X (.ListComp elt [⟨tg, iter, ifs, isa⟩, ⟨tg1, iter1, ifs1, isa1⟩] scope pos) (tE X.K T pu F) := by
  obtain ⟨h0, h1, hb, hp, hp1, f, f1, g, g1, cond, cond1, el, bor, puI, puC, puI1, puC1, rfl, rfl, hi, hg, ht, hi1, hg1, ht1, he, hbor⟩ := p
  subst h0 h1
  exact es_lc2 h.calm (by rw [h.hN]; exact h.nd) hi hb tgIx_sub hg ht hi1 hg1 ht1 he hp hp1 hbor
end
/-! ### sorted with a lambda, in the text -/
def lamPar (a : Arguments) : Option Str := match a with
  | ⟨[], [⟨x, _, _⟩], none, [], [], none, []⟩ => some x
  | _ => none
theorem lam_bind (x : Str) (ann : Option Expr) (ps : Pos) (body : Expr) (scope : Scope) (q : Str) (cl : List (Str × Addr)) (pm cv ctv u : Value) :
    bindArgs (PySem.W.kla_fn "<lambda>" q ⟨[], [⟨x, ann, ps⟩], none, [], [], none, []⟩ body scope cl pm cv ctv) ⟨[u], []⟩ = pure [(x, u)] := by
  unfold bindArgs PySem.W.kla_fn
  have h : ([(x, u)] : List (Str × Value)).lookup x = some u := by simp
  have hs : seqItems? Value.none = pure none := rfl
  simp [h, hs]
theorem lamPar_ok {a : Arguments} {x : Str} (h : lamPar a = some x) : (∀ env, defaultsOf a env = ([], [])) ∧ ∀ (body : Expr) (scope : Scope) (q : Str) (cl : List (Str × Addr)) (pm cv ctv u : Value), bindArgs (PySem.W.kla_fn "<lambda>" q a body scope cl pm cv ctv) ⟨[u], []⟩ = pure [(x, u)] := by
  unfold lamPar at h
  split at h
  · cases h
    exact ⟨fun env => rfl, fun body scope q cl pm cv ctv u => lam_bind _ _ _ body scope q cl pm cv ctv u⟩
  · cases h
def Ct.lamC (c : Ct) (scope : Scope) : Ct := { c with sc := scope, fnc := fun _ => false, fns := c.fns0, lam := false, gex := false, rep := false, fns0 := [] }
theorem XOk.lamC {X : Cx} {T : List (Addr × Str)} {c : Ct} (h : XOk X T c) {scope : Scope} (hk : scope.kind = .function) {k : Nat} {A : Around} {outer : List PySem.Env} {s : Shared} {H : Hp} {E : XK} {f c' : Addr} (hr : Room k (A.deeper (LamX.lamEnv X scope s.heap.objs.size f c')))
    (hf : ∀ x e, c.fns0.lookup x = some e → ∃ (f : Addr) (fd : FuncData) (ps : List Str), FnOk X.prog X.w X.K X.mg X.base CX0 k f fd ps (spD X.K [] e) ∧ X.mg x = some (.ref f) ∧ PySem.W.keepIn X.K (.ref f) = true ∧ Binds X.K fd ps []) :
    XOk (LamX.lamCx X A outer s H E scope f c').nox [] (c.lamC scope) where
  hN := h.hN
  nd := h.nd
  sc := rfl
  kind := hk
  calm := rfl
  nx := rfl
  fn := fun x z => by cases z
  un := by
    have := hr.un
    show (A.deeper (LamX.lamEnv X scope s.heap.objs.size f c')).units + 200 < cLine
    omega
  fns := fun x e he => by
    obtain ⟨f, fd, ps, h1, h2, h3, h4⟩ := hf x e he
    exact ⟨k, f, fd, ps, .inl h1, hr, h2, h3, h4⟩
  cst := h.cst
  blt := h.blt
  lam := fun z => by cases z
  gex := fun z => by cases z
  rep := fun z => by cases z
def sortC (ev : Ct → Expr → Option Cd) (c : Ct) (f ky : Str) (a : Expr) (params : Arguments) (body : Expr) (scope : Scope) : Option Cd := match decide (f = "sorted"), decide (ky = "key"), gblN c f, c.blt.contains f, c.lam, lamPar params with
  | true, true, true, true, true, some x => match lamS1B c.sc scope x, findN x c.N 0, ev c a, ev (c.lamC scope) body with
    | true, some i, some ca, some el => some (.ex ca.pu (eSortK ca i el))
    | _, _, _, _ => none
  | _, _, _, _, _, _ => none
theorem sortC_ok {X : Cx} {T : List (Addr × Str)} {c : Ct} {ev : Ct → Expr → Option Cd} {f ky : Str} {a : Expr} {params : Arguments} {body : Expr} {scope : Scope} {p kpos lpos pos : Pos} (h : XOk X T c) (hv : ∀ (X : Cx) (T : List (Addr × Str)) (c : Ct), XOk X T c → ∀ e cd, ev c e = some cd → ES X T e cd ∧ plainE e = true) {cd : Cd} (e : sortC ev c f ky a params body scope = some cd) :
    ES X T (.Call (.Name f p) [a] [⟨some ky, .Lambda params body scope lpos, kpos⟩] pos) cd := by
  unfold sortC at e
  split at e
  · rename_i x h1 h2 h3 h4 h5 h6
    split at e
    · rename_i i ca el h7 h8 h9 h10
      cases e
      have e1 : f = "sorted" := by simpa using h1
      have e2 : ky = "key" := by simpa using h2
      subst e1 e2
      obtain ⟨cc, P, k, hr, TB, hcode, hm, hq, hu, hf⟩ := h.lam h5
      obtain ⟨l1, l2⟩ := lamPar_ok h6
      have L : LamS1 X.env.scope scope x := by rw [h.sc]; exact lamS1_by h7
      obtain ⟨g1, g2⟩ := hv X T c h a ca h9
      exact es_sortK (gblN_ok h h3).1 (h.blt _ (by simpa using h4)) (.cons g1 g2 .nil) TB hcode hm hq hu (by rw [h.hN]; exact h.nd) (by rw [h.hN]; exact findN_zero h8) L hr (l1 _) (fun q cl pm cv ctv u => l2 body scope q cl pm cv ctv u)
        fun A outer s H E f c' hr' => (hv _ [] _ (h.lamC L.kind hr' hf) body el h10).1.v
    · cases e
  · cases e
/-! ### all, any of tests of signs, in the text -/
def genSB (scope : Scope) (x : Str) : Bool :=
  decide (scope.kind = .function) && !scope.isCoroutine && decide (scope.names.lookup (".0" : Str) = some NameKind.local) && decide (scope.names.lookup x = some .local) && scope.names.all fun y => !decide (y.2 = .cell) && !decide (y.2 = .free)
theorem genS_by {env : PySem.Env} {scope : Scope} {x : Str} (h : genSB scope x = true) : GxR.GenS env scope x := by
  unfold genSB at h
  simp only [Bool.and_eq_true, Bool.not_eq_true', decide_eq_true_eq, decide_eq_false_iff_not, List.all_eq_true] at h
  obtain ⟨⟨⟨⟨h1, h2⟩, h3⟩, h4⟩, h5⟩ := h
  exact ⟨h1, h2, fun y hy => (h5 y hy).1, h3, h4, fun y hy e => absurd e (h5 y hy).2⟩
def quTest (c : Ct) (scope : Scope) (x : Str) (elt : Expr) : Option Str := match elt with
  | .Compare (.Name x' _) [.In] [.Name G _] _ => match decide (x' = x), gblK (scope.names.lookup G), okNm x, okNm G, c.cst.lookup G with
    | true, true, true, true, some (.str gs) => some gs
    | _, _, _, _, _ => none
  | _ => none
def quC (ev : Expr → Option Cd) (c : Ct) (f x : Str) (elt it : Expr) (scope : Scope) : Option Cd := match quTest c scope x elt, decide (f = "all") || decide (f = "any"), gblN c f, c.blt.contains f, c.gex, genSB scope x, (slotOf it).isSome, ev it with
  | some gs, true, true, true, true, true, true, some ci => some (.ex ci.pu (eQuG (decide (f = "all")) (fun k => decide (k ∈ gs.cps.toList)) ci))
  | _, _, _, _, _, _, _, _ => none
theorem quC_ok {X : Cx} {T : List (Addr × Str)} {c : Ct} {ev : Expr → Option Cd} {f x : Str} {elt it : Expr} {scope : Scope} {p px gp pos : Pos} (h : XOk X T c) (hv : ∀ e cd, ev e = some cd → ES X T e cd ∧ plainE e = true) {cd : Cd} (e : quC ev c f x elt it scope = some cd) :
    ES X T (.Call (.Name f p) [.GeneratorExp elt [⟨.Name x px, it, [], 0⟩] scope gp] [] pos) cd := by
  unfold quC at e
  split at e
  · rename_i gs ci h1 h2 h3 h4 h5 h6 h7 h8
    cases e
    obtain ⟨cc, P, k, hr, TB, hcode, hm, hu⟩ := h.gex h5
    have S := genS_by (env := X.env) h6
    unfold quTest at h1
    split at h1
    · rename_i x' p1 G p2 p3
      split at h1
      · rename_i gs' k1 k2 k3 k4 k5
        cases h1
        obtain ⟨v, u, q1, q2, q3⟩ := h.cst G _ k5
        have hvs : v = .str gs := by
          cases q3 (fun _ => none)
          rfl
        subst hvs
        obtain ⟨tk, rfl⟩ : ∃ t, u = .str gs t := q2
        have ex : x' = x := by simpa using k1
        subst ex
        have hf : f = if decide (f = "all") = true then "all" else "any" := by
          rw [Bool.or_eq_true] at h2
          by_cases z : f = "all"
          · rw [if_pos (by simpa using z)]; exact z
          · rw [if_neg (by simpa using z)]
            rcases h2 with h2 | h2
            · exact absurd (by simpa using h2) z
            · simpa using h2
        have hit : ∀ w, genFold it X.env w = pure w := by
          cases it <;> first | exact fun _ => rfl | cases h7
        exact es_quG hf (gblN_ok h h3).1 (h.blt _ (by simpa using h4)) (hv _ _ h8).1 TB hcode hm hu hr S (testG_in S.kind S.loc (gblK_eq k2) q1 (okNm_d k3).1 (okNm_d k4).1) hit
      · cases h1
    · cases h1
  · cases e
/-! ### the whole of expressions -/
def tOf : Option Cd → Option (Bool × BF)
  | some (.ex pu f) => some (pu, bOf f)
  | _ => none
def tDf : Option Cd → Option (Bool × BF)
  | some cd => some (cd.pu, bTru cd)
  | none => none
def cmpC (a : Option Cd) (ops : List CmpOp) (bs : Option (List Cd)) : Option Cd := match a, ops, bs with
  | some a, [op], some [b] => some (.ex (a.pu && b.pu) (eOp2 (cmpG op) a b))
  | some a, [op, op'], some [b, c] => some (.ex (a.pu && (b.pu && c.pu)) (eChain (cmpG op) (cmpG op') a b c))
  | _, _, _ => none
def subC (ev : Expr → Option Cd) (a : Option Cd) (k : Expr) : Option Cd := match a with
  | some a => match k with
    | .Slice none none (some (.UnaryOp .USub (.Constant (.int 1) _ _) _)) _ => some (.ex a.pu (eOp1 gRev a))
    | .Slice none none none _ => some (.ex (a.pu && (true && true)) (eSl a none none))
    | .Slice (some lo) none none _ => match ev lo with
      | some l => some (.ex (a.pu && (l.pu && true)) (eSl a (some l) none))
      | none => none
    | .Slice none (some hi) none _ => match ev hi with
      | some u => some (.ex (a.pu && (true && u.pu)) (eSl a none (some u)))
      | none => none
    | .Slice (some lo) (some hi) none _ => match ev lo, ev hi with
      | some l, some u => some (.ex (a.pu && (l.pu && u.pu)) (eSl a (some l) (some u)))
      | _, _ => none
    | k => match ev k with
      | some b => some (.ex (a.pu && b.pu) (eOp2 gIx a b))
      | none => none
  | none => none
/-- is None, is not None -/
def isNoneC : List CmpOp → List Expr → Option Bool
  | [.Is], [.Constant .none _ _] => some false
  | [.IsNot], [.Constant .none _ _] => some true
  | _, _ => none
theorem isNoneC_eq {ops : List CmpOp} {bs : List Expr} {neg : Bool} (h : isNoneC ops bs = some neg) : ops = [opIs neg] ∧ ∃ j p, bs = [.Constant .none j p] := by
  unfold isNoneC at h
  split at h
  · cases h; exact ⟨rfl, _, _, rfl⟩
  · cases h; exact ⟨rfl, _, _, rfl⟩
  · cases h
def cX : Nat → Ct → Expr → Option Cd × Option (Bool × BF)
  | 0, _, _ => (none, none)
  | n + 1, c, e =>
    let df := fun (v : Option Cd) => (v, tDf v)
    match e with
    | .Name x _ => df (nameC c x)
    | .Constant k _ _ => df (constC k)
    | .BinOp a op b _ => df (match (cX n c a).1, (cX n c b).1, binG op with
      | some ca, some cb, some g => some (.ex (ca.pu && cb.pu) (eOp2 g ca cb))
      | _, _, _ => none)
    | .UnaryOp .USub a _ => df (match (cX n c a).1 with
      | some ca => some (.ex ca.pu (eOp1 gNeg ca))
      | none => none)
    | .UnaryOp .Not a _ => (match (cX n c a).1 with
      | some ca => some (.ex ca.pu (eNotT (bTru ca)))
      | none => none, match (cX n c a).2 with
      | some (p, f) => some (p, bNot f)
      | none => none)
    | .BoolOp op vs _ => (match mapC (fun e => (cX n c e).1) vs with
      | some cs => match boolV op cs with
        | some (p, f) => some (.ex p f)
        | none => none
      | none => none, match mapC (fun e => (cX n c e).2) vs with
      | some cs => boolT op cs
      | none => none)
    | .IfExp t a b _ => (match (cX n c t).2, (cX n c a).1, (cX n c b).1 with
      | some (p, f), some ca, some cb => some (.ex (p && (ca.pu && cb.pu)) (eIte f ca cb))
      | _, _, _ => none, none)
    | .Compare a ops bs _ =>
      let v := match dnS c a, isNoneC ops bs with
        | some i, some neg => some (.ex true (eIsD neg i))
        | _, _ => (match dInC c ops bs with
          | some (i, neg) => (match (cX n c a).1 with
            | some ck => some (.ex ck.pu (eDIn neg i ck))
            | none => none)
          | none => cmpC (cX n c a).1 ops (mapC (fun e => (cX n c e).1) bs))
      (v, tOf v)
    | .Subscript a k _ => df (match dnS c a with
      | some i => match (cX n c k).1 with
        | some ck => some (.ex ck.pu (eDGet i ck))
        | none => none
      | none => match isDictC a with
        | true => (match (cX n c a).1, (cX n c k).1 with
          | some (.ex p f), some ck => some (.ex (p && ck.pu) (eDGetX f ck))
          | _, _ => none)
        | false => subC (fun e => (cX n c e).1) (cX n c a).1 k)
    | .Dict [] [] _ => df (some (.ex true eDNew))
    | .List es _ => df (match mapC (fun e => (cX n c e).1) es with
      | some cs => some (.ex (cpu cs) (eDis mkLst cs))
      | none => none)
    | .Tuple es _ _ => df (match mapC (fun e => (cX n c e).1) es with
      | some cs => some (.ex (cpu cs) (eDis mkTup cs))
      | none => none)
    | .Call (.Name f _) [a, .Name t q] [] _ => df (match isiC c f t (cX n c a).1 with
      | some cd => some cd
      | none => match mapC (fun e => (cX n c e).1) [a, .Name t q] with
        | some cs => callC c f cs
        | none => none)
    | .Call (.Name f _) [.GeneratorExp elt [⟨.Name x _, it, [], 0⟩] scope _] [] _ => df (quC (fun e => (cX n c e).1) c f x elt it scope)
    | .Call (.Name f _) [a] [⟨some ky, .Lambda params body scope _, _⟩] _ => df (sortC (fun c e => (cX n c e).1) c f ky a params body scope)
    | .Call (.Name f _) args [] _ => df (match itemsC c f args with
      | some i => some (.ex true (eSItems i))
      | none => match mapC (fun e => (cX n c e).1) args with
        | some cs => callC c f cs
        | none => none)
    | .Call (.Attribute o m apos) [] [] cpos => df (match apos.endLine == cpos.line with
      | true => meth0C c o m
      | false => none)
    | .Call (.Attribute o m apos) [a] [] cpos => df (match apos.endLine == cpos.line with
      | true => meth1C c o m (cX n c o).1 (cX n c a).1
      | false => none)
    | .Call (.Attribute o m apos) [a, b] [] cpos => df (match apos.endLine == cpos.line with
      | true => (match dnS c o with
        | some i => (match decide (m = "setdefault"), (cX n c a).1, (cX n c b).1 with
          | true, some ca, some cb => some (.ex false (eDSet i ca cb))
          | _, _, _ => none)
        | none => meth2C c o m (cX n c a).1 (cX n c b).1)
      | false => none)
    | .FormattedValue a (-1) none _ => df (match (cX n c a).1 with
      | some ca => some (.ex ca.pu (eOp1 gFmt ca))
      | none => none)
    | .JoinedStr es _ => df (match es with
      | [] => none
      | [_] => none
      | v1 :: v2 :: rest => match mapC (fun e => (cX n c e).1) (v1 :: v2 :: rest) with
        | some cs => some (.ex (cpu cs) (eJs cs))
        | none => none)
    | .ListComp elt [⟨tg, iter, ifs, isa⟩, ⟨tg1, iter1, ifs1, isa1⟩] scope _ => df (lc2C (fun c e => (cX n c e).1) (fun c e => (cX n c e).2) c elt tg iter ifs isa tg1 iter1 ifs1 isa1 scope)
    | .ListComp elt [⟨tg, iter, ifs, isa⟩] scope _ => df (lcC (fun c e => (cX n c e).1) (fun c e => (cX n c e).2) c elt tg iter ifs isa scope)
    | _ => (none, none)
end Pv

/-! Fw13: what expressions compute is what they do. -/
namespace Pv
open PySem PySem.Spec PyProof.Rows L2

def XR (X : Cx) (T : List (Addr × Str)) (e : Expr) (r : Option Cd × Option (Bool × BF)) : Prop :=
  (∀ cd, r.1 = some cd → ES X T e cd ∧ plainE e = true) ∧ ∀ pu f, r.2 = some (pu, f) → PT X e (tT X.K T pu f)
section
variable {X : Cx} {T : List (Addr × Str)} {e : Expr}
theorem df_ok {v : Option Cd} (h : ∀ cd, v = some cd → ES X T e cd) (hp : plainE e = true) (hd : dfltTest e = true) : XR X T e (v, tDf v) := by
  refine ⟨fun cd hc => ⟨h cd hc, hp⟩, fun pu f hf => ?_⟩
  have hf : tDf v = some (pu, f) := hf
  unfold tDf at hf
  split at hf
  · cases hf
    exact et_tru (h _ rfl) hd
  · cases hf
theorem none_ok : XR X T e (none, none) := by
  refine ⟨fun cd h => ?_, fun pu f h => ?_⟩
  · cases h
  · cases h
theorem cmp_v (hx : ∀ op, ∃ r, OpR X (compareOp op) r ∧ Sem2 X.K T r (cmpG op)) {a : Expr} {ops : List CmpOp} {bs : List Expr} {pos : Pos} {ca : Option Cd} {cbs : Option (List Cd)} (ha : ∀ cd, ca = some cd → ES X T a cd) (hb : ∀ cs, cbs = some cs → ESs X T bs cs) :
    XR X T (.Compare a ops bs pos) (cmpC ca ops cbs, tOf (cmpC ca ops cbs)) := by
  unfold cmpC
  split
  · rename_i a' op b
    have h1 := ha _ rfl
    obtain ⟨r, ho, hg⟩ := hx op
    have h2 := hb _ rfl
    cases h2 with
    | cons h3 hp h4 =>
      cases h4
      refine ⟨fun cd hc => ?_, fun pu f hf => ?_⟩
      · cases hc
        exact ⟨es_cmp ho hg h1 h3 hp, rfl⟩
      · cases hf
        exact et_cmp ho hg h1 h3 hp
  · rename_i a' op op' b c
    have h1 := ha _ rfl
    obtain ⟨r, ho, hg⟩ := hx op
    obtain ⟨r', ho', hg'⟩ := hx op'
    have h2 := hb _ rfl
    cases h2 with
    | cons h3 hp h4 =>
      cases h4 with
      | cons h5 hp5 h6 =>
        cases h6
        refine ⟨fun cd hc => ?_, fun pu f hf => ?_⟩
        · cases hc
          exact ⟨es_chain ho hg ho' hg' h1 h3 h5 hp hp5, rfl⟩
        · cases hf
          exact et_chain ho hg ho' hg' h1 h3 h5 hp hp5
  · exact none_ok
theorem sub_v {ev : Expr → Option Cd} (hv : ∀ e cd, ev e = some cd → ES X T e cd ∧ plainE e = true) {a k : Expr} {pos : Pos} {ca : Option Cd} (ha : ∀ cd, ca = some cd → ES X T a cd) {cd : Cd} (h : subC ev ca k = some cd) : ES X T (.Subscript a k pos) cd := by
  unfold subC at h
  split at h
  · rename_i a'
    have h1 := ha _ rfl
    split at h
    · cases h
      exact es_rev h1
    · cases h
      exact es_sl h1 .none .none
    · split at h
      · rename_i l hl
        cases h
        exact es_sl h1 (.some (hv _ _ hl).1) .none
      · cases h
    · split at h
      · rename_i u hu
        cases h
        exact es_sl h1 .none (.some (hv _ _ hu).1)
      · cases h
    · split at h
      · rename_i l u hl hu
        cases h
        exact es_sl h1 (.some (hv _ _ hl).1) (.some (hv _ _ hu).1)
      · cases h
    · split at h
      · rename_i b hb
        cases h
        exact es_ix ix_seq sem_ix h1 (hv _ _ hb).1 (hv _ _ hb).2
      · cases h
  · cases h
end
theorem cX_ok : ∀ (n : Nat) (T : List (Addr × Str)) (X : Cx) (c : Ct), XOk X T c → ∀ e, XR X T e (cX n c e)
  | 0, T, X, c, h, e => none_ok
  | n + 1, T, X, c, h, e => by
    have ihT := cX_ok n
    have ih := ihT T
    have ihv : ∀ e cd, (cX n c e).1 = some cd → ES X T e cd ∧ plainE e = true := fun e => (ih X c h e).1
    have iht : ∀ e pu f, (cX n c e).2 = some (pu, f) → PT X e (tT X.K T pu f) := fun e => (ih X c h e).2
    unfold cX
    simp only
    split
    · exact df_ok (fun cd hc => nameC_ok h hc) rfl rfl
    · exact df_ok (fun cd hc => constC_ok hc) rfl rfl
    · refine df_ok (fun cd hc => ?_) rfl rfl
      split at hc
      · rename_i ca cb g h1 h2 h3
        cases hc
        obtain ⟨r, ho, hg⟩ := binG_ok (X := X) (T := T) h3
        exact es_bin ho hg (ihv _ _ h1).1 (ihv _ _ h2).1
      · cases hc
    · refine df_ok (fun cd hc => ?_) rfl rfl
      split at hc
      · rename_i ca h1
        cases hc
        exact es_un un_neg sem_neg (ihv _ _ h1).1
      · cases hc
    · refine ⟨fun cd hc => ?_, fun pu f hf => ?_⟩
      · simp only at hc
        split at hc
        · rename_i ca h1
          cases hc
          exact ⟨es_notT (ihv _ _ h1).1, rfl⟩
        · cases hc
      · simp only at hf
        split at hf
        · rename_i p f' h1
          cases hf
          exact et_not (iht _ _ _ h1)
        · cases hf
    · refine ⟨fun cd hc => ?_, fun pu f hf => ?_⟩
      · simp only at hc
        split at hc
        · rename_i cs h1
          split at hc
          · rename_i p f' h2
            cases hc
            exact ⟨boolV_ok (mapC_es ihv h1) h2, rfl⟩
          · cases hc
        · cases hc
      · simp only at hf
        split at hf
        · rename_i cs h1
          exact (boolT_ok (mapC_et (fun e a ha => iht e a.1 a.2 ha) h1) hf).pt
        · cases hf
    · refine ⟨fun cd hc => ?_, fun pu f hf => by cases hf⟩
      simp only at hc
      split at hc
      · rename_i p f' ca cb h1 h2 h3
        cases hc
        exact ⟨es_ite (iht _ _ _ h1) (ihv _ _ h2).1 (ihv _ _ h3).1, rfl⟩
      · cases hc
    · split
      · rename_i i neg h1 h2
        obtain ⟨rfl, j, p, rfl⟩ := isNoneC_eq h2
        refine ⟨fun cd hc => ?_, fun pu f hf => ?_⟩
        · cases hc
          exact ⟨es_isD (dnS_ok (T := T) h h1), rfl⟩
        · cases hf
          exact et_isD (dnS_ok (T := T) h h1)
      · split
        · rename_i i neg h1
          obtain ⟨rfl, o, rfl, ho, hb⟩ := dInC_eq h1
          refine ⟨fun cd hc => ?_, fun pu f hf => ?_⟩
          · simp only at hc
            split at hc
            · rename_i ck h2
              cases hc
              exact ⟨es_dIn (by have := h.un; omega) (dnS_ok (T := T) h ho) (ihv _ _ h2).1 hb, rfl⟩
            · cases hc
          · simp only at hf
            split at hf
            · rename_i ck h2
              cases hf
              exact et_dIn (by have := h.un; omega) (dnS_ok (T := T) h ho) (ihv _ _ h2).1 hb
            · cases hf
        · exact cmp_v (cmpG_ok h) (fun cd hc => (ihv _ _ hc).1) fun cs hc => mapC_es ihv hc
    · refine df_ok (fun cd hc => ?_) rfl rfl
      split at hc
      · rename_i i hi
        split at hc
        · rename_i ck h1
          cases hc
          exact es_dget (by have := h.un; omega) (dnS_ok (T := T) h hi) (ihv _ _ h1).1 (ihv _ _ h1).2
        · cases hc
      · split at hc
        · split at hc
          · rename_i p f ck h1 h2
            cases hc
            exact es_dgetX (by have := h.un; omega) (ihv _ _ h1).1 (ihv _ _ h2).1 (ihv _ _ h2).2
          · cases hc
        · exact sub_v ihv (fun cd hc => (ihv _ _ hc).1) hc
    · exact df_ok (fun cd hc => (by cases hc; exact es_dnew)) rfl rfl
    · refine df_ok (fun cd hc => ?_) rfl rfl
      split at hc
      · rename_i cs h1
        cases hc
        exact es_lst (mapC_es ihv h1)
      · cases hc
    · refine df_ok (fun cd hc => ?_) rfl rfl
      split at hc
      · rename_i cs h1
        cases hc
        exact es_tup (mapC_es ihv h1)
      · cases hc
    · rename_i f p a t q pos
      refine df_ok (fun cd hc => ?_) rfl rfl
      split at hc
      · rename_i cd' h1
        cases hc
        have hpl : plainE a = true := by
          unfold isiC at h1
          split at h1
          · split at h1
            · rename_i ca _ h2
              exact (ihv _ _ h2).2
            · cases h1
          · cases h1
        exact isiC_ok h hpl (fun cd hc => (ihv _ _ hc).1) h1
      · split at hc
        · rename_i cs h1
          exact callC_ok h (mapC_es ihv h1) hc
        · cases hc
    · exact df_ok (fun cd hc => quC_ok h ihv hc) rfl rfl
    · exact df_ok (fun cd hc => sortC_ok h (fun X T c hx e cd hc => (ihT T X c hx e).1 cd hc) hc) rfl rfl
    · refine df_ok (fun cd hc => ?_) rfl rfl
      split at hc
      · rename_i i hi
        cases hc
        exact itemsC_ok h hi
      · split at hc
        · rename_i cs h1
          exact callC_ok h (mapC_es ihv h1) hc
        · cases hc
    · refine df_ok (fun cd hc => ?_) rfl rfl
      split at hc
      · rename_i hl
        exact meth0C_ok h hl hc
      · cases hc
    · rename_i o m apos a cpos
      refine df_ok (fun cd hc => ?_) rfl rfl
      split at hc
      · rename_i hl
        have hpl : plainE a = true := by
          unfold meth1C at hc
          split at hc
          · rename_i ce h2
            exact (ihv _ _ h2).2
          · cases hc
        exact meth1C_ok h hl hpl (fun cd hc => (ihv _ _ hc).1) (fun cd hc => (ihv _ _ hc).1) hc
      · cases hc
    · refine df_ok (fun cd hc => ?_) rfl rfl
      split at hc
      · rename_i hl
        split at hc
        · rename_i i hi
          split at hc
          · rename_i ca cb h1 h2 h3
            cases hc
            have hm := of_decide_eq_true h1
            subst hm
            have ho := dnS_ok (T := T) h hi
            exact es_dset (fun m => dnS_attr hi) ho (ihv _ _ h2).1 (ihv _ _ h2).2 (ihv _ _ h3).1 (ihv _ _ h3).2 hl
          · cases hc
        · exact meth2C_ok h hl (fun cd hc => ihv _ _ hc) (fun cd hc => ihv _ _ hc) hc
      · cases hc
    · refine df_ok (fun cd hc => ?_) rfl rfl
      split at hc
      · rename_i ca h1
        cases hc
        exact es_fmt (ihv _ _ h1).1
      · cases hc
    · refine df_ok (fun cd hc => ?_) rfl rfl
      split at hc
      · cases hc
      · cases hc
      · split at hc
        · rename_i cs h1
          cases hc
          exact es_js (mapC_es ihv h1)
        · cases hc
    · refine df_ok (fun cd hc => ?_) rfl rfl
      obtain ⟨pu, F, rfl, p⟩ := lc2C_ok h (fun X c hx e cd => (ih X c hx e).1 cd) (fun X c hx e pu f => (ih X c hx e).2 pu f) hc
      exact p.es h
    · refine df_ok (fun cd hc => ?_) rfl rfl
      obtain ⟨pu, F, rfl, p⟩ := lcC_ok h (fun X c hx e cd => (ih X c hx e).1 cd) (fun X c hx e pu f => (ih X c hx e).2 pu f) hc
      exact p.es h
    · exact none_ok
end Pv

/-! Fw14: statements, in the text. -/
namespace Pv
open PySem PySem.Spec PyProof.Rows L2

def noComp : Expr → Bool
  | .ListComp _ _ _ _ => false
  | .SetComp _ _ _ _ => false
  | .DictComp _ _ _ _ _ => false
  | _ => true
theorem noComp_sw {e : Expr} {t : Option Expr} {l : Nat} {env : PySem.Env} (h : noComp e = true) : swapsWith e t l env = pure false := by
  cases e <;> first | rfl | cases h
/-! ### a, b = x, y -/
def sPar (i j : Nat) (a b : Cd) : SF := fun ρ => match vE a ρ with
  | some (x, ρ1) => match vE b ρ1 with
    | some (y, ρ2) => if i < ρ2.length ∧ j < ρ2.length then some (.nx ((ρ2.set i (some (.val x))).set j (some (.val y)))) else none
    | none => none
  | none => none
theorem ss_par {X : Cx} {T : List (Addr × Str)} {fz : Nat → Bool} {i j : Nat} {x y : Str} {a b : Expr} {ca cb : Cd} {px py pt pos : Pos} {kt k2 : Nat} {pt2 : Pos} (hc : X.calm = true) (hN : X.N.Nodup) (hi : X.N[i]? = some x) (hj : X.N[j]? = some y) (hij : i ≠ j)
    (hx : X.env.scope.names.lookup x = some .local) (hy : X.env.scope.names.lookup y = some .local) (ha : ES X T a ca) (hb : ES X T b cb) (pa : plainE a = true) (pb : plainE b = true) (zi : fz i = false) (zj : fz j = false)
    (hw : swappedStores [.Tuple [.Name x px, .Name y py] kt pt] (.Tuple [a, b] k2 pt2) X.env = pure (some [x, y])) :
    PS X (.Assign [.Tuple [.Name x px, .Name y py] kt pt] (.Tuple [a, b] k2 pt2) pos) (tS X.K T fz (sPar i j ca cb)) := by
  refine ps_imp (ps_par hc hN hi hj hij hx hy (pa_cons ha.v (pa_cons hb.v pa_nil (plain_star pb)) (plain_star pa)) hw) fun D σ H q => ?_
  obtain ⟨O, ρ, out, S, e, q⟩ := q
  unfold sPar at e
  split at e
  · rename_i d ρ1 e1
    split at e
    · rename_i d2 ρ2 e2
      split at e
      · rename_i hl
        cases e
        refine ⟨O, ρ, d, ρ1, S, e1, fun v O1 H1 S1 t1 p1 dv => ⟨O1, ρ1, d2, ρ2, S1, e2, fun w O2 H2 S2 t2 p2 dw => ⟨v, w, rfl, ?_⟩⟩⟩
        have dv2 := t2.mask.dp dv
        have t12 := t1.trans S.cov' t2
        have S3 := set_ok (r := .val d) (H0 := H) S2 hl.1 dv2
        have t3 := set_tr (r := .val d) S2 t12 hl.1 dv2
        have hl2 : j < (ρ2.set i (some (.val d))).length := by rw [List.length_set]; exact hl.2
        exact q O2 _ H2 (set_ok (r := .val d2) (H0 := H) S3 hl2 dw) (set_tr (r := .val d2) S3 t3 hl2 dw) ((FzR.set zi).trans (FzR.set zj))
      · cases e
    · cases e
  · cases e
/-- the stores of a pair are swapped -/
def parOk (c : Ct) (x y : Str) (px py : Pos) (a b : Expr) : Bool :=
  decide (c.sc.names.lookup x = some .local) && decide (c.sc.names.lookup y = some .local) && (px.line == py.line) && !(x == y) && !([a, b].all (foldedForSure 8)) && !([a, b].all (constantsAlone 8)) && plainE a && plainE b
theorem parOk_ok {X : Cx} {T : List (Addr × Str)} {c : Ct} (h : XOk X T c) {x y : Str} {px py pt pt2 : Pos} {kt k2 : Nat} {a b : Expr} (e : parOk c x y px py a b = true) :
    swappedStores [.Tuple [.Name x px, .Name y py] kt pt] (.Tuple [a, b] k2 pt2) X.env = pure (some [x, y]) := by
  unfold parOk at e
  simp only [Bool.and_eq_true, decide_eq_true_eq, Bool.not_eq_true'] at e
  obtain ⟨⟨⟨⟨⟨⟨⟨e1, e2⟩, e3⟩, e4⟩, e5⟩, e6⟩, e7⟩, e8⟩ := e
  have k1 : (X.env.kindOf x == some .local) = true := by
    show (X.env.scope.names.lookup x == some .local) = true
    rw [h.sc, e1]; rfl
  have k2 : (X.env.kindOf y == some .local) = true := by
    show (X.env.scope.names.lookup y == some .local) = true
    rw [h.sc, e2]; rfl
  have hb : (X.env.blockKind != .function) = false := by
    have : X.env.blockKind = .function := by
      unfold Env.blockKind
      rw [h.sc, h.kind]
      rfl
    rw [this]; rfl
  have hst : ∀ z : Expr, plainE z = true → (match z with | .Starred .. => true | _ => false) = false := fun z hz => by
    cases z <;> first | rfl | cases hz
  have hs : ([a, b].any fun | .Starred .. => true | _ => false) = false := by
    simp only [List.any_cons, List.any_nil]
    rw [hst a e7, hst b e8]; rfl
  have l1 : (px.line == px.line) = true := by simp
  have l2 : (py.line == px.line) = true := by
    have : px.line = py.line := by simpa using e3
    rw [this]; simp
  have hxy : x ≠ y := by simpa using e4
  unfold swappedStores
  simp only [hb, hs, hst a e7, hst b e8, k1, k2, e5, e6, List.length_cons, List.length_nil, List.head?_cons, Option.map_some, Option.getD_some, Expr.pos, l1, l2, List.filterMap_cons, List.filterMap_nil, Bool.and_self, if_true, Bool.or_false, bne_self_eq_false]
  have hd : [x, y].eraseDups = [x, y] := by
    simp [List.eraseDups_cons, Ne.symm hxy]
  simp [hd]
  intro hh
  exfalso
  rcases hh with hh | hh
  · cases a <;> first | (cases hh; done) | (cases e7; done)
  · cases b <;> first | (cases hh; done) | (cases e8; done)
/-- the stores of a triple are swapped -/
def parOk3 (c : Ct) (x y z : Str) (px py pz : Pos) (a b e : Expr) : Bool :=
  (decide (c.sc.names.lookup x = some .local) && decide (c.sc.names.lookup y = some .local) && decide (c.sc.names.lookup z = some .local)) && ((px.line == py.line) && (px.line == pz.line)) && (!(x == y) && !(x == z) && !(y == z)) && (!([a, b, e].all (foldedForSure 8)) && !([a, b, e].all (constantsAlone 8))) && (plainE a && plainE b && plainE e)
theorem parOk3_ok {X : Cx} {T : List (Addr × Str)} {c : Ct} (h : XOk X T c) {x y z : Str} {px py pz pt pt2 : Pos} {kt k2 : Nat} {a b e : Expr} (k : parOk3 c x y z px py pz a b e = true) :
    swappedStores [.Tuple [.Name x px, .Name y py, .Name z pz] kt pt] (.Tuple [a, b, e] k2 pt2) X.env = pure (some [x, y, z]) := by
  unfold parOk3 at k
  simp only [Bool.and_eq_true, decide_eq_true_eq, Bool.not_eq_true'] at k
  obtain ⟨⟨⟨⟨⟨⟨e1, e2⟩, e3⟩, e4, e5⟩, ⟨e6, e7⟩, e8⟩, e9, e10⟩, ⟨e11, e12⟩, e13⟩ := k
  have kd : ∀ {w : Str}, c.sc.names.lookup w = some .local → (X.env.kindOf w == some .local) = true := fun {w} hw => by
    show (X.env.scope.names.lookup w == some .local) = true
    rw [h.sc, hw]; rfl
  have k1 := kd e1
  have k2 := kd e2
  have k3 := kd e3
  have hb : (X.env.blockKind != .function) = false := by
    have : X.env.blockKind = .function := by
      unfold Env.blockKind
      rw [h.sc, h.kind]
      rfl
    rw [this]; rfl
  have hst : ∀ z : Expr, plainE z = true → (match z with | .Starred .. => true | _ => false) = false := fun z hz => by
    cases z <;> first | rfl | cases hz
  have l1 : (px.line == px.line) = true := by simp
  have l2 : (py.line == px.line) = true := by
    have : px.line = py.line := by simpa using e4
    rw [this]; simp
  have l3 : (pz.line == px.line) = true := by
    have : px.line = pz.line := by simpa using e5
    rw [this]; simp
  have n1 : x ≠ y := by simpa using e6
  have n2 : x ≠ z := by simpa using e7
  have n3 : y ≠ z := by simpa using e8
  have hs : ([a, b, e].any fun | .Starred .. => true | _ => false) = false := by
    simp only [List.any_cons, List.any_nil]
    rw [hst a e11, hst b e12, hst e e13]; rfl
  unfold swappedStores
  simp only [hb, hs, hst a e11, hst b e12, hst e e13, k1, k2, k3, e9, e10, List.length_cons, List.length_nil, List.head?_cons, Option.map_some, Option.getD_some, Expr.pos, l1, l2, l3, List.filterMap_cons, List.filterMap_nil, Bool.and_self, if_true, Bool.or_false, bne_self_eq_false]
  have hd : [x, y, z].eraseDups = [x, y, z] := by
    simp [List.eraseDups_cons, Ne.symm n1, Ne.symm n2, Ne.symm n3]
  simp [hd]
  intro hh
  exfalso
  rcases hh with hh | hh | hh
  · cases a <;> first | (cases hh; done) | (cases e11; done)
  · cases b <;> first | (cases hh; done) | (cases e12; done)
  · cases e <;> first | (cases hh; done) | (cases e13; done)
theorem tup_sw {e : Expr} {ts : List Expr} {k : Nat} {p : Pos} {l : Nat} {env : PySem.Env} (h : isTupE e = false) : swapsWithSole [.Tuple ts k p] e l env = pure false ∧ swappedStores [.Tuple ts k p] e env = pure none := by
  cases e <;> first | exact ⟨rfl, rfl⟩ | cases h
/-! ### name = value -/
def swC (c : Ct) (x : Str) (p' p : Pos) (scope : Scope) : Bool :=
  decide (c.sc.names.lookup x = some .local) && (p'.line == p.line) && !(scope.names.any fun y => y.1 == x && (y.2 == .local || y.2 == .cell))
theorem sw_false {X : Cx} {T : List (Addr × Str)} {c : Ct} (h : XOk X T c) {x : Str} {p' p : Pos} {scope : Scope} {elt : Expr} {gs : List Comprehension} {l : Nat} (e : swC c x p' p scope = false) :
    swapsWith (.ListComp elt gs scope p) (some (.Name x p')) l X.env = pure false := by
  have hb : X.env.blockKind = .function := by
    unfold Env.blockKind
    rw [h.sc, h.kind]
    rfl
  have hk : (X.env.kindOf x == some .local) = decide (c.sc.names.lookup x = some .local) := by
    show (X.env.scope.names.lookup x == some .local) = _
    rw [h.sc]
    cases q : (c.sc.names.lookup x) with
    | none => rfl
    | some k => cases k <;> rfl
  show (pure (X.env.blockKind == .function && X.env.kindOf x == some .local && p'.line == p.line && !(scope.names.any fun (n, k) => n == x && (k == .local || k == .cell))) : Sem Bool) = pure false
  have key : (X.env.blockKind == .function && X.env.kindOf x == some .local && p'.line == p.line && !(scope.names.any fun (n, k) => n == x && (k == .local || k == .cell))) = false := by
    rw [hb, hk]
    unfold swC at e
    exact e
  rw [key]
theorem sw_yes {X : Cx} {T : List (Addr × Str)} {c : Ct} (h : XOk X T c) {x : Str} {p' p : Pos} {scope : Scope} {elt : Expr} {gs : List Comprehension} {l : Nat} (e : swC c x p' p scope = true) :
    X.env.scope.names.lookup x = some .local ∧ swapsWith (.ListComp elt gs scope p) (some (.Name x p')) l X.env = pure true := by
  unfold swC at e
  simp only [Bool.and_eq_true, decide_eq_true_eq, Bool.not_eq_true'] at e
  have h1 : X.env.scope.names.lookup x = some .local := by rw [h.sc]; exact e.1.1
  exact ⟨h1, sw_true (by rw [h.sc]; exact h.kind) h1 e.1.2 e.2⟩
theorem sw_falseD {X : Cx} {T : List (Addr × Str)} {c : Ct} (h : XOk X T c) {x : Str} {p' p : Pos} {scope : Scope} {kx vx : Expr} {gs : List Comprehension} {l : Nat} (e : swC c x p' p scope = false) :
    swapsWith (.DictComp kx vx gs scope p) (some (.Name x p')) l X.env = pure false := by
  have hb : X.env.blockKind = .function := by
    unfold Env.blockKind
    rw [h.sc, h.kind]
    rfl
  have hk : (X.env.kindOf x == some .local) = decide (c.sc.names.lookup x = some .local) := by
    show (X.env.scope.names.lookup x == some .local) = _
    rw [h.sc]
    cases q : (c.sc.names.lookup x) with
    | none => rfl
    | some k => cases k <;> rfl
  show (pure (X.env.blockKind == .function && X.env.kindOf x == some .local && p'.line == p.line && !(scope.names.any fun (n, k) => n == x && (k == .local || k == .cell))) : Sem Bool) = pure false
  have key : (X.env.blockKind == .function && X.env.kindOf x == some .local && p'.line == p.line && !(scope.names.any fun (n, k) => n == x && (k == .local || k == .cell))) = false := by
    rw [hb, hk]
    unfold swC at e
    exact e
  rw [key]
theorem sw_yesD {X : Cx} {T : List (Addr × Str)} {c : Ct} (h : XOk X T c) {x : Str} {p' p : Pos} {scope : Scope} {kx vx : Expr} {gs : List Comprehension} {l : Nat} (e : swC c x p' p scope = true) :
    X.env.scope.names.lookup x = some .local ∧ swapsWith (.DictComp kx vx gs scope p) (some (.Name x p')) l X.env = pure true := by
  unfold swC at e
  simp only [Bool.and_eq_true, decide_eq_true_eq, Bool.not_eq_true'] at e
  have h1 : X.env.scope.names.lookup x = some .local := by rw [h.sc]; exact e.1.1
  exact ⟨h1, sw_trueD (by rw [h.sc]; exact h.kind) h1 e.1.2 e.2⟩
/-! ### statements -/
def exN : Nat := 40
def cE (c : Ct) (e : Expr) : Option Cd := (cX exN c e).1
def cB (c : Ct) (e : Expr) : Option (Bool × BF) := (cX exN c e).2
theorem cE_ok {X : Cx} {T : List (Addr × Str)} {c : Ct} (h : XOk X T c) {e : Expr} {cd : Cd} (he : cE c e = some cd) : ES X T e cd ∧ plainE e = true := (cX_ok exN T X c h e).1 cd he
theorem cB_ok {X : Cx} {T : List (Addr × Str)} {c : Ct} (h : XOk X T c) {e : Expr} {pu : Bool} {f : BF} (he : cB c e = some (pu, f)) : PT X e (tT X.K T pu f) := (cX_ok exN T X c h e).2 pu f he
def asgC (c : Ct) (x : Str) (p' : Pos) (e : Expr) : Option SF := match gC1 c x with
  | some i => match e with
    | .ListComp elt [⟨tg, iter, ifs, isa⟩, ⟨tg1, iter1, ifs1, isa1⟩] scope p => match lc2C cE cB c elt tg iter ifs isa tg1 iter1 ifs1 isa1 scope with
      | some cd => some (sAsg cd i)
      | none => none
    | .ListComp elt [⟨tg, iter, ifs, isa⟩] scope p => match lcC cE cB c elt tg iter ifs isa scope with
      | some cd => some (sAsg cd i)
      | none => none
    | .DictComp kx vx [⟨tg, iter, ifs, isa⟩] scope p => match dcC cE cB c kx vx tg iter ifs isa scope with
      | some cd => some (sAsg cd i)
      | none => none
    | .Name y q => match c.mv.contains (q.line : Int), visN c y with
      | true, some j => some (sMov j i)
      | _, _ => match cE c (.Name y q) with
        | some cd => some (sAsg cd i)
        | none => none
    | e => match noComp e, cE c e with
      | true, some cd => some (sAsg cd i)
      | _, _ => none
  | none => none
theorem asgC_ok {X : Cx} {T : List (Addr × Str)} {c : Ct} (h : XOk X T c) {x : Str} {p' pos : Pos} {e : Expr} {f : SF} (he : asgC c x p' e = some f) : PS X (.Assign [.Name x p'] e pos) (tS X.K T c.fz f) := by
  unfold asgC at he
  split at he
  · rename_i i hi
    obtain ⟨q1, q2, q3, q4⟩ := gC1_ok h hi
    have nd : X.N.Nodup := by rw [h.hN]; exact h.nd
    split at he
    · rename_i elt tg iter ifs isa tg1 iter1 ifs1 isa1 scope p
      split at he
      · rename_i cd hcd
        cases he
        obtain ⟨pu, F, rfl, pp⟩ := lc2C_ok h (fun X c hx e cd hc => cE_ok hx hc) (fun X c hx e pu f hc => cB_ok hx hc) hcd
        cases hsw : swC c x p' p scope with
        | false => exact ss_set nd q1 q2 (show ES X T _ (.ex pu F) from pp.es h) (sw_false h hsw) q3 q4
        | true =>
          obtain ⟨k1, k2⟩ := sw_yes (elt := elt) (gs := [⟨tg, iter, ifs, isa⟩, ⟨tg1, iter1, ifs1, isa1⟩]) (l := pos.line) h hsw
          obtain ⟨h0, h1, hb, hp, hp1, f, f1, g, g1, cond, cond1, el, bor, puI, puC, puI1, puC1, rfl, rfl, hi, hg, ht, hi1, hg1, ht1, hel, hbor⟩ := pp
          subst h0 h1
          exact ss_setLc2 h.calm nd q1 k1 k2 q4 hi hb tgIx_sub hg ht hi1 hg1 ht1 hel hp hp1 hbor
      · cases he
    · rename_i elt tg iter ifs isa scope p
      split at he
      · rename_i cd hcd
        cases he
        obtain ⟨pu, F, rfl, pp⟩ := lcC_ok h (fun X c hx e cd hc => cE_ok hx hc) (fun X c hx e pu f hc => cB_ok hx hc) hcd
        cases hsw : swC c x p' p scope with
        | false => exact ss_set nd q1 q2 (show ES X T _ (.ex pu F) from pp.es h) (sw_false h hsw) q3 q4
        | true =>
          obtain ⟨k1, k2⟩ := sw_yes (elt := elt) (gs := [⟨tg, iter, ifs, isa⟩]) (l := pos.line) h hsw
          obtain ⟨h0, hb, hp, g', gg, cond, el, bor, puI, puC, rfl, rfl, hi, hg, ht, hel, hbor⟩ := pp
          subst h0
          exact ss_setLc h.calm nd q1 k1 k2 q4 hi hb hg ht hel hp hbor
      · cases he
    · rename_i kx vx tg iter ifs isa scope p
      split at he
      · rename_i cd hcd
        cases he
        obtain ⟨pu, F, rfl, pp⟩ := dcC_ok h (fun X c hx e cd hc => cE_ok hx hc) (fun X c hx e pu f hc => cB_ok hx hc) hcd
        cases hsw : swC c x p' p scope with
        | false => exact ss_set nd q1 q2 (show ES X T _ (.ex pu F) from pp.es h) (sw_falseD h hsw) q3 q4
        | true =>
          obtain ⟨k1, k2⟩ := sw_yesD (kx := kx) (vx := vx) (gs := [⟨tg, iter, ifs, isa⟩]) (l := pos.line) h hsw
          obtain ⟨h0, hb, hp, g', gg, cond, ek, el, bor, puI, puC, rfl, rfl, hi, hg, ht, hk, hel, hbor⟩ := pp
          subst h0
          exact ss_setDc h.calm nd q1 k1 k2 q4 hi hb hg ht hk hel hp hbor
      · cases he
    · split at he
      · rename_i j hm hj
        cases he
        exact ss_mov nd q1 q2 (visN_ok h hj) rfl q3 q4
      · split at he
        · rename_i cd hcd
          cases he
          exact ss_set nd q1 q2 (cE_ok h hcd).1 rfl q3 q4
        · cases he
    · split at he
      · rename_i cd hn hcd
        cases he
        exact ss_set nd q1 q2 (cE_ok h hcd).1 (noComp_sw hn) q3 q4
      · cases he
  · cases he
def foldS : List SF → SF
  | [] => sNop
  | f :: fs => sSeq f (foldS fs)
def mapS (f : Stmt → Option SF) : List Stmt → Option SF
  | [] => some sNop
  | s :: ss => match f s, mapS f ss with
    | some g, some gs => some (sSeq g gs)
    | _, _ => none
theorem mapS_ok {X : Cx} {T : List (Addr × Str)} {fz : Nat → Bool} {f : Stmt → Option SF} (hf : ∀ s g, f s = some g → PS X s (tS X.K T fz g)) : ∀ {ss : List Stmt} {g : SF}, mapS f ss = some g → PSs X ss (tS X.K T fz g)
  | [], g, e => by cases e; exact ss_nil
  | s :: ss, g, e => by
    unfold mapS at e
    split at e
    · rename_i g1 gs h1 h2
      cases e
      exact ss_cons (hf _ _ h1) (mapS_ok hf h2)
    · cases e
def cS : Nat → Ct → Stmt → Option SF
  | 0, _, _ => none
  | n + 1, c, st => match st with
    | .Pass _ => some sNop
    | .Break _ => some fun ρ => some (.bk ρ)
    | .Continue _ => some fun ρ => some (.ct ρ)
    | .Return none _ => some fun ρ => some (.rt (.val .none) ρ)
    | .Return (some e) _ => match cE c e with
      | some cd => some (sRet cd)
      | none => none
    | .If t a b _ => match cB c t, mapS (cS n c) a, mapS (cS n c) b with
      | some (_, k), some f, some g => some (sIf k f g)
      | _, _, _ => none
    | .For tg iter body [] _ => match plainE iter, itC (cE c) c false tg iter, gC c tg, mapS (cS n c) body with
      | true, some (_, f), some g, some b => some (sFor f g b)
      | _, _, _, _ => none
    | .While t body [] _ => match cB c t, mapS (cS n c) body with
      | some (_, k), some b => some (sWhile k b)
      | _, _ => none
    | .Assign [.Name x p'] e _ => asgC c x p' e
    | .Assign [.Tuple [.Name x px, .Name y py] kt pt] (.Tuple [a, b] k2 pt2) _ => match parOk c x y px py a b, gC1 c x, gC1 c y, cE c a, cE c b with
      | true, some i, some j, some ca, some cb => match decide (i = j) with
        | false => some (sPar i j ca cb)
        | true => none
      | _, _, _, _, _ => none
    | .Assign [.Tuple [.Name x px, .Name y py, .Name z pz] kt pt] (.Tuple [a, b, e] k2 pt2) _ => match parOk3 c x y z px py pz a b e, gC1 c x, gC1 c y, gC1 c z, cE c a, cE c b, cE c e with
      | true, some i, some j, some l, some ca, some cb, some ce => match decide (i = j), decide (i = l), decide (j = l) with
        | false, false, false => some (sPar3 i j l ca cb ce)
        | _, _, _ => none
      | _, _, _, _, _, _, _ => none
    | .Assign [.Tuple ts k p] e _ => match isTupE e, gC c (.Tuple ts k p), cE c e with
      | false, some g, some cd => some (sAsgT cd g)
      | _, _, _ => none
    | .Assign [.Subscript (.Name x p) k _] e _ => match dnS c (.Name x p) with
      | some i => (match cE c k, cE c e with
        | some ck, some ce => some (sSetD i ck ce)
        | _, _ => none)
      | none => match visN c x, cE c k, cE c e with
        | some i, some ck, some ce => some (sSetI i ck ce)
        | _, _, _ => none
    | .AugAssign (.Name x _) .Add e _ => match gC1 c x, cE c e with
      | some i, some ce => some (sAug gAug i ce)
      | _, _ => none
    | .Expr e _ => match noComp e, cE c e with
      | true, some (.ex _ f) => some (sDrop f)
      | _, _ => none
    | _ => none
theorem cS_ok {T : List (Addr × Str)} : ∀ (n : Nat) (X : Cx) (c : Ct), XOk X T c → ∀ (st : Stmt) (f : SF), cS n c st = some f → PS X st (tS X.K T c.fz f)
  | 0, X, c, h, st, f, e => by cases e
  | n + 1, X, c, h, st, f, e => by
    have ih := fun s g => cS_ok (T := T) n X c h s g
    have nd : X.N.Nodup := by rw [h.hN]; exact h.nd
    unfold cS at e
    split at e
    · cases e; exact ss_pass
    · cases e; exact ss_break
    · cases e; exact ss_continue
    · cases e; exact ss_retN
    · split at e
      · rename_i cd hc
        cases e
        exact ss_ret' (cE_ok h hc).1
      · cases e
    · split at e
      · rename_i k f' g' h1 h2 h3
        cases e
        exact ss_if (cB_ok h h1) (mapS_ok ih h2) (mapS_ok ih h3)
      · cases e
    · split at e
      · rename_i f' g' b' h0 h1 h2 h3
        cases e
        exact ss_for h.nx h.calm (itC_ok h (fun e cd hc => cE_ok h hc) h1) (gC_ok h h2) (mapS_ok ih h3) h0
      · cases e
    · split at e
      · rename_i k b' h1 h2
        cases e
        exact ss_while h.nx (cB_ok h h1) (mapS_ok ih h2)
      · cases e
    · exact asgC_ok h e
    · split at e
      · rename_i i j ca cb h1 h2 h3 h4 h5
        split at e
        · rename_i hij
          cases e
          obtain ⟨q1, q2, q3, q4⟩ := gC1_ok h h2
          obtain ⟨r1, r2, r3, r4⟩ := gC1_ok h h3
          have h1' := h1
          unfold parOk at h1'
          simp only [Bool.and_eq_true, decide_eq_true_eq] at h1'
          exact ss_par h.calm nd q1 r1 (by simpa using hij) (by rw [h.sc]; exact h1'.1.1.1.1.1.1.1) (by rw [h.sc]; exact h1'.1.1.1.1.1.1.2) (cE_ok h h4).1 (cE_ok h h5).1 h1'.1.2 h1'.2 q4 r4 (parOk_ok h h1)
        · cases e
      · cases e
    · split at e
      · rename_i i j l ca cb ce h1 h2 h3 h4 h5 h6 h7
        split at e
        · rename_i d1 d2 d3
          cases e
          obtain ⟨q1, q2, q3, q4⟩ := gC1_ok h h2
          obtain ⟨r1, r2, r3, r4⟩ := gC1_ok h h3
          obtain ⟨t1, t2, t3, t4⟩ := gC1_ok h h4
          have h1' := h1
          unfold parOk3 at h1'
          simp only [Bool.and_eq_true, decide_eq_true_eq] at h1'
          obtain ⟨⟨⟨⟨⟨⟨a1, a2⟩, a3⟩, _⟩, _⟩, _⟩, ⟨b1, b2⟩, b3⟩ := h1'
          exact ss_par3 h.calm nd q1 r1 t1 (by simpa using d1) (by simpa using d2) (by simpa using d3) (by rw [h.sc]; exact a1) (by rw [h.sc]; exact a2) (by rw [h.sc]; exact a3) (cE_ok h h5).1 (cE_ok h h6).1 (cE_ok h h7).1 b1 b2 b3 q4 r4 t4 (parOk3_ok h h1)
        · cases e
      · cases e
    · split at e
      · rename_i g cd h1 h2 h3
        cases e
        exact ss_asgT (cE_ok h h3).1 (gC_ok h h2) (tup_sw h1).1 (tup_sw (l := 0) h1).2 rfl
      · cases e
    · split at e
      · rename_i i hi
        split at e
        · rename_i ck ce h2 h3
          cases e
          exact ss_setD (by have := h.un; omega) (dnS_ok (T := T) h hi) (cE_ok h h2).1 (cE_ok h h3).1
        · cases e
      · split at e
        · rename_i i ck ce h1 h2 h3
          cases e
          exact ss_setI (visN_ok h h1) (cE_ok h h2).1 (cE_ok h h3).1 (cE_ok h h2).2
        · cases e
    · split at e
      · rename_i i ce h1 h2
        cases e
        obtain ⟨q1, q2, q3, q4⟩ := gC1_ok h h1
        exact ss_aug nd q1 q2 (cE_ok h h2).1 iop_add2 sem_aug q3 q4
      · cases e
    · split at e
      · rename_i pu f' h1 h2
        cases e
        exact ss_drop (cE_ok h h2).1 (noComp_sw h1)
      · cases e
    · cases e
end Pv

/-! Fw15: defs of the text by name; the law's end. -/
namespace Pv
open PySem PySem.Spec PyProof.Rows L2

/-- a def that may be called by its name -/
structure DOk (P : Program) (w : World) (K : PySem.W.Frag) (mg : Str → Option Value) (base : Heap) (T : List (Addr × Str)) (k : Nat) (x : Str) (e : FEnt) : Prop where
  ex : ∃ (f : Addr) (fd : FuncData) (ps : List Str), FnOk P w K mg base CX0 k f fd ps (spD K T e) ∧ mg x = some (.ref f) ∧ PySem.W.keepIn K (.ref f) = true ∧ Binds K fd ps []
section
variable {P : Program} {w : World} {K : PySem.W.Frag} {mg : Str → Option Value} {base : Heap} {T : List (Addr × Str)}
theorem DOk.mono {j k : Nat} {x : Str} {e : FEnt} (d : DOk P w K mg base T j x e) (h : j ≤ k) : DOk P w K mg base T k x e := by
  obtain ⟨f, fd, ps, h1, h2⟩ := d.ex
  exact ⟨f, fd, ps, h1.mono h, h2⟩
/-- what a def's body may lean on -/
structure Fcs (K : PySem.W.Frag) (mg : Str → Option Value) (cst : List (Str × D)) (blt : List Str) : Prop where
  cst : ∀ x d, cst.lookup x = some d → ∃ v u, mg x = some u ∧ RelV v u ∧ ∀ H, Dp K H v d
  blt : ∀ x, x ∈ blt → mg x = none
def ctOf (N : List Str) (st : Stmt) (io : Bool) (fns : List (Str × FEnt)) (cst : List (Str × D)) (blt : List Str) (mv : List Int) : Ct :=
  { N := N, sc := defScope st, fnc := fun _ => true, fns := fns, cst := cst, blt := blt, fz := fzIo io, mv := mv }
/-- what a def may make besides: lambdas (their bodies call fns0), generator expressions -/
structure Xt where
  lam : Bool := false
  gex : Bool := false
  fns0 : List (Str × FEnt) := []
  rep : Bool := false
def compX (N : List Str) (st : Stmt) (io : Bool) (fns : List (Str × FEnt)) (cst : List (Str × D)) (blt : List Str) (mv : List Int) (xt : Xt) : Option SF :=
  mapS (cS 40 { ctOf N st io fns cst blt mv with lam := xt.lam, gex := xt.gex, fns0 := xt.fns0, rep := xt.rep }) (defBody st)
def compD (N : List Str) (st : Stmt) (io : Bool) (fns : List (Str × FEnt)) (cst : List (Str × D)) (blt : List Str) (mv : List Int) : Option SF :=
  mapS (cS 40 (ctOf N st io fns cst blt mv)) (defBody st)
theorem fnOk_of {x : Str} {st : Stmt} {f : Addr} {fd : FuncData} {N ps : List Str} {k : Nat} {io nl : Bool} {fns : List (Str × FEnt)} {cst : List (Str × D)} {blt : List Str} {mv : List Int} {body : SF}
    (F : Fun K x x st f fd) (S : FnScope N ps (defScope st)) (C : Fcs K mg cst blt) (hf : ∀ y e, fns.lookup y = some e → DOk P w K mg base T k y e) (hb : compD N st io fns cst blt mv = some body) :
    FnOk P w K mg base CX0 (k + 1) f fd ps (spD K T ⟨ps.length, io, nl, runF N.length io body⟩) := by
  refine fn_ok F S fun cdv A outer s H E hr => ?_
  have xo : XOk (cxOf CX0 P w K mg base N x (defScope st) f cdv A outer s H E).nox T (ctOf N st io fns cst blt mv) := by
    refine ⟨rfl, S.nd, rfl, S.kind, rfl, rfl, fun _ _ => rfl, ?_, fun y e he => ?_, C.cst, C.blt, fun z => ?_, fun z => ?_, fun z => ?_⟩
    · have := hr.un
      show (A.deeper (envOfC x (defScope st) s.heap.objs.size f cdv)).units + 200 < cLine
      omega
    · obtain ⟨f', fd', ps', h1, h2, h3, h4⟩ := (hf y e he).ex
      exact ⟨k, f', fd', ps', .inl h1, hr, h2, h3, h4⟩
    · cases (show false = true from z)
    · cases (show false = true from z)
    · cases (show false = true from z)
  exact mapS_ok (fun s g hg => cS_ok 40 _ _ xo s g hg) hb
/-- the name of a lambda of the def x -/
def lamQ (x : Str) : Str := x ++ (".<locals>." : Str) ++ "<lambda>"
/-- what is known of a def that makes lambdas or generator expressions -/
structure XtOk (P : Program) (w : World) (K : PySem.W.Frag) (mg : Str → Option Value) (base : Heap) (T : List (Addr × Str)) (k : Nat) (x : Str) (fd : FuncData) (xt : Xt) : Prop where
  lam : xt.lam = true → ∃ (cc Pt : Addr) (k0 : Nat), fd.code = .ref cc ∧ LamX.TabB base mg cc Pt ∧ (Pt, lamQ x) ∈ T ∧ lamQ x ≠ gexq ∧ (∀ p ∈ T, p.1 = Pt → p.2 = lamQ x) ∧ k0 + 3 ≤ k ∧ ∀ y e, xt.fns0.lookup y = some e → DOk P w K mg base [] k0 y e
  gex : xt.gex = true → ∃ (cc Pt : Addr), fd.code = .ref cc ∧ GxR.TabB base mg cc Pt ∧ (Pt, gexq) ∈ T ∧ ∀ p ∈ T, p.1 = Pt → p.2 = gexq
theorem fnOk_ofX {x : Str} {st : Stmt} {f : Addr} {fd : FuncData} {N ps : List Str} {k : Nat} {io nl : Bool} {fns : List (Str × FEnt)} {cst : List (Str × D)} {blt : List Str} {mv : List Int} {xt : Xt} {body : SF}
    (F : Fun K x x st f fd) (S : FnScope N ps (defScope st)) (C : Fcs K mg cst blt) (hf : ∀ y e, fns.lookup y = some e → DOk P w K mg base T k y e) (hx : XtOk P w K mg base T k x fd xt) (hrp : xt.rep = false) (hb : compX N st io fns cst blt mv xt = some body) :
    FnOk P w K mg base CX0 (k + 1) f fd ps (spD K T ⟨ps.length, io, nl, runF N.length io body⟩) := by
  obtain ⟨oc, od, kV, doc, pm, an, cdv, ct, osl, rfl, lk, hcd⟩ := F.ex
  refine fn_of lk hcd S (fun vs H Q E h => ?_) fun A outer s H vs Q E hr h => ⟨_, PSs.nox ?_, body_ok h⟩
  · obtain ⟨O, args, r, out, hl, _⟩ := h
    exact hl
  have xo : XOk (cxOf CX0 P w K mg base N x (defScope st) f cdv A outer s H E).nox T { ctOf N st io fns cst blt mv with lam := xt.lam, gex := xt.gex, fns0 := xt.fns0, rep := xt.rep } := by
    refine ⟨rfl, S.nd, rfl, S.kind, rfl, rfl, fun _ _ => rfl, ?_, fun y e he => ?_, C.cst, C.blt, fun z => ?_, fun z => ?_, fun z => ?_⟩
    · have := hr.un
      show (A.deeper (envOfC x (defScope st) s.heap.objs.size f cdv)).units + 200 < cLine
      omega
    · obtain ⟨f', fd', ps', h1, h2, h3, h4⟩ := (hf y e he).ex
      exact ⟨k, f', fd', ps', .inl h1, hr, h2, h3, h4⟩
    · obtain ⟨cc, Pt, k0, h1, h2, h3, h4, h5, h6, h7⟩ := hx.lam z
      exact ⟨cc, Pt, k0, hr.mono h6, h2, h1, h3, h4, h5, fun y e he => (h7 y e he).ex⟩
    · obtain ⟨cc, Pt, h1, h2, h3, h4⟩ := hx.gex z
      exact ⟨cc, Pt, k, hr, h2, h1, h3, h4⟩
    · rw [show xt.rep = true from z] at hrp; cases hrp
  exact mapS_ok (fun s g hg => cS_ok 40 _ _ xo s g hg) hb
theorem dOk_ofX {x : Str} {st : Stmt} {f : Addr} {fd : FuncData} {N ps : List Str} {k : Nat} {io nl : Bool} {fns : List (Str × FEnt)} {cst : List (Str × D)} {blt : List Str} {mv : List Int} {xt : Xt} {body : SF}
    (F : Fun K x x st f fd) (hm : mg x = some (.ref f)) (hbd : Binds K fd ps []) (S : FnScope N ps (defScope st)) (C : Fcs K mg cst blt) (hb : compX N st io fns cst blt mv xt = some body)
    (hf : ∀ y e, fns.lookup y = some e → DOk P w K mg base T k y e) (hx : XtOk P w K mg base T k x fd xt) (hrp : xt.rep = false) :
    DOk P w K mg base T (k + 1) x ⟨ps.length, io, nl, runF N.length io body⟩ :=
  ⟨f, fd, ps, fnOk_ofX F S C hf hx hrp hb, hm, F.kp, hbd⟩
/-- a def that may be called by its name where no guard stands around -/
structure DOkG (P : Program) (w : World) (K : PySem.W.Frag) (mg : Str → Option Value) (base : Heap) (T : List (Addr × Str)) (k : Nat) (x : Str) (e : FEnt) : Prop where
  ex : ∃ (f : Addr) (fd : FuncData) (ps : List Str), FnG P w K mg base k f fd ps (spD K T e) ∧ mg x = some (.ref f) ∧ PySem.W.keepIn K (.ref f) = true ∧ Binds K fd ps []
theorem DOkG.mono {j k : Nat} {x : Str} {e : FEnt} (d : DOkG P w K mg base T j x e) (h : j ≤ k) : DOkG P w K mg base T k x e := by
  obtain ⟨f, fd, ps, h1, h2⟩ := d.ex
  exact ⟨f, fd, ps, h1.mono h, h2⟩
theorem DOk.g {k : Nat} {x : Str} {e : FEnt} (d : DOk P w K mg base T k x e) : DOkG P w K mg base T k x e := by
  obtain ⟨f, fd, ps, h1, h2⟩ := d.ex
  exact ⟨f, fd, ps, .of h1, h2⟩
theorem fnG_ofX {x : Str} {st : Stmt} {f : Addr} {fd : FuncData} {N ps : List Str} {k : Nat} {io nl : Bool} {fns : List (Str × FEnt)} {cst : List (Str × D)} {blt : List Str} {mv : List Int} {xt : Xt} {body : SF}
    (F : Fun K x x st f fd) (S : FnScope N ps (defScope st)) (C : Fcs K mg cst blt) (hf : ∀ y e, fns.lookup y = some e → DOkG P w K mg base T k y e) (hx : XtOk P w K mg base T k x fd xt) (hb : compX N st io fns cst blt mv xt = some body) :
    FnG P w K mg base (k + 1) f fd ps (spD K T ⟨ps.length, io, nl, runF N.length io body⟩) := by
  obtain ⟨oc, od, kV, doc, pm, an, cdv, ct, osl, rfl, lk, hcd⟩ := F.ex
  refine fnG_of lk hcd S (fun h => ?_) fun A outer s H vs Q E hg hr h => ⟨_, PSs.nox ?_, body_ok h⟩
  · obtain ⟨O, args, r, out, hl, _⟩ := h
    exact hl
  have xo : XOk (cxOf CX0 P w K mg base N x (defScope st) f cdv A outer s H E).nox T { ctOf N st io fns cst blt mv with lam := xt.lam, gex := xt.gex, fns0 := xt.fns0, rep := xt.rep } := by
    refine ⟨rfl, S.nd, rfl, S.kind, rfl, rfl, fun _ _ => rfl, ?_, fun y e he => ?_, C.cst, C.blt, fun z => ?_, fun z => ?_, fun _ => hg⟩
    · have := hr.un
      show (A.deeper (envOfC x (defScope st) s.heap.objs.size f cdv)).units + 200 < cLine
      omega
    · obtain ⟨f', fd', ps', h1, h2, h3, h4⟩ := (hf y e he).ex
      exact ⟨k, f', fd', ps', .inr ⟨hg, h1⟩, hr, h2, h3, h4⟩
    · obtain ⟨cc, Pt, k0, h1, h2, h3, h4, h5, h6, h7⟩ := hx.lam z
      exact ⟨cc, Pt, k0, hr.mono h6, h2, h1, h3, h4, h5, fun y e he => (h7 y e he).ex⟩
    · obtain ⟨cc, Pt, h1, h2, h3, h4⟩ := hx.gex z
      exact ⟨cc, Pt, k, hr, h2, h1, h3, h4⟩
  exact mapS_ok (fun s g hg => cS_ok 40 _ _ xo s g hg) hb
theorem dOkG_ofX {x : Str} {st : Stmt} {f : Addr} {fd : FuncData} {N ps : List Str} {k : Nat} {io nl : Bool} {fns : List (Str × FEnt)} {cst : List (Str × D)} {blt : List Str} {mv : List Int} {xt : Xt} {body : SF}
    (F : Fun K x x st f fd) (hm : mg x = some (.ref f)) (hbd : Binds K fd ps []) (S : FnScope N ps (defScope st)) (C : Fcs K mg cst blt) (hb : compX N st io fns cst blt mv xt = some body)
    (hf : ∀ y e, fns.lookup y = some e → DOkG P w K mg base T k y e) (hx : XtOk P w K mg base T k x fd xt) :
    DOkG P w K mg base T (k + 1) x ⟨ps.length, io, nl, runF N.length io body⟩ :=
  ⟨f, fd, ps, fnG_ofX F S C hf hx hb, hm, F.kp, hbd⟩
theorem dOk_of {x : Str} {st : Stmt} {f : Addr} {fd : FuncData} {N ps : List Str} {k : Nat} {io nl : Bool} {fns : List (Str × FEnt)} {cst : List (Str × D)} {blt : List Str} {mv : List Int} {body : SF}
    (F : Fun K x x st f fd) (hm : mg x = some (.ref f)) (hbd : Binds K fd ps []) (S : FnScope N ps (defScope st)) (C : Fcs K mg cst blt) (hb : compD N st io fns cst blt mv = some body)
    (hf : ∀ y e, fns.lookup y = some e → DOk P w K mg base T k y e) :
    DOk P w K mg base T (k + 1) x ⟨ps.length, io, nl, runF N.length io body⟩ :=
  ⟨f, fd, ps, fnOk_of F S C hf hb, hm, F.kp, hbd⟩
theorem dOk_0 {x : Str} {st : Stmt} {f : Addr} {fd : FuncData} {N ps : List Str} {k : Nat} {io nl : Bool}
    (F : Fun K x x st f fd) (hm : mg x = some (.ref f)) (hbd : Binds K fd ps []) (S : FnScope N ps (defScope st)) :
    DOk P w K mg base T (k + 1) x ⟨ps.length, io, nl, fun _ => none⟩ := by
  refine ⟨f, fd, ps, F.ok S (fun vs H Q E h => ?_) (fun cdv A outer s H vs Q E hr h => ?_), hm, F.kp, hbd⟩
  · obtain ⟨O, args, r, out, hl, _⟩ := h
    exact hl
  · obtain ⟨O, args, r, out, _, _, _, _, _, hm, _⟩ := h
    cases hm
theorem dl_nil {Pr : Str → FEnt → Prop} : ∀ y e, ([] : List (Str × FEnt)).lookup y = some e → Pr y e := fun _ _ h => by cases h
theorem dl_cons {Pr : Str → FEnt → Prop} {x : Str} {e0 : FEnt} {l : List (Str × FEnt)} (h0 : Pr x e0) (h : ∀ y e, l.lookup y = some e → Pr y e) : ∀ y e, ((x, e0) :: l).lookup y = some e → Pr y e := fun y e he => by
  rw [List.lookup_cons] at he
  split at he
  · rename_i q
    cases he
    rw [beq_iff_eq] at q
    subst q
    exact h0
  · exact h y e he
theorem cl_nil {Pr : Str → D → Prop} : ∀ y e, ([] : List (Str × D)).lookup y = some e → Pr y e := fun _ _ h => by cases h
theorem cl_cons {Pr : Str → D → Prop} {x : Str} {e0 : D} {l : List (Str × D)} (h0 : Pr x e0) (h : ∀ y e, l.lookup y = some e → Pr y e) : ∀ y e, ((x, e0) :: l).lookup y = some e → Pr y e := fun y e he => by
  rw [List.lookup_cons] at he
  split at he
  · rename_i q
    cases he
    rw [beq_iff_eq] at q
    subst q
    exact h0
  · exact h y e he
theorem bl_nil {Pr : Str → Prop} : ∀ y, y ∈ ([] : List Str) → Pr y := fun _ h => by cases h
theorem bl_cons {Pr : Str → Prop} {x : Str} {l : List Str} (h0 : Pr x) (h : ∀ y, y ∈ l → Pr y) : ∀ y, y ∈ x :: l → Pr y := fun y hy => by
  cases hy with
  | head => exact h0
  | tail _ hy => exact h y hy
end
/-! ### the end -/
def noLst (K : PySem.W.Frag) : Bool := K.all fun p => !(p.2.cls == .type "list")
theorem noLst_lookup {K : PySem.W.Frag} {a : Addr} {o : Obj} (h : noLst K = true) (l : K.lookup a = some o) : o.cls ≠ .type "list" := fun e => by
  unfold noLst at h
  rw [List.all_eq_true] at h
  have : (a, o) ∈ K := by
    have : ∀ (K : List (Addr × Obj)), K.lookup a = some o → (a, o) ∈ K := fun K => by
      induction K with
      | nil => intro l; cases l
      | cons p t ih =>
        intro l
        obtain ⟨b, p2⟩ := p
        rw [List.lookup_cons] at l
        split at l
        · rename_i q
          cases l
          rw [beq_iff_eq] at q
          subst q
          exact List.mem_cons_self
        · exact List.mem_cons_of_mem _ (ih l)
    exact this K l
  have := h _ this
  simp only [e] at this
  rw [beq_self_eq_true] at this
  cases this
theorem ints_dp {K : PySem.W.Frag} {H : Hp} : ∀ ns : List Int, DpAll K H (ns.map V.int) (ns.map PyData.int)
  | [] => .nil
  | n :: ns => .cons (.int n) (ints_dp ns)
def scr (ns : List Int) : Slt := .val (.list (ns.map PyData.int))
theorem sp_law {K : PySem.W.Frag} {e : FEnt} {H : Hp} {a : Addr} {ns : List Int} (hK : noLst K = true) (h1 : e.np = 1) (h2 : e.io = false) (hm : ∃ out, e.m [scr ns] = some (.val (.bool true), out)) (hs : SqL K H a (ns.map V.int)) :
    spD K [] e [.ref a] H (fun v _ => v = .bl true) fun _ _ _ => False := by
  obtain ⟨out, hm⟩ := hm
  have rd : Rd H a (.lst (ns.map V.int)) := by
    rcases hs with hs | ⟨o, its, n, l, c, _⟩
    · exact hs
    · exact absurd c (noLst_lookup hK l)
  have rd' : Rd (mask (fun _ => false) H) a (.lst (ns.map V.int)) := by
    rcases rd with h | ⟨o, h⟩
    · exact .inl (mask_some.mpr ⟨rfl, h⟩)
    · exact .inr ⟨o, mask_some.mpr ⟨rfl, h⟩⟩
  have k1 : ([V.ref a] : List V).length = e.np := by rw [h1]; rfl
  have k2 : shape e.io [scr ns] = true := by rw [h2]; rfl
  have k3 : SltRs K (fun _ => false) H [.ref a] [scr ns] := .val (.lst rd' (ints_dp ns)) .nil
  refine ⟨fun _ => false, [scr ns], .val (.bool true), out, k1, (fun _ h => by cases h), (fun p h => by cases h), k3, k2, hm, fun v O' H' c => ?_⟩
  have := c.res
  cases this
  rfl
end Pv

/-! FwE: the end of a law whose defs make lambdas or generator expressions. -/
namespace Pv
open PySem PySem.Spec PyProof.Rows L2
theorem cst_s {K : PySem.W.Frag} {mg : Str → Option Value} {x s : Str} {t : Tok} (h : mg x = some (.str s t)) (ok : PyData.strOk s = true) : ∃ v u, mg x = some u ∧ RelV v u ∧ ∀ H, Dp K H v (.str s) := ⟨.str s, _, h, ⟨t, rfl⟩, fun _ => .str _ ok⟩
theorem cst_i {K : PySem.W.Frag} {mg : Str → Option Value} {x : Str} {i : Int} {t : Tok} (h : mg x = some (.int i t)) : ∃ v u, mg x = some u ∧ RelV v u ∧ ∀ H, Dp K H v (.int i) := ⟨.int i, _, h, ⟨t, rfl⟩, fun _ => .int _⟩
theorem tabB_g {base : Heap} {mg : Str → Option Value} {c P : Addr} (t : LamX.TabB base mg c P) : GxR.TabB base mg c P := ⟨t.code, t.bm, t.gP⟩
theorem uniq_of {T : List (Addr × Str)} (h : (T.map (·.1)).Nodup) {P : Addr} {q : Str} (m : (P, q) ∈ T) : ∀ p ∈ T, p.1 = P → p.2 = q := by
  induction T with
  | nil => cases m
  | cons t T ih =>
    rw [List.map_cons, List.nodup_cons] at h
    intro p hp e
    rcases List.mem_cons.mp m with m1 | m1
    · rcases List.mem_cons.mp hp with rfl | hp1
      · rw [← m1]
      · exact absurd (List.mem_map.mpr ⟨p, hp1, e.trans (by rw [← m1])⟩) h.1
    · rcases List.mem_cons.mp hp with rfl | hp1
      · exact absurd (List.mem_map.mpr ⟨_, m1, e.symm⟩) h.1
      · exact ih h.2 m1 p hp1 e
theorem tabs_nil {T : List (Addr × Str)} {H : Hp} (h : ∀ p ∈ T, H p.1 = some (.tbl #[])) : Tabs T H := fun p hp =>
  .of _ _ (fun _ => ⟨#[], h p hp, trivial⟩) fun _ => LamX.TabS.nil (h p hp)
theorem sp_lawT {K : PySem.W.Frag} {T : List (Addr × Str)} {e : FEnt} {H : Hp} {a : Addr} {ns : List Int} (hK : noLst K = true) (h1 : e.np = 1) (h2 : e.io = false) (hm : ∃ out, e.m [scr ns] = some (.val (.bool true), out)) (hs : SqL K H a (ns.map V.int)) (hT : ∀ p ∈ T, H p.1 = some (.tbl #[])) :
    spD K T e [.ref a] H (fun v _ => v = .bl true) fun _ _ _ => False := by
  obtain ⟨out, hm⟩ := hm
  have rd : Rd H a (.lst (ns.map V.int)) := by
    rcases hs with hs | ⟨o, its, n, l, c, _⟩
    · exact hs
    · exact absurd c (noLst_lookup hK l)
  have rd' : Rd (mask (fun _ => false) H) a (.lst (ns.map V.int)) := by
    rcases rd with h | ⟨o, h⟩
    · exact .inl (mask_some.mpr ⟨rfl, h⟩)
    · exact .inr ⟨o, mask_some.mpr ⟨rfl, h⟩⟩
  have k1 : ([V.ref a] : List V).length = e.np := by rw [h1]; rfl
  have k2 : shape e.io [scr ns] = true := by rw [h2]; rfl
  have k3 : SltRs K (fun _ => false) H [.ref a] [scr ns] := .val (.lst rd' (ints_dp ns)) .nil
  refine ⟨fun _ => false, [scr ns], .val (.bool true), out, k1, (fun _ h => by cases h), tabs_nil hT, k3, k2, hm, fun v O' H' c => ?_⟩
  have := c.res
  cases this
  rfl
/-- what the head tells of the table of a def of the text -/
def HdTab (q : Program) (K : PySem.W.Frag) (h : Heap) : Prop := ∀ (x : Str) (c P : Addr), ((recsOf q).any fun e => e.name == x) = true → PySem.W.tabIn K x = some (c, P) → PySem.W.CodeHd h c P ∧ h.get? P = some { cls := .none, data := .fields #[] }
theorem walk_ofAll {l : PySem.W.OpenLaw} {n k : Nat} {q : Program} {loose : List Str} {XP : (Str → Option Value) → Heap → Prop} {YP : World → Heap → Prop} {d : DefRec} {K : Params → PySem.W.Frag} {CX : World → CXT} {x : Str}
    (hn : l.most = some n) (hn2 : n ≤ sizeLine) (hdf : d.params.defaults = []) (hr : Room k callerA) (hY : ∀ (w : World) (h : Heap), YP w h → (K w.params).In h)
    (F : ∀ (w : World) (mg : Str → Option Value) (fa : Addr) (h : Heap), YP w h → (K w.params).In h → h.Ns mainGlobals mg → mg d.name = some (.ref fa) → HdTab q (K w.params) h → LamX.LawAtS l w (K w.params) (CX w) k n x mg fa h)
    (hCX : ∀ (w : World) (H : Hp) (s : Shared) (e : Value) (s' : Shared), CX w [] H s (fun _ _ _ => False) e s' → False) : PySem.W.WalkO q loose XP YP l.row.toRowW d [] (fun f vs => PySem.call f vs) := by
  refine Att.attach_callB hn hdf fun w s₀ s₁ mg mb fa o pm cd doc a vs ns G Y ho hd hcd hmg hobj hints hlen hbits hg => ?_
  have KX := hY w _ Y
  have tab : HdTab q (K w.params) s₁.heap := fun x c P hx ht => by
    cases e : (recsOf q).find? fun e => e.name == x with
    | none =>
      rw [List.find?_eq_none] at e
      obtain ⟨r, h1, h2⟩ := List.any_eq_true.mp hx
      exact absurd h2 (e r h1)
    | some r => exact PySem.W.tab_of G.T KX e ht
  obtain ⟨fd, cs, sp, hT, nT, C, hb, hsp, hF⟩ := F w mg fa _ Y KX G.T.g hmg tab
  exact LamX.law_callTs KX G.T.g G.T.b G.T.builtins G.T.nolimit hg hT nT C G.T.bmain hobj hints (Nat.le_trans hlen hn2) hr hF hb (fun H hH hS => hsp H a ns hlen hbits hH hS) fun H e s' => hCX w H s₁ e s'
end Pv

/-! FwG2: the end of a law whose promise holds where no guard stands around the call. -/
namespace Pv
open PySem PySem.Spec PyProof.Rows L2
section
variable {P : Program} {w : World} {K : PySem.W.Frag} {mg : Str → Option Value} {s : Shared} {a : Addr} {cs : List (Addr × Addr)} {vs : List Value} {ns : List Int}
open Classical in
/-- what is tracked at the law's start: its code tables, and the script where the module does not hold it -/
noncomputable def topH (K : PySem.W.Frag) (a : Addr) (cs : List (Addr × Addr)) (vs : List Value) (ns : List Int) : Hp := fun b =>
  if b ∈ cs.map (·.2) then some (.tbl #[]) else if b = a ∧ K.lookup a = none then some (.frz { cls := .type "list", data := .seq vs.toArray } (.lst (ns.map V.int))) else none
/-- the facts of the start -/
structure TopF (K : PySem.W.Frag) (s : Shared) (a : Addr) (cs : List (Addr × Addr)) (vs : List Value) (ns : List Int) : Prop where
  kin : K.In s.heap
  tab : ∀ b ∈ cs.map (·.2), s.heap.get? b = some { cls := .none, data := .fields #[] }
  out : ∀ b ∈ cs.map (·.2), K.lookup b = none
  lst : s.heap.get? a = some { cls := .type "list", data := .seq vs.toArray }
  nums : IntsAre vs ns
  len : ns.length ≤ sizeLine
theorem TopF.apart (F : TopF K s a cs vs ns) : a ∉ cs.map (·.2) := fun h => by
  have := (F.tab a h).symm.trans F.lst
  cases this
theorem topH_tab {b : Addr} (h : b ∈ cs.map (·.2)) : topH K a cs vs ns b = some (.tbl #[]) := if_pos h
theorem topH_some {b : Addr} {u : HO} (h : topH K a cs vs ns b = some u) : (b ∈ cs.map (·.2) ∧ u = .tbl #[]) ∨ (b = a ∧ K.lookup a = none ∧ u = .frz { cls := .type "list", data := .seq vs.toArray } (.lst (ns.map V.int))) := by
  unfold topH at h
  split at h
  · rename_i q
    cases h
    exact .inl ⟨q, rfl⟩
  · split at h
    · rename_i q
      cases h
      exact .inr ⟨q.1, q.2, rfl⟩
    · cases h
/-- objects of other kinds are not tracked -/
theorem TopF.free (F : TopF K s a cs vs ns) {b : Addr} {o : Obj} (e : s.heap.get? b = some o) (h1 : ∀ xs n, o.data ≠ .seq xs n) (h2 : o.data ≠ .fields #[]) : topH K a cs vs ns b = none := by
  cases q : topH K a cs vs ns b with
  | none => rfl
  | some u =>
    rcases topH_some q with ⟨m, _⟩ | ⟨rfl, _, _⟩
    · rw [F.tab b m] at e
      cases e
      exact absurd rfl h2
    · rw [F.lst] at e
      cases e
      exact absurd rfl (h1 _ _)
theorem TopF.freeK (F : TopF K s a cs vs ns) {b : Addr} {o : Obj} (e : K.lookup b = some o) : topH K a cs vs ns b = none := by
  cases q : topH K a cs vs ns b with
  | none => rfl
  | some u =>
    rcases topH_some q with ⟨m, _⟩ | ⟨rfl, z, _⟩
    · rw [F.out b m] at e
      cases e
    · rw [z] at e
      cases e
theorem TopF.ns' (F : TopF K s a cs vs ns) {b : Addr} {m : Str → Option Value} (h : s.heap.Ns b m) : (hidT s.heap (topH K a cs vs ns)).Ns b m := by
  obtain ⟨o, es, ep, e, d, r⟩ := h
  refine ⟨o, es, ep, hidT_get e (F.free e (fun xs n z => ?_) fun z => ?_), d, r⟩
  · rw [d] at z; cases z
  · rw [d] at z; cases z
theorem TopF.sql (F : TopF K s a cs vs ns) : SqL K (topH K a cs vs ns) a (ns.map V.int) := by
  cases q : K.lookup a with
  | none => exact .inl (.inr ⟨_, (if_neg F.apart).trans (if_pos ⟨rfl, q⟩)⟩)
  | some o =>
    have e := F.kin a o q
    rw [F.lst] at e
    cases e
    have rv := vals_ints F.nums
    have lv := F.nums.length
    exact .inr ⟨_, vs.toArray, _, q, rfl, rfl, rfl, by rw [List.size_toArray, lv]; exact F.len, by simpa using rv⟩
theorem TopF.hok (F : TopF K s a cs vs ns) : HOk P w (topH K a cs vs ns) s.heap := fun b u h => by
  rcases topH_some h with ⟨m, rfl⟩ | ⟨rfl, _, rfl⟩
  · exact F.tab b m
  · exact ⟨F.lst, by rw [List.length_map]; exact F.len, vs, _, vals_ints F.nums, F.lst⟩
/-- the tables of code, in the heap without what is tracked -/
theorem TopF.tabB (F : TopF K s a cs vs ns) (hns : s.heap.Ns mainGlobals mg) (hbm : ∃ (bm : Addr) (ob : Obj), mg "__builtins__" = some (.ref bm) ∧ bm ≠ builtinsNs ∧ s.heap.get? bm = some ob ∧ ob.cls = .type "module" ∧ ob.dict = some builtinsNs ∧ ob.data = .plain)
    {p : Addr × Addr} (hp : p ∈ cs) (hc : PySem.W.CodeHd s.heap p.1 p.2) : LamX.TabB (hidT s.heap (topH K a cs vs ns)) mg p.1 p.2 := by
  have hT := F.tab p.2 (List.mem_map.mpr ⟨p, hp, rfl⟩)
  obtain ⟨bm, ob, y1, y2, y3, y4, y5, y6⟩ := hbm
  obtain ⟨og, eg, pg, z1, z2, _⟩ := hns
  refine ⟨?_, ⟨bm, ob, y1, y2, fun q => ?_, fun q => ?_, hidT_get y3 (F.free y3 (fun _ _ z => by rw [y6] at z; cases z) fun z => by rw [y6] at z; cases z), y4, y5, y6⟩, fun q => ?_⟩
  · obtain ⟨o, us, file, tf, flags, tg, inF, text, tt, x1, x2, x3, x4, xs⟩ := hc
    refine ⟨o, us, file, tf, flags, tg, inF, text, tt, hidT_get x1 (F.free x1 (fun _ _ z => ?_) fun z => ?_), x2, x3, x4, xs⟩
    · rw [x3] at z; cases z
    · rw [x3] at z; cases z; simp at x4
  · rw [q, z1] at y3; cases y3; rw [z2] at y6; cases y6
  · rw [q, hT] at y3; cases y3; cases y6
  · rw [q, hT] at z1; cases z1; cases z2
theorem TopF.env (F : TopF K s a cs vs ns) {mb : Str → Option Value} (hns : s.heap.Ns mainGlobals mg) (hb : s.heap.Ns builtinsNs mb) (hbb : ∀ x : Str, x ≠ "__name__" → mb x = bootBuiltins x) (hlim : s.heap.NoLimit) (hg : s.gens = #[]) :
    K.In (hidT s.heap (topH K a cs vs ns)) ∧ Env0 P w K mg (hidT s.heap (topH K a cs vs ns)) callerA [] s (topH K a cs vs ns) := by
  have kin : K.In (hidT s.heap (topH K a cs vs ns)) := fun b o e => hidT_get (F.kin b o e) (F.freeK e)
  obtain ⟨mc, q1, q2⟩ := hlim
  exact ⟨kin, rfl, ⟨kin, F.ns' hns, ⟨mb, F.ns' hb, hbb⟩, ⟨mc, F.ns' q1, q2⟩⟩, fun b o e => of_hidT e, Nat.le_of_eq (hidT_size _ _), trivial, fun b hb => (by cases hb), F.hok, .of_eq hg⟩
theorem law_callG {fa : Addr} {fd : FuncData} {x : Str} {sp : Sp} {k : Nat} {mb : Str → Option Value} (F : TopF K s a cs vs ns) (C : ∀ p ∈ cs, PySem.W.CodeHd s.heap p.1 p.2)
    (hns : s.heap.Ns mainGlobals mg) (hb : s.heap.Ns builtinsNs mb) (hbb : ∀ x : Str, x ≠ "__name__" → mb x = bootBuiltins x) (hlim : s.heap.NoLimit) (hg : s.gens = #[])
    (hbm : ∃ (bm : Addr) (ob : Obj), mg "__builtins__" = some (.ref bm) ∧ bm ≠ builtinsNs ∧ s.heap.get? bm = some ob ∧ ob.cls = .type "module" ∧ ob.dict = some builtinsNs ∧ ob.data = .plain) (hr : Room k callerA)
    (hF : ∀ base : Heap, K.In base → base.Ns mainGlobals mg → (∀ p ∈ cs, LamX.TabB base mg p.1 p.2) → FnG P w K mg base k fa fd [x] sp) (hbind : ∀ (s : Shared) (u : Value), BindsTo s fd ⟨[u], []⟩ [(x, u)])
    (hsp : ∀ H : Hp, (∀ p ∈ cs, H p.2 = some (.tbl #[])) → SqL K H a (ns.map V.int) → sp [.ref a] H (fun v _ => v = .bl true) fun _ _ _ => False) :
    codeAny (model P w) callerA (.call (.ref fa) ⟨[.ref a], []⟩) (fun r s' => r = .ok (.ret (.bool true)) ∧ OldK s.heap s'.heap ∧ s'.os = s.os ∧ AllBare s'.gens) s := by
  obtain ⟨kin, e0⟩ := F.env (P := P) (w := w) hns hb hbb hlim hg
  have tb : ∀ p ∈ cs, topH K a cs vs ns p.2 = some (.tbl #[]) := fun p hp => topH_tab (List.mem_map.mpr ⟨p, hp, rfl⟩)
  refine codeAny_mono ((hF _ kin (F.ns' hns) fun p hp => F.tabB hns hbm hp (C p hp)).go (us := [.ref a]) (vs := [.ref a]) (Q := fun v _ => v = .bl true) (E := fun _ _ _ => False) rfl hr e0 (hbind s (.ref a)) (.cons rfl .nil) (hsp _ tb F.sql)) fun r s' h => ?_
  match r, h with
  | .error _, h => exact h.elim
  | .ok .next, h => exact h.elim
  | .ok .brk, h => exact h.elim
  | .ok .cont, h => exact h.elim
  | .ok (.ret u), ⟨v, H', os, bare, un, hok', r', q⟩ =>
    have q : v = .bl true := q
    subst q
    obtain rfl : u = Value.bool true := r'
    have old : ∀ b o, b ∉ cs.map (·.2) → s.heap.get? b = some o → s'.heap.get? b = some o := fun b o nb e => by
      cases z : topH K a cs vs ns b with
      | none => exact un.keep b o e z (fun m => by cases m) (by simp)
      | some ob =>
        rcases topH_some z with ⟨m, _⟩ | ⟨rfl, _, rfl⟩
        · exact absurd m nb
        · rw [F.lst] at e
          cases e
          exact (hok' b _ (un.frzs b _ _ z)).1
    have new : ∀ b ∈ cs.map (·.2), ∃ more : Array Value, s'.heap.get? b = some { cls := .none, data := .fields more } := fun b hb => by
      obtain ⟨more, z⟩ := un.tbls b #[] (topH_tab hb)
      exact ⟨_, hok' b _ z⟩
    refine ⟨rfl, ⟨fun b o e => ?_, fun b o e => ?_⟩, os, bare⟩
    · by_cases hb : b ∈ cs.map (·.2)
      · obtain ⟨more, hm⟩ := new b hb
        have hT := F.tab b hb
        rw [hT] at e
        cases e
        obtain ⟨p, hp, rfl⟩ := List.mem_map.mp hb
        exact .inr (.inl ⟨((C p hp).tab hT).isCodeTable, rfl, #[], more, rfl, by rw [Array.empty_append]; exact hm⟩)
      · exact .inl (old b o hb e)
    · by_cases hb : b ∈ cs.map (·.2)
      · obtain ⟨more, hm⟩ := new b hb
        exact ⟨_, hm⟩
      · exact ⟨o, old b o hb e⟩
end
/-- what is known of the law's promise at the head's heap h, where it may show data (repr) -/
def LawAtG (l : PySem.W.OpenLaw) (w : World) (K : PySem.W.Frag) (k n : Nat) (x : Str) (mg : Str → Option Value) (fa : Addr) (h : Heap) : Prop :=
  ∃ (fd : FuncData) (cs : List (Addr × Addr)) (sp : Sp), (∀ p ∈ cs, h.get? p.2 = some { cls := .none, data := .fields #[] }) ∧ (∀ p ∈ cs, K.lookup p.2 = none) ∧ (∀ p ∈ cs, PySem.W.CodeHd h p.1 p.2) ∧ (∀ (s : Shared) (u : Value), BindsTo s fd ⟨[u], []⟩ [(x, u)]) ∧
    (∀ (H : Hp) (a : Addr) (ns : List Int), ns.length ≤ n → (∀ p ∈ cs, H p.2 = some (.tbl #[])) → SqL K H a (ns.map V.int) → sp [.ref a] H (fun v _ => v = .bl true) fun _ _ _ => False) ∧
    ∀ base : Heap, K.In base → base.Ns mainGlobals mg → (∀ p ∈ cs, LamX.TabB base mg p.1 p.2) → FnG l.prog w K mg base k fa fd [x] sp
theorem walk_ofG {l : PySem.W.OpenLaw} {n k : Nat} {q : Program} {loose : List Str} {XP : (Str → Option Value) → Heap → Prop} {YP : World → Heap → Prop} {d : DefRec} {K : Params → PySem.W.Frag} {x : Str}
    (hn : l.most = some n) (hn2 : n ≤ sizeLine) (hdf : d.params.defaults = []) (hr : Room k callerA) (hY : ∀ (w : World) (h : Heap), YP w h → (K w.params).In h)
    (F : ∀ (w : World) (mg : Str → Option Value) (fa : Addr) (h : Heap), YP w h → (K w.params).In h → h.Ns mainGlobals mg → mg d.name = some (.ref fa) → HdTab q (K w.params) h → LawAtG l w (K w.params) k n x mg fa h) :
    PySem.W.WalkO q loose XP YP l.row.toRowW d [] (fun f vs => PySem.call f vs) := by
  refine Att.attach_callB hn hdf fun w s₀ s₁ mg mb fa o pm cd doc a vs ns G Y ho hd hcd hmg hobj hints hlen hbits hg => ?_
  have KX := hY w _ Y
  have tab : HdTab q (K w.params) s₁.heap := fun x c P hx ht => by
    cases e : (recsOf q).find? fun e => e.name == x with
    | none =>
      obtain ⟨r, h1, h2⟩ := List.any_eq_true.mp hx
      exact absurd h2 (List.find?_eq_none.mp e r h1)
    | some r => exact PySem.W.tab_of G.T KX e ht
  obtain ⟨fd, cs, sp, hT, nT, C, hb, hsp, hF⟩ := F w mg fa _ Y KX G.T.g hmg tab
  have TF : TopF (K w.params) s₁ a cs vs ns := ⟨KX, fun b hb => (by obtain ⟨p, hp, rfl⟩ := List.mem_map.mp hb; exact hT p hp), fun b hb => (by obtain ⟨p, hp, rfl⟩ := List.mem_map.mp hb; exact nT p hp), hobj, hints, Nat.le_trans hlen hn2⟩
  exact law_callG TF C G.T.g G.T.b G.T.builtins G.T.nolimit hg G.T.bmain hr hF hb fun H hH hS => hsp H a ns hlen hH hS
end Pv

/-! Pw1: weakest preconditions of the compiled text: rewriting at the head. -/
namespace Pv
open PySem PySem.Spec PyProof.Rows L2

def Ex {α : Type} (o : Option α) (K : α → Prop) : Prop := ∃ a, o = some a ∧ K a
theorem ex_some {α : Type} {a : α} {K : α → Prop} : Ex (some a) K = K a := propext ⟨fun ⟨b, h, k⟩ => by cases h; exact k, fun k => ⟨a, rfl, k⟩⟩
theorem ex_none {α : Type} {K : α → Prop} : Ex none K = False := propext ⟨fun h => (by obtain ⟨b, h, _⟩ := h; cases h), fun h => False.elim h⟩
theorem ex_imp {α : Type} {o : Option α} {K K' : α → Prop} (h : Ex o K) (i : ∀ a, K a → K' a) : Ex o K' := by
  obtain ⟨a, e, k⟩ := h
  exact ⟨a, e, i a k⟩
def WO (o : Option Slt) (K : Slt → Prop) : Prop := Ex o K
def WR (f : RF) (ρ : Rho) (K : Slt → Rho → Prop) : Prop := Ex (f ρ) fun p => K p.1 p.2
def WA (c : Cd) (ρ : Rho) (K : Arg → Rho → Prop) : Prop := Ex (aE c ρ) fun p => K p.1 p.2
def WAs (cs : List Cd) (ρ : Rho) (K : List Arg → Rho → Prop) : Prop := Ex (aEs cs ρ) fun p => K p.1 p.2
def WD (ρ : Rho) (a : Arg) (K : D → Prop) : Prop := Ex (argD ρ a) K
def WDs (ρ : Rho) (as : List Arg) (K : List D → Prop) : Prop := Ex (argsD ρ as) K
def WV (c : Cd) (ρ : Rho) (K : D → Rho → Prop) : Prop := Ex (vE c ρ) fun p => K p.1 p.2
def WB (f : BF) (ρ : Rho) (K : Bool → Rho → Prop) : Prop := Ex (f ρ) fun p => K p.1 p.2
def WI (f : IF) (ρ : Rho) (K : List D → Rho → Prop) : Prop := Ex (f ρ) fun p => K p.1 p.2
def WG (f : GF) (d : D) (ρ : Rho) (K : Rho → Prop) : Prop := Ex (f d ρ) K
def WGs (f : List D → Rho → Option Rho) (ds : List D) (ρ : Rho) (K : Rho → Prop) : Prop := Ex (f ds ρ) K
def W (f : SF) (ρ : Rho) (Q : Out → Prop) : Prop := Ex (f ρ) Q
def WM (m : List Slt → Option (Slt × List D)) (as : List Slt) (K : Slt → List D → Prop) : Prop := Ex (m as) fun p => K p.1 p.2
def WT (d : D) (K : Bool → Prop) : Prop := Ex (truD d) K
/-! slots -/
def WL (ρ : Rho) (i : Nat) (K : Slt → Prop) : Prop := ∃ s, ρ[i]? = some (some s) ∧ K s
/-- as data -/
def Nd (s : Slt) (K : D → Prop) : Prop := Ex (ndD s) K
theorem nd_val {d : D} {K : D → Prop} : Nd (.val d) K = K d := ex_some
theorem nd_own {ds : List D} {K : D → Prop} : Nd (.own ds) K = K (.list ds) := ex_some
theorem wl_0 {s : Slt} {ρ : Rho} {K : Slt → Prop} : WL (some s :: ρ) 0 K = K s := propext ⟨fun ⟨t, h, k⟩ => by cases h; exact k, fun k => ⟨s, rfl, k⟩⟩
theorem wl_s {x : Option Slt} {ρ : Rho} {i : Nat} {K : Slt → Prop} : WL (x :: ρ) (i + 1) K = WL ρ i K := rfl
def WZ (ρ : Rho) (i : Nat) (x : Option Slt) (K : Rho → Prop) : Prop := K (ρ.set i x)
theorem wz_n {i : Nat} {x : Option Slt} {K : Rho → Prop} : WZ [] i x K = K [] := rfl
theorem wz_0 {x y : Option Slt} {ρ : Rho} {K : Rho → Prop} : WZ (y :: ρ) 0 x K = K (x :: ρ) := rfl
theorem wz_s {x y : Option Slt} {ρ : Rho} {i : Nat} {K : Rho → Prop} : WZ (y :: ρ) (i + 1) x K = WZ ρ i x fun ρ' => K (y :: ρ') := rfl
def WS (ρ : Rho) (i : Nat) (x : Option Slt) (K : Rho → Prop) : Prop := i < ρ.length ∧ K (ρ.set i x)
theorem ws_0 {x y : Option Slt} {ρ : Rho} {K : Rho → Prop} : WS (y :: ρ) 0 x K = K (x :: ρ) := propext ⟨fun h => h.2, fun h => ⟨Nat.zero_lt_succ _, h⟩⟩
theorem ws_s {x y : Option Slt} {ρ : Rho} {i : Nat} {K : Rho → Prop} : WS (y :: ρ) (i + 1) x K = WS ρ i x fun ρ' => K (y :: ρ') :=
  propext ⟨fun h => ⟨Nat.lt_of_succ_lt_succ h.1, h.2⟩, fun h => ⟨Nat.succ_lt_succ h.1, h.2⟩⟩
def drS : Slt → Slt
  | .own ds => .val (.list ds)
  | .val d => .val d
  | .dct kvs => .vdc kvs
  | .vdc kvs => .vdc kvs
def WDr (ρ : Rho) (i : Nat) (K : Rho → Prop) : Prop := K (dropR i ρ)
def drO : Option Slt → Option Slt
  | some s => some (drS s)
  | none => none
theorem wdr_n {i : Nat} {K : Rho → Prop} : WDr [] i K = K [] := rfl
theorem wdr_0 {y : Option Slt} {ρ : Rho} {K : Rho → Prop} : WDr (y :: ρ) 0 K = K (drO y :: ρ) := by
  cases y with
  | none => rfl
  | some s => cases s <;> rfl
theorem dropR_s {y : Option Slt} {ρ : Rho} {i : Nat} : dropR (i + 1) (y :: ρ) = y :: dropR i ρ := by
  unfold dropR
  rw [List.getElem?_cons_succ]
  rcases h : ρ[i]? with _ | _ | _ | _ <;> simp
theorem wdr_s {y : Option Slt} {ρ : Rho} {i : Nat} {K : Rho → Prop} : WDr (y :: ρ) (i + 1) K = WDr ρ i fun ρ' => K (y :: ρ') := by
  unfold WDr
  rw [dropR_s]
def WX (ρ : Rho) (i : Nat) (K : Option Slt → Prop) : Prop := K (match ρ[i]? with | some s => s | none => none)
theorem wx_0 {y : Option Slt} {ρ : Rho} {K : Option Slt → Prop} : WX (y :: ρ) 0 K = K y := rfl
theorem wx_s {y : Option Slt} {ρ : Rho} {i : Nat} {K : Option Slt → Prop} : WX (y :: ρ) (i + 1) K = WX ρ i K := rfl
def WW (ρ : Rho) (vs : List Nat) (K : Rho → Prop) : Prop := K (wipeR ρ vs)
theorem ww_n {ρ : Rho} {K : Rho → Prop} : WW ρ [] K = K ρ := rfl
theorem ww_c {ρ : Rho} {v : Nat} {vs : List Nat} {K : Rho → Prop} : WW ρ (v :: vs) K = WW ρ vs fun ρ' => WZ ρ' v none K := rfl
def WRs (ρ0 ρ : Rho) (vs : List Nat) (K : Rho → Prop) : Prop := K (restR ρ0 ρ vs)
theorem wrs_n {ρ0 ρ : Rho} {K : Rho → Prop} : WRs ρ0 ρ [] K = K ρ := rfl
theorem wrs_c {ρ0 ρ : Rho} {v : Nat} {vs : List Nat} {K : Rho → Prop} : WRs ρ0 ρ (v :: vs) K = WRs ρ0 ρ vs fun ρ' => WX ρ0 v fun s => WZ ρ' v s K := rfl
section
variable {ρ : Rho} {K : Arg → Rho → Prop} {KD : D → Prop} {KR : Slt → Rho → Prop} {KV : D → Rho → Prop} {KB : Bool → Rho → Prop} {KI : List D → Rho → Prop} {KG : Rho → Prop} {Q : Out → Prop} {i j : Nat} {p : Bool} {f : RF} {a b c : Cd}
/-! arguments -/
theorem wa_slot : WA (.slot i) ρ K = WL ρ i fun _ => K (.slot i) ρ := by
  unfold WA WL aE Ex
  simp only
  apply propext
  constructor
  · rintro ⟨x, h, k⟩
    split at h
    · rename_i s e
      cases h
      exact ⟨_, e, k⟩
    · cases h
  · rintro ⟨s, h, k⟩
    exact ⟨(.slot i, ρ), by rw [h], k⟩
theorem wa_ex : WA (.ex p f) ρ K = WR f ρ fun r ρ' => Nd r fun d => K (.tmp d) ρ' := by
  unfold WA WR aE Nd
  dsimp only
  rcases f ρ with _ | ⟨r, ρ'⟩
  · simp only [ex_none]
  · simp only [ex_some]
    rcases ndD r with _ | d
    · simp only [ex_none]
    · simp only [ex_some]
theorem wd_slot : WD ρ (.slot i) KD = WL ρ i fun s => Nd s KD := by
  unfold WD WL argD Nd Ex
  simp only
  apply propext
  constructor
  · rintro ⟨x, h, k⟩
    split at h
    · rename_i s e
      exact ⟨_, e, x, h, k⟩
    · cases h
  · rintro ⟨s, h, d, h2, k⟩
    exact ⟨d, by rw [h]; exact h2, k⟩
theorem wd_tmp {d : D} : WD ρ (.tmp d) KD = KD d := ex_some
theorem wds_n {K : List D → Prop} : WDs ρ [] K = K [] := ex_some
theorem wds_c {K : List D → Prop} {x : Arg} {as : List Arg} : WDs ρ (x :: as) K = WD ρ x fun d => WDs ρ as fun ds => K (d :: ds) := by
  unfold WDs WD
  conv => lhs; unfold argsD
  rcases argD ρ x with _ | d
  · simp only [ex_none]
  · rcases argsD ρ as with _ | ds
    · simp only [ex_none, ex_some]
    · simp only [ex_some]
theorem was_n {K : List Arg → Rho → Prop} : WAs [] ρ K = K [] ρ := ex_some
theorem was_c {K : List Arg → Rho → Prop} {cs : List Cd} : WAs (c :: cs) ρ K = WA c ρ fun x ρ1 => WAs cs ρ1 fun as ρ2 => K (x :: as) ρ2 := by
  unfold WAs WA
  conv => lhs; unfold aEs
  rcases aE c ρ with _ | ⟨x, ρ1⟩
  · simp only [ex_none]
  · simp only [ex_some]
    rcases aEs cs ρ1 with _ | ⟨as, ρ2⟩
    · simp only [ex_none]
    · simp only [ex_some]
theorem wv_slot : WV (.slot i) ρ KV = WL ρ i fun s => Nd s fun d => WDr ρ i fun ρ' => KV d ρ' := by
  unfold WV WL vE Nd Ex WDr
  simp only
  apply propext
  constructor
  · rintro ⟨x, h, k⟩
    split at h
    · rename_i s e
      split at h
      · rename_i d hd
        cases h
        exact ⟨_, e, d, hd, k⟩
      · cases h
    · cases h
  · rintro ⟨s, h, d, hd, k⟩
    exact ⟨(d, dropR i ρ), by rw [h]; simp only [hd], k⟩
theorem wv_ex : WV (.ex p f) ρ KV = WR f ρ fun r ρ' => Nd r fun d => KV d ρ' := by
  unfold WV WR vE Nd
  dsimp only
  rcases f ρ with _ | ⟨r, ρ'⟩
  · simp only [ex_none]
  · simp only [ex_some]
    rcases ndD r with _ | d
    · simp only [ex_none]
    · simp only [ex_some]
/-! expressions -/
theorem wr_lit {d : D} : WR (eLit d) ρ KR = KR (.val d) ρ := ex_some
theorem wr_op1 {g : D → Option Slt} : WR (eOp1 g a) ρ KR = WA a ρ fun x ρ1 => WD ρ1 x fun d => WO (g d) fun s => KR s ρ1 := by
  unfold WR WA WD WO eOp1
  rcases aE a ρ with _ | ⟨x, ρ1⟩
  · simp only [ex_none]
  · simp only [ex_some]
    rcases argD ρ1 x with _ | d
    · simp only [ex_none]
    · simp only [ex_some]
      rcases g d with _ | s
      · simp only [ex_none]
      · simp only [ex_some]
theorem wr_op2 {g : D → D → Option Slt} : WR (eOp2 g a b) ρ KR = WA a ρ fun x ρ1 => WA b ρ1 fun y ρ2 => WD ρ2 x fun d => WD ρ2 y fun e => WO (g d e) fun s => KR s ρ2 := by
  unfold WR WA WD WO eOp2
  rcases aE a ρ with _ | ⟨x, ρ1⟩
  · simp only [ex_none]
  · simp only [ex_some]
    rcases aE b ρ1 with _ | ⟨y, ρ2⟩
    · simp only [ex_none]
    · simp only [ex_some]
      rcases argD ρ2 x with _ | d
      · simp only [ex_none]
      · simp only [ex_some]
        rcases argD ρ2 y with _ | e
        · simp only [ex_none]
        · simp only [ex_some]
          rcases g d e with _ | s
          · simp only [ex_none]
          · simp only [ex_some]
theorem wr_opN {g : List D → Option Slt} {cs : List Cd} : WR (eOpN g cs) ρ KR = WAs cs ρ fun as ρ1 => WDs ρ1 as fun ds => WO (g ds) fun s => KR s ρ1 := by
  unfold WR WAs WDs WO eOpN
  rcases aEs cs ρ with _ | ⟨x, ρ1⟩
  · simp only [ex_none]
  · simp only [ex_some]
    rcases argsD ρ1 x with _ | d
    · simp only [ex_none]
    · simp only [ex_some]
      rcases g d with _ | s
      · simp only [ex_none]
      · simp only [ex_some]
def WDrs (as : List Arg) (ρ : Rho) (K : Rho → Prop) : Prop := K (dropsA as ρ)
theorem wdrs_n {K : Rho → Prop} : WDrs [] ρ K = K ρ := rfl
theorem wdrs_t {K : Rho → Prop} {d : D} {as : List Arg} : WDrs (.tmp d :: as) ρ K = WDrs as ρ K := rfl
theorem wdrs_s {K : Rho → Prop} {as : List Arg} : WDrs (.slot i :: as) ρ K = WDr ρ i fun ρ' => WDrs as ρ' K := rfl
theorem wr_dis {mk : List D → Option Slt} {cs : List Cd} : WR (eDis mk cs) ρ KR = WAs cs ρ fun as ρ1 => WDs ρ1 as fun ds => WO (mk ds) fun s => WDrs as ρ1 fun ρ2 => KR s ρ2 := by
  unfold WR WAs WDs WO WDrs eDis
  rcases aEs cs ρ with _ | ⟨x, ρ1⟩
  · simp only [ex_none]
  · simp only [ex_some]
    rcases argsD ρ1 x with _ | d
    · simp only [ex_none]
    · simp only [ex_some]
      rcases mk d with _ | s
      · simp only [ex_none]
      · simp only [ex_some]
theorem wr_and : WR (eAnd a f) ρ KR = WV a ρ fun d ρ1 => WT d fun t => (t = true → WR f ρ1 KR) ∧ (t = false → KR (.val d) ρ1) := by
  unfold WR WV WT eAnd
  rcases vE a ρ with _ | ⟨d, ρ1⟩
  · simp only [ex_none]
  · simp only [ex_some]
    rcases truD d with _ | t
    · simp only [ex_none]
    · cases t <;> simp [ex_some]
theorem wr_or : WR (eOr a f) ρ KR = WV a ρ fun d ρ1 => WT d fun t => (t = true → KR (.val d) ρ1) ∧ (t = false → WR f ρ1 KR) := by
  unfold WR WV WT eOr
  rcases vE a ρ with _ | ⟨d, ρ1⟩
  · simp only [ex_none]
  · simp only [ex_some]
    rcases truD d with _ | t
    · simp only [ex_none]
    · cases t <;> simp [ex_some]
theorem wr_val : WR (eVal a) ρ KR = WV a ρ fun d ρ1 => KR (.val d) ρ1 := by
  unfold WR WV eVal
  rcases vE a ρ with _ | ⟨d, ρ1⟩
  · simp only [ex_none]
  · simp only [ex_some]
theorem wr_not {t : BF} : WR (eNotT t) ρ KR = WB t ρ fun x ρ1 => KR (.val (.bool (!x))) ρ1 := by
  unfold WR WB eNotT
  rcases t ρ with _ | ⟨d, ρ1⟩
  · simp only [ex_none]
  · simp only [ex_some]
theorem wr_ite {t : BF} : WR (eIte t a b) ρ KR = WB t ρ fun x ρ1 => (x = true → WR (eVal a) ρ1 KR) ∧ (x = false → WR (eVal b) ρ1 KR) := by
  unfold WR WB eIte
  rcases t ρ with _ | ⟨d, ρ1⟩
  · simp only [ex_none]
  · cases d <;> simp [ex_some]
theorem wb_tru : WB (bTru a) ρ KB = WA a ρ fun x ρ1 => WD ρ1 x fun d => WT d fun t => KB t ρ1 := by
  unfold WB WA WD WT bTru
  rcases aE a ρ with _ | ⟨x, ρ1⟩
  · simp only [ex_none]
  · simp only [ex_some]
    rcases argD ρ1 x with _ | d
    · simp only [ex_none]
    · simp only [ex_some]
      rcases truD d with _ | s
      · simp only [ex_none]
      · simp only [ex_some]
theorem wb_and {s t : BF} : WB (bAnd s t) ρ KB = WB s ρ fun x ρ1 => (x = true → WB t ρ1 KB) ∧ (x = false → KB false ρ1) := by
  unfold WB bAnd
  rcases s ρ with _ | ⟨d, ρ1⟩
  · simp only [ex_none]
  · cases d <;> simp [ex_some]
theorem wb_or {s t : BF} : WB (bOr s t) ρ KB = WB s ρ fun x ρ1 => (x = true → KB true ρ1) ∧ (x = false → WB t ρ1 KB) := by
  unfold WB bOr
  rcases s ρ with _ | ⟨d, ρ1⟩
  · simp only [ex_none]
  · cases d <;> simp [ex_some]
theorem wb_not {s : BF} : WB (bNot s) ρ KB = WB s ρ fun x ρ1 => KB (!x) ρ1 := by
  unfold WB bNot
  rcases s ρ with _ | ⟨d, ρ1⟩
  · simp only [ex_none]
  · simp only [ex_some]
def boolK (KB : Bool → Rho → Prop) (r : Slt) (ρ : Rho) : Prop := ∃ b, r = .val (.bool b) ∧ KB b ρ
theorem boolK_b {x : Bool} : boolK KB (.val (.bool x)) ρ = KB x ρ := propext ⟨fun ⟨b, h, k⟩ => by cases h; exact k, fun k => ⟨x, rfl, k⟩⟩
theorem wb_of : WB (bOf f) ρ KB = WR f ρ fun r ρ1 => boolK KB r ρ1 := by
  unfold WB WR bOf boolK Ex
  apply propext
  constructor
  · rintro ⟨⟨x, ρ2⟩, h, k⟩
    split at h
    · rename_i e
      cases h
      exact ⟨_, e, _, rfl, k⟩
    · cases h
  · rintro ⟨⟨r, ρ2⟩, h, b, h2, k⟩
    cases h2
    exact ⟨(b, ρ2), by rw [h], k⟩
theorem wb_yes : WB bYes ρ KB = KB true ρ := ex_some
/-! iterations -/
def WIt (d : D) (K : List D → Prop) : Prop := Ex (itemsD d) K
theorem wit_l {ds : List D} {K : List D → Prop} : WIt (.list ds) K = K ds := ex_some
theorem wit_t {ds : List D} {K : List D → Prop} : WIt (.tuple ds) K = K ds := ex_some
theorem wit_s {z : Str} {K : List D → Prop} : WIt (.str z) K = K (z.cps.toList.map fun c => .str ⟨#[c]⟩) := ex_some
theorem wi_val : WI (iVal c) ρ KI = WV c ρ fun d ρ1 => WIt d fun ds => KI ds ρ1 := by
  unfold WI WV WIt iVal
  rcases vE c ρ with _ | ⟨d, ρ1⟩
  · simp only [ex_none]
  · simp only [ex_some]
    rcases itemsD d with _ | s
    · simp only [ex_none]
    · simp only [ex_some]
theorem wi_bor : WI (iBor c) ρ KI = WA c ρ fun x ρ1 => WD ρ1 x fun d => WIt d fun ds => KI ds ρ1 := by
  unfold WI WA WD WIt iBor
  rcases aE c ρ with _ | ⟨x, ρ1⟩
  · simp only [ex_none]
  · simp only [ex_some]
    rcases argD ρ1 x with _ | d
    · simp only [ex_none]
    · simp only [ex_some]
      rcases itemsD d with _ | s
      · simp only [ex_none]
      · simp only [ex_some]
def rng1K (KI : List D → Rho → Prop) (ρ : Rho) (ds : List D) : Prop := ∃ j, ds = [.int j] ∧ -(2 ^ 62) ≤ j ∧ j < 2 ^ 62 ∧ KI ((List.range j.toNat).map fun (i : Nat) => .int (0 + (i : Int))) ρ
theorem rng1K_i {j : Int} : rng1K KI ρ [.int j] = (-(2 ^ 62) ≤ j ∧ j < 2 ^ 62 ∧ KI ((List.range j.toNat).map fun (i : Nat) => .int (0 + (i : Int))) ρ) := propext ⟨fun ⟨b, h, k⟩ => by cases h; exact k, fun k => ⟨j, rfl, k⟩⟩
theorem wi_range1 {cs : List Cd} : WI (iRange1 cs) ρ KI = WAs cs ρ fun as ρ1 => WDs ρ1 as fun ds => rng1K KI ρ1 ds := by
  unfold WI WAs WDs iRange1
  rcases aEs cs ρ with _ | ⟨x, ρ1⟩
  · simp only [ex_none]
  · simp only [ex_some]
    rcases argsD ρ1 x with _ | ds
    · simp only [ex_none]
    · simp only [ex_some]
      unfold Ex rng1K
      apply propext
      constructor
      · rintro ⟨p, h, k⟩
        split at h
        · rename_i e
          split at h
          · rename_i hh
            cases h
            cases e
            exact ⟨_, rfl, hh.1, hh.2, k⟩
          · cases h
        · cases h
      · rintro ⟨j, rfl, h1, h2, k⟩
        exact ⟨_, by simp only; rw [if_pos ⟨h1, h2⟩], k⟩
def rng2K (KI : List D → Rho → Prop) (ρ : Rho) (ds : List D) : Prop := ∃ i j, ds = [.int i, .int j] ∧ -(2 ^ 62) ≤ i ∧ i < 2 ^ 62 ∧ -(2 ^ 62) ≤ j ∧ j < 2 ^ 62 ∧ KI ((List.range (j - i).toNat).map fun (k : Nat) => .int (i + (k : Int))) ρ
theorem rng2K_i {i j : Int} : rng2K KI ρ [.int i, .int j] = (-(2 ^ 62) ≤ i ∧ i < 2 ^ 62 ∧ -(2 ^ 62) ≤ j ∧ j < 2 ^ 62 ∧ KI ((List.range (j - i).toNat).map fun (k : Nat) => .int (i + (k : Int))) ρ) :=
  propext ⟨fun ⟨a, b, h, k⟩ => by cases h; exact k, fun k => ⟨i, j, rfl, k⟩⟩
theorem wi_range2 {cs : List Cd} : WI (iRange2 cs) ρ KI = WAs cs ρ fun as ρ1 => WDs ρ1 as fun ds => rng2K KI ρ1 ds := by
  unfold WI WAs WDs iRange2
  rcases aEs cs ρ with _ | ⟨x, ρ1⟩
  · simp only [ex_none]
  · simp only [ex_some]
    rcases argsD ρ1 x with _ | ds
    · simp only [ex_none]
    · simp only [ex_some]
      unfold Ex rng2K
      apply propext
      constructor
      · rintro ⟨p, h, k⟩
        split at h
        · rename_i e
          split at h
          · rename_i hh
            cases h
            cases e
            exact ⟨_, _, rfl, hh.1, hh.2.1, hh.2.2.1, hh.2.2.2, k⟩
          · cases h
        · cases h
      · rintro ⟨i, j, rfl, h1, h2, h3, h4, k⟩
        exact ⟨_, by simp only; rw [if_pos ⟨h1, h2, h3, h4⟩], k⟩
/-! targets -/
theorem wg_name {d : D} : WG (gfName i) d ρ KG = WS ρ i (some (.val d)) KG := by
  unfold WG WS gfName
  by_cases h : i < ρ.length
  · rw [if_pos h, ex_some]
    simp [h]
  · rw [if_neg h, ex_none]
    simp [h]
theorem wgs_n : WGs gfNil [] ρ KG = KG ρ := ex_some
theorem wgs_c {g : GF} {gs : List D → Rho → Option Rho} {d : D} {ds : List D} : WGs (gfCons g gs) (d :: ds) ρ KG = WG g d ρ fun ρ1 => WGs gs ds ρ1 KG := by
  unfold WGs WG gfCons
  dsimp only
  rcases g d ρ with _ | ρ1
  · simp only [ex_none]
  · simp only [ex_some]
theorem wg_tup {gs : List D → Rho → Option Rho} {ds : List D} : WG (gfTup gs) (.tuple ds) ρ KG = WGs gs ds ρ KG := rfl
/-! comprehensions -/
def WLc (vs : List Nat) (g : GF) (t : BF) (el : Cd) (ds : List D) (ρ : Rho) (acc : List D) (K : List D → Rho → Prop) : Prop := Ex (lcD vs g t el ds ρ acc) fun p => K p.1 p.2
theorem wr_lc {vs : List Nat} {it : IF} {g : GF} {t : BF} {el : Cd} : WR (eLc vs it g t el) ρ KR = WI it ρ fun ds ρ1 => WW ρ1 vs fun ρ2 => WLc vs g t el ds ρ2 [] fun acc ρ3 => WRs ρ1 ρ3 vs fun ρ4 => KR (.own acc) ρ4 := by
  unfold WR WI WW WLc WRs eLc
  rcases it ρ with _ | ⟨ds, ρ1⟩
  · simp only [ex_none]
  · simp only [ex_some]
    rcases lcD vs g t el ds (wipeR ρ1 vs) [] with _ | ⟨acc, ρ2⟩
    · simp only [ex_none]
    · simp only [ex_some]
theorem wlc_inv {vs : List Nat} {g : GF} {t : BF} {el : Cd} {K : List D → Rho → Prop} {α : Type} {e : α → D} (J : List α → Rho → List D → Prop) : ∀ {xs pre : List α} {ρ : Rho} {acc : List D}, J pre ρ acc →
    (∀ pr x po ρ acc, pre ++ xs = pr ++ x :: po → J pr ρ acc → WG g (e x) ρ fun ρ1 => WB t ρ1 fun b ρ2 => (b = true → WV el ρ2 fun y ρ3 => acc.length < sizeLine ∧ WW ρ3 vs fun ρ4 => J (pr ++ [x]) ρ4 (acc ++ [y])) ∧ (b = false → WW ρ2 vs fun ρ4 => J (pr ++ [x]) ρ4 acc)) →
    (∀ ρ acc, J (pre ++ xs) ρ acc → K acc ρ) → WLc vs g t el (xs.map e) ρ acc K
  | [], pre, ρ, acc, h0, st, fin => by
    refine ⟨(acc, ρ), rfl, fin ρ acc ?_⟩
    simpa using h0
  | x :: xs, pre, ρ, acc, h0, st, fin => by
    have q := st pre x xs ρ acc rfl h0
    obtain ⟨ρ1, e1, ⟨b, ρ2⟩, e2, q1, q2⟩ := q
    unfold WLc
    rw [List.map_cons]
    unfold lcD
    simp only [e1, e2]
    cases b with
    | true =>
      obtain ⟨⟨y, ρ3⟩, e3, hl, q⟩ := q1 rfl
      simp only [e3]
      rw [if_pos hl]
      exact wlc_inv J (pre := pre ++ [x]) q (fun pr y po ρ acc hh => st pr y po ρ acc (by rw [← hh]; simp)) (fun ρ acc hh => fin ρ acc (by simpa using hh))
    | false => exact wlc_inv J (pre := pre ++ [x]) (q2 rfl) (fun pr y po ρ acc hh => st pr y po ρ acc (by rw [← hh]; simp)) (fun ρ acc hh => fin ρ acc (by simpa using hh))
/-- nothing else changes -/
theorem wlc_map {vs : List Nat} {g : GF} {t : BF} {el : Cd} {K : List D → Rho → Prop} {α : Type} {e : α → D} (q : α → Bool) (h : α → D) {xs : List α} {ρ : Rho} (hl : xs.length ≤ sizeLine)
    (st : ∀ x, x ∈ xs → WG g (e x) ρ fun ρ1 => WB t ρ1 fun b ρ2 => b = q x ∧ (b = true → WV el ρ2 fun y ρ3 => y = h x ∧ WW ρ3 vs fun ρ4 => ρ4 = ρ) ∧ (b = false → WW ρ2 vs fun ρ4 => ρ4 = ρ)) (fin : K ((xs.filter q).map h) ρ) :
    WLc vs g t el (xs.map e) ρ [] K := by
  refine wlc_inv (pre := []) (fun pre ρ' acc => ρ' = ρ ∧ acc = (pre.filter q).map h) ⟨rfl, rfl⟩ ?_ ?_
  · rintro pr x po ρ' acc hx ⟨rfl, rfl⟩
    have hx' : xs = pr ++ x :: po := hx
    have hlt : pr.length < xs.length := by rw [hx']; simp
    refine ex_imp (st x (by rw [hx']; simp)) fun ρ1 h1 => ex_imp h1 fun ⟨b, ρ2⟩ ⟨h2, h3, h4⟩ => ⟨fun hb => ex_imp (h3 hb) fun ⟨y, ρ3⟩ ⟨h5, h6⟩ => ⟨?_, ?_, ?_⟩, fun hb => ⟨h4 hb, ?_⟩⟩
    · rw [List.length_map]
      exact Nat.lt_of_le_of_lt (List.length_filter_le _ _) (Nat.lt_of_lt_of_le hlt hl)
    · exact h6
    · have : q x = true := by rw [← h2]; exact hb
      have h5 : y = h x := h5
      simp [List.filter_append, this, h5]
    · have : q x = false := by rw [← h2]; exact hb
      simp [List.filter_append, this]
  · rintro ρ' acc ⟨rfl, rfl⟩
    exact fin
/-! statements -/
def kS (g : SF) (Q : Out → Prop) : Out → Prop
  | .nx ρ => W g ρ Q
  | .rt r ρ => Q (.rt r ρ)
  | .bk ρ => Q (.bk ρ)
  | .ct ρ => Q (.ct ρ)
theorem kS_nx {g : SF} : kS g Q (.nx ρ) = W g ρ Q := rfl
theorem kS_rt {g : SF} {r : Slt} : kS g Q (.rt r ρ) = Q (.rt r ρ) := rfl
theorem kS_bk {g : SF} : kS g Q (.bk ρ) = Q (.bk ρ) := rfl
theorem kS_ct {g : SF} : kS g Q (.ct ρ) = Q (.ct ρ) := rfl
theorem w_nop : W sNop ρ Q = Q (.nx ρ) := ex_some
theorem w_seq {s g : SF} : W (sSeq s g) ρ Q = W s ρ (kS g Q) := by
  unfold W sSeq kS
  rcases s ρ with _ | o
  · simp only [ex_none]
  · cases o <;> simp only [ex_some] <;> rfl
theorem w_if {t : BF} {s g : SF} : W (sIf t s g) ρ Q = WB t ρ fun b ρ1 => (b = true → W s ρ1 Q) ∧ (b = false → W g ρ1 Q) := by
  unfold W WB sIf
  rcases t ρ with _ | ⟨b, ρ1⟩
  · simp only [ex_none]
  · cases b <;> simp [ex_some]
theorem w_ret_ex : W (sRet (.ex p f)) ρ Q = WR f ρ fun r ρ1 => Q (.rt r ρ1) := by
  unfold W WR sRet
  simp only
  rcases f ρ with _ | ⟨b, ρ1⟩
  · simp only [ex_none]
  · simp [ex_some]
theorem w_ret_slot : W (sRet (.slot i)) ρ Q = WL ρ i fun s => WZ ρ i none fun ρ1 => Q (.rt s ρ1) := by
  unfold W WL WZ sRet Ex
  simp only
  apply propext
  constructor
  · rintro ⟨x, h, k⟩
    split at h
    · rename_i s e
      cases h
      exact ⟨_, e, k⟩
    · cases h
  · rintro ⟨s, h, k⟩
    exact ⟨_, by rw [h], k⟩
theorem w_drop : W (sDrop f) ρ Q = WR f ρ fun _ ρ1 => Q (.nx ρ1) := by
  unfold W WR sDrop
  rcases f ρ with _ | ⟨b, ρ1⟩
  · simp only [ex_none]
  · simp [ex_some]
theorem w_asg_ex : W (sAsg (.ex p f) i) ρ Q = WR f ρ fun r ρ1 => WS ρ1 i (some r) fun ρ2 => Q (.nx ρ2) := by
  unfold W WR WS sAsg
  simp only
  rcases f ρ with _ | ⟨b, ρ1⟩
  · simp only [ex_none]
  · by_cases h : i < ρ1.length
    · simp [ex_some, h]
    · simp [ex_none, ex_some, h]
theorem w_asg_slot : W (sAsg (.slot j) i) ρ Q = WL ρ j fun s => Nd s fun d => WDr ρ j fun ρ1 => WS ρ1 i (some (.val d)) fun ρ2 => Q (.nx ρ2) := by
  have hl : (dropR j ρ).length = ρ.length := dropR_len
  unfold W WL WDr WS Nd sAsg Ex
  simp only [hl]
  apply propext
  constructor
  · rintro ⟨x, h, k⟩
    split at h
    · rename_i s e
      split at h
      · rename_i d hd
        split at h
        · rename_i hi
          cases h
          exact ⟨_, e, d, hd, hi, k⟩
        · cases h
      · cases h
    · cases h
  · rintro ⟨s, h, d, hd, hi, k⟩
    exact ⟨_, by rw [h]; simp only [hd]; rw [if_pos hi], k⟩
theorem w_asgT {g : GF} : W (sAsgT c g) ρ Q = WV c ρ fun d ρ1 => WG g d ρ1 fun ρ2 => Q (.nx ρ2) := by
  unfold W WV WG sAsgT
  rcases vE c ρ with _ | ⟨d, ρ1⟩
  · simp only [ex_none]
  · simp only [ex_some]
    rcases g d ρ1 with _ | ρ2
    · simp only [ex_none]
    · simp only [ex_some]
theorem w_par : W (sPar i j a b) ρ Q = WV a ρ fun x ρ1 => WV b ρ1 fun y ρ2 => i < ρ2.length ∧ j < ρ2.length ∧ WZ ρ2 i (some (.val x)) fun ρ3 => WZ ρ3 j (some (.val y)) fun ρ4 => Q (.nx ρ4) := by
  unfold W WV WZ sPar
  rcases vE a ρ with _ | ⟨d, ρ1⟩
  · simp only [ex_none]
  · simp only [ex_some]
    rcases vE b ρ1 with _ | ⟨e, ρ2⟩
    · simp only [ex_none]
    · simp only [ex_some]
      by_cases h : i < ρ2.length ∧ j < ρ2.length
      · rw [if_pos h, ex_some]
        simp [h.1, h.2]
      · rw [if_neg h, ex_none]
        simp only [eq_iff_iff, false_iff]
        exact fun k => h ⟨k.1, k.2.1⟩
def WOwn (ρ : Rho) (i : Nat) (K : List D → Prop) : Prop := ∃ ds, ρ[i]? = some (some (.own ds)) ∧ K ds
theorem wown_0 {ds : List D} {K : List D → Prop} : WOwn (some (.own ds) :: ρ) 0 K = K ds := propext ⟨fun ⟨t, h, k⟩ => by cases h; exact k, fun k => ⟨ds, rfl, k⟩⟩
theorem wown_s {x : Option Slt} {K : List D → Prop} : WOwn (x :: ρ) (i + 1) K = WOwn ρ i K := rfl
def intK (K : Int → Prop) (d : D) : Prop := ∃ i, d = .int i ∧ K i
theorem intK_i {n : Int} {K : Int → Prop} : intK K (.int n) = K n := propext ⟨fun ⟨t, h, k⟩ => by cases h; exact k, fun k => ⟨n, rfl, k⟩⟩
def WIx (n : Nat) (i : Int) (K : Nat → Prop) : Prop := Ex (ixN n i) K
theorem w_setI {k e : Cd} : W (sSetI i k e) ρ Q = WOwn ρ i fun _ => WV e ρ fun d ρ1 => WA k ρ1 fun x ρ2 => WD ρ2 x fun n => intK (fun n => WOwn ρ2 i fun ds => WIx ds.length n fun j => WZ ρ2 i (some (.own (ds.set j d))) fun ρ3 => Q (.nx ρ3)) n := by
  unfold W WOwn WV WA WD WIx WZ intK sSetI Ex
  apply propext
  constructor
  · rintro ⟨o, h, q⟩
    split at h
    · rename_i ds0 e0
      split at h
      · rename_i d ρ1 e1
        split at h
        · rename_i x ρ2 e2
          split at h
          · rename_i n ds e3 e4
            split at h
            · rename_i jj e5
              cases h
              exact ⟨_, e0, _, e1, _, e2, _, e3, _, rfl, _, e4, _, e5, q⟩
            · cases h
          · cases h
        · cases h
      · cases h
    · cases h
  · rintro ⟨ds0, e0, ⟨d, ρ1⟩, e1, ⟨x, ρ2⟩, e2, dd, e3, n, rfl, ds, e4, jj, e5, q⟩
    simp only at e1 e2 e3 e4 e5 q
    refine ⟨_, ?_, q⟩
    simp only [e0, e1, e2, e3, e4, e5]
theorem wr_m0 {g : List D → Option (D × List D)} : WR (eM0 g i) ρ KR = WOwn ρ i fun ds => Ex (g ds) fun y => WZ ρ i (some (.own y.2)) fun ρ1 => KR (.val y.1) ρ1 := by
  unfold WR WOwn WZ eM0 Ex
  apply propext
  constructor
  · rintro ⟨o, h, q⟩
    split at h
    · rename_i ds0 e0
      split at h
      · rename_i d ds1 e1
        cases h
        exact ⟨_, e0, _, e1, q⟩
      · cases h
    · cases h
  · rintro ⟨ds0, e0, ⟨d, ds1⟩, e1, q⟩
    refine ⟨(.val d, ρ.set i (some (.own ds1))), ?_, q⟩
    simp only [e0, e1]
theorem wr_m1 {g : D → List D → Option (D × List D)} : WR (eM1 g i c) ρ KR = WOwn ρ i fun _ => WV c ρ fun d ρ1 => WOwn ρ1 i fun ds => Ex (g d ds) fun y => WZ ρ1 i (some (.own y.2)) fun ρ2 => KR (.val y.1) ρ2 := by
  unfold WR WOwn WV WZ eM1 Ex
  apply propext
  constructor
  · rintro ⟨o, h, q⟩
    split at h
    · rename_i ds0 e0
      split at h
      · rename_i d ρ1 e1
        split at h
        · rename_i ds1 e2
          split at h
          · rename_i y ds2 e3
            cases h
            exact ⟨_, e0, _, e1, _, e2, _, e3, q⟩
          · cases h
        · cases h
      · cases h
    · cases h
  · rintro ⟨ds0, e0, ⟨d, ρ1⟩, e1, ds1, e2, ⟨y, ds2⟩, e3, q⟩
    refine ⟨(.val y, ρ1.set i (some (.own ds2))), ?_, q⟩
    simp only at e1 e2 e3
    simp only [e0, e1, e2, e3]
theorem ex_append {d : D} {ds : List D} {K : D × List D → Prop} : Ex (gAppend d ds) K = (ds.length < sizeLine ∧ K (.none, ds ++ [d])) := by
  unfold gAppend
  by_cases h : ds.length < sizeLine
  · rw [if_pos h, ex_some]; simp [h]
  · rw [if_neg h, ex_none]; simp [h]
theorem ex_clear {ds : List D} {K : D × List D → Prop} : Ex (gClear ds) K = K (.none, []) := ex_some
theorem ex_reverse {ds : List D} {K : D × List D → Prop} : Ex (gReverse ds) K = K (.none, ds.reverse) := ex_some
theorem ex_extend {es ds : List D} {K : D × List D → Prop} : Ex (gExtend (.list es) ds) K = (ds.length + es.length ≤ sizeLine ∧ K (.none, ds ++ es)) := by
  unfold gExtend
  simp only
  by_cases h : ds.length + es.length ≤ sizeLine
  · rw [if_pos h, ex_some]; simp [h]
  · rw [if_neg h, ex_none]; simp [h]
theorem w_aug {g : D → D → Option Slt} : W (sAug g i c) ρ Q = WL ρ i fun s => ∃ dx, s = .val dx ∧ flatD dx = true ∧ WA c ρ fun x ρ1 => WD ρ1 x fun dy => WO (g dx dy) fun r => WS ρ1 i (some r) fun ρ2 => Q (.nx ρ2) := by
  unfold W WL WA WD WO WS sAug Ex
  apply propext
  constructor
  · rintro ⟨o, h, q⟩
    split at h
    · rename_i ds0 e0
      split at h
      · rename_i hf
        split at h
        · rename_i x ρ1 e1
          split at h
          · rename_i dy e2
            split at h
            · rename_i s e3
              split at h
              · rename_i hi
                cases h
                exact ⟨_, e0, _, rfl, hf, _, e1, _, e2, _, e3, hi, q⟩
              · cases h
            · cases h
          · cases h
        · cases h
      · cases h
    · cases h
  · rintro ⟨s, e0, dx, rfl, hf, ⟨x, ρ1⟩, e1, dy, e2, r, e3, hi, q⟩
    refine ⟨_, ?_, q⟩
    simp only at e1 e2 e3 hi
    simp only [e0, hf, e1, e2, e3, if_pos hi]
/-! loops -/
def lpK (I : Rho → Prop) (Q : Out → Prop) : Out → Prop
  | .nx ρ => I ρ
  | .ct ρ => I ρ
  | .bk ρ => Q (.nx ρ)
  | .rt r ρ => Q (.rt r ρ)
theorem lpK_nx {I : Rho → Prop} : lpK I Q (.nx ρ) = I ρ := rfl
theorem lpK_ct {I : Rho → Prop} : lpK I Q (.ct ρ) = I ρ := rfl
theorem lpK_bk {I : Rho → Prop} : lpK I Q (.bk ρ) = Q (.nx ρ) := rfl
theorem lpK_rt {I : Rho → Prop} {r : Slt} : lpK I Q (.rt r ρ) = Q (.rt r ρ) := rfl
def WF (g : GF) (b : SF) (ds : List D) (ρ : Rho) (Q : Out → Prop) : Prop := Ex (forD g b ds ρ) Q
theorem w_for {it : IF} {g : GF} {s : SF} : W (sFor it g s) ρ Q = WI it ρ fun ds ρ1 => WF g s ds ρ1 Q := by
  unfold W WI WF sFor
  rcases it ρ with _ | ⟨ds, ρ1⟩
  · simp only [ex_none]
  · simp only [ex_some]
theorem wf_inv {g : GF} {s : SF} {α : Type} {e : α → D} (J : List α → Rho → Prop) : ∀ {xs pre : List α} {ρ : Rho}, J pre ρ →
    (∀ pr x po ρ, pre ++ xs = pr ++ x :: po → J pr ρ → WG g (e x) ρ fun ρ1 => W s ρ1 (lpK (J (pr ++ [x])) Q)) → (∀ ρ, J (pre ++ xs) ρ → Q (.nx ρ)) → WF g s (xs.map e) ρ Q
  | [], pre, ρ, h0, st, fin => ⟨.nx ρ, rfl, fin ρ (by simpa using h0)⟩
  | x :: xs, pre, ρ, h0, st, fin => by
    have q := st pre x xs ρ rfl h0
    obtain ⟨ρ1, e1, o, e2, q⟩ := q
    unfold WF
    rw [List.map_cons]
    unfold forD
    simp only [e1, e2]
    cases o with
    | nx ρ2 => exact wf_inv J (pre := pre ++ [x]) q (fun pr y po ρ hh => st pr y po ρ (by rw [← hh]; simp)) (fun ρ hh => fin ρ (by simpa using hh))
    | ct ρ2 => exact wf_inv J (pre := pre ++ [x]) q (fun pr y po ρ hh => st pr y po ρ (by rw [← hh]; simp)) (fun ρ hh => fin ρ (by simpa using hh))
    | bk ρ2 => exact ⟨_, rfl, q⟩
    | rt r ρ2 => exact ⟨_, rfl, q⟩
theorem wwhile {t : BF} {s : SF} (m : Rho → Nat) (I : Rho → Prop) (h0 : I ρ) (st : ∀ ρ, I ρ → WB t ρ fun b ρ1 => (b = true → W s ρ1 (lpK (fun ρ2 => I ρ2 ∧ m ρ2 < m ρ) Q)) ∧ (b = false → Q (.nx ρ1))) (hm : m ρ < whFuel) : W (sWhile t s) ρ Q := by
  have key : ∀ (n : Nat) (ρ : Rho), I ρ → m ρ < n → Ex (whD t s n ρ) Q := fun n => by
    induction n with
    | zero => intro ρ _ h; omega
    | succ n ih =>
      intro ρ hi hlt
      obtain ⟨⟨b, ρ1⟩, e1, q1, q2⟩ := st ρ hi
      unfold whD
      simp only [e1]
      cases b with
      | false => simp only; exact ⟨_, rfl, q2 rfl⟩
      | true =>
        obtain ⟨o, e2, q⟩ := q1 rfl
        simp only at e2
        simp only [e2]
        cases o with
        | nx ρ2 => exact ih ρ2 q.1 (by have := q.2; omega)
        | ct ρ2 => exact ih ρ2 q.1 (by have := q.2; omega)
        | bk ρ2 => exact ⟨_, rfl, q⟩
        | rt r ρ2 => exact ⟨_, rfl, q⟩
  exact key whFuel ρ h0 hm
/-! calls -/
def WFl (r : Slt) (as : List Arg) (ρ : Rho) (K : Rho → Prop) : Prop := K (if r.flat = true then ρ else dropsA as ρ)
theorem wfl_none {as : List Arg} {K : Rho → Prop} : WFl (.val .none) as ρ K = K ρ := rfl
theorem wfl_bool {as : List Arg} {K : Rho → Prop} {x : Bool} : WFl (.val (.bool x)) as ρ K = K ρ := rfl
theorem wfl_int {as : List Arg} {K : Rho → Prop} {x : Int} : WFl (.val (.int x)) as ρ K = K ρ := rfl
theorem wfl_str {as : List Arg} {K : Rho → Prop} {x : Str} : WFl (.val (.str x)) as ρ K = K ρ := rfl
theorem wfl_list {as : List Arg} {K : Rho → Prop} {x : List D} : WFl (.val (.list x)) as ρ K = WDrs as ρ K := rfl
theorem wfl_tup {as : List Arg} {K : Rho → Prop} {x : List D} : WFl (.val (.tuple x)) as ρ K = WDrs as ρ K := rfl
theorem wfl_own {as : List Arg} {K : Rho → Prop} {x : List D} : WFl (.own x) as ρ K = WDrs as ρ K := rfl
/-- what is handed over -/
def WSs (ρ : Rho) (as : List Arg) (K : List Slt → Prop) : Prop := Ex (argsS ρ as) K
def WSx (ρ : Rho) (a : Arg) (K : Slt → Prop) : Prop := Ex (argS ρ a) K
theorem wss_n {K : List Slt → Prop} : WSs ρ [] K = K [] := ex_some
theorem wss_c {K : List Slt → Prop} {x : Arg} {as : List Arg} : WSs ρ (x :: as) K = WSx ρ x fun s => WSs ρ as fun ss => K (s :: ss) := by
  unfold WSs WSx
  conv => lhs; unfold argsS
  rcases argS ρ x with _ | d
  · simp only [ex_none]
  · rcases argsS ρ as with _ | ds
    · simp only [ex_none, ex_some]
    · simp only [ex_some]
theorem wsx_tmp {d : D} {K : Slt → Prop} : WSx ρ (.tmp d) K = K (.val d) := ex_some
theorem wsx_slot {i : Nat} {K : Slt → Prop} : WSx ρ (.slot i) K = WL ρ i fun s => K (shv s) := by
  unfold WSx WL argS Ex
  simp only
  apply propext
  constructor
  · rintro ⟨x, h, k⟩
    split at h
    · rename_i s e
      cases h
      exact ⟨_, e, k⟩
    · cases h
  · rintro ⟨s, h, k⟩
    exact ⟨shv s, by rw [h], k⟩
theorem shv_val {d : D} : shv (.val d) = .val d := rfl
theorem shv_own {ds : List D} : shv (.own ds) = .val (.list ds) := rfl
theorem shv_dct {kvs : List (Key × D)} : shv (.dct kvs) = .vdc kvs := rfl
theorem shv_vdc {kvs : List (Key × D)} : shv (.vdc kvs) = .vdc kvs := rfl
theorem wfl_dct {as : List Arg} {K : Rho → Prop} {x : List (Key × D)} : WFl (.dct x) as ρ K = WDrs as ρ K := rfl
theorem wr_callF {e : FEnt} {cs : List Cd} (h1 : e.io = false) (h3 : e.nl = false) (h2 : cs.length = e.np) : WR (eCall e cs) ρ KR = WAs cs ρ fun as ρ1 => WSs ρ1 as fun xs => WM e.m xs fun r _ => WFl r as ρ1 fun ρ2 => KR r ρ2 := by
  have h2' : (cs.length == e.np) = true := by rw [h2]; exact beq_self_eq_true _
  unfold WR WAs WSs WM WFl eCall
  rw [h2']
  simp only
  rcases aEs cs ρ with _ | ⟨as, ρ1⟩
  · simp only [ex_none]
  · simp only [ex_some]
    unfold callR
    rw [h1]
    simp only
    rcases argsS ρ1 as with _ | xs
    · simp only [ex_none]
    · simp only [ex_some]
      rcases e.m xs with _ | ⟨r, out⟩
      · simp only [ex_none]
      · simp only [h3, ex_some]
theorem wr_callN {e : FEnt} {cs : List Cd} (h1 : e.io = false) (h3 : e.nl = true) (h2 : cs.length = e.np) : WR (eCall e cs) ρ KR = WAs cs ρ fun as ρ1 => WSs ρ1 as fun xs => WM e.m xs fun r _ => r.noL = true ∧ KR r ρ1 := by
  have h2' : (cs.length == e.np) = true := by rw [h2]; exact beq_self_eq_true _
  unfold WR WAs WSs WM eCall
  rw [h2']
  simp only
  rcases aEs cs ρ with _ | ⟨as, ρ1⟩
  · simp only [ex_none]
  · simp only [ex_some]
    unfold callR
    rw [h1]
    simp only
    rcases argsS ρ1 as with _ | xs
    · simp only [ex_none]
    · simp only [ex_some]
      rcases e.m xs with _ | ⟨r, out⟩
      · simp only [ex_none]
      · simp only [h3, ex_some]
        by_cases hn : r.noL = true
        · rw [if_pos hn, ex_some]; simp only [hn, true_and]
        · rw [if_neg hn, ex_none]; simp only [hn, false_and, Bool.false_eq_true]
def ioK (e : FEnt) (ρ : Rho) (KR : Slt → Rho → Prop) : List Arg → Prop
  | .slot i :: rest => WOwn ρ i fun ds => WSs ρ rest fun xs => rest.all (isNotSlot i) = true ∧ WM e.m (.own ds :: xs) fun r out => WDrs rest ρ fun ρ2 => WZ ρ2 i (some (.own out)) fun ρ3 => KR r ρ3
  | _ => False
theorem ioK_c {e : FEnt} {rest : List Arg} : ioK e ρ KR (.slot i :: rest) = WOwn ρ i fun ds => WSs ρ rest fun xs => rest.all (isNotSlot i) = true ∧ WM e.m (.own ds :: xs) fun r out => WDrs rest ρ fun ρ2 => WZ ρ2 i (some (.own out)) fun ρ3 => KR r ρ3 := rfl
theorem wr_callT {e : FEnt} {cs : List Cd} (h1 : e.io = true) (h2 : cs.length = e.np) : WR (eCall e cs) ρ KR = WAs cs ρ fun as ρ1 => ioK e ρ1 KR as := by
  have h2' : (cs.length == e.np) = true := by rw [h2]; exact beq_self_eq_true _
  unfold WR WAs eCall
  rw [h2']
  simp only
  rcases aEs cs ρ with _ | ⟨as, ρ1⟩
  · simp only [ex_none]
  · simp only [ex_some]
    unfold callR ioK
    rw [h1]
    simp only
    split
    · rename_i ii rest
      unfold WOwn WSs WM WDrs WZ Ex
      apply propext
      constructor
      · rintro ⟨o, h, q⟩
        split at h
        · rename_i ds xs e1 e2
          split at h
          · rename_i e3
            split at h
            · rename_i r out e4
              cases h
              exact ⟨_, e1, _, e2, e3, _, e4, q⟩
            · cases h
          · cases h
        · cases h
      · rintro ⟨ds, e1, xs, e2, e3, ⟨r, out⟩, e4, q⟩
        refine ⟨(r, (dropsA rest ρ1).set ii (some (.own out))), ?_, q⟩
        simp only [e1, e2, e3, e4]
    · rename_i hne
      simp only [ex_none]
/-! defs -/
def finK (io : Bool) (Q : Slt → List D → Prop) (r : Slt) (ρ : Rho) : Prop := Ex (finF io r ρ) fun p => Q p.1 p.2
theorem finK_f {Q : Slt → List D → Prop} {r : Slt} : finK false Q r ρ = Q r [] := ex_some
theorem finK_t {Q : Slt → List D → Prop} {r : Slt} {o : List D} : finK true Q r (some (.own o) :: ρ) = Q r o := ex_some
def fnK (io : Bool) (Q : Slt → List D → Prop) : Out → Prop
  | .nx ρ => finK io Q (.val .none) ρ
  | .rt r ρ => finK io Q r ρ
  | _ => False
theorem fnK_nx {io : Bool} {Q : Slt → List D → Prop} : fnK io Q (.nx ρ) = finK io Q (.val .none) ρ := rfl
theorem fnK_rt {io : Bool} {Q : Slt → List D → Prop} {r : Slt} : fnK io Q (.rt r ρ) = finK io Q r ρ := rfl
theorem wm_run {n : Nat} {io : Bool} {body : SF} {args : List Slt} {Q : Slt → List D → Prop} (h : W body (args.map some ++ List.replicate (n - args.length) none) (fnK io Q)) : WM (runF n io body) args Q := by
  unfold WM runF
  obtain ⟨o, e, h⟩ := h
  rw [e]
  cases o with
  | nx ρ => exact h
  | rt r ρ => exact h
  | bk ρ => exact h.elim
  | ct ρ => exact h.elim
theorem wm_imp {m : List Slt → Option (Slt × List D)} {as : List Slt} {K K' : Slt → List D → Prop} (h : WM m as K) (i : ∀ r o, K r o → K' r o) : WM m as K' := ex_imp h fun a k => i _ _ k
theorem wm_eq {m : List Slt → Option (Slt × List D)} {as : List Slt} {r : Slt} {o : List D} (h : m as = some (r, o)) {K : Slt → List D → Prop} : WM m as K = K r o := by
  unfold WM
  rw [h, ex_some]
theorem wm_of {m : List Slt → Option (Slt × List D)} {as : List Slt} {r : Slt} {o : List D} (h : WM m as fun r' o' => r' = r ∧ o' = o) : m as = some (r, o) := by
  obtain ⟨⟨r', o'⟩, e, rfl, rfl⟩ := h
  exact e
end
end Pv

/-! Pw2: the primitives. -/
namespace Pv
open PySem PySem.Spec PyProof.Rows L2
theorem sz_lit {n : Nat} (h : n ≤ 1000) : (n ≤ sizeLine) = True := eq_true (Nat.le_of_lt (small1000 h))
theorem sz0 {α : Type} : (([] : List α).length ≤ sizeLine) = True := sz_lit (Nat.zero_le _)
theorem sz1 {α : Type} {a : α} : ([a].length ≤ sizeLine) = True := sz_lit (by simp only [List.length_cons, List.length_nil]; omega)
theorem sz2 {α : Type} {a b : α} : ([a, b].length ≤ sizeLine) = True := sz_lit (by simp only [List.length_cons, List.length_nil]; omega)
theorem sz3 {α : Type} {a b c : α} : ([a, b, c].length ≤ sizeLine) = True := sz_lit (by simp only [List.length_cons, List.length_nil]; omega)
theorem sz4 {α : Type} {a b c d : α} : ([a, b, c, d].length ≤ sizeLine) = True := sz_lit (by simp only [List.length_cons, List.length_nil]; omega)
theorem sz5 {α : Type} {a b c d e : α} : ([a, b, c, d, e].length ≤ sizeLine) = True := sz_lit (by simp only [List.length_cons, List.length_nil]; omega)
theorem sz6 {α : Type} {a b c d e f : α} : ([a, b, c, d, e, f].length ≤ sizeLine) = True := sz_lit (by simp only [List.length_cons, List.length_nil]; omega)
theorem dep_int {i : Int} : (PyData.int i).depth = 0 := rfl
theorem dep_str {i : Str} : (PyData.str i).depth = 0 := rfl
theorem dep_bool {i : Bool} : (PyData.bool i).depth = 0 := rfl
theorem dep_none : PyData.none.depth = 0 := rfl
theorem eqv_ii {i j : Int} : PyData.eqv (.int i) (.int j) = (i == j) := rfl
theorem eqv_ss {i j : Str} : PyData.eqv (.str i) (.str j) = (i == j) := rfl
theorem sd_val {d : D} : (Slt.val d).d = d := rfl
theorem sd_own {ds : List D} : (Slt.own ds).d = .list ds := rfl
theorem drO_val {d : D} : drO (some (.val d)) = some (.val d) := rfl
theorem drO_own {ds : List D} : drO (some (.own ds)) = some (.val (.list ds)) := rfl
theorem drO_none : drO none = none := rfl
section
variable {K : Slt → Prop} {i j : Int} {x y : Str} {xs ys : List D} {a b : D} {B : Bool → Prop}
theorem wt_none : WT .none B = B false := ex_some
theorem wt_bool {t : Bool} : WT (.bool t) B = B t := ex_some
theorem wt_int : WT (.int i) B = B (i != 0) := ex_some
theorem wt_str : WT (.str x) B = (x.length ≤ sizeLine ∧ B ((x.length : Int) != 0)) := by
  unfold WT truD
  simp only
  by_cases h : x.length ≤ sizeLine
  · rw [if_pos h, ex_some]; simp [h]
  · rw [if_neg h, ex_none]; simp [h]
theorem wt_list : WT (.list xs) B = B (!xs.isEmpty) := ex_some
theorem wt_tup : WT (.tuple xs) B = B (!xs.isEmpty) := ex_some
theorem wo_tup : WO (mkTup xs) K = (xs.length ≤ sizeLine ∧ K (.val (.tuple xs))) := by
  unfold WO mkTup
  by_cases h : xs.length ≤ sizeLine
  · rw [if_pos h, ex_some]; simp [h]
  · rw [if_neg h, ex_none]; simp [h]
theorem wo_lst : WO (mkLst xs) K = (xs.length ≤ sizeLine ∧ K (.own xs)) := by
  unfold WO mkLst
  by_cases h : xs.length ≤ sizeLine
  · rw [if_pos h, ex_some]; simp [h]
  · rw [if_neg h, ex_none]; simp [h]
theorem wo_add_i : WO (gAdd (.int i) (.int j)) K = K (.val (.int (i + j))) := ex_some
theorem wo_add_s : WO (gAdd (.str x) (.str y)) K = (x.length + y.length ≤ sizeLine ∧ K (.val (.str (x ++ y)))) := by
  unfold WO gAdd
  simp only
  by_cases h : x.length + y.length ≤ sizeLine
  · rw [if_pos h, ex_some]; simp [h]
  · rw [if_neg h, ex_none]; simp [h]
theorem wo_add_l : WO (gAdd (.list xs) (.list ys)) K = (xs.length + ys.length ≤ sizeLine ∧ K (.own (xs ++ ys))) := by
  unfold WO gAdd
  simp only
  by_cases h : xs.length + ys.length ≤ sizeLine
  · rw [if_pos h, ex_some]; simp [h]
  · rw [if_neg h, ex_none]; simp [h]
theorem wo_add_t : WO (gAdd (.tuple xs) (.tuple ys)) K = (xs.length + ys.length ≤ sizeLine ∧ K (.val (.tuple (xs ++ ys)))) := by
  unfold WO gAdd
  simp only
  by_cases h : xs.length + ys.length ≤ sizeLine
  · rw [if_pos h, ex_some]; simp [h]
  · rw [if_neg h, ex_none]; simp [h]
theorem wo_aug_i : WO (gAug (.int i) (.int j)) K = K (.val (.int (i + j))) := ex_some
theorem wo_aug_s : WO (gAug (.str x) (.str y)) K = (x.length + y.length ≤ sizeLine ∧ K (.val (.str (x ++ y)))) := by
  unfold WO gAug
  simp only
  by_cases h : x.length + y.length ≤ sizeLine
  · rw [if_pos h, ex_some]; simp [h]
  · rw [if_neg h, ex_none]; simp [h]
theorem wo_sub : WO (gSub (.int i) (.int j)) K = K (.val (.int (i - j))) := ex_some
theorem wo_neg : WO (gNeg (.int i)) K = K (.val (.int (-i))) := ex_some
theorem wo_floor : WO (gFloor (.int i) (.int j)) K = ((0 < j ∧ j < 1073741824) ∧ K (.val (.int (i / j)))) := by
  unfold WO gFloor
  simp only
  by_cases h : 0 < j ∧ j < 1073741824
  · rw [if_pos h, ex_some]; simp [h]
  · rw [if_neg h, ex_none]; simp [h]
theorem wo_mod : WO (gMod (.int i) (.int j)) K = (0 < j ∧ K (.val (.int (i % j)))) := by
  unfold WO gMod
  simp only
  by_cases h : 0 < j
  · rw [if_pos h, ex_some]; simp [h]
  · rw [if_neg h, ex_none]; simp [h]
theorem wo_mul : WO (gMul (.int i) (.int j)) K = (((-(2 ^ 64) < i ∧ i < 2 ^ 64) ∨ (-(2 ^ 64) < j ∧ j < 2 ^ 64)) ∧ K (.val (.int (i * j)))) := by
  unfold WO gMul
  simp only
  by_cases h : (-(2 ^ 64) < i ∧ i < 2 ^ 64) ∨ (-(2 ^ 64) < j ∧ j < 2 ^ 64)
  · rw [if_pos h, ex_some]; simp only [h, true_and]
  · rw [if_neg h, ex_none]; simp only [h, false_and]
theorem wo_pow : WO (gPow (.int i) (.int j)) K = ((0 ≤ j ∧ j ≤ 1000000 ∧ i.natAbs < 2 ^ 64) ∧ K (.val (.int (i ^ j.toNat)))) := by
  unfold WO gPow
  simp only
  by_cases h : 0 ≤ j ∧ j ≤ 1000000 ∧ i.natAbs < 2 ^ 64
  · rw [if_pos h, ex_some]; simp [h]
  · rw [if_neg h, ex_none]; simp [h]
theorem wo_eq_ii : WO (gEq (.int i) (.int j)) K = K (.val (.bool (i == j))) := by
  unfold WO gEq
  rw [if_pos (by simp [PyData.depth]), ex_some]
  rfl
theorem wo_ne_ii : WO (gNe (.int i) (.int j)) K = K (.val (.bool (!(i == j)))) := by
  unfold WO gNe
  rw [if_pos (by simp [PyData.depth]), ex_some]
  rfl
theorem wo_eq_ss : WO (gEq (.str x) (.str y)) K = K (.val (.bool (x == y))) := by
  unfold WO gEq
  rw [if_pos (by simp [PyData.depth]), ex_some]
  rfl
theorem wo_ne_ss : WO (gNe (.str x) (.str y)) K = K (.val (.bool (!(x == y)))) := by
  unfold WO gNe
  rw [if_pos (by simp [PyData.depth]), ex_some]
  rfl
theorem wo_eq : WO (gEq a b) K = (min a.depth b.depth ≤ 64 ∧ K (.val (.bool (PyData.eqv a b)))) := by
  unfold WO gEq
  by_cases h : min a.depth b.depth ≤ 64
  · rw [if_pos h, ex_some]; simp [h]
  · rw [if_neg h, ex_none]; simp [h]
theorem wo_ne : WO (gNe a b) K = (min a.depth b.depth ≤ 64 ∧ K (.val (.bool (!PyData.eqv a b)))) := by
  unfold WO gNe
  by_cases h : min a.depth b.depth ≤ 64
  · rw [if_pos h, ex_some]; simp [h]
  · rw [if_neg h, ex_none]; simp [h]
theorem wo_in_l {n : Bool} : WO (gIn n a (.list xs)) K = (min (PyData.depthAll xs) a.depth ≤ 64 ∧ K (.val (.bool (if n = true then !anyEqv a xs else anyEqv a xs)))) := by
  unfold WO gIn
  simp only
  by_cases h : min (PyData.depthAll xs) a.depth ≤ 64
  · rw [if_pos h, ex_some]; simp [h]
  · rw [if_neg h, ex_none]; simp [h]
theorem wo_in_t {n : Bool} : WO (gIn n a (.tuple xs)) K = (min (PyData.depthAll xs) a.depth ≤ 64 ∧ K (.val (.bool (if n = true then !anyEqv a xs else anyEqv a xs)))) := by
  unfold WO gIn
  simp only
  by_cases h : min (PyData.depthAll xs) a.depth ≤ 64
  · rw [if_pos h, ex_some]; simp [h]
  · rw [if_neg h, ex_none]; simp [h]
theorem wo_in_s {n : Bool} {c : Nat} : WO (gIn n (.str ⟨#[c]⟩) (.str y)) K = K (.val (.bool (if n = true then !decide (c ∈ y.cps.toList) else decide (c ∈ y.cps.toList)))) := by
  unfold WO gIn
  simp only [ex_some]
theorem wo_lt_i : WO (gLt (.int i) (.int j)) K = K (.val (.bool (decide (i < j)))) := ex_some
theorem wo_le_i : WO (gLe (.int i) (.int j)) K = K (.val (.bool (decide (i ≤ j)))) := ex_some
theorem wo_gt_i : WO (gGt (.int i) (.int j)) K = K (.val (.bool (decide (j < i)))) := ex_some
theorem wo_ge_i : WO (gGe (.int i) (.int j)) K = K (.val (.bool (decide (j ≤ i)))) := ex_some
theorem wo_is_n : WO (gIsN .none .none) K = K (.val (.bool true)) := ex_some
theorem wo_is_b {t : Bool} : WO (gIsN (.bool t) .none) K = K (.val (.bool false)) := ex_some
theorem wo_is_i : WO (gIsN (.int i) .none) K = K (.val (.bool false)) := ex_some
theorem wo_is_s : WO (gIsN (.str x) .none) K = K (.val (.bool false)) := ex_some
theorem wo_is_l : WO (gIsN (.list xs) .none) K = K (.val (.bool false)) := ex_some
theorem wo_is_t : WO (gIsN (.tuple xs) .none) K = K (.val (.bool false)) := ex_some
theorem wo_is_bb {s t : Bool} : WO (gIsN (.bool s) (.bool t)) K = K (.val (.bool (decide (s = t)))) := ex_some
theorem wo_no_n : WO (gNotN .none .none) K = K (.val (.bool false)) := ex_some
theorem wo_no_b {t : Bool} : WO (gNotN (.bool t) .none) K = K (.val (.bool true)) := ex_some
theorem wo_no_i : WO (gNotN (.int i) .none) K = K (.val (.bool true)) := ex_some
theorem wo_no_s : WO (gNotN (.str x) .none) K = K (.val (.bool true)) := ex_some
theorem wo_no_l : WO (gNotN (.list xs) .none) K = K (.val (.bool true)) := ex_some
theorem wo_no_t : WO (gNotN (.tuple xs) .none) K = K (.val (.bool true)) := ex_some
theorem wo_ix_l : WO (gIx (.list xs) (.int i)) K = Ex (atI xs i) fun d => K (.val d) := by
  unfold WO gIx
  simp only
  rcases atI xs i with _ | d
  · simp only [ex_none]
  · simp only [ex_some]
theorem wo_ix_t : WO (gIx (.tuple xs) (.int i)) K = Ex (atI xs i) fun d => K (.val d) := by
  unfold WO gIx
  simp only
  rcases atI xs i with _ | d
  · simp only [ex_none]
  · simp only [ex_some]
theorem wo_ix_s : WO (gIx (.str x) (.int i)) K = (x.length ≤ sizeLine ∧ Ex (atI x.cps.toList i) fun c => K (.val (.str ⟨#[c]⟩))) := by
  unfold WO gIx
  simp only
  by_cases h : x.length ≤ sizeLine
  · rw [if_pos h]
    rcases atI x.cps.toList i with _ | d
    · simp only [ex_none, and_false]
    · simp only [ex_some, h, true_and]
  · rw [if_neg h, ex_none]; simp [h]
theorem atI_nat0 {α : Type} {xs : List α} {n : Nat} {x : α} (h : xs[n]? = some x) : atI xs (n : Int) = some x := by
  have hl : n < xs.length := (List.getElem?_eq_some_iff.mp h).1
  unfold atI ixN
  rw [if_pos (by omega), if_pos (by omega)]
  simpa using h
/-- an item at a place that is written out -/
theorem atI_0 {α : Type} {x : α} {xs : List α} {K : α → Prop} : Ex (atI (x :: xs) 0) K = K x := by
  have : atI (x :: xs) 0 = some x := by unfold atI ixN; simp
  rw [this, ex_some]
theorem atI_1 {α : Type} {x y : α} {xs : List α} {K : α → Prop} : Ex (atI (x :: y :: xs) 1) K = K y := by
  have : atI (x :: y :: xs) 1 = some y := by
    exact atI_nat0 rfl
  rw [this, ex_some]
theorem atI_2 {α : Type} {x y z : α} {xs : List α} {K : α → Prop} : Ex (atI (x :: y :: z :: xs) 2) K = K z := by
  have : atI (x :: y :: z :: xs) 2 = some z := by
    exact atI_nat0 rfl
  rw [this, ex_some]
theorem atI_3 {α : Type} {x y z w : α} {xs : List α} {K : α → Prop} : Ex (atI (x :: y :: z :: w :: xs) 3) K = K w := by
  have : atI (x :: y :: z :: w :: xs) 3 = some w := by
    exact atI_nat0 rfl
  rw [this, ex_some]
theorem wix_set {α : Type} {xs : List α} {j : Nat} {v : α} {i : Int} {K : Nat → Prop} : WIx (xs.set j v).length i K = WIx xs.length i K := by rw [List.length_set]
theorem wix_0 {α : Type} {x : α} {xs : List α} {K : Nat → Prop} : WIx (x :: xs).length 0 K = K 0 := by
  unfold WIx ixN
  rw [if_pos (by omega), if_pos (by simp only [List.length_cons]; omega), ex_some]
  rfl
theorem wix_1 {α : Type} {x y : α} {xs : List α} {K : Nat → Prop} : WIx (x :: y :: xs).length 1 K = K 1 := by
  unfold WIx ixN
  rw [if_pos (by omega), if_pos (by simp only [List.length_cons]; omega), ex_some]
  rfl
theorem wix_2 {α : Type} {x y z : α} {xs : List α} {K : Nat → Prop} : WIx (x :: y :: z :: xs).length 2 K = K 2 := by
  unfold WIx ixN
  rw [if_pos (by omega), if_pos (by simp only [List.length_cons]; omega), ex_some]
  rfl
theorem wix_3 {α : Type} {x y z w : α} {xs : List α} {K : Nat → Prop} : WIx (x :: y :: z :: w :: xs).length 3 K = K 3 := by
  unfold WIx ixN
  rw [if_pos (by omega), if_pos (by simp only [List.length_cons]; omega), ex_some]
  rfl
theorem ex_atI {α : Type} {xs : List α} {i : Int} {K : α → Prop} (h0 : 0 ≤ i) (h1 : i < xs.length) (h : ∀ x, x ∈ xs → K x) : Ex (atI xs i) K := by
  have hl : i.toNat < xs.length := by omega
  refine ⟨xs[i.toNat], ?_, h _ (List.getElem_mem hl)⟩
  unfold atI ixN
  rw [if_pos h0, if_pos h1]
  simp
theorem ex_atI_map {α β : Type} {xs : List α} {f : α → β} {i : Int} {K : β → Prop} (h0 : 0 ≤ i) (h1 : i < xs.length) (h : ∀ x, x ∈ xs → K (f x)) : Ex (atI (xs.map f) i) K := by
  refine ex_atI h0 (by simpa using h1) fun x hx => ?_
  obtain ⟨y, hy, rfl⟩ := List.mem_map.mp hx
  exact h y hy
theorem wix_lt {n : Nat} {i : Int} {K : Nat → Prop} (h0 : 0 ≤ i) (h1 : i < n) : WIx n i K = K i.toNat := by
  unfold WIx ixN
  rw [if_pos h0, if_pos h1, ex_some]
theorem atI_nat' {α : Type} {xs : List α} {n : Nat} {x : α} (h : xs[n]? = some x) {K : α → Prop} : Ex (atI xs (n : Int)) K = K x := by
  have hl : n < xs.length := (List.getElem?_eq_some_iff.mp h).1
  have : atI xs (n : Int) = some x := by
    unfold atI ixN
    rw [if_pos (by omega), if_pos (by omega)]
    simpa using h
  rw [this, ex_some]
theorem wo_sl_l {lo hi : Option Int} : WO (gSl (.list xs) lo hi) K = K (.own (cutD xs lo hi)) := ex_some
theorem wo_sl_t {lo hi : Option Int} : WO (gSl (.tuple xs) lo hi) K = K (.val (.tuple (cutD xs lo hi))) := ex_some
theorem wo_sl_s {lo hi : Option Int} : WO (gSl (.str x) lo hi) K = (x.length ≤ sizeLine ∧ K (.val (.str ⟨(cutD x.cps.toList lo hi).toArray⟩))) := by
  unfold WO gSl
  simp only
  by_cases h : x.length ≤ sizeLine
  · rw [if_pos h, ex_some]; simp [h]
  · rw [if_neg h, ex_none]; simp [h]
theorem wo_rev : WO (gRev (.list xs)) K = K (.own xs.reverse) := ex_some
theorem wo_rev_t : WO (gRev (.tuple xs)) K = K (.val (.tuple xs.reverse)) := ex_some
theorem wo_len_l : WO (gLen [.list xs]) K = K (.val (.int xs.length)) := ex_some
theorem wo_len_t : WO (gLen [.tuple xs]) K = K (.val (.int xs.length)) := ex_some
theorem wo_len_s : WO (gLen [.str x]) K = (x.length ≤ sizeLine ∧ K (.val (.int x.length))) := by
  unfold WO gLen
  simp only
  by_cases h : x.length ≤ sizeLine
  · rw [if_pos h, ex_some]; simp [h]
  · rw [if_neg h, ex_none]; simp [h]
theorem wo_int_i : WO (gInt [.int i]) K = K (.val (.int i)) := ex_some
theorem wo_int_b {t : Bool} : WO (gInt [.bool t]) K = K (.val (.int (if t then 1 else 0))) := ex_some
theorem wo_list_l : WO (gList [.list xs]) K = K (.own xs) := ex_some
theorem wo_list_t : WO (gList [.tuple xs]) K = K (.own xs) := ex_some
theorem wo_tuple_l : WO (gTuple [.list xs]) K = K (.val (.tuple xs)) := ex_some
theorem wo_tuple_t : WO (gTuple [.tuple xs]) K = K (.val (.tuple xs)) := ex_some
theorem boolsOf_map {α : Type} {f : α → Bool} : ∀ {l : List α}, boolsOf (l.map fun x => .bool (f x)) = some (l.map f)
  | [] => rfl
  | x :: l => by simp only [List.map_cons, boolsOf]; rw [boolsOf_map]; rfl
theorem intsOf_map {α : Type} {f : α → Int} : ∀ {l : List α}, intsOf (l.map fun x => .int (f x)) = some (l.map f)
  | [] => rfl
  | x :: l => by simp only [List.map_cons, intsOf]; rw [intsOf_map]; rfl
theorem strsOf_map {α : Type} {f : α → Str} : ∀ {l : List α}, strsOf (l.map fun x => .str (f x)) = some (l.map f)
  | [] => rfl
  | x :: l => by simp only [List.map_cons, strsOf]; rw [strsOf_map]; rfl
theorem wo_any {α : Type} {f : α → Bool} {l : List α} : WO (gAny [.list (l.map fun x => .bool (f x))]) K = K (.val (.bool (l.any f))) := by
  unfold WO gAny
  simp only [boolsOf_map, Option.map_some, ex_some, List.any_map]
  rfl
theorem wo_all {α : Type} {f : α → Bool} {l : List α} : WO (gAll [.list (l.map fun x => .bool (f x))]) K = K (.val (.bool (l.all f))) := by
  unfold WO gAll
  simp only [boolsOf_map, Option.map_some, ex_some, List.all_map]
  rfl
theorem wo_sum {α : Type} {f : α → Int} {l : List α} : WO (gSum [.list (l.map fun x => .int (f x))]) K = K (.val (.int (l.map f).sum)) := by
  unfold WO gSum
  simp only [intsOf_map, Option.map_some, ex_some]
theorem wo_isi {t : TyN} : WO (gIsi t a) K = K (.val (.bool (isiD t a))) := ex_some
theorem wo_join {α : Type} {f : α → Str} {l : List α} : WO (gJoin (.str x) (.list (l.map fun z => .str (f z)))) K = (((l.map f).map (·.length)).sum + (l.map f).length * x.length ≤ 16777216 ∧ K (.val (.str (Str.join x (l.map f))))) := by
  unfold WO gJoin
  simp only [strsOf_map]
  by_cases h : ((l.map f).map (·.length)).sum + (l.map f).length * x.length ≤ 16777216
  · rw [if_pos h, ex_some]; simp only [h, true_and]
  · rw [if_neg h, ex_none]; simp only [h, false_and]
end
section
variable {ρ : Rho} {KR : Slt → Rho → Prop} {KI : List D → Rho → Prop} {a b c : Cd}
def WIO (c : Option Cd) (ρ : Rho) (K : Option Int → Rho → Prop) : Prop := Ex (iO c ρ) fun p => K p.1 p.2
theorem wio_n {K : Option Int → Rho → Prop} : WIO none ρ K = K none ρ := ex_some
theorem wio_s {K : Option Int → Rho → Prop} : WIO (some c) ρ K = WA c ρ fun x ρ1 => WD ρ1 x fun d => intK (fun i => K (some i) ρ1) d := by
  unfold WIO WA WD intK iO Ex
  apply propext
  constructor
  · rintro ⟨o, h, q⟩
    dsimp only at h
    split at h
    · rename_i x ρ1 e1
      split at h
      · rename_i i e2
        cases h
        exact ⟨_, e1, _, e2, _, rfl, q⟩
      · cases h
    · cases h
  · rintro ⟨⟨x, ρ1⟩, e1, d, e2, i, rfl, q⟩
    refine ⟨(some i, ρ1), ?_, q⟩
    simp only at e2
    simp only [e1, e2]
theorem wr_sl {lo hi : Option Cd} : WR (eSl a lo hi) ρ KR = WA a ρ fun x ρ1 => WIO lo ρ1 fun l ρ2 => WIO hi ρ2 fun u ρ3 => WD ρ3 x fun d => WO (gSl d l u) fun s => KR s ρ3 := by
  unfold WR WA WD WO WIO eSl
  rcases aE a ρ with _ | ⟨x, ρ1⟩
  · simp only [ex_none]
  · simp only [ex_some]
    rcases iO lo ρ1 with _ | ⟨l, ρ2⟩
    · simp only [ex_none]
    · simp only [ex_some]
      rcases iO hi ρ2 with _ | ⟨u, ρ3⟩
      · simp only [ex_none]
      · simp only [ex_some]
        rcases argD ρ3 x with _ | d
        · simp only [ex_none]
        · simp only [ex_some]
          rcases gSl d l u with _ | s
          · simp only [ex_none]
          · simp only [ex_some]
def strK (K : Str → Prop) (d : D) : Prop := ∃ i, d = .str i ∧ K i
theorem strK_s {n : Str} {K : Str → Prop} : strK K (.str n) = K n := propext ⟨fun ⟨t, h, k⟩ => by cases h; exact k, fun k => ⟨n, rfl, k⟩⟩
theorem wr_sm {g : D → D → Option Slt} : WR (eSm g a b) ρ KR = WA a ρ fun x ρ1 => WD ρ1 x fun d => strK (fun z => WA b ρ1 fun y ρ2 => WD ρ2 y fun dy => WO (g (.str z) dy) fun s => KR s ρ2) d := by
  unfold WR WA WD WO strK eSm Ex
  apply propext
  constructor
  · rintro ⟨o, h, q⟩
    split at h
    · rename_i x ρ1 e1
      split at h
      · rename_i z e2
        split at h
        · rename_i y ρ2 e3
          split at h
          · rename_i dy e4
            split at h
            · rename_i s e5
              cases h
              exact ⟨_, e1, _, e2, _, rfl, _, e3, _, e4, _, e5, q⟩
            · cases h
          · cases h
        · cases h
      · cases h
    · cases h
  · rintro ⟨⟨x, ρ1⟩, e1, d, e2, z, rfl, ⟨y, ρ2⟩, e3, dy, e4, s, e5, q⟩
    refine ⟨(s, ρ2), ?_, q⟩
    simp only at e2 e3 e4
    simp only [e1, e2, e3, e4, e5]
theorem wr_chain {g g' : D → D → Option Slt} : WR (eChain g g' a b c) ρ KR = WA a ρ fun x ρ1 => WA b ρ1 fun y ρ2 => WD ρ2 x fun dx => WD ρ2 y fun dy => WO (g dx dy) fun s => ∃ t, s = .val (.bool t) ∧ (t = true → WA c ρ2 fun z ρ3 => WD ρ3 y fun dy' => WD ρ3 z fun dz => WO (g' dy' dz) fun s => KR s ρ3) ∧ (t = false → KR (.val (.bool false)) ρ2) := by
  unfold WR WA WD WO eChain
  rcases aE a ρ with _ | ⟨x, ρ1⟩
  · simp only [ex_none]
  · simp only [ex_some]
    rcases aE b ρ1 with _ | ⟨y, ρ2⟩
    · simp only [ex_none]
    · simp only [ex_some]
      rcases argD ρ2 x with _ | d
      · simp only [ex_none]
      · simp only [ex_some]
        rcases argD ρ2 y with _ | e
        · simp only [ex_none]
        · simp only [ex_some]
          rcases g d e with _ | s
          · simp only [ex_none]
          · simp only [ex_some]
            split
            · rename_i hs
              cases hs
              simp only [Slt.val.injEq, PyData.bool.injEq]
              rw [show (∃ t, true = t ∧ (t = true → Ex (aE c ρ2) fun p => Ex (argD p.snd y) fun dy' => Ex (argD p.snd p.fst) fun dz => Ex (g' dy' dz) fun s => KR s p.snd) ∧ (t = false → KR (.val (.bool false)) ρ2)) = (Ex (aE c ρ2) fun p => Ex (argD p.snd y) fun dy' => Ex (argD p.snd p.fst) fun dz => Ex (g' dy' dz) fun s => KR s p.snd) from propext ⟨fun ⟨t, h, k, _⟩ => k h.symm, fun k => ⟨true, rfl, fun _ => k, fun h => by cases h⟩⟩]
              rcases aE c ρ2 with _ | ⟨z, ρ3⟩
              · simp only [ex_none]
              · simp only [ex_some]
                rcases argD ρ3 y with _ | d'
                · simp only [ex_none]
                · simp only [ex_some]
                  rcases argD ρ3 z with _ | e'
                  · simp only [ex_none]
                  · simp only [ex_some]
                    rcases g' d' e' with _ | s
                    · simp only [ex_none]
                    · simp only [ex_some]
            · rename_i hs
              cases hs
              simp only [ex_some]
              exact propext ⟨fun k => ⟨false, rfl, (fun h => by cases h), fun _ => k⟩, fun ⟨t, h, _, k⟩ => by cases h; exact k rfl⟩
            · rename_i h1 h2
              simp only [ex_none]
              refine propext ⟨fun k => k.elim, fun ⟨t, h, _⟩ => ?_⟩
              subst h
              cases t
              · exact h2 rfl
              · exact h1 rfl
theorem chk {t : Bool} {A : Prop} {B : Prop} : (∃ u, Slt.val (.bool t) = .val (.bool u) ∧ (u = true → A) ∧ (u = false → B)) = ((t = true → A) ∧ (t = false → B)) :=
  propext ⟨fun ⟨u, h, k⟩ => by cases h; exact k, fun k => ⟨t, rfl, k⟩⟩
theorem exv {d : D} {K : D → Prop} : (∃ u, Slt.val d = .val u ∧ K u) = K d := propext ⟨fun ⟨u, h, k⟩ => by cases h; exact k, fun k => ⟨d, rfl, k⟩⟩
theorem flat_i {i : Int} {P : Prop} : (flatD (.int i) = true ∧ P) = P := by simp [flatD]
theorem flat_s {i : Str} {P : Prop} : (flatD (.str i) = true ∧ P) = P := by simp [flatD]
def ltK (KI : List D → Rho → Prop) (bor : Bool) (as : List Arg) (ρ : Rho) (ds : List D) : Prop :=
  (∃ xs ys, ds = [.list xs, .list ys] ∧ KI (zipD xs ys) (envB bor as ρ)) ∨ (∃ xs ys, ds = [.tuple xs, .tuple ys] ∧ KI (zipD xs ys) (envB bor as ρ))
theorem ltK_l {bor : Bool} {as : List Arg} {xs ys : List D} : ltK KI bor as ρ [.list xs, .list ys] = KI (zipD xs ys) (envB bor as ρ) :=
  propext ⟨fun h => by rcases h with ⟨_, _, h, k⟩ | ⟨_, _, h, k⟩ <;> cases h; exact k, fun k => .inl ⟨_, _, rfl, k⟩⟩
theorem ltK_t {bor : Bool} {as : List Arg} {xs ys : List D} : ltK KI bor as ρ [.tuple xs, .tuple ys] = KI (zipD xs ys) (envB bor as ρ) :=
  propext ⟨fun h => by rcases h with ⟨_, _, h, k⟩ | ⟨_, _, h, k⟩ <;> cases h; exact k, fun k => .inr ⟨_, _, rfl, k⟩⟩
theorem wi_zip {bor : Bool} {cs : List Cd} : WI (iZipF bor cs) ρ KI = WAs cs ρ fun as ρ1 => WDs ρ1 as fun ds => ltK KI bor as ρ1 ds := by
  unfold WI WAs WDs iZipF
  rcases aEs cs ρ with _ | ⟨as, ρ1⟩
  · simp only [ex_none]
  · simp only [ex_some]
    rcases argsD ρ1 as with _ | ds
    · simp only [ex_none]
    · simp only [ex_some]
      unfold Ex ltK
      apply propext
      constructor
      · rintro ⟨p, h, k⟩
        split at h
        · rename_i e
          cases h; cases e
          exact .inl ⟨_, _, rfl, k⟩
        · rename_i e
          cases h; cases e
          exact .inr ⟨_, _, rfl, k⟩
        · cases h
      · rintro (⟨xs, ys, rfl, k⟩ | ⟨xs, ys, rfl, k⟩)
        · exact ⟨_, rfl, k⟩
        · exact ⟨_, rfl, k⟩
def enK (KI : List D → Rho → Prop) (bor : Bool) (as : List Arg) (ρ : Rho) (ds : List D) : Prop := ∃ xs, ds = [.list xs] ∧ KI (enumD xs) (envB bor as ρ)
theorem enK_l {bor : Bool} {as : List Arg} {xs : List D} : enK KI bor as ρ [.list xs] = KI (enumD xs) (envB bor as ρ) :=
  propext ⟨fun ⟨_, h, k⟩ => by cases h; exact k, fun k => ⟨_, rfl, k⟩⟩
theorem wi_enum {bor : Bool} {cs : List Cd} : WI (iEnumF bor cs) ρ KI = WAs cs ρ fun as ρ1 => WDs ρ1 as fun ds => enK KI bor as ρ1 ds := by
  unfold WI WAs WDs iEnumF
  rcases aEs cs ρ with _ | ⟨as, ρ1⟩
  · simp only [ex_none]
  · simp only [ex_some]
    rcases argsD ρ1 as with _ | ds
    · simp only [ex_none]
    · simp only [ex_some]
      unfold Ex enK
      apply propext
      constructor
      · rintro ⟨p, h, k⟩
        split at h
        · rename_i e
          cases h; cases e
          exact ⟨_, rfl, k⟩
        · cases h
      · rintro ⟨xs, rfl, k⟩
        exact ⟨_, rfl, k⟩
end
end Pv

/-! Pw3: data of bounded size. -/
namespace Pv
open PySem PySem.Spec PyProof.Rows L2
/-- data without dicts, of bounded depth and size -/
def gd : Nat → D → Prop
  | _, .none => True
  | _, .bool _ => True
  | _, .int _ => True
  | _, .str s => s.length ≤ 1000
  | 0, .list _ => False
  | n + 1, .list xs => xs.length ≤ 1000 ∧ ∀ x ∈ xs, gd n x
  | 0, .tuple _ => False
  | n + 1, .tuple xs => xs.length ≤ 1000 ∧ ∀ x ∈ xs, gd n x
  | _, .dict _ => False
/-- .. and without truth values -/
def pl : Nat → D → Prop
  | _, .none => True
  | _, .bool _ => False
  | _, .int _ => True
  | _, .str s => s.length ≤ 1000
  | 0, .list _ => False
  | n + 1, .list xs => xs.length ≤ 1000 ∧ ∀ x ∈ xs, pl n x
  | 0, .tuple _ => False
  | n + 1, .tuple xs => xs.length ≤ 1000 ∧ ∀ x ∈ xs, pl n x
  | _, .dict _ => False
theorem gd_int {n : Nat} {i : Int} : gd n (.int i) = True := by cases n <;> rfl
theorem gd_none {n : Nat} : gd n .none = True := by cases n <;> rfl
theorem gd_bool {n : Nat} {i : Bool} : gd n (.bool i) = True := by cases n <;> rfl
theorem gd_str {n : Nat} {s : Str} : gd n (.str s) = (s.length ≤ 1000) := by cases n <;> rfl
theorem gd_list {n : Nat} {xs : List D} : gd (n + 1) (.list xs) = (xs.length ≤ 1000 ∧ ∀ x ∈ xs, gd n x) := rfl
theorem gd_tup {n : Nat} {xs : List D} : gd (n + 1) (.tuple xs) = (xs.length ≤ 1000 ∧ ∀ x ∈ xs, gd n x) := rfl
theorem pl_int {n : Nat} {i : Int} : pl n (.int i) = True := by cases n <;> rfl
theorem pl_none {n : Nat} : pl n .none = True := by cases n <;> rfl
theorem pl_str {n : Nat} {s : Str} : pl n (.str s) = (s.length ≤ 1000) := by cases n <;> rfl
theorem pl_list {n : Nat} {xs : List D} : pl (n + 1) (.list xs) = (xs.length ≤ 1000 ∧ ∀ x ∈ xs, pl n x) := rfl
theorem pl_tup {n : Nat} {xs : List D} : pl (n + 1) (.tuple xs) = (xs.length ≤ 1000 ∧ ∀ x ∈ xs, pl n x) := rfl
theorem pl_gd : ∀ {n : Nat} {d : D}, pl n d → gd n d
  | _, .none, _ => by rw [gd_none]; trivial
  | _, .bool _, _ => by rw [gd_bool]; trivial
  | _, .int _, _ => by rw [gd_int]; trivial
  | _, .str s, h => by rw [pl_str] at h; rw [gd_str]; exact h
  | 0, .list _, h => by cases h
  | n + 1, .list xs, h => ⟨h.1, fun x hx => pl_gd (h.2 x hx)⟩
  | 0, .tuple _, h => by cases h
  | n + 1, .tuple xs, h => ⟨h.1, fun x hx => pl_gd (h.2 x hx)⟩
  | 0, .dict _, h => by cases h
  | n + 1, .dict _, h => by cases h
theorem gd_mono : ∀ {n m : Nat} {d : D}, n ≤ m → gd n d → gd m d
  | _, _, .none, _, _ => by rw [gd_none]; trivial
  | _, _, .bool _, _, _ => by rw [gd_bool]; trivial
  | _, _, .int _, _, _ => by rw [gd_int]; trivial
  | _, _, .str s, _, h => by rw [gd_str] at h ⊢; exact h
  | 0, _, .list _, _, h => by cases h
  | n + 1, 0, .list xs, hl, h => by omega
  | n + 1, m + 1, .list xs, hl, h => ⟨h.1, fun x hx => gd_mono (Nat.le_of_succ_le_succ hl) (h.2 x hx)⟩
  | 0, _, .tuple _, _, h => by cases h
  | n + 1, 0, .tuple xs, hl, h => by omega
  | n + 1, m + 1, .tuple xs, hl, h => ⟨h.1, fun x hx => gd_mono (Nat.le_of_succ_le_succ hl) (h.2 x hx)⟩
  | 0, _, .dict _, _, h => by cases h
  | n + 1, _, .dict _, _, h => by cases h
theorem pl_mono : ∀ {n m : Nat} {d : D}, n ≤ m → pl n d → pl m d
  | _, _, .none, _, _ => by rw [pl_none]; trivial
  | 0, _, .bool _, _, h => by cases h
  | n + 1, _, .bool _, _, h => by cases h
  | _, _, .int _, _, _ => by rw [pl_int]; trivial
  | _, _, .str s, _, h => by rw [pl_str] at h ⊢; exact h
  | 0, _, .list _, _, h => by cases h
  | n + 1, 0, .list xs, hl, h => by omega
  | n + 1, m + 1, .list xs, hl, h => ⟨h.1, fun x hx => pl_mono (Nat.le_of_succ_le_succ hl) (h.2 x hx)⟩
  | 0, _, .tuple _, _, h => by cases h
  | n + 1, 0, .tuple xs, hl, h => by omega
  | n + 1, m + 1, .tuple xs, hl, h => ⟨h.1, fun x hx => pl_mono (Nat.le_of_succ_le_succ hl) (h.2 x hx)⟩
  | 0, _, .dict _, _, h => by cases h
  | n + 1, _, .dict _, _, h => by cases h
theorem depthAll_le {k : Nat} : ∀ {ds : List D}, (∀ d ∈ ds, d.depth ≤ k) → PyData.depthAll ds ≤ k
  | [], _ => by simp [PyData.depthAll]
  | d :: ds, h => by
    have h1 := h d (by simp)
    have h2 := depthAll_le (ds := ds) fun e he => h e (by simp [he])
    simp only [PyData.depthAll]
    omega
theorem mem_depth {k : Nat} : ∀ {ds : List D} {d : D}, PyData.depthAll ds ≤ k → d ∈ ds → d.depth ≤ k
  | d :: ds, e, h, hm => by
    simp only [PyData.depthAll] at h
    rcases List.mem_cons.mp hm with rfl | hm
    · omega
    · exact mem_depth (ds := ds) (by omega) hm
theorem filter_depth {k : Nat} {ds : List D} {q : D → Bool} (h : PyData.depthAll ds ≤ k) : PyData.depthAll (ds.filter q) ≤ k :=
  depthAll_le fun d hd => mem_depth h (List.mem_filter.mp hd).1
theorem gd_depth : ∀ {n : Nat} {d : D}, gd n d → d.depth ≤ n
  | _, .none, _ => by simp [PyData.depth]
  | _, .bool _, _ => by simp [PyData.depth]
  | _, .int _, _ => by simp [PyData.depth]
  | _, .str _, _ => by simp [PyData.depth]
  | 0, .list _, h => by cases h
  | n + 1, .list xs, h => by
    have := depthAll_le (k := n) fun x hx => gd_depth (h.2 x hx)
    simp only [PyData.depth]
    omega
  | 0, .tuple _, h => by cases h
  | n + 1, .tuple xs, h => by
    have := depthAll_le (k := n) fun x hx => gd_depth (h.2 x hx)
    simp only [PyData.depth]
    omega
  | 0, .dict _, h => by cases h
  | n + 1, .dict _, h => by cases h
theorem gds_depth {n : Nat} {ds : List D} (h : ∀ d ∈ ds, gd n d) : PyData.depthAll ds ≤ n := depthAll_le fun d hd => gd_depth (h d hd)
theorem eqvAll_refl : ∀ {ds : List D}, (∀ d ∈ ds, PyData.eqv d d = true) → PyData.eqvAll ds ds = true
  | [], _ => rfl
  | d :: ds, h => by
    simp only [PyData.eqvAll, h d (by simp), Bool.true_and]
    exact eqvAll_refl fun e he => h e (by simp [he])
theorem gd_refl : ∀ {n : Nat} {d : D}, gd n d → PyData.eqv d d = true
  | _, .none, _ => rfl
  | _, .bool _, _ => by simp [PyData.eqv]
  | _, .int _, _ => by simp [PyData.eqv]
  | _, .str _, _ => by simp [PyData.eqv]
  | 0, .list _, h => by cases h
  | n + 1, .list xs, h => by
    simp only [PyData.eqv]
    exact eqvAll_refl fun x hx => gd_refl (h.2 x hx)
  | 0, .tuple _, h => by cases h
  | n + 1, .tuple xs, h => by
    simp only [PyData.eqv]
    exact eqvAll_refl fun x hx => gd_refl (h.2 x hx)
  | 0, .dict _, h => by cases h
  | n + 1, .dict _, h => by cases h
theorem eqvAll_iff : ∀ {xs ys : List D}, (∀ x ∈ xs, ∀ y, y ∈ ys → (PyData.eqv x y = true ↔ x = y)) → (PyData.eqvAll xs ys = true ↔ xs = ys)
  | [], [], _ => by simp [PyData.eqvAll]
  | [], _ :: _, _ => by simp [PyData.eqvAll]
  | _ :: _, [], _ => by simp [PyData.eqvAll]
  | x :: xs, y :: ys, h => by
    simp only [PyData.eqvAll, Bool.and_eq_true, List.cons.injEq]
    rw [h x (by simp) y (by simp), eqvAll_iff fun a ha b hb => h a (by simp [ha]) b (by simp [hb])]
theorem pl_eqv : ∀ {n m : Nat} {a b : D}, pl n a → pl m b → (PyData.eqv a b = true ↔ a = b)
  | 0, _, .bool _, _, h, _ => by cases h
  | n + 1, _, .bool _, _, h, _ => by cases h
  | 0, _, .dict _, _, h, _ => by cases h
  | n + 1, _, .dict _, _, h, _ => by cases h
  | 0, _, .list _, _, h, _ => by cases h
  | 0, _, .tuple _, _, h, _ => by cases h
  | _, 0, _, .bool _, _, h => by cases h
  | _, n + 1, _, .bool _, _, h => by cases h
  | _, 0, _, .dict _, _, h => by cases h
  | _, n + 1, _, .dict _, _, h => by cases h
  | _, 0, _, .list _, _, h => by cases h
  | _, 0, _, .tuple _, _, h => by cases h
  | n + 1, m + 1, .list xs, .list ys, h, k => by
    simp only [PyData.eqv, PyData.list.injEq]
    exact eqvAll_iff fun x hx y hy => pl_eqv (h.2 x hx) (k.2 y hy)
  | n + 1, m + 1, .tuple xs, .tuple ys, h, k => by
    simp only [PyData.eqv, PyData.tuple.injEq]
    exact eqvAll_iff fun x hx y hy => pl_eqv (h.2 x hx) (k.2 y hy)
  | _, _, .none, .none, _, _ => by simp [PyData.eqv]
  | _, _, .none, .int _, _, _ => by simp [PyData.eqv]
  | _, _, .none, .str _, _, _ => by simp [PyData.eqv]
  | _, m + 1, .none, .list _, _, _ => by simp [PyData.eqv]
  | _, m + 1, .none, .tuple _, _, _ => by simp [PyData.eqv]
  | _, _, .int _, .none, _, _ => by simp [PyData.eqv]
  | _, _, .int _, .int _, _, _ => by simp [PyData.eqv]
  | _, _, .int _, .str _, _, _ => by simp [PyData.eqv]
  | _, m + 1, .int _, .list _, _, _ => by simp [PyData.eqv]
  | _, m + 1, .int _, .tuple _, _, _ => by simp [PyData.eqv]
  | _, _, .str _, .none, _, _ => by simp [PyData.eqv]
  | _, _, .str _, .int _, _, _ => by simp [PyData.eqv]
  | _, _, .str _, .str _, _, _ => by simp [PyData.eqv]
  | _, m + 1, .str _, .list _, _, _ => by simp [PyData.eqv]
  | _, m + 1, .str _, .tuple _, _, _ => by simp [PyData.eqv]
  | n + 1, _, .list _, .none, _, _ => by simp [PyData.eqv]
  | n + 1, _, .list _, .int _, _, _ => by simp [PyData.eqv]
  | n + 1, _, .list _, .str _, _, _ => by simp [PyData.eqv]
  | n + 1, m + 1, .list _, .tuple _, _, _ => by simp [PyData.eqv]
  | n + 1, _, .tuple _, .none, _, _ => by simp [PyData.eqv]
  | n + 1, _, .tuple _, .int _, _, _ => by simp [PyData.eqv]
  | n + 1, _, .tuple _, .str _, _, _ => by simp [PyData.eqv]
  | n + 1, m + 1, .tuple _, .list _, _, _ => by simp [PyData.eqv]
theorem anyEqv_iff {n m : Nat} {a : D} {ds : List D} (ha : pl n a) (hd : ∀ d ∈ ds, pl m d) : anyEqv a ds = true ↔ a ∈ ds := by
  unfold anyEqv
  rw [List.any_eq_true]
  constructor
  · rintro ⟨x, hx, e⟩
    rw [pl_eqv (hd x hx) ha] at e
    exact e ▸ hx
  · intro h
    exact ⟨a, h, (pl_eqv ha ha).mpr rfl⟩
theorem le_size {n : Nat} (h : n ≤ 1000) : n ≤ sizeLine := Nat.le_of_lt (small1000 h)
theorem ex_map {α : Type} {f : α → D} : ∀ {l : List D}, (∀ y ∈ l, ∃ c, y = f c) → ∃ m : List α, l = m.map f
  | [], _ => ⟨[], rfl⟩
  | x :: l, h => by
    obtain ⟨c, rfl⟩ := h x (by simp)
    obtain ⟨m, rfl⟩ := ex_map (l := l) fun y hy => h y (by simp [hy])
    exact ⟨c :: m, rfl⟩
theorem ex_mapP {α : Type} {f : α → D} {P : α → Prop} : ∀ {l : List D}, (∀ y ∈ l, ∃ c, y = f c ∧ P c) → ∃ m : List α, l = m.map f ∧ ∀ c ∈ m, P c
  | [], _ => ⟨[], rfl, by simp⟩
  | x :: l, h => by
    obtain ⟨c, rfl, hc⟩ := h x (by simp)
    obtain ⟨m, rfl, hm⟩ := ex_mapP (l := l) fun y hy => h y (by simp [hy])
    exact ⟨c :: m, rfl, by simpa using ⟨hc, hm⟩⟩
theorem join1_len (l : List Nat) : (Str.join "" (l.map fun c => (⟨#[c]⟩ : Str))).length ≤ l.length := by
  have h := StrLaws.join_length_le "" (l.map fun c => (⟨#[c]⟩ : Str))
  have h2 : ((l.map fun c => (⟨#[c]⟩ : Str)).map (·.length)).sum = l.length := by
    induction l with
    | nil => rfl
    | cons c l ih => 
      simp only [List.map_cons, List.sum_cons, List.length_cons] at ih ⊢
      rw [ih (StrLaws.join_length_le _ _)]
      show 1 + l.length = l.length + 1
      omega
  rw [h2] at h
  have h3 : ("" : Str).length = 0 := by decide +kernel
  rw [h3, List.length_map, Nat.mul_zero, Nat.add_zero] at h
  exact h
theorem join1_sum (l : List Nat) : (((l.map fun c => (⟨#[c]⟩ : Str)).map (·.length)).sum + (l.map fun c => (⟨#[c]⟩ : Str)).length * ("" : Str).length) = l.length := by
  have h3 : ("" : Str).length = 0 := by decide +kernel
  rw [h3, Nat.mul_zero, Nat.add_zero]
  induction l with
  | nil => rfl
  | cons c l ih =>
    simp only [List.map_cons, List.sum_cons, List.length_cons]
    rw [ih]
    show 1 + l.length = l.length + 1
    omega
theorem cutD_len {α : Type} {xs : List α} {lo hi : Option Int} : (cutD xs lo hi).length ≤ xs.length := by
  unfold cutD
  rw [List.length_take, List.length_drop]
  omega
theorem cutD_mem {α : Type} {xs : List α} {lo hi : Option Int} {x : α} (h : x ∈ cutD xs lo hi) : x ∈ xs := by
  unfold cutD at h
  exact List.mem_of_mem_drop (List.mem_of_mem_take h)
theorem strlen_app {x y : Str} : (x ++ y).length = x.length + y.length := by
  show (x.cps ++ y.cps).size = _
  rw [Array.size_append]
  rfl
theorem strlen_mk {l : List Nat} : (⟨l.toArray⟩ : Str).length = l.length := by
  show l.toArray.size = _
  simp
theorem strlen_l {x : Str} : x.cps.toList.length = x.length := by
  rw [Array.length_toList]
  rfl
theorem strlen_1 {c : Nat} : (⟨#[c]⟩ : Str).length = 1 := rfl
/-! comprehensions over data as it stands -/
section
variable {ρ : Rho} {vs : List Nat} {g : GF} {t : BF} {el : Cd} {K : List D → Rho → Prop}
theorem wlc_all {α : Type} {e : α → D} (h : α → D) {xs : List α} (hl : xs.length ≤ sizeLine)
    (st : ∀ x, x ∈ xs → WG g (e x) ρ fun ρ1 => WB t ρ1 fun b ρ2 => b = true ∧ WV el ρ2 fun y ρ3 => y = h x ∧ WW ρ3 vs fun ρ4 => ρ4 = ρ) (fin : K (xs.map h) ρ) : WLc vs g t el (xs.map e) ρ [] K := by
  refine wlc_map (fun _ => true) h hl (fun x hx => ex_imp (st x hx) fun ρ1 h1 => ex_imp h1 fun ⟨b, ρ2⟩ ⟨h2, h3⟩ => ⟨h2, fun _ => h3, fun h4 => ?_⟩) ?_
  · rw [show b = true from h2] at h4; cases h4
  · rw [List.filter_eq_self.mpr (fun _ _ => rfl)]; exact fin
theorem wlc_all' (h : D → D) {xs : List D} (hl : xs.length ≤ sizeLine)
    (st : ∀ x, x ∈ xs → WG g x ρ fun ρ1 => WB t ρ1 fun b ρ2 => b = true ∧ WV el ρ2 fun y ρ3 => y = h x ∧ WW ρ3 vs fun ρ4 => ρ4 = ρ) (fin : K (xs.map h) ρ) : WLc vs g t el xs ρ [] K := by
  have := wlc_all (e := id) (K := K) h hl st fin
  rwa [List.map_id] at this
theorem wlc_map' (q : D → Bool) (h : D → D) {xs : List D} (hl : xs.length ≤ sizeLine)
    (st : ∀ x, x ∈ xs → WG g x ρ fun ρ1 => WB t ρ1 fun b ρ2 => b = q x ∧ (b = true → WV el ρ2 fun y ρ3 => y = h x ∧ WW ρ3 vs fun ρ4 => ρ4 = ρ) ∧ (b = false → WW ρ2 vs fun ρ4 => ρ4 = ρ)) (fin : K ((xs.filter q).map h) ρ) :
    WLc vs g t el xs ρ [] K := by
  have := wlc_map (e := id) (K := K) q h hl st fin
  rwa [List.map_id] at this
theorem wlc_fil' (q : D → Bool) {xs : List D} (hl : xs.length ≤ sizeLine)
    (st : ∀ x, x ∈ xs → WG g x ρ fun ρ1 => WB t ρ1 fun b ρ2 => b = q x ∧ (b = true → WV el ρ2 fun y ρ3 => y = x ∧ WW ρ3 vs fun ρ4 => ρ4 = ρ) ∧ (b = false → WW ρ2 vs fun ρ4 => ρ4 = ρ)) (fin : K (xs.filter q) ρ) :
    WLc vs g t el xs ρ [] K := wlc_map' q id hl st (by rw [List.map_id]; exact fin)
theorem wlc_inv' (J : List D → Rho → List D → Prop) {xs : List D} {acc : List D} (h0 : J [] ρ acc)
    (st : ∀ pr x po ρ acc, xs = pr ++ x :: po → J pr ρ acc → WG g x ρ fun ρ1 => WB t ρ1 fun b ρ2 => (b = true → WV el ρ2 fun y ρ3 => acc.length < sizeLine ∧ WW ρ3 vs fun ρ4 => J (pr ++ [x]) ρ4 (acc ++ [y])) ∧ (b = false → WW ρ2 vs fun ρ4 => J (pr ++ [x]) ρ4 acc))
    (fin : ∀ ρ acc, J xs ρ acc → K acc ρ) : WLc vs g t el xs ρ acc K := by
  have := wlc_inv (e := id) (K := K) (pre := []) (xs := xs) J h0 st fin
  rwa [List.map_id] at this
/-- a stateful comprehension: what is kept of the state, and of each item -/
theorem wlc_st {α : Type} {e : α → D} (S : Rho → Prop) (P : D → Prop) {xs : List α} (hl : xs.length ≤ sizeLine) (h0 : S ρ)
    (st : ∀ x ρ, x ∈ xs → S ρ → WG g (e x) ρ fun ρ1 => WB t ρ1 fun b ρ2 => (b = true → WV el ρ2 fun y ρ3 => P y ∧ WW ρ3 vs fun ρ4 => S ρ4) ∧ (b = false → WW ρ2 vs fun ρ4 => S ρ4))
    (fin : ∀ ρ acc, S ρ → (∀ y ∈ acc, P y) → acc.length ≤ xs.length → K acc ρ) : WLc vs g t el (xs.map e) ρ [] K := by
  refine wlc_inv (pre := []) (fun pre ρ acc => S ρ ∧ (∀ y ∈ acc, P y) ∧ acc.length ≤ pre.length) ⟨h0, by simp, by simp⟩ ?_ (fun ρ acc h => fin ρ acc h.1 h.2.1 (by simpa using h.2.2))
  rintro pr x po ρ acc hx ⟨h1, h2, h3⟩
  have hx : xs = pr ++ x :: po := hx
  have hlt : pr.length < xs.length := by rw [hx]; simp
  refine ex_imp (st x ρ (by rw [hx]; simp) h1) fun ρ1 h1 => ex_imp h1 fun ⟨b, ρ2⟩ ⟨h5, h6⟩ => ⟨fun hb => ex_imp (h5 hb) fun ⟨y, ρ3⟩ ⟨h7, h8⟩ => ⟨by omega, h8, ?_, by simp; omega⟩, fun hb => ⟨h6 hb, h2, by simp; omega⟩⟩
  intro z hz
  rw [List.mem_append] at hz
  rcases hz with hz | hz
  · exact h2 z hz
  · rw [List.mem_singleton.mp hz]; exact h7
theorem wlc_st' (S : Rho → Prop) (P : D → Prop) {xs : List D} (hl : xs.length ≤ sizeLine) (h0 : S ρ)
    (st : ∀ x ρ, x ∈ xs → S ρ → WG g x ρ fun ρ1 => WB t ρ1 fun b ρ2 => (b = true → WV el ρ2 fun y ρ3 => P y ∧ WW ρ3 vs fun ρ4 => S ρ4) ∧ (b = false → WW ρ2 vs fun ρ4 => S ρ4))
    (fin : ∀ ρ acc, S ρ → (∀ y ∈ acc, P y) → acc.length ≤ xs.length → K acc ρ) : WLc vs g t el xs ρ [] K := by
  have := wlc_st (e := id) (K := K) S P hl h0 st fin
  rwa [List.map_id] at this
theorem wf_inv' {s : SF} {Q : Out → Prop} (J : List D → Rho → Prop) {xs : List D} (h0 : J [] ρ)
    (st : ∀ pr x po ρ, xs = pr ++ x :: po → J pr ρ → WG g x ρ fun ρ1 => W s ρ1 (lpK (J (pr ++ [x])) Q)) (fin : ∀ ρ, J xs ρ → Q (.nx ρ)) : WF g s xs ρ Q := by
  have := wf_inv (e := id) (Q := Q) (g := g) (s := s) (pre := []) (xs := xs) J h0 st fin
  rwa [List.map_id] at this
/-- a loop that keeps S -/
theorem wf_st {s : SF} {Q : Out → Prop} {α : Type} {e : α → D} (S : Rho → Prop) {xs : List α} (h0 : S ρ)
    (st : ∀ x ρ, x ∈ xs → S ρ → WG g (e x) ρ fun ρ1 => W s ρ1 (lpK S Q)) (fin : ∀ ρ, S ρ → Q (.nx ρ)) : WF g s (xs.map e) ρ Q :=
  wf_inv (pre := []) (fun _ ρ => S ρ) h0 (fun pr x po ρ hx h => st x ρ (by rw [show xs = pr ++ x :: po from hx]; simp) h) (fun ρ h => fin ρ h)
theorem wf_st' {s : SF} {Q : Out → Prop} (S : Rho → Prop) {xs : List D} (h0 : S ρ)
    (st : ∀ x ρ, x ∈ xs → S ρ → WG g x ρ fun ρ1 => W s ρ1 (lpK S Q)) (fin : ∀ ρ, S ρ → Q (.nx ρ)) : WF g s xs ρ Q := by
  have := wf_st (e := id) (Q := Q) (g := g) (s := s) (xs := xs) S h0 st fin
  rwa [List.map_id] at this
end
end Pv

/-! Pw4: the primitives of FwS and FwT. -/
namespace Pv
open PySem PySem.Spec PyProof.Rows L2
section
variable {ρ : Rho} {KR : Slt → Rho → Prop} {Q : Out → Prop} {K : Slt → Prop} {i j : Nat} {a b c c2 : Cd} {x y : Str} {xs : List D}
theorem w_mov : W (sMov j i) ρ Q = WL ρ j fun s => WZ ρ j none fun ρ1 => WS ρ1 i (some s) fun ρ2 => Q (.nx ρ2) := by
  unfold W WL WZ WS sMov Ex
  simp only [List.length_set]
  apply propext
  constructor
  · rintro ⟨o, h, k⟩
    split at h
    · rename_i s e
      split at h
      · rename_i hi
        cases h
        exact ⟨_, e, hi, k⟩
      · cases h
    · cases h
  · rintro ⟨s, h, hi, k⟩
    exact ⟨_, by rw [h]; simp only; rw [if_pos hi], k⟩
theorem wo_fmt_s : WO (gFmt (.str x)) K = (x.length ≤ sizeLine ∧ K (.val (.str x))) := by
  unfold WO gFmt fmtD
  simp only
  by_cases h : x.length ≤ sizeLine
  · rw [if_pos h]; simp only [ex_some, h, true_and]
  · rw [if_neg h]; simp only [ex_none, h, false_and]
theorem wo_fmt_i {n : Int} : WO (gFmt (.int n)) K = (n.natAbs.log2 < 1920 ∧ K (.val (.str (toString n)))) := by
  unfold WO gFmt fmtD
  simp only
  by_cases h : n.natAbs.log2 < 1920
  · rw [if_pos h]; simp only [ex_some, h, true_and]
  · rw [if_neg h]; simp only [ex_none, h, false_and]
theorem wo_str_i {n : Int} : WO (gStr [.int n]) K = (n.natAbs.log2 < 1920 ∧ K (.val (.str (toString n)))) := by
  unfold WO gStr
  simp only
  by_cases h : n.natAbs.log2 < 1920
  · rw [if_pos h]; simp only [ex_some, h, true_and]
  · rw [if_neg h]; simp only [ex_none, h, false_and]
def WJs (cs : List Cd) (acc : Str) (ρ : Rho) (K : Str → Rho → Prop) : Prop := Ex (jsD cs acc ρ) fun p => K p.1 p.2
theorem wjs_n {acc : Str} {K : Str → Rho → Prop} : WJs [] acc ρ K = K acc ρ := ex_some
theorem wjs_c {cs : List Cd} {acc : Str} {K : Str → Rho → Prop} : WJs (c :: cs) acc ρ K = WV c ρ fun d ρ1 => strK (fun y => (acc ++ y).length ≤ sizeLine ∧ WJs cs (acc ++ y) ρ1 K) d := by
  unfold WJs WV strK Ex
  apply propext
  constructor
  · rintro ⟨o, h, q⟩
    unfold jsD at h
    split at h
    · rename_i z ρ1 e1
      split at h
      · rename_i hl
        exact ⟨_, e1, _, rfl, hl, _, h, q⟩
      · cases h
    · cases h
  · rintro ⟨⟨d, ρ1⟩, e1, z, rfl, hl, o, h, q⟩
    refine ⟨o, ?_, q⟩
    unfold jsD
    simp only at h
    simp only [e1, h]
    rw [if_pos hl]
theorem wr_js {cs : List Cd} : WR (eJs cs) ρ KR = WJs cs Str.empty ρ fun y ρ1 => KR (.val (.str y)) ρ1 := by
  unfold WR WJs eJs
  rcases jsD cs Str.empty ρ with _ | ⟨y, ρ1⟩
  · simp only [ex_none]
  · simp only [ex_some]
theorem wo_split : WO (gSplit (.str x) (.str y)) K = ((((y.length == 0) = false ∧ x.length + 2 ≤ sizeLine) ∧ (Txt.split x y).all PyData.strOk = true) ∧ K (.own ((Txt.split x y).map .str))) := by
  unfold WO gSplit
  simp only
  by_cases h : ((y.length == 0) = false ∧ x.length + 2 ≤ sizeLine) ∧ (Txt.split x y).all PyData.strOk = true
  · rw [if_pos h]; simp only [ex_some, h, and_self, true_and]
  · rw [if_neg h]; simp only [ex_none, h, false_and]
theorem wo_starts : WO (gStarts (.str x) (.str y)) K = K (.val (.bool (Txt.startswith x y))) := ex_some
theorem wr_m2 {g : D → D → List D → Option (D × List D)} : WR (eM2 g i c c2) ρ KR = WOwn ρ i fun _ => WV c ρ fun d1 ρ1 => WV c2 ρ1 fun d2 ρ2 => WOwn ρ2 i fun ds => Ex (g d1 d2 ds) fun y => WZ ρ2 i (some (.own y.2)) fun ρ3 => KR (.val y.1) ρ3 := by
  unfold WR WOwn WV WZ eM2 Ex
  apply propext
  constructor
  · rintro ⟨o, h, q⟩
    split at h
    · rename_i ds0 e0
      split at h
      · rename_i d1 ρ1 e1
        split at h
        · rename_i d2 ρ2 e2
          split at h
          · rename_i ds e3
            split at h
            · rename_i d ds1 e4
              cases h
              exact ⟨_, e0, _, e1, _, e2, _, e3, _, e4, q⟩
            · cases h
          · cases h
        · cases h
      · cases h
    · cases h
  · rintro ⟨ds0, e0, ⟨d1, ρ1⟩, e1, ⟨d2, ρ2⟩, e2, ds, e3, ⟨d, ds1⟩, e4, q⟩
    refine ⟨(.val d, ρ2.set i (some (.own ds1))), ?_, q⟩
    simp only at e1 e2 e3 e4
    simp only [e0, e1, e2, e3, e4]
theorem ex_insert {n : Int} {d : D} {ds : List D} {K : D × List D → Prop} : Ex (gInsert (.int n) d ds) K = ((ds.length < sizeLine ∧ 0 ≤ n ∧ n < 2 ^ 63) ∧ K (.none, ds.take n.toNat ++ [d] ++ ds.drop n.toNat)) := by
  unfold gInsert
  simp only
  by_cases h : ds.length < sizeLine ∧ 0 ≤ n ∧ n < 2 ^ 63
  · rw [if_pos h]; simp only [ex_some, h, true_and, and_self]
  · rw [if_neg h]; simp only [ex_none, h, false_and]
theorem wo_sorted : WO (gSorted [.list xs]) K = ((alikeB xs = true ∧ sortableB xs = true ∧ PyData.depthAll xs ≤ 64 ∧ xs.length ≤ sizeLine) ∧ K (.own (srtD xs))) := by
  unfold WO gSorted
  simp only
  cases h1 : alikeB xs with
  | false => simp [ex_none]
  | true =>
    cases h2 : sortableB xs with
    | false => simp [ex_none]
    | true =>
      simp only
      by_cases h : PyData.depthAll xs ≤ 64 ∧ xs.length ≤ sizeLine
      · rw [if_pos h]; simp only [ex_some, h, true_and, and_self]
      · rw [if_neg h]; simp only [ex_none, h, false_and, and_false]
end
theorem wo_mul_ii {i j : Int} {K : Slt → Prop} : WO (gMulS (.int i) (.int j)) K = (((-(2 ^ 64) < i ∧ i < 2 ^ 64) ∨ (-(2 ^ 64) < j ∧ j < 2 ^ 64)) ∧ K (.val (.int (i * j)))) := by
  rw [← wo_mul]
  rfl
theorem wo_mul_si {x : Str} {n : Int} {K : Slt → Prop} : WO (gMulS (.str x) (.int n)) K = (((x.length * n.toNat ≤ 1000000 ∧ -(2 ^ 62) ≤ n ∧ n < 2 ^ 62) ∧ PyData.strOk (repS x n) = true) ∧ K (.val (.str (repS x n)))) := by
  unfold WO gMulS
  simp only
  by_cases h : (x.length * n.toNat ≤ 1000000 ∧ -(2 ^ 62) ≤ n ∧ n < 2 ^ 62) ∧ PyData.strOk (repS x n) = true
  · rw [if_pos h]; simp only [ex_some, h, true_and, and_self]
  · rw [if_neg h]; simp only [ex_none, h, false_and]
theorem wo_min2 {i j : Int} {K : Slt → Prop} : WO (gMin [.int i, .int j]) K = K (.val (.int (if j < i then j else i))) := ex_some
theorem wo_max2 {i j : Int} {K : Slt → Prop} : WO (gMax [.int i, .int j]) K = K (.val (.int (if j > i then j else i))) := ex_some
theorem lt_size5 {n : Nat} (h : n ≤ 100000) : n < sizeLine := Nat.lt_of_le_of_lt h (by decide)
theorem le_size5 {n : Nat} (h : n ≤ 100000) : n ≤ sizeLine := Nat.le_of_lt (lt_size5 h)
theorem rng_at {n k : Nat} {pre po : List Nat} (h : List.range n = pre ++ k :: po) : k = pre.length ∧ pre.length < n := by
  have e : (List.range n)[pre.length]? = some k := by rw [h]; simp
  have hl := (List.getElem?_eq_some_iff.mp e).1
  rw [List.length_range] at hl
  rw [List.getElem?_range hl] at e
  exact ⟨(Option.some.inj e).symm, hl⟩
theorem strsOf_str : ∀ {l : List Str}, strsOf (l.map PyData.str) = some l
  | [] => rfl
  | x :: l => by simp only [List.map_cons, strsOf]; rw [strsOf_str]; rfl
theorem wo_joinS {x : Str} {l : List Str} {K : Slt → Prop} : WO (gJoin (.str x) (.list (l.map PyData.str))) K = ((l.map (·.length)).sum + l.length * x.length ≤ 16777216 ∧ K (.val (.str (Str.join x l)))) := by
  unfold WO gJoin
  simp only [strsOf_str]
  by_cases h : (l.map (·.length)).sum + l.length * x.length ≤ 16777216
  · rw [if_pos h, ex_some]; simp only [h, true_and]
  · rw [if_neg h, ex_none]; simp only [h, false_and]
theorem ex_atI_eq {α : Type} {xs : List α} {i : Int} {d : α} {K : α → Prop} (h0 : 0 ≤ i) (h1 : i < xs.length) : Ex (atI xs i) K = K (xs.getD i.toNat d) := by
  have hl : i.toNat < xs.length := by omega
  have e : (i.toNat : Int) = i := Int.toNat_of_nonneg h0
  rw [← e, atI_nat0 (List.getElem?_eq_getElem hl), ex_some, Int.toNat_natCast, List.getD_eq_getElem?_getD, List.getElem?_eq_getElem hl]
  rfl
theorem atI_at {α : Type} {xs : List α} {i : Nat} {x : α} (h : xs[i]? = some x) {K : α → Prop} : Ex (atI xs (0 + (i : Int))) K = K x := by
  rw [Int.zero_add, atI_nat0 h, ex_some]
/-- a stateful comprehension without a test -/
theorem wlc_sta {ρ : Rho} {vs : List Nat} {g : GF} {t : BF} {el : Cd} {K : List D → Rho → Prop} {α : Type} {e : α → D} (S : Rho → Prop) (P : D → Prop) {xs : List α} (hl : xs.length ≤ sizeLine) (h0 : S ρ)
    (st : ∀ x ρ, x ∈ xs → S ρ → WG g (e x) ρ fun ρ1 => WB t ρ1 fun b ρ2 => b = true ∧ WV el ρ2 fun y ρ3 => P y ∧ WW ρ3 vs fun ρ4 => S ρ4)
    (fin : ∀ ρ acc, S ρ → (∀ y ∈ acc, P y) → acc.length = xs.length → K acc ρ) : WLc vs g t el (xs.map e) ρ [] K := by
  refine wlc_inv (pre := []) (fun pre ρ acc => S ρ ∧ (∀ y ∈ acc, P y) ∧ acc.length = pre.length) ⟨h0, by simp, by simp⟩ ?_ (fun ρ acc h => fin ρ acc h.1 h.2.1 (by simpa using h.2.2))
  rintro pr x po ρ acc hx ⟨h1, h2, h3⟩
  have hx : xs = pr ++ x :: po := hx
  have hlt : pr.length < xs.length := by rw [hx]; simp
  refine ex_imp (st x ρ (by rw [hx]; simp) h1) fun ρ1 h1 => ex_imp h1 fun ⟨b, ρ2⟩ ⟨h5, h6⟩ => ⟨fun hb => ex_imp h6 fun ⟨y, ρ3⟩ ⟨h7, h8⟩ => ⟨by omega, h8, ?_, by simp [h3]⟩, fun hb => by rw [show b = true from h5] at hb; cases hb⟩
  intro z hz
  rw [List.mem_append] at hz
  rcases hz with hz | hz
  · exact h2 z hz
  · rw [List.mem_singleton.mp hz]; exact h7
theorem cut_mid {α : Type} {xs : List α} {a b : Nat} (h : b ≤ xs.length) (hab : a ≤ b) : Pv.cutD xs (some (a : Int)) (some (b : Int)) = (xs.drop a).take (b - a) := by
  unfold Pv.cutD
  rw [HT.sIx_nat, HT.sIx_nat, Nat.min_eq_left h, Nat.min_eq_left (Nat.le_trans hab h)]
theorem cut_take {α : Type} {xs : List α} {v : Int} (h : 0 ≤ v) : cutD xs none (some v) = xs.take v.toNat := by
  unfold cutD HT.sIx
  simp only
  rw [if_neg (by omega), List.drop_zero, Nat.sub_zero]
  by_cases k : v.toNat ≤ xs.length
  · rw [Nat.min_eq_left k]
  · rw [Nat.min_eq_right (by omega), List.take_of_length_le (Nat.le_refl _), List.take_of_length_le (by omega)]
theorem cut_drop {α : Type} {xs : List α} {v : Int} (h : 0 ≤ v) : cutD xs (some v) none = xs.drop v.toNat := by
  unfold cutD HT.sIx
  simp only
  rw [if_neg (by omega)]
  by_cases k : v.toNat ≤ xs.length
  · rw [Nat.min_eq_left k, List.take_of_length_le (by rw [List.length_drop]; omega)]
  · rw [Nat.min_eq_right (by omega), List.drop_of_length_le (Nat.le_refl _), List.drop_of_length_le (by omega), List.take_nil]
theorem nol_own {ds : List D} : (Slt.own ds).noL = noLs ds := rfl
theorem nol_val {d : D} : (Slt.val d).noL = noL d := rfl
theorem nol_int {i : Int} : noL (.int i) = true := rfl
theorem nol_str {i : Str} : noL (.str i) = true := rfl
theorem nol_bool {i : Bool} : noL (.bool i) = true := rfl
theorem nol_none : noL .none = true := rfl
theorem nol_tup {ds : List D} : noL (.tuple ds) = noLs ds := rfl
theorem nols_n : noLs [] = true := rfl
theorem nols_c {d : D} {ds : List D} : noLs (d :: ds) = (noL d && noLs ds) := rfl
theorem noLs_iff : ∀ {ds : List D}, noLs ds = true ↔ ∀ d ∈ ds, noL d = true
  | [] => by simp [noLs]
  | d :: ds => by
    rw [nols_c, Bool.and_eq_true, noLs_iff (ds := ds)]
    simp
theorem atI_rng {α : Type} {xs : List α} {i : Nat} (h : i < xs.length) {K : α → Prop} : Ex (atI xs (0 + (i : Int))) K = K xs[i] := by
  rw [Int.zero_add, atI_nat0 (List.getElem?_eq_getElem h), ex_some]
end Pv

/-! Pw5: more primitives. -/
namespace Pv
open PySem PySem.Spec PyProof.Rows L2
section
variable {ρ : Rho} {Q : Out → Prop}
theorem w_bk : W (fun ρ => some (.bk ρ)) ρ Q = Q (.bk ρ) := ex_some
theorem w_ct : W (fun ρ => some (.ct ρ)) ρ Q = Q (.ct ρ) := ex_some
theorem w_rtn : W (fun ρ => some (.rt (.val .none) ρ)) ρ Q = Q (.rt (.val .none) ρ) := ex_some
end
theorem eqv_bb {a b : Bool} : PyData.eqv (.bool a) (.bool b) = (a == b) := rfl
theorem eqv_nn : PyData.eqv .none .none = true := rfl
theorem map_at {α β : Type} {f : α → β} {l : List α} {i : Nat} (h : i < l.length) : (l.map f)[i]? = some (f l[i]) := by
  rw [List.getElem?_map, List.getElem?_eq_getElem h]
  rfl
theorem take_at {α : Type} {l : List α} {i : Nat} (h : i < l.length) : l.take (i + 1) = l.take i ++ [l[i]] := by
  rw [List.take_succ, List.getElem?_eq_getElem h]
  rfl
end Pv

/-! Pw6: sorted with a key, all and any over signs, index, triples; orders. -/
namespace Pv
open PySem PySem.Spec PyProof.Rows L2
def listK (K : List D → Prop) (d : D) : Prop := ∃ xs, d = .list xs ∧ K xs
theorem listK_l {xs : List D} {K : List D → Prop} : listK K (.list xs) = K xs := propext ⟨fun ⟨t, h, k⟩ => by cases h; exact k, fun k => ⟨xs, rfl, k⟩⟩
/-- sorted by keys: what is wanted of the result -/
def WSk (el : Cd) (i : Nat) (ρ : Rho) (xs : List D) (K : List D → Prop) : Prop :=
  ∃ ks, keysD el i ρ xs = some ks ∧ alikeB ks = true ∧ sortableB ks = true ∧ PyData.depthAll ks ≤ 64 ∧ xs.length ≤ sizeLine ∧ K (srtK xs ks)
section
variable {ρ : Rho} {KR : Slt → Rho → Prop} {Q : Out → Prop} {K : Slt → Prop} {i j l : Nat} {a b c el : Cd}
theorem wr_sortK : WR (eSortK c i el) ρ KR = WA c ρ fun x ρ1 => WD ρ1 x fun d => listK (fun xs => WSk el i ρ1 xs fun ys => KR (.own ys) ρ1) d := by
  unfold WR WA WD listK WSk Ex
  apply propext
  constructor
  · rintro ⟨p, h, k⟩
    obtain ⟨x, xs, ks, h1, h2, h3, h4, h5, h7, h8, h9⟩ := eSortK_inv (show eSortK c i el ρ = some (p.1, p.2) from h)
    rw [h9] at k
    exact ⟨_, h1, _, h2, xs, rfl, ks, h3, h4, h5, h7, h8, k⟩
  · rintro ⟨⟨x, ρ1⟩, h1, d, h2, xs, rfl, ks, h3, h4, h5, h7, h8, k⟩
    simp only at h1 h2 h3 k
    refine ⟨(.own (srtK xs ks), ρ1), ?_, k⟩
    unfold eSortK
    simp only [h1, h2, h3, h4, h5]
    rw [if_pos ⟨h7, h8⟩]
theorem wr_quG {all : Bool} {tst : Nat → Bool} : WR (eQuG all tst c) ρ KR = WA c ρ fun x ρ1 => WD ρ1 x fun d => strK (fun z => KR (.val (.bool (if all = true then z.cps.toList.all tst else z.cps.toList.any tst))) ρ1) d := by
  unfold WR WA WD strK Ex
  apply propext
  constructor
  · rintro ⟨p, h, k⟩
    obtain ⟨x, z, h1, h2, h3⟩ := eQuG_inv (show eQuG all tst c ρ = some (p.1, p.2) from h)
    rw [h3] at k
    exact ⟨_, h1, _, h2, z, rfl, k⟩
  · rintro ⟨⟨x, ρ1⟩, h1, d, h2, z, rfl, k⟩
    simp only at h1 h2 k
    refine ⟨(.val (.bool (if all = true then z.cps.toList.all tst else z.cps.toList.any tst)), ρ1), ?_, k⟩
    unfold eQuG
    simp only [h1, h2]
theorem wr_lm {g : D → D → Option Slt} : WR (eLm g a b) ρ KR = WA a ρ fun x ρ1 => WD ρ1 x fun d => listK (fun _ => WA b ρ1 fun y ρ2 => WD ρ2 x fun dx => WD ρ2 y fun dy => WO (g dx dy) fun s => KR s ρ2) d := by
  unfold WR WA WD WO listK Ex
  apply propext
  constructor
  · rintro ⟨p, h, k⟩
    unfold eLm at h
    split at h
    · rename_i x ρ1 h1
      split at h
      · rename_i ds h2
        split at h
        · rename_i y ρ2 h3
          split at h
          · rename_i dx dy h4 h5
            split at h
            · rename_i s h6
              cases h
              exact ⟨_, h1, _, h2, _, rfl, _, h3, _, h4, _, h5, _, h6, k⟩
            · cases h
          · cases h
        · cases h
      · cases h
    · cases h
  · rintro ⟨⟨x, ρ1⟩, h1, d, h2, ds, rfl, ⟨y, ρ2⟩, h3, dx, h4, dy, h5, s, h6, k⟩
    simp only at h1 h2 h3 h4 h5 k
    refine ⟨(s, ρ2), ?_, k⟩
    unfold eLm
    simp only [h1, h2, h3, h4, h5, h6]
theorem wo_index {ds : List D} {d : D} : WO (gIndex (.list ds) d) K = ((PyData.depthAll ds ≤ 63 ∧ d.depth ≤ 64) ∧ Ex (ds.findIdx? fun z => PyData.eqv z d) fun j => K (.val (.int (j : Nat)))) := by
  unfold WO gIndex
  simp only
  by_cases h : PyData.depthAll ds ≤ 63 ∧ d.depth ≤ 64
  · rw [if_pos h]
    cases q : (ds.findIdx? fun z => PyData.eqv z d) with
    | none => simp only [ex_none, and_false]
    | some j => simp only [ex_some, h, and_self, true_and]
  · rw [if_neg h]
    simp only [ex_none, h, false_and]
theorem wo_ends {x y : Str} : WO (gEnds (.str x) (.str y)) K = K (.val (.bool (Txt.endswith x y))) := ex_some
theorem wo_lt_s {x y : Str} : WO (gLt (.str x) (.str y)) K = K (.val (.bool (decide (x.cps.toList < y.cps.toList)))) := ex_some
theorem wo_le_s {x y : Str} : WO (gLe (.str x) (.str y)) K = K (.val (.bool (!decide (y.cps.toList < x.cps.toList)))) := ex_some
theorem wo_gt_s {x y : Str} : WO (gGt (.str x) (.str y)) K = K (.val (.bool (decide (y.cps.toList < x.cps.toList)))) := ex_some
theorem wo_ge_s {x y : Str} : WO (gGe (.str x) (.str y)) K = K (.val (.bool (!decide (x.cps.toList < y.cps.toList)))) := ex_some
theorem wo_int_s {x : Str} : WO (gInt [.str x]) K = (x.length ≤ 640 ∧ Ex (PySem.intText? x) fun n => K (.val (.int n))) := by
  unfold WO gInt
  simp only
  by_cases h : x.length ≤ 640
  · rw [if_pos h]
    cases q : PySem.intText? x with
    | none => simp only [ex_none, and_false]
    | some n => simp only [ex_some, h, true_and]
  · rw [if_neg h, ex_none]; simp [h]
theorem w_par3 : W (sPar3 i j l a b c) ρ Q = WV a ρ fun x ρ1 => WV b ρ1 fun y ρ2 => WV c ρ2 fun z ρ3 => i < ρ3.length ∧ j < ρ3.length ∧ l < ρ3.length ∧ WZ ρ3 i (some (.val x)) fun ρ4 => WZ ρ4 j (some (.val y)) fun ρ5 => WZ ρ5 l (some (.val z)) fun ρ6 => Q (.nx ρ6) := by
  unfold W WV WZ sPar3
  rcases vE a ρ with _ | ⟨d, ρ1⟩
  · simp only [ex_none]
  · simp only [ex_some]
    rcases vE b ρ1 with _ | ⟨e, ρ2⟩
    · simp only [ex_none]
    · simp only [ex_some]
      rcases vE c ρ2 with _ | ⟨f, ρ3⟩
      · simp only [ex_none]
      · simp only [ex_some]
        by_cases h : i < ρ3.length ∧ j < ρ3.length ∧ l < ρ3.length
        · rw [if_pos h, ex_some]
          simp [h.1, h.2.1, h.2.2]
        · rw [if_neg h, ex_none]
          simp only [eq_iff_iff, false_iff]
          exact fun k => h ⟨k.1, k.2.1, k.2.2.1⟩
end
theorem atI_4 {α : Type} {x0 x1 x2 x3 x4 : α} {xs : List α} {K : α → Prop} : Ex (atI (x0 :: x1 :: x2 :: x3 :: x4 :: xs) 4) K = K x4 := by
  have : atI (x0 :: x1 :: x2 :: x3 :: x4 :: xs) 4 = some x4 := by
    exact atI_nat0 (n := 4) rfl
  rw [this, ex_some]
theorem atI_5 {α : Type} {x0 x1 x2 x3 x4 x5 : α} {xs : List α} {K : α → Prop} : Ex (atI (x0 :: x1 :: x2 :: x3 :: x4 :: x5 :: xs) 5) K = K x5 := by
  have : atI (x0 :: x1 :: x2 :: x3 :: x4 :: x5 :: xs) 5 = some x5 := by
    exact atI_nat0 (n := 5) rfl
  rw [this, ex_some]
theorem atI_6 {α : Type} {x0 x1 x2 x3 x4 x5 x6 : α} {xs : List α} {K : α → Prop} : Ex (atI (x0 :: x1 :: x2 :: x3 :: x4 :: x5 :: x6 :: xs) 6) K = K x6 := by
  have : atI (x0 :: x1 :: x2 :: x3 :: x4 :: x5 :: x6 :: xs) 6 = some x6 := by
    exact atI_nat0 (n := 6) rfl
  rw [this, ex_some]
theorem atI_7 {α : Type} {x0 x1 x2 x3 x4 x5 x6 x7 : α} {xs : List α} {K : α → Prop} : Ex (atI (x0 :: x1 :: x2 :: x3 :: x4 :: x5 :: x6 :: x7 :: xs) 7) K = K x7 := by
  have : atI (x0 :: x1 :: x2 :: x3 :: x4 :: x5 :: x6 :: x7 :: xs) 7 = some x7 := by
    exact atI_nat0 (n := 7) rfl
  rw [this, ex_some]
theorem atI_8 {α : Type} {x0 x1 x2 x3 x4 x5 x6 x7 x8 : α} {xs : List α} {K : α → Prop} : Ex (atI (x0 :: x1 :: x2 :: x3 :: x4 :: x5 :: x6 :: x7 :: x8 :: xs) 8) K = K x8 := by
  have : atI (x0 :: x1 :: x2 :: x3 :: x4 :: x5 :: x6 :: x7 :: x8 :: xs) 8 = some x8 := by
    exact atI_nat0 (n := 8) rfl
  rw [this, ex_some]
theorem atI_9 {α : Type} {x0 x1 x2 x3 x4 x5 x6 x7 x8 x9 : α} {xs : List α} {K : α → Prop} : Ex (atI (x0 :: x1 :: x2 :: x3 :: x4 :: x5 :: x6 :: x7 :: x8 :: x9 :: xs) 9) K = K x9 := by
  have : atI (x0 :: x1 :: x2 :: x3 :: x4 :: x5 :: x6 :: x7 :: x8 :: x9 :: xs) 9 = some x9 := by
    exact atI_nat0 (n := 9) rfl
  rw [this, ex_some]
theorem atI_10 {α : Type} {x0 x1 x2 x3 x4 x5 x6 x7 x8 x9 x10 : α} {xs : List α} {K : α → Prop} : Ex (atI (x0 :: x1 :: x2 :: x3 :: x4 :: x5 :: x6 :: x7 :: x8 :: x9 :: x10 :: xs) 10) K = K x10 := by
  have : atI (x0 :: x1 :: x2 :: x3 :: x4 :: x5 :: x6 :: x7 :: x8 :: x9 :: x10 :: xs) 10 = some x10 := by
    exact atI_nat0 (n := 10) rfl
  rw [this, ex_some]
theorem atI_11 {α : Type} {x0 x1 x2 x3 x4 x5 x6 x7 x8 x9 x10 x11 : α} {xs : List α} {K : α → Prop} : Ex (atI (x0 :: x1 :: x2 :: x3 :: x4 :: x5 :: x6 :: x7 :: x8 :: x9 :: x10 :: x11 :: xs) 11) K = K x11 := by
  have : atI (x0 :: x1 :: x2 :: x3 :: x4 :: x5 :: x6 :: x7 :: x8 :: x9 :: x10 :: x11 :: xs) 11 = some x11 := by
    exact atI_nat0 (n := 11) rfl
  rw [this, ex_some]
theorem atI_12 {α : Type} {x0 x1 x2 x3 x4 x5 x6 x7 x8 x9 x10 x11 x12 : α} {xs : List α} {K : α → Prop} : Ex (atI (x0 :: x1 :: x2 :: x3 :: x4 :: x5 :: x6 :: x7 :: x8 :: x9 :: x10 :: x11 :: x12 :: xs) 12) K = K x12 := by
  have : atI (x0 :: x1 :: x2 :: x3 :: x4 :: x5 :: x6 :: x7 :: x8 :: x9 :: x10 :: x11 :: x12 :: xs) 12 = some x12 := by
    exact atI_nat0 (n := 12) rfl
  rw [this, ex_some]
theorem wg_tupL {gs : List D → Rho → Option Rho} {ds : List D} {ρ : Rho} {KG : Rho → Prop} : WG (gfTup gs) (.list ds) ρ KG = WGs gs ds ρ KG := rfl
theorem wfl_n {r : Slt} {ρ : Rho} {K : Rho → Prop} : WFl r [] ρ K = K ρ := by unfold WFl; split <;> rfl
theorem wfl_tmp {r : Slt} {ρ : Rho} {K : Rho → Prop} {d : D} {as : List Arg} : WFl r (.tmp d :: as) ρ K = WFl r as ρ K := rfl
/-! two clauses -/
def WLc2 (vs : List Nat) (g : GF) (t : BF) (f1 : IF) (vs1 : List Nat) (g1 : GF) (t1 : BF) (el : Cd) (ds : List D) (ρ : Rho) (acc : List D) (K : List D → Rho → Prop) : Prop := Ex (lcD2 vs g t f1 vs1 g1 t1 el ds ρ acc) fun p => K p.1 p.2
theorem wr_lc2 {vs : List Nat} {it : IF} {g : GF} {t : BF} {f1 : IF} {vs1 : List Nat} {g1 : GF} {t1 : BF} {el : Cd} {ρ : Rho} {KR : Slt → Rho → Prop} : WR (eLc2 vs it g t f1 vs1 g1 t1 el) ρ KR = WI it ρ fun ds ρ1 => WW ρ1 vs fun ρ2 => WLc2 vs g t f1 vs1 g1 t1 el ds ρ2 [] fun acc ρ3 => WRs ρ1 ρ3 vs fun ρ4 => KR (.own acc) ρ4 := by
  unfold WR WI WW WLc2 WRs eLc2
  rcases it ρ with _ | ⟨ds, ρ1⟩
  · simp only [ex_none]
  · simp only [ex_some]
    rcases lcD2 vs g t f1 vs1 g1 t1 el ds (wipeR ρ1 vs) [] with _ | ⟨acc, ρ2⟩
    · simp only [ex_none]
    · simp only [ex_some]
theorem lcD_acc {vs : List Nat} {g : GF} {t : BF} {el : Cd} : ∀ {ds : List D} {ρ ρ' : Rho} {a0 a acc : List D}, lcD vs g t el ds ρ a0 = some (a, ρ') → acc.length + a.length ≤ sizeLine → lcD vs g t el ds ρ (acc ++ a0) = some (acc ++ a, ρ')
  | [], ρ, ρ', a0, a, acc, h, _ => by cases h; rfl
  | d :: ds, ρ, ρ', a0, a, acc, h, hl => by
    have len : ∀ {ds : List D} {ρ ρ' : Rho} {a0 a : List D}, lcD vs g t el ds ρ a0 = some (a, ρ') → a0.length ≤ a.length := fun {ds} => by
      induction ds with
      | nil => intro ρ ρ' a0 a h; cases h; exact Nat.le_refl _
      | cons d ds ih =>
        intro ρ ρ' a0 a h
        unfold lcD at h
        split at h
        · split at h
          · split at h
            · split at h
              · have := ih h
                rw [List.length_append] at this
                simp at this
                omega
              · cases h
            · cases h
          · exact ih h
          · cases h
        · cases h
    unfold lcD at h ⊢
    cases e1 : g d ρ with
    | none => rw [e1] at h; cases h
    | some ρ1 =>
      rw [e1] at h
      simp only at h ⊢
      cases e2 : t ρ1 with
      | none => rw [e2] at h; cases h
      | some p =>
        obtain ⟨b, ρ2⟩ := p
        rw [e2] at h
        cases b with
        | true =>
          simp only at h ⊢
          cases e3 : vE el ρ2 with
          | none => rw [e3] at h; cases h
          | some q =>
            obtain ⟨x, ρ3⟩ := q
            rw [e3] at h
            simp only at h ⊢
            split at h
            · have := len h
              rw [List.length_append] at this
              simp at this
              rw [if_pos (by rw [List.length_append]; omega), List.append_assoc]
              exact lcD_acc h hl
            · cases h
        | false =>
          simp only at h ⊢
          exact lcD_acc h hl
theorem wlc2_all {vs : List Nat} {g : GF} {t : BF} {f1 : IF} {vs1 : List Nat} {g1 : GF} {t1 : BF} {el : Cd} {K : List D → Rho → Prop} {α : Type} {e : α → D} {ρ : Rho} (F : α → List D) : ∀ {xs : List α} {acc : List D}, acc.length + (xs.flatMap F).length ≤ sizeLine →
    (∀ x, x ∈ xs → WG g (e x) ρ fun ρ1 => WB t ρ1 fun b ρ2 => (b = true → WI f1 ρ2 fun es ρ3 => WW ρ3 vs1 fun ρ4 => WLc vs1 g1 t1 el es ρ4 [] fun a ρ5 => a = F x ∧ WW ρ5 vs fun ρ6 => ρ6 = ρ) ∧ (b = false → F x = [] ∧ WW ρ2 vs fun ρ6 => ρ6 = ρ)) →
    K (acc ++ xs.flatMap F) ρ → WLc2 vs g t f1 vs1 g1 t1 el (xs.map e) ρ acc K
  | [], acc, _, _, fin => ⟨(acc, ρ), rfl, by simpa using fin⟩
  | x :: xs, acc, hl, st, fin => by
    have q := st x (by simp)
    obtain ⟨ρ1, e1, ⟨b, ρ2⟩, e2, q1, q2⟩ := q
    simp only at q1 q2
    rw [List.flatMap_cons, List.length_append] at hl
    rw [List.flatMap_cons] at fin
    unfold WLc2
    rw [List.map_cons]
    unfold lcD2
    simp only [e1, e2]
    cases b with
    | true =>
      obtain ⟨⟨es, ρ3⟩, e3, q⟩ := q1 rfl
      obtain ⟨⟨a, ρ5⟩, e5, q3, q4⟩ := q
      have q3 : a = F x := q3
      have q4 : wipeR ρ5 vs = ρ := q4
      subst q3
      have e6 := lcD_acc (acc := acc) e5 (by omega)
      rw [List.append_nil] at e6
      simp only at e6
      simp only [e3, e6]
      rw [q4]
      exact wlc2_all F (acc := acc ++ F x) (by rw [List.length_append]; omega) (fun y hy => st y (by simp [hy])) (by rw [List.append_assoc]; exact fin)
    | false =>
      obtain ⟨q3, q4⟩ := q2 rfl
      have q4 : wipeR ρ2 vs = ρ := q4
      rw [q3] at fin
      simp only
      rw [q4]
      exact wlc2_all F (by omega) (fun y hy => st y (by simp [hy])) (by simpa using fin)
theorem shR_n : shR [] = [] := rfl
theorem shR_c {d : D} {ρ : Rho} : shR (some (.val d) :: ρ) = some (.val d) :: shR ρ := rfl
theorem shR_o {ds : List D} {ρ : Rho} : shR (some (.own ds) :: ρ) = some (.val (.list ds)) :: shR ρ := rfl
theorem shR_x {o : Option Slt} {ρ : Rho} : shR (o :: ρ) = shS o :: shR ρ := rfl
theorem shR_0 {ρ : Rho} : shR (none :: ρ) = none :: shR ρ := rfl
theorem keysD_map {α : Type} {el : Cd} {i : Nat} {ρ : Rho} {e h : α → D} : ∀ {xs : List α}, (∀ x ∈ xs, WV el ((shR ρ).set i (some (.val (e x)))) fun k _ => k = h x) → keysD el i ρ (xs.map e) = some (xs.map h)
  | [], _ => rfl
  | x :: xs, st => by
    obtain ⟨⟨k, ρ'⟩, h1, h2⟩ := st x (by simp)
    have h2 : k = h x := h2
    have ih := keysD_map (xs := xs) fun y hy => st y (by simp [hy])
    rw [List.map_cons]
    unfold keysD
    rw [h1, ih]
    simp only
    rw [h2]
    rfl
theorem srtK_map {α : Type} {e h : α → D} {xs : List α} : srtK (xs.map e) (xs.map h) = (xs.mergeSort (PySem.W.dataLe false h)).map e := by
  unfold srtK
  have : (xs.map e).zip (xs.map h) = xs.map fun x => (e x, h x) := by
    rw [List.zip_map']
  rw [this, ← List.map_mergeSort (f := fun x => (e x, h x)) (r := PySem.W.dataLe false h) (s := PySem.W.dataLe false fun p : D × D => p.2) (fun a _ b _ => rfl), List.map_map]
  rfl
theorem wsk_all {α : Type} {el : Cd} {i : Nat} {ρ : Rho} {K : List D → Prop} {e : α → D} (h : α → D) {xs : List α} (st : ∀ x ∈ xs, WV el ((shR ρ).set i (some (.val (e x)))) fun k _ => k = h x)
    (al : alikeB (xs.map h) = true) (so : sortableB (xs.map h) = true)  (dp : PyData.depthAll (xs.map h) ≤ 64) (hl : xs.length ≤ sizeLine) (fin : K ((xs.mergeSort (PySem.W.dataLe false h)).map e)) : WSk el i ρ (xs.map e) K :=
  ⟨xs.map h, keysD_map st, al, so, dp, by rw [List.length_map]; exact hl, by rw [srtK_map]; exact fin⟩
/-! ### the order of data -/
def dle (a b : D) : Bool := PySem.W.dataLe false (fun d : D => d) a b
theorem dle_key {β : Type} {k : β → D} {a b : β} : PySem.W.dataLe false k a b = dle (k a) (k b) := rfl
theorem dle_total (a b : D) : dle a b = true ∨ dle b a = true := by
  have := (PySem.W.sortLe_total (listOrd itemOrd) false PySem.W.keyToks).total a b
  exact this
theorem dle_trans {a b c : D} (h1 : dle a b = true) (h2 : dle b c = true) : dle a c = true :=
  (PySem.W.sortLe_total (listOrd itemOrd) false PySem.W.keyToks).trans a b c h1 h2
theorem dle_refl (a : D) : dle a a = true := by
  rcases dle_total a a with h | h <;> exact h
theorem dle_anti {a b : D} (al : PySem.W.alike a b = true) (h1 : dle a b = true) (h2 : dle b a = true) : PyData.eqv a b = true := by
  have t : PySem.W.keyToks a = PySem.W.keyToks b := by
    have h1' : (!(listOrd itemOrd).blt (PySem.W.keyToks b) (PySem.W.keyToks a)) = true := h1
    have h2' : (!(listOrd itemOrd).blt (PySem.W.keyToks a) (PySem.W.keyToks b)) = true := h2
    rw [Bool.not_eq_true'] at h1' h2'
    exact (listOrd itemOrd).total _ _ h2' h1'
  cases e : PyData.eqv a b with
  | true => rfl
  | false =>
    have q := (PySem.W.toks_eqv a b al).2 e [] [.inl 0]
    rw [t, PySem.W.lex_pre] at q
    have z : PySem.W.dataLt a b = false := by
      unfold PySem.W.dataLt
      rw [t]
      exact PyProof.Rows.lex_irrefl _
    have q2 : PyProof.Rows.lexLt itemOrd ([] : List (Int ⊕ List Nat)) [.inl 0] = false := by rw [q]; exact PyProof.Rows.lex_irrefl _
    cases q2
theorem sort_pw {β : Type} (k : β → D) (xs : List β) : (xs.mergeSort (PySem.W.dataLe false k)).Pairwise fun a b => dle (k a) (k b) = true :=
  List.pairwise_mergeSort (fun a b c h1 h2 => dle_trans (a := k a) (b := k b) (c := k c) h1 h2) (fun a b => by
    rw [Bool.or_eq_true]
    exact dle_total (k a) (k b)) xs
/-- lists in order, each item once, of the same items are one list -/
theorem asc_unique {α : Type} {le : α → α → Prop} : ∀ {l1 l2 : List α}, (∀ a ∈ l1, ∀ b ∈ l1, le a b → le b a → a = b) → l1.Nodup → l2.Nodup → l1.Pairwise le → l2.Pairwise le → (∀ x, x ∈ l1 ↔ x ∈ l2) → l1 = l2
  | [], [], _, _, _, _, _, _ => rfl
  | [], b :: l2, _, _, _, _, _, h => by have := (h b).mpr (by simp); cases this
  | a :: l1, [], _, _, _, _, _, h => by have := (h a).mp (by simp); cases this
  | a :: l1, b :: l2, anti, n1, n2, p1, p2, h => by
    rw [List.nodup_cons] at n1 n2
    rw [List.pairwise_cons] at p1 p2
    have e : a = b := by
      rcases List.mem_cons.mp ((h a).mp (by simp)) with e | h1
      · exact e
      · rcases List.mem_cons.mp ((h b).mpr (by simp)) with e | h2
        · exact e.symm
        · exact anti a (by simp) b (by simp [h2]) (p1.1 b h2) (p2.1 a h1)
    subst e
    rw [asc_unique (fun x hx y hy => anti x (by simp [hx]) y (by simp [hy])) n1.2 n2.2 p1.2 p2.2 fun x => ?_]
    constructor
    · intro hx
      rcases List.mem_cons.mp ((h x).mp (by simp [hx])) with e | h1
      · subst e; exact absurd hx n1.1
      · exact h1
    · intro hx
      rcases List.mem_cons.mp ((h x).mpr (by simp [hx])) with e | h1
      · subst e; exact absurd hx n2.1
      · exact h1
theorem atI_last {α : Type} {l : List α} {x : α} {K : α → Prop} : Ex (atI (l ++ [x]) (-1)) K = K x := by
  have : atI (l ++ [x]) (-1) = some x := by
    unfold atI ixN
    rw [if_neg (by omega), if_pos (by simp; omega)]
    simp only [List.length_append, List.length_singleton]
    rw [show -1 + ((l.length + 1 : Nat) : Int) = (l.length : Int) by omega, Int.toNat_natCast]
    simp
  rw [this, ex_some]
end Pv

/-! Pw7: repr. -/
namespace Pv
open PySem PySem.Spec PyProof.Rows L2
theorem wo_repr {d : D} {K : Slt → Prop} : WO (gRepr [d]) K = ((isSeqD d = true ∧ d.showable = true ∧ d.hasDict = false ∧ d.depth ≤ 64 ∧ shl d ≤ sizeLine) ∧ K (.val (.str d.shown))) := by
  unfold WO gRepr
  simp only
  by_cases h : isSeqD d = true ∧ d.showable = true ∧ d.hasDict = false ∧ d.depth ≤ 64 ∧ shl d ≤ sizeLine
  · rw [if_pos h, ex_some]; simp only [h, true_and, and_true]
  · rw [if_neg h, ex_none]; simp only [h, false_and]
theorem wo_joinT {x : Str} {l : List Str} {K : Slt → Prop} : WO (gJoin (.str x) (.tuple (l.map PyData.str))) K = ((l.map (·.length)).sum + l.length * x.length ≤ 16777216 ∧ K (.val (.str (Str.join x l)))) := by
  unfold WO gJoin
  simp only [strsOf_str]
  by_cases h : (l.map (·.length)).sum + l.length * x.length ≤ 16777216
  · rw [if_pos h, ex_some]; simp only [h, true_and]
  · rw [if_neg h, ex_none]; simp only [h, false_and]
theorem ex_pop {ds : List D} {x : D} {K : D × List D → Prop} : Ex (gPop (ds ++ [x])) K = K (x, ds) := by
  have : gPop (ds ++ [x]) = some (x, ds) := by
    unfold gPop
    simp
  rw [this, ex_some]
/-! ### texts -/
theorem strapp_assoc {x y z : Str} : x ++ y ++ z = x ++ (y ++ z) := by
  show Str.mk (x.cps ++ y.cps ++ z.cps) = Str.mk (x.cps ++ (y.cps ++ z.cps))
  rw [Array.append_assoc]
theorem strnil_app {x : Str} : Str.empty ++ x = x := by
  show Str.mk (#[] ++ x.cps) = x
  rw [Array.empty_append]
theorem join_len {z : Str} : ∀ {ys : List Str}, (Str.join z ys).length ≤ (ys.map (·.length)).sum + ys.length * z.length
  | [] => Nat.zero_le _
  | [y] => by
    show y.length ≤ _
    simp
  | y :: x :: r => by
    have := join_len (z := z) (ys := x :: r)
    show (y ++ z ++ Str.join z (x :: r)).length ≤ _
    rw [strlen_app, strlen_app, List.map_cons, List.sum_cons, List.length_cons, Nat.succ_mul]
    omega
theorem sum_le {b : Nat} : ∀ {l : List Nat}, (∀ x ∈ l, x ≤ b) → l.sum ≤ l.length * b
  | [], _ => Nat.zero_le _
  | x :: l, h => by
    have h1 := h x (by simp)
    have := sum_le (l := l) fun y hy => h y (by simp [hy])
    rw [List.sum_cons, List.length_cons, Nat.succ_mul]
    omega
/-- texts of a bounded length: the length of their join -/
theorem join_le {z : Str} {ys : List Str} {n b : Nat} (hl : ys.length ≤ n) (h : ∀ y ∈ ys, y.length ≤ b) : (ys.map (·.length)).sum + ys.length * z.length ≤ n * (b + z.length) := by
  have h1 : (ys.map (·.length)).sum ≤ ys.length * b := by
    have := sum_le (l := ys.map (·.length)) (b := b) fun x hx => by
      obtain ⟨y, hy, rfl⟩ := List.mem_map.mp hx
      exact h y hy
    rwa [List.length_map] at this
  have h2 := Nat.mul_le_mul_right (b + z.length) hl
  rw [Nat.mul_add ys.length] at h2
  omega
/-- data that can be shown, in n signs at most -/
structure Sh (n : Nat) (d : D) : Prop where
  sw : d.showable = true
  nd : d.hasDict = false
  le : shl d ≤ n
theorem Sh.mono {n m : Nat} {d : D} (h : Sh n d) (k : n ≤ m) : Sh m d := ⟨h.sw, h.nd, Nat.le_trans h.le k⟩
theorem sh_none : Sh 4 .none := ⟨rfl, rfl, by decide⟩
theorem sh_bool {b : Bool} : Sh 5 (.bool b) := ⟨rfl, rfl, by simp [shl]⟩
theorem sh_int {i : Int} (h : i.natAbs < 1000000) : Sh 8 (.int i) := ⟨by
  have : i.natAbs.log2 < 1920 := by
    by_cases z : i.natAbs = 0
    · rw [z]; decide
    · have := (Nat.log2_lt z (k := 20)).mpr (by omega)
      omega
  simp [PyData.showable, this], rfl, by simp [shl, h]⟩
theorem sh_str {x : Str} {n : Nat} (h : x.length ≤ n) : Sh (10 * n + 2) (.str x) := ⟨rfl, rfl, by simp only [shl]; omega⟩
theorem sh_all {n : Nat} : ∀ {ds : List D}, (∀ d ∈ ds, Sh n d) → PyData.showableAll ds = true ∧ PyData.hasDictAll ds = false ∧ shlA ds ≤ ds.length * (n + 2)
  | [], _ => ⟨rfl, rfl, by simp [shlA]⟩
  | d :: ds, h => by
    obtain ⟨h1, h2, h3⟩ := sh_all (n := n) (ds := ds) fun e he => h e (by simp [he])
    have hd := h d (by simp)
    refine ⟨by simp [PyData.showableAll, hd.sw, h1], by simp [PyData.hasDictAll, hd.nd, h2], ?_⟩
    have := hd.le
    rw [List.length_cons, Nat.add_mul, Nat.one_mul]
    unfold shlA
    omega
theorem sh_list {n m : Nat} {ds : List D} (h : ∀ d ∈ ds, Sh n d) (hm : ds.length ≤ m) : Sh (m * (n + 2) + 2) (.list ds) := by
  obtain ⟨h1, h2, h3⟩ := sh_all h
  have := Nat.mul_le_mul_right (n + 2) hm
  exact ⟨by simp [PyData.showable, h1], by simp [PyData.hasDict, h2], by simp only [shl]; omega⟩
theorem sh_tup {n m : Nat} {ds : List D} (h : ∀ d ∈ ds, Sh n d) (hm : ds.length ≤ m) : Sh (m * (n + 2) + 3) (.tuple ds) := by
  obtain ⟨h1, h2, h3⟩ := sh_all h
  have := Nat.mul_le_mul_right (n + 2) hm
  exact ⟨by simp [PyData.showable, h1], by simp [PyData.hasDict, h2], by simp only [shl]; omega⟩
end Pv

/-! Pw8: dicts. -/
namespace Pv
open PySem PySem.Spec PyProof.Rows L2
def WDct (ρ : Rho) (i : Nat) (K : List (Key × D) → Prop) : Prop := ∃ kvs, ρ[i]? = some (some (Slt.dct kvs)) ∧ K kvs
theorem wdct_0 {kvs : List (Key × D)} {ρ : Rho} {K : List (Key × D) → Prop} : WDct (some (.dct kvs) :: ρ) 0 K = K kvs := propext ⟨fun ⟨t, h, k⟩ => by cases h; exact k, fun k => ⟨kvs, rfl, k⟩⟩
theorem wdct_s {x : Option Slt} {ρ : Rho} {i : Nat} {K : List (Key × D) → Prop} : WDct (x :: ρ) (i + 1) K = WDct ρ i K := rfl
theorem exk_i {i : Int} {K : Key → Prop} : Ex (keyOf (.int i)) K = K (.inl i) := ex_some
theorem exk_s {x : Str} {K : Key → Prop} : Ex (keyOf (.str x)) K = K (.inr x) := ex_some
theorem drO_dct {kvs : List (Key × D)} : drO (some (.dct kvs)) = some (.vdc kvs) := rfl
theorem shR_d {kvs : List (Key × D)} {ρ : Rho} : shR (some (.dct kvs) :: ρ) = none :: shR ρ := rfl
theorem drO_vdc {kvs : List (Key × D)} : drO (some (.vdc kvs)) = some (.vdc kvs) := rfl
theorem shR_v {kvs : List (Key × D)} {ρ : Rho} : shR (some (.vdc kvs) :: ρ) = none :: shR ρ := rfl
/-- what a name's dict holds -/
def WDo (ρ : Rho) (i : Nat) (K : List (Key × D) → Prop) : Prop := Ex (dcO ρ i) K
theorem wdo_d {kvs : List (Key × D)} {ρ : Rho} {K : List (Key × D) → Prop} : WDo (some (.dct kvs) :: ρ) 0 K = K kvs := ex_some
theorem wdo_v {kvs : List (Key × D)} {ρ : Rho} {K : List (Key × D) → Prop} : WDo (some (.vdc kvs) :: ρ) 0 K = K kvs := ex_some
theorem wdo_s {x : Option Slt} {ρ : Rho} {i : Nat} {K : List (Key × D) → Prop} : WDo (x :: ρ) (i + 1) K = WDo ρ i K := rfl
section
variable {ρ : Rho} {KR : Slt → Rho → Prop} {i : Nat} {c ck cv : Cd}
theorem wr_dget : WR (eDGet i c) ρ KR = WDo ρ i fun _ => WA c ρ fun x ρ1 => WD ρ1 x fun d => WDo ρ1 i fun kvs => Ex (keyOf d) fun k => Ex (valD kvs k) fun v => KR (.val v) ρ1 := by
  unfold WR WDo WA WD Ex
  apply propext
  constructor
  · rintro ⟨⟨r, ρ2⟩, h, k⟩
    unfold eDGet at h
    split at h
    · rename_i kvs0 h0
      split at h
      · rename_i a ρ1 h1
        split at h
        · rename_i d kvs h2 h3
          split at h
          · rename_i kk h4
            split at h
            · rename_i v h5
              cases h
              exact ⟨_, h0, _, h1, _, h2, _, h3, _, h4, _, h5, k⟩
            · cases h
          · cases h
        · cases h
      · cases h
    · cases h
  · rintro ⟨kvs0, h0, ⟨a, ρ1⟩, h1, d, h2, kvs, h3, kk, h4, v, h5, k⟩
    simp only at h2 h3 k
    refine ⟨(.val v, ρ1), ?_, k⟩
    unfold eDGet
    simp only [h0, h1, h2, h3, h4, h5]
theorem wr_dset : WR (eDSet i ck cv) ρ KR = WDct ρ i fun _ => WA ck ρ fun x ρ1 => WD ρ1 x fun d => Ex (keyOf d) fun k => WV cv ρ1 fun v ρ2 => WDct ρ2 i fun kvs => kvs.length < sizeLine ∧ (∀ w, valD kvs k = some w → KR (.val w) ρ2) ∧ (valD kvs k = none → WZ ρ2 i (some (.dct (putD kvs k v))) fun ρ3 => KR (.val v) ρ3) := by
  unfold WR WDct WA WD WV WZ Ex
  apply propext
  constructor
  · rintro ⟨⟨r, ρ3⟩, h, kk⟩
    unfold eDSet at h
    split at h
    · rename_i kvs0 h0
      split at h
      · rename_i a ρ1 h1
        split at h
        · rename_i d h2
          split at h
          · rename_i k h3
            split at h
            · rename_i v ρ2 h4
              split at h
              · rename_i kvs h5
                split at h
                · rename_i h6
                  refine ⟨_, h0, _, h1, _, h2, _, h3, _, h4, _, h5, h6, fun w hw => ?_, fun hn => ?_⟩
                  · rw [hw] at h
                    cases h
                    exact kk
                  · rw [hn] at h
                    cases h
                    exact kk
                · cases h
              · cases h
            · cases h
          · cases h
        · cases h
      · cases h
    · cases h
  · rintro ⟨kvs0, h0, ⟨a, ρ1⟩, h1, d, h2, k, h3, ⟨v, ρ2⟩, h4, kvs, h5, h6, h7, h8⟩
    simp only at h2 h4 h5 h7 h8
    cases q : valD kvs k with
    | some w =>
      refine ⟨(.val w, ρ2), ?_, h7 w q⟩
      unfold eDSet
      simp only [h0, h1, h2, h3, h4, h5, if_pos h6, q]
    | none =>
      refine ⟨(.val v, ρ2.set i (some (.dct (putD kvs k v)))), ?_, h8 q⟩
      unfold eDSet
      simp only [h0, h1, h2, h3, h4, h5, if_pos h6, q]
theorem wr_isD {neg : Bool} : WR (eIsD neg i) ρ KR = WL ρ i fun s => KR (.val (.bool (if neg then !isNs s else isNs s))) ρ := by
  unfold WR WL eIsD Ex
  apply propext
  constructor
  · rintro ⟨⟨r, ρ2⟩, h, k⟩
    split at h
    · rename_i s e
      cases h
      exact ⟨_, e, k⟩
    · cases h
  · rintro ⟨s, h, k⟩
    exact ⟨(_, ρ), by rw [h], k⟩
theorem isNs_d {kvs : List (Key × D)} : isNs (.dct kvs) = false := rfl
theorem isNs_v {kvs : List (Key × D)} : isNs (.vdc kvs) = false := rfl
theorem isNs_n : isNs (.val .none) = true := rfl
theorem wr_dnew : WR eDNew ρ KR = KR (.dct []) ρ := ex_some
end
section
variable {ρ : Rho} {KR : Slt → Rho → Prop} {Q : Out → Prop} {i : Nat} {c ck cv : Cd} {neg : Bool} {f : RF}
theorem w_setD : W (sSetD i ck cv) ρ Q = WDct ρ i fun _ => WV cv ρ fun v ρ1 => WA ck ρ1 fun a ρ2 => WD ρ2 a fun d => WDct ρ2 i fun kvs => Ex (keyOf d) fun k => kvs.length < sizeLine ∧ WZ ρ2 i (some (.dct (putD kvs k v))) fun ρ3 => Q (.nx ρ3) := by
  unfold W WDct WV WA WD WZ Ex
  apply propext
  constructor
  · rintro ⟨o, h, kk⟩
    unfold sSetD at h
    split at h
    · rename_i kvs0 h0
      split at h
      · rename_i v ρ1 h1
        split at h
        · rename_i a ρ2 h2
          split at h
          · rename_i d kvs h3 h4
            split at h
            · rename_i k h5
              split at h
              · rename_i h6
                cases h
                exact ⟨_, h0, _, h1, _, h2, _, h3, _, h4, _, h5, h6, kk⟩
              · cases h
            · cases h
          · cases h
        · cases h
      · cases h
    · cases h
  · rintro ⟨kvs0, h0, ⟨v, ρ1⟩, h1, ⟨a, ρ2⟩, h2, d, h3, kvs, h4, k, h5, h6, kk⟩
    simp only at h2 h3 h4 kk
    refine ⟨_, ?_, kk⟩
    unfold sSetD
    simp only [h0, h1, h2, h3, h4, h5, if_pos h6]
theorem wr_dIn : WR (eDIn neg i c) ρ KR = WDo ρ i fun _ => WA c ρ fun x ρ1 => WD ρ1 x fun d => WDo ρ1 i fun kvs => Ex (keyOf d) fun k => KR (.val (.bool (if neg = true then !(valD kvs k).isSome else (valD kvs k).isSome))) ρ1 := by
  unfold WR WDo WA WD Ex
  apply propext
  constructor
  · rintro ⟨⟨r, ρ2⟩, h, k⟩
    unfold eDIn at h
    split at h
    · rename_i kvs0 h0
      split at h
      · rename_i a ρ1 h1
        split at h
        · rename_i d kvs h2 h3
          split at h
          · rename_i kk h4
            cases h
            exact ⟨_, h0, _, h1, _, h2, _, h3, _, h4, k⟩
          · cases h
        · cases h
      · cases h
    · cases h
  · rintro ⟨kvs0, h0, ⟨a, ρ1⟩, h1, d, h2, kvs, h3, kk, h4, k⟩
    simp only at h2 h3 k
    refine ⟨(_, ρ1), ?_, k⟩
    unfold eDIn
    simp only [h0, h1, h2, h3, h4]
def dctK (s : Slt) (K : List (Key × D) → Prop) : Prop := ∃ kvs, s = .dct kvs ∧ K kvs
theorem dctK_d {kvs : List (Key × D)} {K : List (Key × D) → Prop} : dctK (.dct kvs) K = K kvs := propext ⟨fun ⟨_, h, k⟩ => by cases h; exact k, fun k => ⟨_, rfl, k⟩⟩
theorem wr_dgetX : WR (eDGetX f ck) ρ KR = WR f ρ fun s ρ1 => dctK s fun kvs => WA ck ρ1 fun a ρ2 => WD ρ2 a fun d => Ex (keyOf d) fun k => Ex (valD kvs k) fun v => KR (.val v) ρ2 := by
  unfold WR dctK WA WD Ex
  apply propext
  constructor
  · rintro ⟨⟨r, ρ3⟩, h, kk⟩
    unfold eDGetX at h
    split at h
    · rename_i kvs ρ1 h0
      split at h
      · rename_i a ρ2 h1
        split at h
        · rename_i d h2
          split at h
          · rename_i k h3
            split at h
            · rename_i v h4
              cases h
              exact ⟨_, h0, _, rfl, _, h1, _, h2, _, h3, _, h4, kk⟩
            · cases h
          · cases h
        · cases h
      · cases h
    · cases h
  · rintro ⟨⟨s, ρ1⟩, h0, kvs, hs, ⟨a, ρ2⟩, h1, d, h2, k, h3, v, h4, kk⟩
    simp only at hs h1 h2 kk
    subst hs
    refine ⟨(_, ρ2), ?_, kk⟩
    unfold eDGetX
    simp only [h0, h1, h2, h3, h4]
theorem wo_dict_t {xs : List D} {K : Slt → Prop} : WO (gDict [.tuple xs]) K = Ex (pairsD xs) fun kvs => K (.dct (mkK [] kvs)) := by
  unfold WO Ex gDict
  apply propext
  constructor
  · rintro ⟨s, h, k⟩
    obtain ⟨kvs, e, rfl⟩ := Option.map_eq_some_iff.mp h
    exact ⟨kvs, e, k⟩
  · rintro ⟨kvs, e, k⟩
    exact ⟨_, by show Option.map _ (pairsD xs) = _; rw [e]; rfl, k⟩
theorem wo_dict_l {xs : List D} {K : Slt → Prop} : WO (gDict [.list xs]) K = Ex (pairsD xs) fun kvs => K (.dct (mkK [] kvs)) := wo_dict_t
end
theorem wr_sitems {ρ : Rho} {KR : Slt → Rho → Prop} {i : Nat} : WR (eSItems i) ρ KR = WDo ρ i fun kvs => WO (gItems kvs) fun s => KR s ρ := by
  unfold WR WDo WO Ex
  apply propext
  constructor
  · rintro ⟨⟨r, ρ2⟩, h, k⟩
    unfold eSItems at h
    split at h
    · rename_i kvs h0
      split at h
      · rename_i s h1
        cases h
        exact ⟨_, h0, _, h1, k⟩
      · cases h
    · cases h
  · rintro ⟨kvs, h0, s, h1, k⟩
    refine ⟨(s, ρ), ?_, k⟩
    unfold eSItems
    simp only [h0, h1]
theorem wo_items {kvs : List (Key × D)} {K : Slt → Prop} (h1 : ∀ kv ∈ kvs, okKey kv.1 = true) (h2 : alikeB (kvs.map itD) = true) (h3 : sortableB (kvs.map itD) = true) (h4 : PyData.depthAll (kvs.map itD) ≤ 64) : WO (gItems kvs) K = K (.own (srtD (kvs.map itD))) := by
  have e : gItems kvs = some (.own (srtD (kvs.map itD))) := by
    unfold gItems
    rw [List.all_eq_true.mpr h1, h2, h3]
    simp only [if_pos h4]
  unfold WO
  rw [e, ex_some]
theorem pairsD_map {α : Type} {e : α → D} {f : α → Key × D} : ∀ {xs : List α}, (∀ x ∈ xs, pairD (e x) = some (f x)) → pairsD (xs.map e) = some (xs.map f)
  | [], _ => rfl
  | x :: xs, h => by
    rw [List.map_cons, List.map_cons]
    unfold pairsD
    rw [h x (by simp), pairsD_map fun y hy => h y (by simp [hy])]
def WDc (vs : List Nat) (g : GF) (t : BF) (ek ev : Cd) (ds : List D) (ρ : Rho) (acc : List (Key × D)) (K : List (Key × D) → Rho → Prop) : Prop := Ex (dcD vs g t ek ev ds ρ acc) fun p => K p.1 p.2
theorem wr_dc {ρ : Rho} {KR : Slt → Rho → Prop} {vs : List Nat} {it : IF} {g : GF} {t : BF} {ek ev : Cd} : WR (eDc vs it g t ek ev) ρ KR = WI it ρ fun ds ρ1 => WW ρ1 vs fun ρ2 => WDc vs g t ek ev ds ρ2 [] fun acc ρ3 => WRs ρ1 ρ3 vs fun ρ4 => KR (.dct acc) ρ4 := by
  unfold WR WI WW WDc WRs eDc
  rcases it ρ with _ | ⟨ds, ρ1⟩
  · simp only [ex_none]
  · simp only [ex_some]
    rcases dcD vs g t ek ev ds (wipeR ρ1 vs) [] with _ | ⟨acc, ρ2⟩
    · simp only [ex_none]
    · simp only [ex_some]
theorem putD_len {kvs : List (Key × D)} {k : Key} {v : D} : (putD kvs k v).length ≤ kvs.length + 1 := by
  unfold putD
  split
  · rw [List.length_map]; omega
  · rw [List.length_append]; simp
def mkD {α : Type} (hk : α → Key) (hv : α → D) (xs : List α) (acc : List (Key × D)) : List (Key × D) := xs.foldl (fun acc x => putD acc (hk x) (hv x)) acc
theorem wdc_go {α : Type} {ρ : Rho} {vs : List Nat} {g : GF} {t : BF} {ek ev : Cd} {K : List (Key × D) → Rho → Prop} {e : α → D} (hk : α → Key) (hv : α → D) : ∀ {xs : List α} {acc : List (Key × D)}, acc.length + xs.length ≤ sizeLine →
    (∀ x, x ∈ xs → WG g (e x) ρ fun ρ1 => WB t ρ1 fun b ρ2 => b = true ∧ WV ek ρ2 fun y ρ3 => Ex (keyOf y) fun k => k = hk x ∧ WV ev ρ3 fun z ρ4 => z = hv x ∧ WW ρ4 vs fun ρ5 => ρ5 = ρ) → K (mkD hk hv xs acc) ρ → WDc vs g t ek ev (xs.map e) ρ acc K
  | [], acc, _, _, fin => ⟨(acc, ρ), rfl, fin⟩
  | x :: xs, acc, hl, st, fin => by
    obtain ⟨ρ1, h1, ⟨b, ρ2⟩, h2, h3, ⟨y, ρ3⟩, h4, k, h5, h6, ⟨z, ρ4⟩, h7, h8, h9⟩ := st x (by simp)
    simp only at h2 h3 h4 h5 h7 h8 h9
    subst h3 h6 h8
    have h9 : wipeR ρ4 vs = ρ := h9
    rw [List.length_cons] at hl
    have hp := putD_len (kvs := acc) (k := hk x) (v := hv x)
    obtain ⟨p, q1, q2⟩ := wdc_go hk hv (xs := xs) (acc := putD acc (hk x) (hv x)) (by omega) (fun w hw => st w (by simp [hw])) fin
    refine ⟨p, ?_, q2⟩
    rw [List.map_cons]
    unfold dcD
    simp only [h1, h2, h4, h5, h7]
    rw [if_pos (by omega), h9]
    exact q1
theorem wdc_all {α : Type} {ρ : Rho} {vs : List Nat} {g : GF} {t : BF} {ek ev : Cd} {K : List (Key × D) → Rho → Prop} {e : α → D} (hk : α → Key) (hv : α → D) {xs : List α} (hl : xs.length ≤ sizeLine)
    (st : ∀ x, x ∈ xs → WG g (e x) ρ fun ρ1 => WB t ρ1 fun b ρ2 => b = true ∧ WV ek ρ2 fun y ρ3 => Ex (keyOf y) fun k => k = hk x ∧ WV ev ρ3 fun z ρ4 => z = hv x ∧ WW ρ4 vs fun ρ5 => ρ5 = ρ) (fin : K (mkD hk hv xs []) ρ) : WDc vs g t ek ev (xs.map e) ρ [] K :=
  wdc_go hk hv (by rw [List.length_nil, Nat.zero_add]; exact hl) st fin
/-! what a dict holds -/
theorem val_put {kvs : List (Key × D)} {k j : Key} {v : D} : valD (putD kvs k v) j = if j = k then some v else valD kvs j := by
  have hm : ∀ {kvs : List (Key × D)}, valD (kvs.map fun kv => if kv.1 = k then (kv.1, v) else kv) j = if j = k then (if (kvs.any fun kv => decide (kv.1 = k)) = true then some v else none) else valD kvs j := fun {kvs} => by
    induction kvs with
    | nil => by_cases e : j = k <;> simp [valD, e]
    | cons p kvs ih =>
      rw [List.map_cons, List.any_cons]
      by_cases h1 : p.1 = k
      · rw [if_pos h1]
        unfold valD
        by_cases e : j = k
        · subst e
          rw [if_pos h1, if_pos rfl, if_pos (by simp [h1])]
        · have : ¬ p.1 = j := fun z => e (z.symm.trans h1)
          rw [if_neg this, ih, if_neg e, if_neg e, if_neg this]
      · rw [if_neg h1]
        unfold valD
        by_cases e : p.1 = j
        · subst e
          rw [if_pos rfl, if_neg h1, if_pos rfl]
        · rw [if_neg e, ih, if_neg e, decide_eq_false h1, Bool.false_or]
  have ha : ∀ {kvs : List (Key × D)}, (kvs.any fun kv => decide (kv.1 = k)) = false → valD (kvs ++ [(k, v)]) j = if j = k then some v else valD kvs j := fun {kvs} => by
    induction kvs with
    | nil =>
      intro _
      by_cases e : j = k
      · simp [valD, e]
      · simp [valD, e, Ne.symm e]
    | cons p kvs ih =>
      intro h
      rw [List.any_cons, Bool.or_eq_false_iff] at h
      have hp : ¬ p.1 = k := by simpa using h.1
      rw [List.cons_append]
      unfold valD
      rw [ih h.2]
      by_cases e : p.1 = j
      · subst e
        rw [if_pos rfl, if_neg hp, if_pos rfl]
      · rw [if_neg e, if_neg e]
  unfold putD
  cases q : kvs.any fun kv => decide (kv.1 = k) with
  | true => rw [if_pos rfl, hm, q]; simp
  | false => rw [if_neg (by simp), ha q]
/-- the last pair with the key wins -/
theorem val_mkK : ∀ {kvs acc : List (Key × D)} {j : Key}, (∀ kv ∈ kvs, kv.1 ≠ j) → valD (mkK acc kvs) j = valD acc j
  | [], _, _, _ => rfl
  | kv :: kvs, acc, j, h => by
    show valD (mkK (putD acc kv.1 kv.2) kvs) j = valD acc j
    rw [val_mkK fun x hx => h x (by simp [hx]), val_put, if_neg fun e => h kv (by simp) e.symm]
/-- pairs whose keys all differ -/
theorem val_mkK_nd : ∀ {kvs acc : List (Key × D)} {j : Key} {v : D}, (kvs.map Prod.fst).Nodup → (j, v) ∈ kvs → valD (mkK acc kvs) j = some v
  | kv :: kvs, acc, j, v, hn, hm => by
    rw [List.map_cons, List.nodup_cons] at hn
    show valD (mkK (putD acc kv.1 kv.2) kvs) j = some v
    rcases List.mem_cons.mp hm with rfl | hm
    · rw [val_mkK fun x hx e => hn.1 (by rw [← e]; exact List.mem_map.mpr ⟨x, hx, rfl⟩), val_put, if_pos rfl]
    · exact val_mkK_nd hn.2 hm
end Pv

namespace L17
open PySem PySem.Spec PyProof.Rows L2 Pv
abbrev blt : List Str := ["sorted", "tuple", "zip", "dict", "isinstance", "str", "int", "bool", "list", "len", "range", "all"]
def cst : List (Str × D) := []
/- unify(atom, fact, assignment): 0:atom 1:fact 2:assignment 3:words 4:term 5:word -/
def b_unify : SF := sSeq (sIf (bOf (eOp2 gNe (.ex true (eOp2 gIx (.slot 0) (.ex true (eLit (.int 0))))) (.ex true (eOp2 gIx (.slot 1) (.ex true (eLit (.int 0))))))) (sSeq (sRet (.ex true (eLit .none))) sNop) (sNop)) (sSeq (sAsg (.ex true (eOpN gDict [(.slot 2)])) 3) (sSeq (sFor (iZipF false [(.ex true (eOp2 gIx (.slot 0) (.ex true (eLit (.int 1))))), (.ex true (eOp2 gIx (.slot 1) (.ex true (eLit (.int 1)))))]) (gfTup (gfCons (gfName 4) (gfCons (gfName 5) gfNil))) (sSeq (sIf (bOf (eOp2 gEq (.ex true (eOp2 gIx (.slot 4) (.ex true (eLit (.int 0))))) (.ex true (eLit (.str "word"))))) (sSeq (sIf (bOf (eOp2 gNe (.ex true (eOp2 gIx (.slot 4) (.ex true (eLit (.int 1))))) (.slot 5))) (sSeq (sRet (.ex true (eLit .none))) sNop) (sNop)) sNop) (sSeq (sIf (bOf (eOp2 gNe (.ex false (eDSet 3 (.ex true (eOp2 gIx (.slot 4) (.ex true (eLit (.int 1))))) (.slot 5))) (.slot 5))) (sSeq (sRet (.ex true (eLit .none))) sNop) (sNop)) sNop)) sNop)) (sSeq (sRet (.ex true (eOpN gTuple [(.ex true (eSItems 3))]))) sNop)))
def e_unify : FEnt := ⟨3, false, false, runF 6 false b_unify⟩
/- _law_same(_law_actual, _law_due_here): 0:_law_actual 1:_law_due_here 2:_law_place -/
def b__law_same (sm : List Slt → Option (Slt × List D)) : SF := sSeq (sIf (bOr (bTru (.ex true (eOp1 (gIsi .list) (.slot 1)))) (bTru (.ex true (eOp1 (gIsi .tuple) (.slot 1))))) (sSeq (sIf (bAnd (bTru (.ex true (eOp1 (gIsi .list) (.slot 1)))) (bNot (bTru (.ex true (eOp1 (gIsi .list) (.slot 0)))))) (sSeq (sRet (.ex true (eLit (.bool false)))) sNop) (sNop)) (sSeq (sIf (bAnd (bTru (.ex true (eOp1 (gIsi .tuple) (.slot 1)))) (bNot (bTru (.ex true (eOp1 (gIsi .tuple) (.slot 0)))))) (sSeq (sRet (.ex true (eLit (.bool false)))) sNop) (sNop)) (sSeq (sIf (bOf (eOp2 gNe (.ex true (eOpN gLen [(.slot 0)])) (.ex true (eOpN gLen [(.slot 1)])))) (sSeq (sRet (.ex true (eLit (.bool false)))) sNop) (sNop)) (sSeq (sRet (.ex true (eOpN gAll [(.ex true (eLc [2] (iRange1 [(.ex true (eOpN gLen [(.slot 1)]))]) (gfName 2) (bYes) (.ex true (eCall ⟨2, false, false, sm⟩ [(.ex true (eOp2 gIx (.slot 0) (.slot 2))), (.ex true (eOp2 gIx (.slot 1) (.slot 2)))]))))]))) sNop)))) (sNop)) (sSeq (sIf (bOr (bTru (.ex true (eOp1 (gIsi .bool) (.slot 1)))) (bTru (.ex true (eOp1 (gIsi .bool) (.slot 0))))) (sSeq (sRet (.ex true (eAnd (.ex true (eOp1 (gIsi .bool) (.slot 1))) (eAnd (.ex true (eOp1 (gIsi .bool) (.slot 0))) (eVal (.ex true (eOp2 gEq (.slot 0) (.slot 1)))))))) sNop) (sNop)) (sSeq (sIf (bOr (bOf (eOp2 gIsN (.slot 1) (.ex true (eLit .none)))) (bOf (eOp2 gIsN (.slot 0) (.ex true (eLit .none))))) (sSeq (sRet (.ex true (eAnd (.ex true (eOp2 gIsN (.slot 1) (.ex true (eLit .none)))) (eVal (.ex true (eOp2 gIsN (.slot 0) (.ex true (eLit .none)))))))) sNop) (sNop)) (sSeq (sIf (bTru (.ex true (eOp1 (gIsi .int) (.slot 1)))) (sSeq (sRet (.ex true (eAnd (.ex true (eOp1 (gIsi .int) (.slot 0))) (eVal (.ex true (eOp2 gEq (.slot 0) (.slot 1))))))) sNop) (sNop)) (sSeq (sRet (.ex true (eAnd (.ex true (eOp1 (gIsi .str) (.slot 0))) (eVal (.ex true (eOp2 gEq (.slot 0) (.slot 1))))))) sNop))))
def m__law_same : Nat → List Slt → Option (Slt × List D)
  | 0 => fun _ => none
  | n + 1 => runF 3 false (b__law_same (m__law_same n))
def e__law_same (n : Nat) : FEnt := ⟨2, false, false, m__law_same n⟩
/- _law_due(_law_atom_here, _law_fact_here, _law_assignment): 0:_law_atom_here 1:_law_fact_here 2:_law_assignment 3:_law_words_here 4:_law_number 5:_law_word_here 6:_law_place 7:_law_kind 8:_law_content -/
def b__law_due : SF := sSeq (sIf (bOf (eOp2 gNe (.ex true (eOp2 gIx (.slot 0) (.ex true (eLit (.int 0))))) (.ex true (eOp2 gIx (.slot 1) (.ex true (eLit (.int 0))))))) (sSeq (sRet (.ex true (eLit .none))) sNop) (sNop)) (sSeq (sAsg (.ex true (eDNew)) 3) (sSeq (sFor (iVal (.slot 2)) (gfTup (gfCons (gfName 4) (gfCons (gfName 5) gfNil))) (sSeq (sSetD 3 (.slot 4) (.slot 5)) sNop)) (sSeq (sFor (iRange1 [(.ex true (eOpN gLen [(.ex true (eOp2 gIx (.slot 1) (.ex true (eLit (.int 1)))))]))]) (gfName 6) (sSeq (sAsgT (.ex true (eOp2 gIx (.ex true (eOp2 gIx (.slot 0) (.ex true (eLit (.int 1))))) (.slot 6))) (gfTup (gfCons (gfName 7) (gfCons (gfName 8) gfNil)))) (sSeq (sIf (bAnd (bOf (eOp2 gEq (.slot 7) (.ex true (eLit (.str "word"))))) (bOf (eOp2 gNe (.slot 8) (.ex true (eOp2 gIx (.ex true (eOp2 gIx (.slot 1) (.ex true (eLit (.int 1))))) (.slot 6)))))) (sSeq (sRet (.ex true (eLit .none))) sNop) (sNop)) (sSeq (sIf (bAnd (bOf (eOp2 gEq (.slot 7) (.ex true (eLit (.str "var"))))) (bAnd (bOf (eDIn false 3 (.slot 8))) (bOf (eOp2 gNe (.ex true (eDGet 3 (.slot 8))) (.ex true (eOp2 gIx (.ex true (eOp2 gIx (.slot 1) (.ex true (eLit (.int 1))))) (.slot 6))))))) (sSeq (sRet (.ex true (eLit .none))) sNop) (sNop)) (sSeq (sIf (bOf (eOp2 gEq (.slot 7) (.ex true (eLit (.str "var"))))) (sSeq (sSetD 3 (.slot 8) (.ex true (eOp2 gIx (.ex true (eOp2 gIx (.slot 1) (.ex true (eLit (.int 1))))) (.slot 6)))) sNop) (sNop)) sNop))))) (sSeq (sRet (.ex true (eOpN gTuple [(.ex true (eLc [4] (iRange1 [(.ex true (eLit (.int 8)))]) (gfName 4) (bOf (eDIn false 3 (.slot 4))) (.ex true (eDis mkTup [(.slot 4), (.ex true (eDGet 3 (.slot 4)))]))))]))) sNop))))
def e__law_due : FEnt := ⟨3, false, false, runF 9 false b__law_due⟩
/- _law_draw(_law_stream, _law_many): 0:_law_stream 1:_law_many 2:_law_cell 3:_law_mixed 4:_law_other 5:_law_value -/
def t__law_draw_1 : SF := sSeq (sAsg (.ex true (eOp2 gMod (.ex true (eOpN gInt [(.ex true (eOp2 gIx (.slot 0) (.ex true (eLit (.int 2)))))])) (.slot 1))) 5) (sSeq (sSetI 0 (.ex true (eLit (.int 2))) (.ex true (eOp2 gFloor (.ex true (eOpN gInt [(.ex true (eOp2 gIx (.slot 0) (.ex true (eLit (.int 2)))))])) (.slot 1)))) (sSeq (sRet (.slot 5)) sNop))
def t__law_draw_2 : SF := sSeq (sSetI 0 (.ex true (eLit (.int 1))) (.ex true (eOp2 gAdd (.ex true (eOp2 gIx (.slot 0) (.ex true (eLit (.int 1))))) (.ex true (eLit (.int 1)))))) (sSeq (sSetI 0 (.ex true (eLit (.int 2))) (.slot 2)) (sSeq (sIf (bOf (eOp2 gLt (.slot 2) (.ex true (eOp2 gPow (.ex true (eLit (.int 10))) (.ex true (eLit (.int 18))))))) (sSeq (sAsg (.ex true (eOp2 gMod (.ex true (eOpN gInt [(.ex true (eOp2 gAdd (.ex true (eOp2 gMulS (.slot 2) (.ex true (eLit (.int 48271))))) (.ex true (eOp2 gMulS (.ex true (eOp2 gIx (.slot 0) (.ex true (eLit (.int 1))))) (.ex true (eLit (.int 69621)))))))])) (.ex true (eLit (.int 2147483647))))) 3) (sSeq (sAsg (.ex true (eOp2 gMod (.ex true (eOpN gInt [(.ex true (eOp2 gAdd (.ex true (eOp2 gAdd (.ex true (eOp2 gMulS (.slot 3) (.ex true (eLit (.int 40692))))) (.ex true (eOp2 gMulS (.slot 2) (.ex true (eLit (.int 7))))))) (.ex true (eLit (.int 5)))))])) (.ex true (eLit (.int 2147483399))))) 4) (sSeq (sSetI 0 (.ex true (eLit (.int 2))) (.ex true (eOp2 gAdd (.ex true (eOp2 gAdd (.ex true (eOp2 gMulS (.slot 4) (.ex true (eLit (.int 2147483563))))) (.slot 3))) (.ex true (eOp2 gPow (.ex true (eLit (.int 10))) (.ex true (eLit (.int 18)))))))) sNop))) (sNop)) sNop))
def b__law_draw : SF := sSeq (sIf (bOf (eOp2 gLt (.ex true (eOp2 gIx (.slot 0) (.ex true (eLit (.int 2))))) (.slot 1))) (sSeq (sAsg (.ex true (eLit (.int 0))) 2) (sSeq (sIf (bOf (eOp2 gLt (.ex true (eOp2 gIx (.slot 0) (.ex true (eLit (.int 1))))) (.ex true (eOpN gLen [(.ex true (eOp2 gIx (.slot 0) (.ex true (eLit (.int 0)))))])))) (sSeq (sAsg (.ex true (eOp2 gIx (.ex true (eOp2 gIx (.slot 0) (.ex true (eLit (.int 0))))) (.ex true (eOp2 gIx (.slot 0) (.ex true (eLit (.int 1))))))) 2) sNop) (sNop)) (t__law_draw_2))) (sNop)) (t__law_draw_1)
def e__law_draw : FEnt := ⟨2, true, false, runF 6 true b__law_draw⟩
/- _law_given(_law_stream, _law_words_here, _law_atom_here, _law_fact_here): 0:_law_stream 1:_law_words_here 2:_law_atom_here 3:_law_fact_here 4:_law_pairs 5:_law_number 6:_law_kind 7:_law_word_here 8:_law_place -/
def b__law_given : SF := sSeq (sAsg (.ex true (eDis mkLst [])) 4) (sSeq (sFor (iRange1 [(.ex true (eLit (.int 8)))]) (gfName 5) (sSeq (sAsg (.ex false (eCall e__law_draw [(.slot 0), (.ex true (eLit (.int 4)))])) 6) (sSeq (sAsg (.ex false (eOp2 gIx (.slot 1) (.ex false (eCall e__law_draw [(.slot 0), (.ex true (eOpN gLen [(.slot 1)]))])))) 7) (sSeq (sIf (bOf (eOp2 gEq (.slot 6) (.ex true (eLit (.int 0))))) (sSeq (sDrop (eM1 gAppend 4 (.ex true (eDis mkTup [(.slot 5), (.slot 7)])))) sNop) (sSeq (sIf (bOf (eOp2 gEq (.slot 6) (.ex true (eLit (.int 1))))) (sSeq (sFor (iRange1 [(.ex true (eOpN gLen [(.ex true (eOp2 gIx (.slot 2) (.ex true (eLit (.int 1)))))]))]) (gfName 8) (sSeq (sIf (bAnd (bOf (eOp2 gEq (.ex true (eOp2 gIx (.ex true (eOp2 gIx (.slot 2) (.ex true (eLit (.int 1))))) (.slot 8))) (.ex true (eDis mkTup [(.ex true (eLit (.str "var"))), (.slot 5)])))) (bOf (eOp2 gLt (.slot 8) (.ex true (eOpN gLen [(.ex true (eOp2 gIx (.slot 3) (.ex true (eLit (.int 1)))))]))))) (sSeq (sAsg (.ex true (eOp2 gIx (.ex true (eOp2 gIx (.slot 3) (.ex true (eLit (.int 1))))) (.slot 8))) 7) sNop) (sNop)) sNop)) (sSeq (sDrop (eM1 gAppend 4 (.ex true (eDis mkTup [(.slot 5), (.slot 7)])))) sNop)) (sNop)) sNop)) sNop)))) (sSeq (sRet (.ex true (eOpN gTuple [(.slot 4)]))) sNop))
def e__law_given : FEnt := ⟨4, true, false, runF 9 true b__law_given⟩
/- _law_term(_law_stream, _law_words_here, _law_numbers_here): 0:_law_stream 1:_law_words_here 2:_law_numbers_here -/
def b__law_term : SF := sSeq (sIf (bOr (bOf (eOp2 gEq (.ex true (eOpN gLen [(.slot 2)])) (.ex true (eLit (.int 0))))) (bOf (eOp2 gEq (.ex false (eCall e__law_draw [(.slot 0), (.ex true (eLit (.int 5)))])) (.ex true (eLit (.int 0)))))) (sSeq (sRet (.ex false (eDis mkTup [(.ex true (eLit (.str "word"))), (.ex false (eOp2 gIx (.slot 1) (.ex false (eCall e__law_draw [(.slot 0), (.ex true (eOpN gLen [(.slot 1)]))]))))]))) sNop) (sNop)) (sSeq (sRet (.ex false (eDis mkTup [(.ex true (eLit (.str "var"))), (.ex false (eOp2 gIx (.slot 2) (.ex false (eCall e__law_draw [(.slot 0), (.ex true (eOpN gLen [(.slot 2)]))]))))]))) sNop)
def e__law_term : FEnt := ⟨3, true, false, runF 3 true b__law_term⟩
/- _law_numbers(_law_stream, _law_most): 0:_law_stream 1:_law_most 2:_law_numbers_here 3:_law_turn 4:_law_number -/
def b__law_numbers : SF := sSeq (sAsg (.ex true (eDis mkLst [])) 2) (sSeq (sFor (iRange1 [(.ex false (eOp2 gAdd (.ex true (eLit (.int 1))) (.ex false (eCall e__law_draw [(.slot 0), (.slot 1)]))))]) (gfName 3) (sSeq (sAsg (.ex false (eCall e__law_draw [(.slot 0), (.ex true (eLit (.int 8)))])) 4) (sSeq (sIf (bOf (eOp2 (gIn true) (.slot 4) (.slot 2))) (sSeq (sDrop (eM1 gAppend 2 (.slot 4))) sNop) (sNop)) sNop))) (sSeq (sRet (.slot 2)) sNop))
def e__law_numbers : FEnt := ⟨2, true, false, runF 5 true b__law_numbers⟩
/- _law_atom(_law_stream, _law_schema_here, _law_words_here, _law_fact_here): 0:_law_stream 1:_law_schema_here 2:_law_words_here 3:_law_fact_here 4:_law_numbers_here 5:_law_table 6:_law_place 7:_law_terms 8:_law_word_here 9:_law_term_here -/
def t__law_atom_1 : SF := sSeq (sDrop (eM1 gAppend 7 (.slot 9))) sNop
def b__law_atom : SF := sSeq (sAsg (.ex false (eCall e__law_numbers [(.slot 0), (.ex true (eLit (.int 4)))])) 4) (sSeq (sIf (bOf (eOp2 gEq (.ex false (eCall e__law_draw [(.slot 0), (.ex true (eLit (.int 8)))])) (.ex true (eLit (.int 0))))) (sSeq (sAsg (.ex false (eOp2 gIx (.slot 1) (.ex false (eCall e__law_draw [(.slot 0), (.ex true (eOpN gLen [(.slot 1)]))])))) 5) (sSeq (sRet (.ex false (eDis mkTup [(.ex true (eOp2 gIx (.slot 5) (.ex true (eLit (.int 0))))), (.ex false (eOpN gTuple [(.ex false (eLc [6] (iRange1 [(.ex true (eOp2 gIx (.slot 5) (.ex true (eLit (.int 1)))))]) (gfName 6) (bYes) (.ex false (eCall e__law_term [(.slot 0), (.slot 2), (.slot 4)]))))]))]))) sNop)) (sNop)) (sSeq (sAsg (.ex true (eDis mkLst [])) 7) (sSeq (sFor (iVal (.ex true (eOp2 gIx (.slot 3) (.ex true (eLit (.int 1)))))) (gfName 8) (sSeq (sAsg (.ex false (eCall e__law_term [(.slot 0), (.slot 2), (.slot 4)])) 9) (sSeq (sIf (bAnd (bOf (eOp2 gEq (.ex true (eOp2 gIx (.slot 9) (.ex true (eLit (.int 0))))) (.ex true (eLit (.str "word"))))) (bOf (eOp2 gGt (.ex false (eCall e__law_draw [(.slot 0), (.ex true (eLit (.int 3)))])) (.ex true (eLit (.int 0)))))) (sSeq (sAsg (.ex true (eDis mkTup [(.ex true (eLit (.str "word"))), (.slot 8)])) 9) sNop) (sNop)) (t__law_atom_1)))) (sSeq (sRet (.ex true (eDis mkTup [(.ex true (eOp2 gIx (.slot 3) (.ex true (eLit (.int 0))))), (.ex true (eOpN gTuple [(.slot 7)]))]))) sNop))))
def e__law_atom : FEnt := ⟨4, true, false, runF 10 true b__law_atom⟩
/- _law_fact(_law_stream, _law_schema_here, _law_words_here): 0:_law_stream 1:_law_schema_here 2:_law_words_here 3:_law_table 4:_law_row 5:_law_place -/
def b__law_fact : SF := sSeq (sAsg (.ex false (eOp2 gIx (.slot 1) (.ex false (eCall e__law_draw [(.slot 0), (.ex true (eOpN gLen [(.slot 1)]))])))) 3) (sSeq (sAsg (.ex false (eLc [5] (iRange1 [(.ex true (eOp2 gIx (.slot 3) (.ex true (eLit (.int 1)))))]) (gfName 5) (bYes) (.ex false (eOp2 gIx (.slot 2) (.ex false (eCall e__law_draw [(.slot 0), (.ex true (eOpN gLen [(.slot 2)]))])))))) 4) (sSeq (sRet (.ex true (eDis mkTup [(.ex true (eOp2 gIx (.slot 3) (.ex true (eLit (.int 0))))), (.ex true (eOpN gTuple [(.slot 4)]))]))) sNop))
def e__law_fact : FEnt := ⟨3, true, false, runF 6 true b__law_fact⟩
/- _law_word(_law_stream): 0:_law_stream 1:_law_signs 2:_law_size 3:_law_place -/
def t__law_word_1 : SF := sSeq (sRet (.ex false (eSm gJoin (.ex true (eLit (.str ""))) (.ex false (eLc [3] (iRange1 [(.slot 2)]) (gfName 3) (bYes) (.ex false (eOp2 gIx (.slot 1) (.ex false (eCall e__law_draw [(.slot 0), (.ex true (eLit (.int 36)))]))))))))) sNop
def b__law_word : SF := sSeq (sAsg (.ex true (eLit (.str "abcdefghijklmnopqrstuvwxyz0123456789"))) 1) (sSeq (sAsg (.ex false (eOp2 gAdd (.ex true (eLit (.int 1))) (.ex false (eCall e__law_draw [(.slot 0), (.ex true (eLit (.int 2)))])))) 2) (sSeq (sIf (bOf (eOp2 gEq (.ex false (eCall e__law_draw [(.slot 0), (.ex true (eLit (.int 6)))])) (.ex true (eLit (.int 0))))) (sSeq (sAsg (.ex false (eOp2 gAdd (.ex true (eLit (.int 1))) (.ex false (eCall e__law_draw [(.slot 0), (.ex true (eLit (.int 12)))])))) 2) sNop) (sNop)) (t__law_word_1)))
def e__law_word : FEnt := ⟨1, true, false, runF 4 true b__law_word⟩
/- _law_words(_law_stream, _law_many): 0:_law_stream 1:_law_many 2:_law_signs 3:_law_text 4:_law_place 5:_law_alike 6:_law_words_here 7:_law_turn 8:_law_word_here -/
def t__law_words_1 : SF := sSeq (sIf (bOf (eOp2 (gIn true) (.slot 8) (.slot 6))) (sSeq (sDrop (eM1 gAppend 6 (.slot 8))) sNop) (sNop)) sNop
def b__law_words : SF := sSeq (sAsg (.ex true (eLit (.str "abcdefghijklmnopqrstuvwxyz0123456789"))) 2) (sSeq (sAsg (.ex false (eSl (.ex false (eCall e__law_word [(.slot 0)])) (some (.ex true (eLit (.int 1)))) none)) 3) (sSeq (sAsg (.ex false (eCall e__law_draw [(.slot 0), (.ex true (eOp2 gAdd (.ex true (eOpN gLen [(.slot 3)])) (.ex true (eLit (.int 1)))))])) 4) (sSeq (sAsg (.ex false (eOp2 gEq (.ex false (eCall e__law_draw [(.slot 0), (.ex true (eLit (.int 2)))])) (.ex true (eLit (.int 0))))) 5) (sSeq (sAsg (.ex true (eDis mkLst [])) 6) (sSeq (sFor (iRange1 [(.slot 1)]) (gfName 7) (sSeq (sAsg (.ex false (eCall e__law_word [(.slot 0)])) 8) (sSeq (sIf (bTru (.slot 5)) (sSeq (sAsg (.ex false (eOp2 gAdd (.ex false (eOp2 gAdd (.ex true (eSl (.slot 3) none (some (.slot 4)))) (.ex false (eOp2 gIx (.slot 2) (.ex false (eCall e__law_draw [(.slot 0), (.ex true (eLit (.int 36)))])))))) (.ex true (eSl (.slot 3) (some (.slot 4)) none)))) 8) sNop) (sNop)) (t__law_words_1)))) (sSeq (sRet (.slot 6)) sNop))))))
def e__law_words : FEnt := ⟨2, true, false, runF 9 true b__law_words⟩
/- _law_schema(_law_stream, _law_most): 0:_law_stream 1:_law_most 2:_law_many 3:_law_schema_here 4:_law_name 5:_law_width 6:_law_key -/
def t__law_schema_1 : SF := sSeq (sDrop (eM1 gAppend 3 (.ex true (eDis mkTup [(.slot 4), (.slot 5), (.slot 6)])))) sNop
def t__law_schema_2 : SF := sSeq (sAsg (.ex true (eLit .none)) 6) (sSeq (sIf (bOf (eOp2 gEq (.ex false (eCall e__law_draw [(.slot 0), (.ex true (eLit (.int 3)))])) (.ex true (eLit (.int 0))))) (sSeq (sAsg (.ex false (eOp2 gAdd (.ex true (eLit (.int 1))) (.ex false (eCall e__law_draw [(.slot 0), (.slot 5)])))) 6) sNop) (sNop)) (t__law_schema_1))
def t__law_schema_3 : SF := sSeq (sAsg (.ex true (eDis mkLst [])) 3) (sSeq (sFor (iVal (.ex false (eCall e__law_words [(.slot 0), (.slot 2)]))) (gfName 4) (sSeq (sAsg (.ex false (eOp2 gAdd (.ex true (eLit (.int 1))) (.ex false (eCall e__law_draw [(.slot 0), (.ex true (eLit (.int 3)))])))) 5) (sSeq (sIf (bOf (eOp2 gEq (.ex false (eCall e__law_draw [(.slot 0), (.ex true (eLit (.int 6)))])) (.ex true (eLit (.int 0))))) (sSeq (sAsg (.ex true (eLit (.int 4))) 5) sNop) (sNop)) (t__law_schema_2)))) (sSeq (sRet (.slot 3)) sNop))
def b__law_schema : SF := sSeq (sAsg (.ex false (eOp2 gAdd (.ex true (eLit (.int 1))) (.ex false (eCall e__law_draw [(.slot 0), (.slot 1)])))) 2) (sSeq (sIf (bOf (eOp2 gEq (.ex false (eCall e__law_draw [(.slot 0), (.ex true (eLit (.int 8)))])) (.ex true (eLit (.int 0))))) (sSeq (sAsg (.ex true (eLit (.int 4))) 2) sNop) (sNop)) (t__law_schema_3))
def e__law_schema : FEnt := ⟨2, true, false, runF 7 true b__law_schema⟩
/- law(_law_script): 0:_law_script 1:_law_stream 2:_law_words_here 3:_law_schema_here 4:_law_fact_here 5:_law_atom_here 6:_law_assignment 7:_law_due_here -/
def b_law : SF := sSeq (sAsg (.ex true (eDis mkLst [(.ex true (eOpN gList [(.slot 0)])), (.ex true (eLit (.int 0))), (.ex true (eLit (.int 0)))])) 1) (sSeq (sAsg (.ex false (eCall e__law_words [(.slot 1), (.ex true (eLit (.int 4)))])) 2) (sSeq (sAsg (.ex false (eCall e__law_schema [(.slot 1), (.ex true (eLit (.int 2)))])) 3) (sSeq (sAsg (.ex false (eCall e__law_fact [(.slot 1), (.slot 3), (.slot 2)])) 4) (sSeq (sAsg (.ex false (eCall e__law_atom [(.slot 1), (.slot 3), (.slot 2), (.slot 4)])) 5) (sSeq (sAsg (.ex false (eCall e__law_given [(.slot 1), (.slot 2), (.slot 5), (.slot 4)])) 6) (sSeq (sAsg (.ex true (eCall e__law_due [(.slot 5), (.slot 4), (.slot 6)])) 7) (sSeq (sIf (bNot (bTru (.ex true (eCall (e__law_same 12) [(.ex true (eCall e_unify [(.slot 5), (.slot 4), (.slot 6)])), (.slot 7)])))) (sSeq (sRet (.ex true (eLit (.bool false)))) sNop) (sNop)) (sSeq (sIf (bNot (bTru (.ex true (eCall (e__law_same 12) [(.ex true (eCall e_unify [(.slot 5), (.slot 4), (.ex true (eDis mkTup []))])), (.ex true (eCall e__law_due [(.slot 5), (.slot 4), (.ex true (eDis mkTup []))]))])))) (sSeq (sRet (.ex true (eLit (.bool false)))) sNop) (sNop)) (sSeq (sRet (.ex true (eCall (e__law_same 12) [(.ex true (eCall e_unify [(.slot 5), (.slot 4), (.slot 6)])), (.slot 7)]))) sNop)))))))))
def e_law : FEnt := ⟨1, false, false, runF 8 false b_law⟩
theorem call_unify {ρ : Rho} {KR : Slt → Rho → Prop} {a0 a1 a2 : Cd} : WR (eCall e_unify [a0, a1, a2]) ρ KR = WAs [a0, a1, a2] ρ fun as ρ1 => WSs ρ1 as fun xs => WM e_unify.m xs fun r _ => WFl r as ρ1 fun ρ2 => KR r ρ2 := wr_callF rfl rfl rfl
theorem call__law_same {ρ : Rho} {KR : Slt → Rho → Prop} {a0 a1 : Cd} {n : Nat} : WR (eCall (e__law_same n) [a0, a1]) ρ KR = WAs [a0, a1] ρ fun as ρ1 => WSs ρ1 as fun xs => WM (e__law_same n).m xs fun r _ => WFl r as ρ1 fun ρ2 => KR r ρ2 := wr_callF rfl rfl rfl
theorem callS__law_same {ρ : Rho} {KR : Slt → Rho → Prop} {a0 a1 : Cd} {sm : List Slt → Option (Slt × List D)} : WR (eCall (⟨2, false, false, sm⟩ : FEnt) [a0, a1]) ρ KR = WAs [a0, a1] ρ fun as ρ1 => WSs ρ1 as fun xs => WM (⟨2, false, false, sm⟩ : FEnt).m xs fun r _ => WFl r as ρ1 fun ρ2 => KR r ρ2 := wr_callF rfl rfl rfl
theorem call__law_due {ρ : Rho} {KR : Slt → Rho → Prop} {a0 a1 a2 : Cd} : WR (eCall e__law_due [a0, a1, a2]) ρ KR = WAs [a0, a1, a2] ρ fun as ρ1 => WSs ρ1 as fun xs => WM e__law_due.m xs fun r _ => WFl r as ρ1 fun ρ2 => KR r ρ2 := wr_callF rfl rfl rfl
theorem call__law_draw {ρ : Rho} {KR : Slt → Rho → Prop} {a0 a1 : Cd} : WR (eCall e__law_draw [a0, a1]) ρ KR = WAs [a0, a1] ρ fun as ρ1 => ioK e__law_draw ρ1 KR as := wr_callT rfl rfl
theorem call__law_given {ρ : Rho} {KR : Slt → Rho → Prop} {a0 a1 a2 a3 : Cd} : WR (eCall e__law_given [a0, a1, a2, a3]) ρ KR = WAs [a0, a1, a2, a3] ρ fun as ρ1 => ioK e__law_given ρ1 KR as := wr_callT rfl rfl
theorem call__law_term {ρ : Rho} {KR : Slt → Rho → Prop} {a0 a1 a2 : Cd} : WR (eCall e__law_term [a0, a1, a2]) ρ KR = WAs [a0, a1, a2] ρ fun as ρ1 => ioK e__law_term ρ1 KR as := wr_callT rfl rfl
theorem call__law_numbers {ρ : Rho} {KR : Slt → Rho → Prop} {a0 a1 : Cd} : WR (eCall e__law_numbers [a0, a1]) ρ KR = WAs [a0, a1] ρ fun as ρ1 => ioK e__law_numbers ρ1 KR as := wr_callT rfl rfl
theorem call__law_atom {ρ : Rho} {KR : Slt → Rho → Prop} {a0 a1 a2 a3 : Cd} : WR (eCall e__law_atom [a0, a1, a2, a3]) ρ KR = WAs [a0, a1, a2, a3] ρ fun as ρ1 => ioK e__law_atom ρ1 KR as := wr_callT rfl rfl
theorem call__law_fact {ρ : Rho} {KR : Slt → Rho → Prop} {a0 a1 a2 : Cd} : WR (eCall e__law_fact [a0, a1, a2]) ρ KR = WAs [a0, a1, a2] ρ fun as ρ1 => ioK e__law_fact ρ1 KR as := wr_callT rfl rfl
theorem call__law_word {ρ : Rho} {KR : Slt → Rho → Prop} {a0 : Cd} : WR (eCall e__law_word [a0]) ρ KR = WAs [a0] ρ fun as ρ1 => ioK e__law_word ρ1 KR as := wr_callT rfl rfl
theorem call__law_words {ρ : Rho} {KR : Slt → Rho → Prop} {a0 a1 : Cd} : WR (eCall e__law_words [a0, a1]) ρ KR = WAs [a0, a1] ρ fun as ρ1 => ioK e__law_words ρ1 KR as := wr_callT rfl rfl
theorem call__law_schema {ρ : Rho} {KR : Slt → Rho → Prop} {a0 a1 : Cd} : WR (eCall e__law_schema [a0, a1]) ρ KR = WAs [a0, a1] ρ fun as ρ1 => ioK e__law_schema ρ1 KR as := wr_callT rfl rfl
end L17


namespace L17
open PySem PySem.Spec PyProof.Rows L2 Pv
local macro_rules | `(tactic| decreasing_trivial) => `(tactic| (try simp only [↓w_seq, w_seq, ↓w_nop, w_nop, ↓w_if, w_if, ↓w_ret_ex, w_ret_ex, ↓w_ret_slot, w_ret_slot, ↓w_drop, w_drop, ↓w_asg_ex, w_asg_ex, ↓w_asg_slot, w_asg_slot, ↓w_asgT, w_asgT, ↓w_par, w_par, ↓w_setI, w_setI, ↓w_setD, w_setD, ↓w_aug, w_aug, ↓w_for, w_for, ↓kS_nx, kS_nx, ↓kS_rt, kS_rt, ↓kS_bk, kS_bk, ↓kS_ct, kS_ct, ↓lpK_nx, lpK_nx, ↓lpK_ct, lpK_ct, ↓lpK_bk, lpK_bk, ↓lpK_rt, lpK_rt, ↓fnK_nx, fnK_nx, ↓fnK_rt, fnK_rt, ↓finK_f, finK_f, ↓finK_t, finK_t, ↓wr_lit, wr_lit, ↓wr_op1, wr_op1, ↓wr_op2, wr_op2, ↓wr_opN, wr_opN, ↓wr_dis, wr_dis, ↓wr_and, wr_and, ↓wr_or, wr_or, ↓wr_val, wr_val, ↓wr_not, wr_not, ↓wr_ite, wr_ite, ↓wr_lc, wr_lc, ↓wr_m0, wr_m0, ↓wr_m1, wr_m1, ↓wr_sl, wr_sl, ↓wr_sm, wr_sm, ↓wr_chain, wr_chain, ↓wa_slot, wa_slot, ↓wa_ex, wa_ex, ↓wd_slot, wd_slot, ↓wd_tmp, wd_tmp, ↓wds_n, wds_n, ↓wds_c, wds_c, ↓was_n, was_n, ↓was_c, was_c, ↓wv_slot, wv_slot, ↓wv_ex, wv_ex, ↓wb_tru, wb_tru, ↓wb_and, wb_and, ↓wb_or, wb_or, ↓wb_not, wb_not, ↓wb_of, wb_of, ↓wb_yes, wb_yes, ↓boolK_b, boolK_b, ↓wit_l, wit_l, ↓wit_t, wit_t, ↓wit_s, wit_s, ↓wi_val, wi_val, ↓wi_bor, wi_bor, ↓wi_range1, wi_range1, ↓wi_range2, wi_range2, ↓wi_zip, wi_zip, ↓wi_enum, wi_enum, ↓rng1K_i, rng1K_i, ↓rng2K_i, rng2K_i, ↓ltK_l, ltK_l, ↓ltK_t, ltK_t, ↓enK_l, enK_l, ↓wg_name, wg_name, ↓wg_tup, wg_tup, ↓wgs_n, wgs_n, ↓wgs_c, wgs_c, ↓wl_0, wl_0, ↓wl_s, wl_s, ↓wz_n, wz_n, ↓wz_0, wz_0, ↓wz_s, wz_s, ↓ws_0, ws_0, ↓ws_s, ws_s, ↓wdr_n, wdr_n, ↓wdr_0, wdr_0, ↓wdr_s, wdr_s, ↓wx_0, wx_0, ↓wx_s, wx_s, ↓ww_n, ww_n, ↓ww_c, ww_c, ↓wrs_n, wrs_n, ↓wrs_c, wrs_c, ↓wdrs_n, wdrs_n, ↓wdrs_t, wdrs_t, ↓wdrs_s, wdrs_s, ↓wown_0, wown_0, ↓wown_s, wown_s, ↓intK_i, intK_i, ↓strK_s, strK_s, ↓wfl_none, wfl_none, ↓wfl_bool, wfl_bool, ↓wfl_int, wfl_int, ↓wfl_str, wfl_str, ↓wfl_list, wfl_list, ↓wfl_tup, wfl_tup, ↓wfl_own, wfl_own, ↓ioK_c, ioK_c, ↓nd_val, nd_val, ↓nd_own, nd_own, ↓wdct_0, wdct_0, ↓wdct_s, wdct_s, ↓exk_i, exk_i, ↓exk_s, exk_s, ↓drO_dct, drO_dct, ↓drO_vdc, drO_vdc, ↓wdo_d, wdo_d, ↓wdo_v, wdo_v, ↓wdo_s, wdo_s, ↓wr_dget, wr_dget, ↓wr_dIn, wr_dIn, ↓wr_sitems, wr_sitems, ↓wr_dgetX, wr_dgetX, ↓dctK_d, dctK_d, ↓wo_dict_t, wo_dict_t, ↓wo_dict_l, wo_dict_l, ↓wr_dset, wr_dset, ↓wr_isD, wr_isD, ↓wr_dnew, wr_dnew, ↓wr_dc, wr_dc, ↓wss_n, wss_n, ↓wss_c, wss_c, ↓wsx_tmp, wsx_tmp, ↓wsx_slot, wsx_slot, ↓shv_val, shv_val, ↓shv_own, shv_own, ↓shv_dct, shv_dct, ↓shv_vdc, shv_vdc, ↓wfl_dct, wfl_dct, ↓sd_val, sd_val, ↓sd_own, sd_own, ↓drO_val, drO_val, ↓drO_own, drO_own, ↓drO_none, drO_none, ↓wt_none, wt_none, ↓wt_bool, wt_bool, ↓wt_int, wt_int, ↓wt_str, wt_str, ↓wt_list, wt_list, ↓wt_tup, wt_tup, ↓wo_tup, wo_tup, ↓wo_lst, wo_lst, ↓wo_add_i, wo_add_i, ↓wo_add_s, wo_add_s, ↓wo_add_l, wo_add_l, ↓wo_add_t, wo_add_t, ↓wo_aug_i, wo_aug_i, ↓wo_aug_s, wo_aug_s, ↓wo_sub, wo_sub, ↓wo_neg, wo_neg, ↓wo_floor, wo_floor, ↓wo_mod, wo_mod, ↓wo_mul, wo_mul, ↓wo_pow, wo_pow, ↓wo_eq_ii, wo_eq_ii, ↓wo_ne_ii, wo_ne_ii, ↓wo_eq_ss, wo_eq_ss, ↓wo_ne_ss, wo_ne_ss, ↓wo_in_s, wo_in_s, ↓wo_repr, wo_repr, ↓wr_lc2, wr_lc2, ↓wg_tupL, wg_tupL, ↓wfl_n, wfl_n, ↓wfl_tmp, wfl_tmp, ↓wo_int_s, wo_int_s, ↓wo_lt_s, wo_lt_s, ↓wo_le_s, wo_le_s, ↓wo_gt_s, wo_gt_s, ↓wo_ge_s, wo_ge_s, ↓wo_lt_i, wo_lt_i, ↓wo_le_i, wo_le_i, ↓wo_gt_i, wo_gt_i, ↓wo_ge_i, wo_ge_i, ↓wo_is_n, wo_is_n, ↓wo_is_b, wo_is_b, ↓wo_is_i, wo_is_i, ↓wo_is_s, wo_is_s, ↓wo_is_l, wo_is_l, ↓wo_is_t, wo_is_t, ↓wo_is_bb, wo_is_bb, ↓wo_no_n, wo_no_n, ↓wo_no_b, wo_no_b, ↓wo_no_i, wo_no_i, ↓wo_no_s, wo_no_s, ↓wo_no_l, wo_no_l, ↓wo_no_t, wo_no_t, ↓wo_ix_l, wo_ix_l, ↓wo_ix_t, wo_ix_t, ↓wo_ix_s, wo_ix_s, ↓atI_0, atI_0, ↓atI_1, atI_1, ↓atI_2, atI_2, ↓atI_3, atI_3, ↓atI_4, atI_4, ↓atI_5, atI_5, ↓atI_6, atI_6, ↓atI_7, atI_7, ↓atI_8, atI_8, ↓atI_9, atI_9, ↓atI_10, atI_10, ↓atI_11, atI_11, ↓atI_12, atI_12, ↓wix_set, wix_set, ↓wix_0, wix_0, ↓wix_1, wix_1, ↓wix_2, wix_2, ↓wix_3, wix_3, ↓wo_any, wo_any, ↓wo_all, wo_all, ↓wo_sum, wo_sum, ↓wo_join, wo_join, ↓wo_in_l, wo_in_l, ↓wo_in_t, wo_in_t, ↓wo_eq, wo_eq, ↓wo_ne, wo_ne, ↓wo_sl_l, wo_sl_l, ↓wo_sl_t, wo_sl_t, ↓wo_sl_s, wo_sl_s, ↓wo_rev, wo_rev, ↓wo_rev_t, wo_rev_t, ↓wo_len_l, wo_len_l, ↓wo_len_t, wo_len_t, ↓wo_len_s, wo_len_s, ↓wo_int_i, wo_int_i, ↓wo_int_b, wo_int_b, ↓wo_list_l, wo_list_l, ↓wo_list_t, wo_list_t, ↓wo_tuple_l, wo_tuple_l, ↓wo_tuple_t, wo_tuple_t, ↓wo_isi, wo_isi, ↓wio_n, wio_n, ↓wio_s, wio_s, ↓chk, chk, ↓exv, exv, ↓flat_i, flat_i, ↓flat_s, flat_s, ↓w_mov, w_mov, ↓wo_fmt_s, wo_fmt_s, ↓wo_fmt_i, wo_fmt_i, ↓wo_str_i, wo_str_i, ↓wjs_n, wjs_n, ↓wjs_c, wjs_c, ↓wr_js, wr_js, ↓wo_min2, wo_min2, ↓wo_max2, wo_max2, ↓wo_joinS, wo_joinS, ↓wo_joinT, wo_joinT, ↓wo_mul_ii, wo_mul_ii, ↓wo_mul_si, wo_mul_si, ↓wo_split, wo_split, ↓wo_starts, wo_starts, ↓wr_sortK, wr_sortK, ↓wr_quG, wr_quG, ↓wr_lm, wr_lm, ↓wo_index, wo_index, ↓wo_ends, wo_ends, ↓w_par3, w_par3, ↓listK_l, listK_l, ↓wr_m2, wr_m2, ↓ex_insert, ex_insert, ↓wo_sorted, wo_sorted, ↓ex_append, ex_append, ↓ex_clear, ex_clear, ↓ex_reverse, ex_reverse, ↓ex_pop, ex_pop, ↓ex_extend, ex_extend, ↓ex_some, ex_some, ↓w_bk, w_bk, ↓w_ct, w_ct, ↓w_rtn, w_rtn, ↓call_unify, call_unify, ↓call__law_same, call__law_same, ↓callS__law_same, callS__law_same, ↓call__law_due, call__law_due, ↓call__law_draw, call__law_draw, ↓call__law_given, call__law_given, ↓call__law_term, call__law_term, ↓call__law_numbers, call__law_numbers, ↓call__law_atom, call__law_atom, ↓call__law_fact, call__law_fact, ↓call__law_word, call__law_word, ↓call__law_words, call__law_words, ↓call__law_schema, call__law_schema, shR_n, shR_c, shR_o, shR_d, shR_v, isNs_d, isNs_v, isNs_n, shR_0, eqv_bb, eqv_nn, beq_self_eq_true, decide_true, decide_false, sz0, sz1, sz2, sz3, sz4, sz5, sz6, dep_int, dep_str, dep_bool, dep_none, eqv_ii, eqv_ss, Nat.min_zero, Nat.zero_min, Nat.zero_le, Bool.false_eq_true, if_false, if_true, ite_true, ite_false, isiD, List.all_cons, List.all_nil, isNotSlot, List.map_cons, List.map_nil, Bool.not_true, Bool.not_false, reduceCtorEq, forall_const, false_implies, true_implies, and_true, true_and, decide_eq_true_eq, decide_eq_false_iff_not, Nat.reduceBEq, Bool.and_self, List.set_cons_zero, List.set_cons_succ, Bool.true_and, eq_self, or_true, true_or, Int.reducePow, Int.reduceNeg, Int.reduceLT, Int.reduceLE, Int.reduceToNat, Int.reduceAdd, Int.reduceSub, Int.reduceMul, Nat.reducePow, Nat.reduceLT, Nat.reduceLeDiff, Int.reduceAbs]))

def St (st : List D) : Prop := ∃ (ns : List Int) (pos acc : Int), st = [.list (ns.map .int), .int pos, .int acc] ∧ 0 ≤ pos
theorem St.mk {ns : List Int} {pos acc : Int} (h : 0 ≤ pos) : St [.list (ns.map .int), .int pos, .int acc] := ⟨ns, pos, acc, rfl, h⟩
theorem draw_ok {st : List D} (hs : St st) {m : Int} (h0 : 0 < m) (h1 : m < 1073741824) : WM e__law_draw.m [.own st, .val (.int m)] fun r o => ∃ v : Int, r = .val (.int v) ∧ 0 ≤ v ∧ v < m ∧ St o := by
  obtain ⟨ns, pos, acc, rfl, hp⟩ := hs
  refine wm_run ?_
  show W b__law_draw [some (.own _), some (.val (.int m)), none, none, none, none] _
  unfold b__law_draw t__law_draw_2 t__law_draw_1
  have fin : ∀ (x : Int) {p y : Int}, 0 ≤ p → ∃ v, Slt.val (PyData.int (x % m)) = Slt.val (.int v) ∧ 0 ≤ v ∧ v < m ∧ St [.list (ns.map PyData.int), .int p, .int y] := fun x p y h => ⟨_, rfl, Int.emod_nonneg _ (by omega), Int.emod_lt_of_pos _ h0, .mk h⟩
  have h2 : 0 ≤ pos + 1 := by omega
  decreasing_trivial
  simp only [h0, h1, true_and, and_true, fin _ hp, fin _ h2, implies_true]
  refine fun _ h => ex_atI_map hp (by simpa using h) fun x _ => ?_
  decreasing_trivial
  simp only [h0, h1, true_and, and_true, fin _ hp, fin _ h2, implies_true]
theorem same_step {n : Nat} (ih : ∀ k, k < n → ∀ d : D, gd k d → m__law_same (k + 1) [.val d, .val d] = some (.val (.bool true), [])) {d : D} (h : gd n d) : m__law_same (n + 1) [.val d, .val d] = some (.val (.bool true), []) := by
  refine wm_of (wm_run ?_)
  show W (b__law_same (m__law_same n)) [some (.val d), some (.val d), none] _
  unfold b__law_same
  cases d with
  | none => decreasing_trivial
  | bool x => (decreasing_trivial <;> simp [PyData.eqv])
  | int x => (decreasing_trivial <;> simp)
  | str x => (decreasing_trivial <;> simp)
  | list xs =>
    cases n with
    | zero => cases h
    | succ k =>
      have hl := h.1
      decreasing_trivial
      first | refine ⟨by simp, fun _ => ⟨by omega, by omega, ?_⟩⟩ | refine ⟨by omega, by omega, ?_⟩
      refine wlc_all (fun _ => .bool true) (le_size (by rw [List.length_range]; omega)) (fun i hi => ?_) ?_
      · have hi2 : i < xs.length := by
          rw [List.mem_range] at hi
          simpa using hi
        decreasing_trivial
        rw [atI_rng hi2]
        decreasing_trivial
        rw [atI_rng hi2]
        decreasing_trivial
        rw [wm_eq (m := m__law_same (k + 1)) (ih k (Nat.lt_succ_self k) _ (h.2 _ (List.getElem_mem hi2)))]
        decreasing_trivial
      · (decreasing_trivial <;> simp)
  | tuple xs =>
    cases n with
    | zero => cases h
    | succ k =>
      have hl := h.1
      decreasing_trivial
      first | refine ⟨by simp, fun _ => ⟨by omega, by omega, ?_⟩⟩ | refine ⟨by omega, by omega, ?_⟩
      refine wlc_all (fun _ => .bool true) (le_size (by rw [List.length_range]; omega)) (fun i hi => ?_) ?_
      · have hi2 : i < xs.length := by
          rw [List.mem_range] at hi
          simpa using hi
        decreasing_trivial
        rw [atI_rng hi2]
        decreasing_trivial
        rw [atI_rng hi2]
        decreasing_trivial
        rw [wm_eq (m := m__law_same (k + 1)) (ih k (Nat.lt_succ_self k) _ (h.2 _ (List.getElem_mem hi2)))]
        decreasing_trivial
      · (decreasing_trivial <;> simp)
  | dict xs => cases n <;> cases h
theorem same_all : ∀ n : Nat, ∀ d : D, gd n d → m__law_same (n + 1) [.val d, .val d] = some (.val (.bool true), []) := fun n => Nat.strongRecOn n fun n ih d h => same_step ih h
theorem same_refl {n : Nat} {d : D} (h : gd n d) : (e__law_same (n + 1)).m [.val d, .val d] = some (.val (.bool true), []) := same_all n d h
theorem signs_len : ("abcdefghijklmnopqrstuvwxyz0123456789" : Str).cps.toList.length = 36 := by decide +kernel
theorem signs_size : ("abcdefghijklmnopqrstuvwxyz0123456789" : Str).length ≤ sizeLine := by decide +kernel
theorem word_ok {st : List D} (hs : St st) : WM e__law_word.m [.own st] fun r o => ∃ w : Str, r = .val (.str w) ∧ w.length ≤ 12 ∧ St o := by
  refine wm_run ?_
  show W b__law_word [some (.own st), none, none, none] _
  unfold b__law_word
  have signs := signs_len
  have signs2 := signs_size
  generalize hsg : ("abcdefghijklmnopqrstuvwxyz0123456789" : Str) = sg at signs signs2 ⊢
  have tail : ∀ {st : List D} {j : Int}, St st → 0 ≤ j → j ≤ 12 →
      W t__law_word_1 [some (.own st), some (.val (.str sg)), some (.val (.int j)), none] (fnK true fun r o => ∃ w : Str, r = .val (.str w) ∧ w.length ≤ 12 ∧ St o) := by
    intro st j hs h0 h1
    unfold t__law_word_1
    decreasing_trivial
    refine ⟨by omega, by omega, ?_⟩
    refine wlc_st (fun ρ => ∃ st, St st ∧ ρ = [some (.own st), some (.val (.str sg)), some (.val (.int j)), none]) (fun y => ∃ c : Nat, y = .str ⟨#[c]⟩) (le_size (by rw [List.length_range]; omega)) ⟨st, hs, rfl⟩ ?_ ?_
    · rintro x ρ hx ⟨st, hs, rfl⟩
      decreasing_trivial
      (refine wm_imp (draw_ok hs (by omega) (by omega)) ?_; rintro _ _ ⟨v, rfl, hv0, hv1, hs⟩; decreasing_trivial)
      refine ⟨signs2, ex_atI hv0 (by rw [signs]; omega) fun c _ => ?_⟩
      decreasing_trivial
      exact ⟨⟨c, rfl⟩, ⟨_, hs, rfl⟩⟩
    · rintro ρ acc ⟨st, hs, rfl⟩ ha hl
      obtain ⟨l, rfl⟩ := ex_map ha
      rw [List.length_map, List.length_range] at hl
      decreasing_trivial
      rw [join1_sum]
      refine ⟨by omega, _, rfl, ?_, hs⟩
      have := join1_len l
      omega
  decreasing_trivial
  (refine wm_imp (draw_ok hs (by omega) (by omega)) ?_; rintro _ _ ⟨v, rfl, hv0, hv1, hs⟩; decreasing_trivial)
  (refine wm_imp (draw_ok hs (by omega) (by omega)) ?_; rintro _ _ ⟨v, rfl, hv0, hv1, hs⟩; decreasing_trivial)
  refine ⟨fun _ => ?_, fun _ => tail hs (by omega) (by omega)⟩
  (refine wm_imp (draw_ok hs (by omega) (by omega)) ?_; rintro _ _ ⟨v, rfl, hv0, hv1, hs⟩; decreasing_trivial)
  exact tail hs (by omega) (by omega)
theorem nodup_snoc {α : Type} {l : List α} {x : α} (h : l.Nodup) (n : x ∉ l) : (l ++ [x]).Nodup := by
  rw [List.nodup_append]
  exact ⟨h, by simp, fun a ha b hb e => n (by rw [List.mem_singleton] at hb; rw [← hb, ← e]; exact ha)⟩
theorem words_ok {st : List D} (hs : St st) {many : Int} (h0 : 1 ≤ many) (h1 : many ≤ 100) : WM e__law_words.m [.own st, .val (.int many)] fun r o => ∃ ws : List Str, r = .own (ws.map .str) ∧ ws ≠ [] ∧ (ws.length : Int) ≤ many ∧ (∀ w ∈ ws, w.length ≤ 40) ∧ ws.Nodup ∧ St o := by
  refine wm_run ?_
  show W b__law_words [some (.own st), some (.val (.int many)), none, none, none, none, none, none, none] _
  unfold b__law_words
  have signs := signs_len
  have signs2 := signs_size
  generalize hsg : ("abcdefghijklmnopqrstuvwxyz0123456789" : Str) = sg at signs signs2 ⊢
  decreasing_trivial
  refine wm_imp (word_ok hs) ?_
  rintro _ _ ⟨w, rfl, hw, hs⟩
  decreasing_trivial
  refine ⟨le_size (by omega), ?_⟩
  generalize htx : (⟨(cutD w.cps.toList (some 1) none).toArray⟩ : Str) = tx
  have htl : tx.length ≤ 12 := by
    subst htx
    rw [strlen_mk]
    exact Nat.le_trans cutD_len (by rw [strlen_l]; exact hw)
  refine ⟨le_size (by omega), ?_⟩
  (refine wm_imp (draw_ok hs (by omega) (by omega)) ?_; rintro _ _ ⟨place, rfl, place0, place1, hs⟩; decreasing_trivial)
  (refine wm_imp (draw_ok hs (by omega) (by omega)) ?_; rintro _ _ ⟨v, rfl, hv0, hv1, hs⟩; decreasing_trivial)
  refine ⟨by omega, by omega, ?_⟩
  refine wf_inv (pre := []) (fun pre ρ => ∃ (st : List D) (ws : List Str) (s7 s8 : Option Slt), ρ = [some (.own st), some (.val (.int many)), some (.val (.str sg)), some (.val (.str tx)), some (.val (.int place)), some (.val (.bool (v == 0))), some (.own (ws.map .str)), s7, s8] ∧ St st ∧ ws.length ≤ pre.length ∧ (∀ w ∈ ws, w.length ≤ 40) ∧ (pre ≠ [] → ws ≠ []) ∧ ws.Nodup) ⟨_, [], _, _, rfl, hs, by simp, by simp, by simp, by simp⟩ ?_ ?_
  · rintro pre x po ρ hx ⟨st, ws, s7, s8, rfl, hs, hl, hw, hne, hnd⟩
    have hx : List.range many.toNat = pre ++ x :: po := hx
    have hlen : pre.length < many.toNat := by
      have := congrArg List.length hx
      simp at this
      omega
    have tail : ∀ {st : List D} {w : Str}, St st → w.length ≤ 40 → W t__law_words_1 [some (.own st), some (.val (.int many)), some (.val (.str sg)), some (.val (.str tx)), some (.val (.int place)), some (.val (.bool (v == 0))), some (.own (ws.map .str)), some (.val (.int (0 + (x : Int)))), some (.val (.str w))]
        (lpK (fun ρ => ∃ (st : List D) (ws : List Str) (s7 s8 : Option Slt), ρ = [some (.own st), some (.val (.int many)), some (.val (.str sg)), some (.val (.str tx)), some (.val (.int place)), some (.val (.bool (v == 0))), some (.own (ws.map .str)), s7, s8] ∧ St st ∧ ws.length ≤ (pre ++ [x]).length ∧ (∀ w ∈ ws, w.length ≤ 40) ∧ (pre ++ [x] ≠ [] → ws ≠ []) ∧ ws.Nodup)
          (kS (sSeq (sRet (.slot 6)) sNop) (fnK true fun r o => ∃ ws : List Str, r = .own (ws.map .str) ∧ ws ≠ [] ∧ (ws.length : Int) ≤ many ∧ (∀ w ∈ ws, w.length ≤ 40) ∧ ws.Nodup ∧ St o))) := by
      intro st w hs hw2
      unfold t__law_words_1
      decreasing_trivial
      refine ⟨fun hni => ⟨?_, ?_⟩, fun hin => ?_⟩
      · rw [List.length_map]
        exact small1000 (by omega)
      · refine ⟨st, ws ++ [w], _, _, by rw [List.map_append]; rfl, hs, by simp; omega, ?_, by simp, nodup_snoc hnd fun hm => ?_⟩
        intro z hz
        rw [List.mem_append] at hz
        rcases hz with hz | hz
        · exact hw z hz
        · rw [List.mem_singleton.mp hz]; exact hw2
        · have := (anyEqv_iff (n := 0) (m := 0) (a := .str w) (ds := ws.map .str) (by rw [pl_str]; omega) (fun d hd => by
            obtain ⟨u, hu, rfl⟩ := List.mem_map.mp hd
            rw [pl_str]; have := hw u hu; omega)).mpr (List.mem_map.mpr ⟨w, hm, rfl⟩)
          simp [this] at hni
      · refine ⟨st, ws, _, _, rfl, hs, by simp; omega, hw, fun _ h => ?_, hnd⟩
        subst h
        simp [anyEqv] at hin
    decreasing_trivial
    refine wm_imp (word_ok hs) ?_
    rintro _ _ ⟨w, rfl, hw, hs⟩
    decreasing_trivial
    refine ⟨fun _ => ⟨le_size (by omega), ?_⟩, fun _ => tail hs (by omega)⟩
    (refine wm_imp (draw_ok hs (by omega) (by omega)) ?_; rintro _ _ ⟨v, rfl, hv0, hv1, hs⟩; decreasing_trivial)
    refine ⟨signs2, ex_atI hv0 (by rw [signs]; omega) fun c _ => ?_⟩
    decreasing_trivial
    have k1 : (⟨(cutD tx.cps.toList none (some place)).toArray⟩ : Str).length ≤ 12 := by
      rw [strlen_mk]
      exact Nat.le_trans cutD_len (by rw [strlen_l]; exact htl)
    have k2 : (⟨(cutD tx.cps.toList (some place) none).toArray⟩ : Str).length ≤ 12 := by
      rw [strlen_mk]
      exact Nat.le_trans cutD_len (by rw [strlen_l]; exact htl)
    have k3 : (⟨#[c]⟩ : Str).length = 1 := rfl
    rw [strlen_app]
    refine ⟨le_size (by omega), le_size (by omega), le_size (by omega), tail hs ?_⟩
    rw [strlen_app, strlen_app]
    omega
  · rintro ρ ⟨st, ws, s7, s8, rfl, hs, hl, hw, hne, hnd⟩
    decreasing_trivial
    refine ⟨ws, rfl, hne ?_, ?_, hw, hnd, hs⟩
    · intro h
      have := congrArg List.length h
      simp at this
      omega
    · simp at hl
      omega
inductive Tm where
  | v (n : Nat)
  | w (x : Str)
  deriving DecidableEq
def tmD : Tm → D
  | .v n => .tuple [.str "var", .int n]
  | .w x => .tuple [.str "word", .str x]
abbrev At := Str × List Tm
def aD (a : At) : D := .tuple [.str a.1, .tuple (a.2.map tmD)]
def TmOk : Tm → Prop
  | .v n => n < 8
  | .w x => x.length ≤ 40
theorem tm_pl {t : Tm} (h : TmOk t) : pl 1 (tmD t) := by
  cases t with
  | v n => exact ⟨by simp, fun x hx => by
      simp only [List.mem_cons, List.not_mem_nil, or_false] at hx
      rcases hx with rfl | rfl
      · rw [pl_str]; decide +kernel
      · trivial⟩
  | w y => exact ⟨by simp, fun x hx => by
      have h : y.length ≤ 40 := h
      simp only [List.mem_cons, List.not_mem_nil, or_false] at hx
      rcases hx with rfl | rfl
      · rw [pl_str]; decide +kernel
      · rw [pl_str]; omega⟩
theorem vw : (("var" : Str) == ("word" : Str)) = false := by decide +kernel
theorem wv : (("word" : Str) == ("var" : Str)) = false := by decide +kernel
theorem tm_inj {s t : Tm} (h : tmD s = tmD t) : s = t := by
  have ne : ("var" : Str) ≠ ("word" : Str) := fun e => by have := vw; rw [e] at this; simp at this
  cases s with
  | v n => cases t with
    | v m =>
      simp only [tmD, PyData.tuple.injEq, List.cons.injEq, PyData.int.injEq, and_true, true_and] at h
      rw [Int.ofNat_inj.mp h]
    | w x => simp only [tmD, PyData.tuple.injEq, List.cons.injEq, PyData.str.injEq] at h; exact absurd h.1 ne
  | w x => cases t with
    | v m => simp only [tmD, PyData.tuple.injEq, List.cons.injEq, PyData.str.injEq] at h; exact absurd h.1.symm ne
    | w y =>
      simp only [tmD, PyData.tuple.injEq, List.cons.injEq, PyData.str.injEq, and_true, true_and] at h
      rw [h]
theorem any_tm {t : Tm} {l : List Tm} (ht : TmOk t) (hl : ∀ u ∈ l, TmOk u) : anyEqv (tmD t) (l.map tmD) = decide (t ∈ l) := by
  rw [Bool.eq_iff_iff, anyEqv_iff (tm_pl ht) (fun d hd => by
    obtain ⟨u, hu, rfl⟩ := List.mem_map.mp hd
    exact tm_pl (hl u hu)), List.mem_map, decide_eq_true_eq]
  exact ⟨fun ⟨u, h1, h2⟩ => by rw [← tm_inj h2]; exact h1, fun h => ⟨t, h, rfl⟩⟩
theorem tms_depth {l : List Tm} (hl : ∀ u ∈ l, TmOk u) : PyData.depthAll (l.map tmD) ≤ 1 := depthAll_le fun d hd => by
  obtain ⟨u, hu, rfl⟩ := List.mem_map.mp hd
  exact gd_depth (pl_gd (tm_pl (hl u hu)))
/-- numbers in the slots -/
def nD (v : Nat) : D := .int (v : Int)
theorem any_n {us : List Nat} {n : Nat} : anyEqv (nD n) (us.map nD) = decide (n ∈ us) := by
  unfold anyEqv
  rw [Bool.eq_iff_iff, List.any_eq_true, decide_eq_true_eq]
  constructor
  · rintro ⟨d, h1, h2⟩
    obtain ⟨y, h3, rfl⟩ := List.mem_map.mp h1
    have : (y : Int) = n := by simpa [nD, PyData.eqv] using h2
    have : y = n := by omega
    rw [← this]
    exact h3
  · intro h
    exact ⟨_, List.mem_map.mpr ⟨n, h, rfl⟩, by simp [nD, PyData.eqv]⟩
theorem ns_alike {l : List Nat} : alikeB (l.map nD) = true := by
  unfold alikeB
  rw [List.all_eq_true]
  intro x hx
  rw [List.all_eq_true]
  intro y hy
  obtain ⟨f, _, rfl⟩ := List.mem_map.mp hx
  obtain ⟨g, _, rfl⟩ := List.mem_map.mp hy
  rfl
theorem ns_sort {l : List Nat} : sortableB (l.map nD) = true := by
  unfold sortableB
  rw [Bool.or_eq_true]
  refine .inr ?_
  rw [List.all_eq_true]
  intro x hx
  obtain ⟨f, _, rfl⟩ := List.mem_map.mp hx
  rfl
theorem ns_depth {l : List Nat} : PyData.depthAll (l.map nD) ≤ 0 := depthAll_le fun x hx => by
  obtain ⟨f, _, rfl⟩ := List.mem_map.mp hx
  show (0 : Nat) ≤ 0
  decide
def srtN (l : List Nat) : List Nat := l.mergeSort (PySem.W.dataLe false nD)
theorem srtD_n {l : List Nat} : srtD (l.map nD) = (srtN l).map nD := by
  unfold srtD srtN
  rw [← List.map_mergeSort (f := nD) (r := PySem.W.dataLe false nD) (s := PySem.W.dataLe false fun d : D => d) (fun a _ b _ => rfl)]
theorem srtN_mem {l : List Nat} {v : Nat} : v ∈ srtN l ↔ v ∈ l := by unfold srtN; rw [List.mem_mergeSort]
theorem srtN_nodup {l : List Nat} (h : l.Nodup) : (srtN l).Nodup := by
  unfold srtN
  exact (List.mergeSort_perm _ _).nodup_iff.mpr h
theorem srtN_len {l : List Nat} : (srtN l).length = l.length := by unfold srtN; rw [List.length_mergeSort]
theorem srtN_eq {l m : List Nat} (h1 : l.Nodup) (h2 : m.Nodup) (h : ∀ v, v ∈ l ↔ v ∈ m) : srtN l = srtN m :=
  asc_unique (le := fun a b => dle (nD a) (nD b) = true) (fun a _ b _ k1 k2 => by
    have := dle_anti (a := nD a) (b := nD b) rfl k1 k2
    have : (a : Int) = b := by simpa [nD, PyData.eqv] using this
    omega) (srtN_nodup h1) (srtN_nodup h2) (sort_pw nD l) (sort_pw nD m) fun v => by rw [srtN_mem, srtN_mem, h]
theorem srtN_idem {l : List Nat} (h : l.Nodup) : srtN (srtN l) = srtN l := srtN_eq (srtN_nodup h) h fun v => srtN_mem
/-- a term over words and numbers -/
def TmI (ws : List Str) (ns : List Nat) : Tm → Prop
  | .v n => n ∈ ns
  | .w x => x ∈ ws
theorem term_ok {st : List D} (hs : St st) {ws : List Str} (hw : ws ≠ []) (hwl : ws.length ≤ 1000) {ns : List Nat} (hn : ns.length ≤ 1000) : WM e__law_term.m [.own st, .val (.list (ws.map .str)), .val (.list (ns.map nD))] fun r o => ∃ t : Tm, r = .val (tmD t) ∧ TmI ws ns t ∧ St o := by
  refine wm_run ?_
  show W b__law_term [some (.own st), some (.val (.list (ws.map .str))), some (.val (.list (ns.map nD)))] _
  unfold b__law_term
  have hw0 := List.length_pos_iff.mpr hw
  decreasing_trivial
  simp only [List.length_map]
  refine ⟨fun _ => ?_, fun hz => ?_⟩
  · (refine wm_imp (draw_ok hs (by omega) (by omega)) ?_; rintro _ _ ⟨v, rfl, hv0, hv1, hs⟩; decreasing_trivial)
    refine ex_atI_map hv0 (by omega) fun x hx => ?_
    decreasing_trivial
    exact ⟨.w x, rfl, hx, hs⟩
  have hz : 0 < ns.length := by
    have : ¬ (ns.length : Int) = 0 := by simpa using hz
    omega
  (refine wm_imp (draw_ok hs (by omega) (by omega)) ?_; rintro _ _ ⟨v, rfl, hv0, hv1, hs⟩; decreasing_trivial)
  refine ⟨fun _ => ?_, fun _ => ?_⟩
  · (refine wm_imp (draw_ok hs (by omega) (by omega)) ?_; rintro _ _ ⟨v, rfl, hv0, hv1, hs⟩; decreasing_trivial)
    refine ex_atI_map hv0 (by omega) fun x hx => ?_
    decreasing_trivial
    exact ⟨.w x, rfl, hx, hs⟩
  · (refine wm_imp (draw_ok hs (by omega) (by omega)) ?_; rintro _ _ ⟨v, rfl, hv0, hv1, hs⟩; decreasing_trivial)
    refine ex_atI_map hv0 (by omega) fun n hn' => ?_
    decreasing_trivial
    exact ⟨.v n, rfl, hn', hs⟩
theorem numbers_ok {st : List D} (hs : St st) {most : Int} (h0 : 1 ≤ most) (h1 : most ≤ 100) : WM e__law_numbers.m [.own st, .val (.int most)] fun r o => ∃ ns : List Nat, r = .own (ns.map nD) ∧ ns.length ≤ 100 ∧ (∀ n ∈ ns, n < 8) ∧ St o := by
  refine wm_run ?_
  show W b__law_numbers [some (.own st), some (.val (.int most)), none, none, none] _
  unfold b__law_numbers
  decreasing_trivial
  (refine wm_imp (draw_ok hs (by omega) (by omega)) ?_; rintro _ _ ⟨many, rfl, many0, many1, hs⟩; decreasing_trivial)
  refine ⟨by omega, by omega, ?_⟩
  refine wf_inv (pre := []) (fun pre ρ => ∃ (st : List D) (ns : List Nat) (s3 s4 : Option Slt), ρ = [some (.own st), some (.val (.int most)), some (.own (ns.map nD)), s3, s4] ∧ St st ∧ ns.length ≤ pre.length ∧ ∀ n ∈ ns, n < 8) ⟨_, [], _, _, rfl, hs, by simp, by simp⟩ ?_ ?_
  · rintro pre x po ρ hx ⟨st, ns, s3, s4, rfl, hs, hl, h8⟩
    have hx : List.range (1 + many).toNat = pre ++ x :: po := hx
    have hlen : pre.length < (1 + many).toNat := by
      have := congrArg List.length hx
      simp at this
      omega
    decreasing_trivial
    (refine wm_imp (draw_ok hs (by omega) (by omega)) ?_; rintro _ _ ⟨v, rfl, hv0, hv1, hs⟩; decreasing_trivial)
    obtain ⟨n, rfl⟩ : ∃ n : Nat, v = (n : Int) := ⟨v.toNat, by omega⟩
    rw [show PyData.int ((n : Nat) : Int) = nD n from rfl, any_n]
    refine ⟨fun hn => ?_, fun hy => ?_⟩
    · refine ⟨small1000 (by rw [List.length_map]; omega), _, ns ++ [n], _, _, by rw [List.map_append]; rfl, hs, by simp; omega, fun m hm => ?_⟩
      rw [List.mem_append, List.mem_singleton] at hm
      rcases hm with hm | rfl
      · exact h8 m hm
      · omega
    · exact ⟨_, ns, _, _, rfl, hs, by simp; omega, h8⟩
  · rintro ρ ⟨st, ns, s3, s4, rfl, hs, hl, h8⟩
    rw [List.nil_append, List.length_range] at hl
    decreasing_trivial
    exact ⟨ns, rfl, by omega, h8, hs⟩
theorem nodup_key {α β : Type} {f : α → β} : ∀ {l : List α}, (l.map f).Nodup → ∀ {x y : α}, x ∈ l → y ∈ l → f x = f y → x = y
  | a :: l, h, x, y, hx, hy, e => by
    rw [List.map_cons, List.nodup_cons] at h
    rcases List.mem_cons.mp hx with q1 | q1
    · rcases List.mem_cons.mp hy with q2 | q2
      · rw [q1, q2]
      · exact absurd (List.mem_map.mpr ⟨y, q2, by rw [← e, q1]⟩) h.1
    · rcases List.mem_cons.mp hy with q2 | q2
      · exact absurd (List.mem_map.mpr ⟨x, q1, by rw [e, q2]⟩) h.1
      · exact nodup_key h.2 q1 q2 e
structure Tb where
  name : Str
  width : Nat
  key : Option Nat
def kD : Option Nat → D
  | none => .none
  | some k => .int k
def tD (t : Tb) : D := .tuple [.str t.name, .int t.width, kD t.key]
structure TbOk (t : Tb) : Prop where
  w1 : 1 ≤ t.width
  w4 : t.width ≤ 4
  nm : t.name.length ≤ 40
theorem schema_ok {st : List D} (hs : St st) {most : Int} (h0 : 1 ≤ most) (h1 : most ≤ 3) : WM e__law_schema.m [.own st, .val (.int most)] fun r o => ∃ ts : List Tb, r = .own (ts.map tD) ∧ ts ≠ [] ∧ ts.length ≤ 4 ∧ (∀ t ∈ ts, TbOk t) ∧ (ts.map Tb.name).Nodup ∧ St o := by
  refine wm_run ?_
  show W b__law_schema [some (.own st), some (.val (.int most)), none, none, none, none, none] _
  unfold b__law_schema
  have t3 : ∀ {st : List D} {many : Int}, St st → 1 ≤ many → many ≤ 4 → W t__law_schema_3 [some (.own st), some (.val (.int most)), some (.val (.int many)), none, none, none, none] (fnK true fun r o => ∃ ts : List Tb, r = .own (ts.map tD) ∧ ts ≠ [] ∧ ts.length ≤ 4 ∧ (∀ t ∈ ts, TbOk t) ∧ (ts.map Tb.name).Nodup ∧ St o) := by
    intro st many hs h1 h4
    unfold t__law_schema_3
    decreasing_trivial
    refine wm_imp (words_ok hs h1 (by omega)) ?_
    rintro _ _ ⟨ws, rfl, hne, hl, hw, hnd, hs⟩
    decreasing_trivial
    refine wf_inv (pre := []) (fun pre ρ => ∃ (st : List D) (ts : List Tb) (s4 s5 s6 : Option Slt), ρ = [some (.own st), some (.val (.int most)), some (.val (.int many)), some (.own (ts.map tD)), s4, s5, s6] ∧ St st ∧ ts.map Tb.name = pre ∧ ∀ t ∈ ts, TbOk t) ⟨_, [], _, _, _, rfl, hs, rfl, by simp⟩ ?_ ?_
    · rintro pre x po ρ hx ⟨st, ts, s4, s5, s6, rfl, hs, hl2, hok⟩
      have hx : ws = pre ++ x :: po := hx
      have hlt : pre.length < ws.length := by rw [hx]; simp
      have hl3 : ts.length = pre.length := by rw [← hl2, List.length_map]
      have hxl := hw x (by rw [hx]; simp)
      have t2 : ∀ {st : List D} {w : Nat}, St st → 1 ≤ w → w ≤ 4 → W t__law_schema_2 [some (.own st), some (.val (.int most)), some (.val (.int many)), some (.own (ts.map tD)), some (.val (.str x)), some (.val (.int w)), s6]
          (lpK (fun ρ => ∃ (st : List D) (ts : List Tb) (s4 s5 s6 : Option Slt), ρ = [some (.own st), some (.val (.int most)), some (.val (.int many)), some (.own (ts.map tD)), s4, s5, s6] ∧ St st ∧ ts.map Tb.name = pre ++ [x] ∧ ∀ t ∈ ts, TbOk t)
            (kS (sSeq (sRet (.slot 3)) sNop) (fnK true fun r o => ∃ ts : List Tb, r = .own (ts.map tD) ∧ ts ≠ [] ∧ ts.length ≤ 4 ∧ (∀ t ∈ ts, TbOk t) ∧ (ts.map Tb.name).Nodup ∧ St o))) := by
        intro st w hs h1 h4
        unfold t__law_schema_2
        have t1 : ∀ {st : List D} (ky : Option Nat), St st → W t__law_schema_1 [some (.own st), some (.val (.int most)), some (.val (.int many)), some (.own (ts.map tD)), some (.val (.str x)), some (.val (.int w)), some (.val (kD ky))]
          (lpK (fun ρ => ∃ (st : List D) (ts : List Tb) (s4 s5 s6 : Option Slt), ρ = [some (.own st), some (.val (.int most)), some (.val (.int many)), some (.own (ts.map tD)), s4, s5, s6] ∧ St st ∧ ts.map Tb.name = pre ++ [x] ∧ ∀ t ∈ ts, TbOk t)
            (kS (sSeq (sRet (.slot 3)) sNop) (fnK true fun r o => ∃ ts : List Tb, r = .own (ts.map tD) ∧ ts ≠ [] ∧ ts.length ≤ 4 ∧ (∀ t ∈ ts, TbOk t) ∧ (ts.map Tb.name).Nodup ∧ St o))) := by
          intro st ky hs
          unfold t__law_schema_1
          decreasing_trivial
          refine ⟨small1000 (by rw [List.length_map]; omega), st, ts ++ [⟨x, w, ky⟩], _, _, _, by rw [List.map_append]; rfl, hs, by simp [hl2], fun t ht => ?_⟩
          rw [List.mem_append, List.mem_singleton] at ht
          rcases ht with ht | rfl
          · exact hok t ht
          · exact ⟨h1, h4, hxl⟩
        decreasing_trivial
        (refine wm_imp (draw_ok hs (by omega) (by omega)) ?_; rintro _ _ ⟨v, rfl, hv0, hv1, hs⟩; decreasing_trivial)
        refine ⟨fun _ => ?_, fun _ => t1 none hs⟩
        (refine wm_imp (draw_ok hs (by omega) (by omega)) ?_; rintro _ _ ⟨v, rfl, hv0, hv1, hs⟩; decreasing_trivial)
        obtain ⟨k, hk⟩ : ∃ k : Nat, 1 + v = (k : Int) := ⟨(1 + v).toNat, by omega⟩
        rw [hk]
        exact t1 (some k) hs
      decreasing_trivial
      (refine wm_imp (draw_ok hs (by omega) (by omega)) ?_; rintro _ _ ⟨w0, rfl, w00, w01, hs⟩; decreasing_trivial)
      (refine wm_imp (draw_ok hs (by omega) (by omega)) ?_; rintro _ _ ⟨v, rfl, hv0, hv1, hs⟩; decreasing_trivial)
      obtain ⟨w, hw'⟩ : ∃ k : Nat, 1 + w0 = (k : Int) := ⟨(1 + w0).toNat, by omega⟩
      rw [hw']
      exact ⟨fun _ => t2 (w := 4) hs (by omega) (by omega), fun _ => t2 hs (by omega) (by omega)⟩
    · rintro ρ ⟨st, ts, s4, s5, s6, rfl, hs, hl2, hok⟩
      rw [List.nil_append] at hl2
      have hl3 : ts.length = ws.length := by rw [← hl2, List.length_map]
      decreasing_trivial
      refine ⟨ts, rfl, fun z => ?_, by omega, hok, by rw [hl2]; exact hnd, hs⟩
      rw [z] at hl3
      exact hne (List.eq_nil_of_length_eq_zero hl3.symm)
  decreasing_trivial
  (refine wm_imp (draw_ok hs (by omega) (by omega)) ?_; rintro _ _ ⟨m0, rfl, m00, m01, hs⟩; decreasing_trivial)
  (refine wm_imp (draw_ok hs (by omega) (by omega)) ?_; rintro _ _ ⟨v, rfl, hv0, hv1, hs⟩; decreasing_trivial)
  exact ⟨fun _ => t3 hs (by omega) (by omega), fun _ => t3 hs (by omega) (by omega)⟩
/-! unify: the words of the variables, one after another -/
abbrev Lk := Nat → Option Str
def updL (L : Lk) (n : Nat) (w : Str) : Lk := fun m => if m = n then some w else L m
def goU : List (Tm × Str) → Lk → Option Lk
  | [], L => some L
  | (.w x, y) :: r, L => if x = y then goU r L else none
  | (.v n, y) :: r, L => match L n with
    | none => goU r (updL L n y)
    | some z => if z = y then goU r L else none
def prs (L : Lk) : List (Nat × Str) := (List.range 8).filterMap fun n => (L n).map fun w => (n, w)
def lkP (ps : List (Nat × Str)) : Lk := fun n => ps.lookup n
theorem nodup_lt : ∀ {n : Nat} {l : List Nat}, l.Nodup → (∀ v ∈ l, v < n) → l.length ≤ n
  | 0, l, _, h => by
    cases l with
    | nil => exact Nat.le_refl _
    | cons x l => have := h x (by simp); omega
  | n + 1, l, nd, h => by
    have := nodup_lt (n := n) (l := l.erase n) (nd.erase n) fun v hv => by
      rw [nd.mem_erase_iff] at hv
      have := h v hv.2
      omega
    rw [List.length_erase] at this
    split at this <;> omega
def keyN : Key → Nat
  | .inl i => i.toNat
  | .inr _ => 0
structure DL (kvs : List (Key × D)) (L : Lk) : Prop where
  val : ∀ n : Nat, valD kvs (.inl (n : Int)) = (L n).map PyData.str
  key : ∀ kv ∈ kvs, ∃ n : Nat, kv.1 = .inl (n : Int) ∧ n < 8
  nd : (kvs.map Prod.fst).Nodup
theorem inl_nat {n m : Nat} (h : (Sum.inl (n : Int) : Key) = .inl (m : Int)) : n = m := by injection h with h; omega
theorem nodup_put {kvs : List (Key × D)} {k : Key} {v : D} (h : (kvs.map Prod.fst).Nodup) : ((putD kvs k v).map Prod.fst).Nodup := by
  unfold putD
  split
  · rw [List.map_map, show (Prod.fst ∘ fun kv : Key × D => if kv.1 = k then (kv.1, v) else kv) = Prod.fst from funext fun kv => by
      simp only [Function.comp]
      split <;> rfl]
    exact h
  · rename_i q
    rw [List.map_append, List.nodup_append]
    refine ⟨h, by simp, fun a ha b hb e => q ?_⟩
    obtain ⟨kv, h1, rfl⟩ := List.mem_map.mp ha
    rw [List.any_eq_true]
    have : b = k := by simpa using hb
    exact ⟨kv, h1, by rw [e, this]; simp⟩
theorem mem_put {kvs : List (Key × D)} {k : Key} {v : D} {kv : Key × D} (h : kv ∈ putD kvs k v) : kv.1 = k ∨ kv ∈ kvs := by
  unfold putD at h
  split at h
  · obtain ⟨p, h1, rfl⟩ := List.mem_map.mp h
    split
    · rename_i e; exact .inl e
    · exact .inr h1
  · rw [List.mem_append, List.mem_singleton] at h
    rcases h with h | rfl
    · exact .inr h
    · exact .inl rfl
theorem DL.nil : DL [] (fun _ => none) := ⟨fun _ => rfl, by simp, by simp⟩
theorem DL.put {kvs : List (Key × D)} {L : Lk} (h : DL kvs L) {n : Nat} (hn : n < 8) (x : Str) : DL (putD kvs (.inl (n : Int)) (.str x)) (updL L n x) := by
  refine ⟨fun m => ?_, fun kv hk => ?_, nodup_put h.nd⟩
  · rw [val_put]
    unfold updL
    by_cases e : m = n
    · subst e; rw [if_pos rfl, if_pos rfl]; rfl
    · rw [if_neg (fun z => e (inl_nat z)), if_neg e, h.val]
  · rcases mem_put hk with e | h1
    · exact ⟨n, e, hn⟩
    · exact h.key kv h1
theorem DL.len {kvs : List (Key × D)} {L : Lk} (h : DL kvs L) : kvs.length ≤ 8 := by
  have nk : ∀ kv ∈ kvs, ∃ n : Nat, kv.1 = .inl (n : Int) ∧ n < 8 := h.key
  have e : ∀ kv ∈ kvs, kv.1 = .inl ((keyN kv.1 : Nat) : Int) ∧ keyN kv.1 < 8 := fun kv hk => by
    obtain ⟨n, e, h8⟩ := nk kv hk
    rw [e]
    exact ⟨by simp [keyN], by simpa [keyN] using h8⟩
  have := nodup_lt (n := 8) (l := kvs.map fun kv => keyN kv.1) (List.pairwise_map.mpr (List.Pairwise.imp_of_mem (fun {a b} ha hb (hn : a.1 ≠ b.1) z => hn (by rw [(e a ha).1, (e b hb).1, z])) (List.pairwise_map.mp h.nd))) fun v hv => by
    obtain ⟨kv, hk, rfl⟩ := List.mem_map.mp hv
    exact (e kv hk).2
  rwa [List.length_map] at this
theorem DL.ext {kvs : List (Key × D)} {L M : Lk} (h : DL kvs L) (e : ∀ n, L n = M n) : DL kvs M := by rw [← (funext e : L = M)]; exact h
/-- ascending pairs, set one after another -/
theorem lk_cons {p : Nat × Str} {ps : List (Nat × Str)} {n : Nat} : lkP (p :: ps) n = if n = p.1 then some p.2 else lkP ps n := by
  unfold lkP
  rw [show p = (p.1, p.2) from rfl, List.lookup_cons]
  by_cases e : n = p.1
  · subst e; simp
  · rw [if_neg e]
    have : (n == p.1) = false := by simpa using e
    rw [this]
theorem lk_none {ps : List (Nat × Str)} {n : Nat} (h : ∀ p ∈ ps, p.1 ≠ n) : lkP ps n = none := by
  induction ps with
  | nil => rfl
  | cons p ps ih =>
    rw [lk_cons, if_neg (fun e => h p (by simp) e.symm), ih fun q hq => h q (by simp [hq])]
theorem lk_mem {ps : List (Nat × Str)} {n : Nat} {w : Str} (h : lkP ps n = some w) : (n, w) ∈ ps := by
  induction ps with
  | nil => cases h
  | cons p ps ih =>
    rw [lk_cons] at h
    split at h
    · rename_i e
      cases h
      rw [e]
      simp
    · exact List.mem_cons_of_mem _ (ih h)
theorem lk_of {ps : List (Nat × Str)} (hn : (ps.map Prod.fst).Nodup) {n : Nat} {w : Str} (h : (n, w) ∈ ps) : lkP ps n = some w := by
  induction ps with
  | nil => cases h
  | cons p ps ih =>
    rw [List.map_cons, List.nodup_cons] at hn
    rw [lk_cons]
    rcases List.mem_cons.mp h with e | h
    · rw [← e, if_pos rfl]
    · rw [if_neg (fun e => hn.1 (List.mem_map.mpr ⟨(n, w), h, e⟩)), ih hn.2 h]
/-- pairs of a variable and its word, ascending -/
def pD (p : Nat × Str) : D := .tuple [nD p.1, .str p.2]
structure PsOk (n : Nat) (ps : List (Nat × Str)) : Prop where
  asc : (ps.map Prod.fst).Pairwise (· < ·)
  lt : ∀ p ∈ ps, p.1 < n
  w : ∀ p ∈ ps, p.2.length ≤ 40
theorem PsOk.nd {n : Nat} {ps : List (Nat × Str)} (h : PsOk n ps) : (ps.map Prod.fst).Nodup := List.Pairwise.imp (fun h => Nat.ne_of_lt h) h.asc
theorem dl_pairs {ps : List (Nat × Str)} : ∀ {kvs : List (Key × D)} {L : Lk}, DL kvs L → (ps.map Prod.fst).Nodup → (∀ p ∈ ps, p.1 < 8) →
    DL (ps.foldl (fun acc p => putD acc (.inl (p.1 : Int)) (.str p.2)) kvs) (fun n => (lkP ps n).or (L n)) := by
  induction ps with
  | nil => intro kvs L h _ _; exact h.ext fun n => by rfl
  | cons p ps ih =>
    intro kvs L h hn hl
    rw [List.map_cons, List.nodup_cons] at hn
    rw [List.foldl_cons]
    refine (ih (h.put (hl p (by simp)) p.2) hn.2 fun q hq => hl q (by simp [hq])).ext fun n => ?_
    rw [lk_cons]
    unfold updL
    by_cases e : n = p.1
    · subst e
      rw [if_pos rfl, if_pos rfl, lk_none fun q hq e => hn.1 (List.mem_map.mpr ⟨q, hq, e⟩)]
      rfl
    · rw [if_neg e, if_neg e]
theorem mkK_foldl {ps : List (Nat × Str)} : ∀ {acc : List (Key × D)}, mkK acc (ps.map fun p => ((Sum.inl (p.1 : Int) : Key), PyData.str p.2)) = ps.foldl (fun acc p => putD acc (.inl (p.1 : Int)) (.str p.2)) acc := by
  induction ps with
  | nil => intro acc; rfl
  | cons p ps ih =>
    intro acc
    rw [List.map_cons, List.foldl_cons, ← ih]
    rfl
theorem dl_of {ps : List (Nat × Str)} {m : Nat} (h : PsOk m ps) (hm : m ≤ 8) : DL (mkK [] (ps.map fun p => ((Sum.inl (p.1 : Int) : Key), PyData.str p.2))) (lkP ps) := by
  rw [mkK_foldl]
  exact (dl_pairs .nil h.nd fun p hp => Nat.lt_of_lt_of_le (h.lt p hp) hm).ext fun n => by cases lkP ps n <;> rfl
theorem mem_prs {L : Lk} {p : Nat × Str} : p ∈ prs L ↔ p.1 < 8 ∧ L p.1 = some p.2 := by
  unfold prs
  rw [List.mem_filterMap]
  constructor
  · rintro ⟨n, h1, h2⟩
    cases e : L n with
    | none => rw [e] at h2; cases h2
    | some w =>
      rw [e] at h2
      cases h2
      exact ⟨List.mem_range.mp h1, e⟩
  · rintro ⟨h1, h2⟩
    exact ⟨p.1, List.mem_range.mpr h1, by rw [h2]; rfl⟩
theorem prs_asc {L : Lk} : ((prs L).map Prod.fst).Pairwise (· < ·) := by
  unfold prs
  rw [List.pairwise_map, List.pairwise_filterMap]
  refine List.Pairwise.imp (fun {a b} h p hp q hq => ?_) (List.pairwise_lt_range (n := 8))
  cases e1 : L a with
  | none => rw [e1] at hp; cases hp
  | some x =>
    cases e2 : L b with
    | none => rw [e2] at hq; cases hq
    | some y =>
      rw [e1] at hp
      rw [e2] at hq
      cases hp
      cases hq
      exact h
theorem prs_ok {L : Lk} (h : ∀ n w, L n = some w → w.length ≤ 40) : PsOk 8 (prs L) := ⟨prs_asc, fun p hp => (mem_prs.mp hp).1, fun p hp => h _ _ (mem_prs.mp hp).2⟩
theorem lk_prs {L : Lk} (h : ∀ n w, L n = some w → n < 8) : lkP (prs L) = L := by
  funext n
  cases e : L n with
  | none =>
    refine lk_none fun p hp z => ?_
    have := (mem_prs.mp hp).2
    rw [z, e] at this
    cases this
  | some w => exact lk_of (List.Pairwise.imp (fun h => Nat.ne_of_lt h) prs_asc) (mem_prs.mpr ⟨h n w e, e⟩)
theorem pD_pl {p : Nat × Str} (h : p.2.length ≤ 40) : pl 1 (pD p) := ⟨by simp, fun x hx => by
  simp only [List.mem_cons, List.not_mem_nil, or_false] at hx
  rcases hx with rfl | rfl
  · trivial
  · rw [pl_str]; omega⟩
theorem pD_inj {p q : Nat × Str} (h : pD p = pD q) : p = q := by
  simp only [pD, nD, PyData.tuple.injEq, List.cons.injEq, PyData.int.injEq, PyData.str.injEq, and_true] at h
  exact Prod.ext (Int.ofNat_inj.mp h.1) h.2
theorem pds_alike {l : List D} (h : ∀ x ∈ l, ∃ p, x = pD p) : alikeB l = true := by
  unfold alikeB
  rw [List.all_eq_true]
  intro x hx
  rw [List.all_eq_true]
  intro y hy
  obtain ⟨f, rfl⟩ := h x hx
  obtain ⟨g, rfl⟩ := h y hy
  rfl
theorem pds_sort {l : List D} (h : ∀ x ∈ l, ∃ p, x = pD p) : sortableB l = true := by
  unfold sortableB
  rw [Bool.or_eq_true]
  refine .inl ?_
  rw [List.all_eq_true]
  intro x hx
  obtain ⟨f, rfl⟩ := h x hx
  rfl
theorem pds_depth {l : List D} (h : ∀ x ∈ l, ∃ p, x = pD p) : PyData.depthAll l ≤ 1 := depthAll_le fun d hd => by
  obtain ⟨u, rfl⟩ := h d hd
  show PyData.depth (.tuple [.int u.1, .str u.2]) ≤ 1
  simp [PyData.depth, PyData.depthAll]
theorem dle_p {p q : Nat × Str} (h : p.1 < q.1) : dle (pD p) (pD q) = true := by
  show (!PySem.W.dataLt (.tuple [.int q.1, .str q.2]) (.tuple [.int p.1, .str p.2])) = true
  rw [PySem.W.dataLt_pair rfl rfl, PySem.W.dataLt_int]
  have e1 : PyData.eqv (.int (q.1 : Int)) (.int (p.1 : Int)) = false := by
    simp only [eqv_ii, beq_eq_false_iff_ne]
    omega
  rw [e1, if_neg Bool.false_ne_true]
  have e2 : ¬ (q.1 : Int) < (p.1 : Int) := by omega
  simp [e2]
theorem val_mem {kvs : List (Key × D)} (hn : (kvs.map Prod.fst).Nodup) {kv : Key × D} (h : kv ∈ kvs) : valD kvs kv.1 = some kv.2 := by
  induction kvs with
  | nil => cases h
  | cons p kvs ih =>
    rw [List.map_cons, List.nodup_cons] at hn
    unfold valD
    rcases List.mem_cons.mp h with rfl | h
    · rw [if_pos rfl]
    · rw [if_neg fun e => hn.1 (List.mem_map.mpr ⟨_, h, e.symm⟩), ih hn.2 h]
theorem mem_val {kvs : List (Key × D)} {k : Key} {v : D} (h : valD kvs k = some v) : (k, v) ∈ kvs := by
  induction kvs with
  | nil => cases h
  | cons p kvs ih =>
    unfold valD at h
    split at h
    · rename_i e
      cases h
      rw [← e]
      simp
    · exact List.mem_cons_of_mem _ (ih h)
theorem mem_items {kvs : List (Key × D)} {L : Lk} (h : DL kvs L) {x : D} : x ∈ kvs.map itD ↔ x ∈ (prs L).map pD := by
  rw [List.mem_map, List.mem_map]
  constructor
  · rintro ⟨kv, h1, rfl⟩
    obtain ⟨n, e, h2⟩ := h.key kv h1
    have v := val_mem h.nd h1
    rw [e, h.val] at v
    cases q : L n with
    | none => rw [q] at v; cases v
    | some w =>
      rw [q] at v
      have v : PyData.str w = kv.2 := Option.some.inj v
      exact ⟨(n, w), mem_prs.mpr ⟨h2, q⟩, by unfold itD; rw [e, ← v]; rfl⟩
  · rintro ⟨p, h1, rfl⟩
    obtain ⟨h2, h3⟩ := mem_prs.mp h1
    have v := h.val p.1
    rw [h3] at v
    exact ⟨_, mem_val v, rfl⟩
theorem items_sorted {kvs : List (Key × D)} {L : Lk} (h : DL kvs L) (hw : ∀ n w, L n = some w → w.length ≤ 40) : srtD (kvs.map itD) = (prs L).map pD := by
  have ok := prs_ok hw
  have pm : ∀ x, x ∈ srtD (kvs.map itD) ↔ x ∈ (prs L).map pD := fun x => by rw [mem_srt, mem_items h]
  have nd2 : ((prs L).map pD).Nodup := by
    refine List.Pairwise.map _ (fun a b (h : a.1 ≠ b.1) e => h (by rw [pD_inj e])) ?_
    exact List.pairwise_map.mp ok.nd
  have nd1 : (kvs.map itD).Nodup := by
    refine List.Pairwise.map _ (fun a b (h : a.1 ≠ b.1) e => h ?_) (List.pairwise_map.mp h.nd)
    unfold itD at e
    injection e with e
    injection e with e _
    cases q1 : a.1 <;> cases q2 : b.1 <;> rw [q1, q2] at e <;> simp only [kyD] at e <;> cases e <;> rfl
  refine asc_unique (le := fun a b => dle a b = true) (fun a ha b hb h1 h2 => ?_) ((List.mergeSort_perm _ _).nodup_iff.mpr nd1) nd2 (sort_pw (fun d : D => d) _) ?_ pm
  · obtain ⟨p, hp, rfl⟩ := List.mem_map.mp ((pm a).mp ha)
    obtain ⟨q, hq, rfl⟩ := List.mem_map.mp ((pm b).mp hb)
    exact (pl_eqv (pD_pl (ok.w p hp)) (pD_pl (ok.w q hq))).mp (dle_anti rfl h1 h2)
  · refine List.pairwise_map.mpr (List.Pairwise.imp (fun h => dle_p h) (List.pairwise_map.mp ok.asc))
theorem zip_tm {ts : List Tm} {ys : List Str} : zipD (ts.map tmD) (ys.map PyData.str) = (ts.zip ys).map fun p => PyData.tuple [tmD p.1, .str p.2] := by
  unfold zipD
  rw [List.zipWith_map, List.zip, List.map_zipWith]
/-- what unify makes of an assignment, told by its words -/
def unL (a : At) (f : Str × List Str) (L : Lk) : Option Lk := if a.1 = f.1 then goU (a.2.zip f.2) L else none
def unD : Option Lk → D
  | none => .none
  | some L => .tuple ((prs L).map pD)
def fcD (f : Str × List Str) : D := .tuple [.str f.1, .tuple (f.2.map .str)]
theorem goU_ok {r : List (Tm × Str)} : ∀ {L M : Lk}, goU r L = some M → (∀ p ∈ r, p.2.length ≤ 40 ∧ TmOk p.1) → (∀ n w, L n = some w → n < 8 ∧ w.length ≤ 40) → ∀ n w, M n = some w → n < 8 ∧ w.length ≤ 40 := by
  induction r with
  | nil => intro L M h _ hL; cases h; exact hL
  | cons p r ih =>
    obtain ⟨t, y⟩ := p
    intro L M h hp hL
    have hy := hp (t, y) (by simp)
    have hr : ∀ p ∈ r, p.2.length ≤ 40 ∧ TmOk p.1 := fun q hq => hp q (by simp [hq])
    cases t with
    | w x =>
      unfold goU at h
      split at h
      · exact ih h hr hL
      · cases h
    | v n =>
      unfold goU at h
      split at h
      · refine ih h hr fun m w hm => ?_
        unfold updL at hm
        split at hm
        · rename_i e
          cases hm
          rw [e]
          exact ⟨hy.2, hy.1⟩
        · exact hL m w hm
      · split at h
        · exact ih h hr hL
        · cases h
theorem pds_pairs {ps : List (Nat × Str)} : pairsD (ps.map pD) = some (ps.map fun p => ((Sum.inl (p.1 : Int) : Key), PyData.str p.2)) := pairsD_map fun _ _ => rfl
theorem str_beq {x y : Str} : (x == y) = decide (x = y) := by
  rw [Bool.eq_iff_iff, beq_iff_eq, decide_eq_true_eq]
theorem unify_ok {a : At} {f : Str × List Str} {ps : List (Nat × Str)} (ha : ∀ t ∈ a.2, TmOk t) (hf : ∀ w ∈ f.2, w.length ≤ 40) (hps : PsOk 8 ps) : e_unify.m [.val (aD a), .val (fcD f), .val (.tuple (ps.map pD))] = some (.val (unD (unL a f (lkP ps))), []) := by
  refine wm_of (wm_run ?_)
  show W b_unify [some (.val (aD a)), some (.val (fcD f)), some (.val (.tuple (ps.map pD))), none, none, none] _
  unfold b_unify
  have eA : aD a = PyData.tuple [.str a.1, .tuple (a.2.map tmD)] := rfl
  have eF : fcD f = PyData.tuple [.str f.1, .tuple (f.2.map .str)] := rfl
  rw [eA, eF]
  decreasing_trivial
  refine ⟨fun h => ?_, fun h => ?_⟩
  · have : a.1 ≠ f.1 := by simpa using h
    unfold unL
    rw [if_neg this]
    simp [unD]
  have e1 : a.1 = f.1 := by simpa using h
  have eU : unL a f (lkP ps) = goU (a.2.zip f.2) (lkP ps) := if_pos e1
  rw [eU, pds_pairs, ex_some]
  decreasing_trivial
  rw [zip_tm]
  generalize PyData.tuple [.str a.1, .tuple (a.2.map tmD)] = AD
  generalize PyData.tuple [.str f.1, .tuple (f.2.map .str)] = FD
  generalize hPD : PyData.tuple (ps.map pD) = PD
  have hL0 : ∀ n w, lkP ps n = some w → n < 8 ∧ w.length ≤ 40 := fun n w h => ⟨hps.lt _ (lk_mem h), hps.w _ (lk_mem h)⟩
  have hz : ∀ p ∈ a.2.zip f.2, p.2.length ≤ 40 ∧ TmOk p.1 := fun p hp => ⟨hf _ (List.of_mem_zip hp).2, ha _ (List.of_mem_zip hp).1⟩
  generalize a.2.zip f.2 = z at hz ⊢
  refine wf_inv (pre := []) (fun pre ρ => ∃ (kvs : List (Key × D)) (L : Lk) (s4 s5 : Option Slt), ρ = [some (.val AD), some (.val FD), some (.val PD), some (.dct kvs), s4, s5] ∧ DL kvs L ∧ ∀ rest, z = pre ++ rest → goU z (lkP ps) = goU rest L) ⟨_, lkP ps, _, _, rfl, dl_of hps (Nat.le_refl _), fun rest h => by rw [h]; rfl⟩ ?_ ?_
  · rintro pre ⟨t, y⟩ po ρ hx ⟨kvs, L, s4, s5, rfl, hk, hg⟩
    have hx : z = pre ++ (t, y) :: po := hx
    have hg := hg _ hx
    have hty := hz (t, y) (by rw [hx]; simp)
    have hkl := hk.len
    have next : ∀ {kvs' : List (Key × D)} {L' : Lk} {s4 s5 : Option Slt}, DL kvs' L' → goU z (lkP ps) = goU po L' → ∃ (kvs2 : List (Key × D)) (L2 : Lk) (s4' s5' : Option Slt), [some (Slt.val AD), some (.val FD), some (.val PD), some (.dct kvs'), s4, s5] = [some (.val AD), some (.val FD), some (.val PD), some (.dct kvs2), s4', s5'] ∧ DL kvs2 L2 ∧ ∀ rest, z = pre ++ [(t, y)] ++ rest → goU z (lkP ps) = goU rest L2 := fun {kvs' L' s4 s5} h1 h2 => ⟨_, L', _, _, rfl, h1, fun rest hr => by
      rw [hx, List.append_assoc] at hr
      have : (t, y) :: po = (t, y) :: rest := List.append_cancel_left hr
      injection this with _ this
      rw [h2, this]⟩
    cases t with
    | w x =>
      rw [show tmD (.w x) = PyData.tuple [.str "word", .str x] from rfl]
      decreasing_trivial
      have e : goU ((.w x, y) :: po) L = if x = y then goU po L else none := rfl
      rw [e] at hg
      refine ⟨fun h => ?_, fun h => ?_⟩
      · have : x ≠ y := by simpa using h
        rw [hg, if_neg this]
        simp [unD]
      · have : x = y := by simpa using h
        rw [if_pos this] at hg
        exact next hk hg
    | v n =>
      rw [show tmD (.v n) = PyData.tuple [.str "var", .int n] from rfl]
      decreasing_trivial
      rw [vw]
      decreasing_trivial
      have e : goU ((.v n, y) :: po) L = match L n with
        | none => goU po (updL L n y)
        | some q => if q = y then goU po L else none := rfl
      rw [e] at hg
      refine ⟨small1000 (by omega), fun w hw => ?_, fun hn => ?_⟩
      · rw [hk.val] at hw
        cases q : L n with
        | none => rw [q] at hw; cases hw
        | some u =>
          rw [q] at hw hg
          have hw : PyData.str u = w := Option.some.inj hw
          subst hw
          have hg : goU z (lkP ps) = if u = y then goU po L else none := hg
          decreasing_trivial
          refine ⟨fun h => ?_, fun h => ?_⟩
          · have : u ≠ y := by simpa using h
            rw [hg, if_neg this]
            simp [unD]
          · have : u = y := by simpa using h
            rw [if_pos this] at hg
            exact next hk hg
      · rw [hk.val] at hn
        have q : L n = none := by
          cases q : L n with
          | none => rfl
          | some u => rw [q] at hn; cases hn
        rw [q] at hg
        have hg : goU z (lkP ps) = goU po (updL L n y) := hg
        decreasing_trivial
        exact next (hk.put hty.2 y) hg
  · rintro ρ ⟨kvs, L, s4, s5, rfl, hk, hg⟩
    have hg := hg [] (by simp)
    have hg : goU z (lkP ps) = some L := hg
    have hLw := goU_ok hg hz hL0
    have hit : ∀ x ∈ kvs.map itD, ∃ p, x = pD p := fun x hx => by
      obtain ⟨p, _, e⟩ := List.mem_map.mp ((mem_items hk).mp hx)
      exact ⟨p, e.symm⟩
    decreasing_trivial
    rw [wo_items (fun kv h => by
      obtain ⟨n, e, _⟩ := hk.key kv h
      rw [e]
      rfl) (pds_alike hit) (pds_sort hit) (Nat.le_trans (pds_depth hit) (by decide)), items_sorted hk fun n w h => (hLw n w h).2]
    decreasing_trivial
    rw [hg]
    simp [unD]
abbrev Fc := Str × List Str
theorem fact_ok {st : List D} (hs : St st) {ts : List Tb} (ht : ts ≠ []) (ht4 : ts.length ≤ 4) (hok : ∀ t ∈ ts, TbOk t) {ws : List Str} (hw : ws ≠ []) (hwl : ws.length ≤ 100) :
    WM e__law_fact.m [.own st, .val (.list (ts.map tD)), .val (.list (ws.map .str))] fun r o => ∃ f : Fc, r = .val (fcD f) ∧ (∃ t ∈ ts, f.1 = t.name ∧ f.2.length = t.width) ∧ (∀ w ∈ f.2, w ∈ ws) ∧ St o := by
  refine wm_run ?_
  show W b__law_fact [some (.own st), some (.val (.list (ts.map tD))), some (.val (.list (ws.map .str))), none, none, none] _
  unfold b__law_fact
  have hts := List.length_pos_iff.mpr ht
  have hws := List.length_pos_iff.mpr hw
  decreasing_trivial
  rw [List.length_map]
  (refine wm_imp (draw_ok hs (by omega) (by omega)) ?_; rintro _ _ ⟨v, rfl, hv0, hv1, hs⟩; decreasing_trivial)
  refine ex_atI_map hv0 (by omega) fun t htm => ?_
  have tk := hok t htm
  have w1 := tk.w1
  have w4 := tk.w4
  rw [show tD t = PyData.tuple [.str t.name, .int t.width, kD t.key] from rfl]
  decreasing_trivial
  refine ⟨by omega, by omega, ?_⟩
  rw [Int.toNat_natCast]
  refine wlc_sta (fun ρ => ∃ st : List D, St st ∧ ρ = [some (.own st), some (.val (.list (ts.map tD))), some (.val (.list (ws.map .str))), some (.val (.tuple [.str t.name, .int t.width, kD t.key])), none, none]) (fun y => ∃ w : Str, y = .str w ∧ w ∈ ws) (le_size (by rw [List.length_range]; omega)) ⟨_, hs, rfl⟩ ?_ ?_
  · rintro k ρ hk ⟨st, hs, rfl⟩
    decreasing_trivial
    rw [List.length_map]
    (refine wm_imp (draw_ok hs (by omega) (by omega)) ?_; rintro _ _ ⟨v, rfl, hv0, hv1, hs⟩; decreasing_trivial)
    refine ex_atI_map hv0 (by omega) fun w hwm => ?_
    decreasing_trivial
    exact ⟨⟨w, rfl, hwm⟩, _, hs, rfl⟩
  · rintro ρ acc ⟨st, hs, rfl⟩ hP hl2
    obtain ⟨us, rfl, hus⟩ := ex_mapP hP
    rw [List.length_range, List.length_map] at hl2
    decreasing_trivial
    exact ⟨(t.name, us), rfl, ⟨t, htm, rfl, hl2⟩, hus, hs⟩
/-- numbers in a slot that may have been given up -/
def N5 (ns : List Nat) (s : Option Slt) : Prop := s = some (.own (ns.map nD)) ∨ s = some (.val (.list (ns.map nD)))
theorem TmI.ok {ws : List Str} {ns : List Nat} (h1 : ∀ w ∈ ws, w.length ≤ 40) (h2 : ∀ n ∈ ns, n < 8) {t : Tm} (h : TmI ws ns t) : TmOk t := by
  cases t with
  | v n => exact h2 n h
  | w x => exact h1 x h
theorem atom_ok {st : List D} (hs : St st) {ts : List Tb} (ht : ts ≠ []) (ht4 : ts.length ≤ 4) (hok : ∀ t ∈ ts, TbOk t) {ws : List Str} (hw : ws ≠ []) (hwl : ws.length ≤ 100) (hw40 : ∀ w ∈ ws, w.length ≤ 40) {f : Fc} (hf : ∃ t ∈ ts, f.1 = t.name ∧ f.2.length = t.width) (hfw : ∀ w ∈ f.2, w ∈ ws) :
    WM e__law_atom.m [.own st, .val (.list (ts.map tD)), .val (.list (ws.map .str)), .val (fcD f)] fun r o => ∃ a : At, r = .val (aD a) ∧ (∃ t ∈ ts, a.1 = t.name ∧ a.2.length = t.width) ∧ (∀ u ∈ a.2, TmOk u) ∧ St o := by
  refine wm_run ?_
  show W b__law_atom [some (.own st), some (.val (.list (ts.map tD))), some (.val (.list (ws.map .str))), some (.val (fcD f)), none, none, none, none, none, none] _
  unfold b__law_atom
  have hts := List.length_pos_iff.mpr ht
  decreasing_trivial
  refine wm_imp (numbers_ok hs (by decide) (by decide)) ?_
  rintro _ _ ⟨ns, rfl, hnl, hn8, hs⟩
  decreasing_trivial
  (refine wm_imp (draw_ok hs (by omega) (by omega)) ?_; rintro _ _ ⟨v, rfl, hv0, hv1, hs⟩; decreasing_trivial)
  refine ⟨fun _ => ?_, fun _ => ?_⟩
  · rw [List.length_map]
    (refine wm_imp (draw_ok hs (by omega) (by omega)) ?_; rintro _ _ ⟨v, rfl, hv0, hv1, hs⟩; decreasing_trivial)
    refine ex_atI_map hv0 (by omega) fun t htm => ?_
    have tk := hok t htm
    have w1 := tk.w1
    have w4 := tk.w4
    rw [show tD t = PyData.tuple [.str t.name, .int t.width, kD t.key] from rfl]
    decreasing_trivial
    refine ⟨by omega, by omega, ?_⟩
    rw [Int.toNat_natCast]
    generalize PyData.tuple [.str t.name, .int t.width, kD t.key] = TD
    refine wlc_sta (fun ρ => ∃ (st : List D) (s4 : Option Slt), N5 ns s4 ∧ St st ∧ ρ = [some (.own st), some (.val (.list (ts.map tD))), some (.val (.list (ws.map .str))), some (.val (fcD f)), s4, some (.val TD), none, none, none, none]) (fun y => ∃ u : Tm, y = tmD u ∧ TmOk u) (le_size (by rw [List.length_range]; omega)) ⟨_, _, .inl rfl, hs, rfl⟩ ?_ ?_
    · rintro k ρ hk ⟨st, s4, h4, hs, rfl⟩
      rcases h4 with rfl | rfl
      · decreasing_trivial
        refine wm_imp (term_ok hs hw (by omega) (by omega)) ?_
        rintro _ _ ⟨u, rfl, hu, hs⟩
        decreasing_trivial
        exact ⟨⟨u, rfl, hu.ok hw40 hn8⟩, _, _, .inr rfl, hs, rfl⟩
      · decreasing_trivial
        refine wm_imp (term_ok hs hw (by omega) (by omega)) ?_
        rintro _ _ ⟨u, rfl, hu, hs⟩
        decreasing_trivial
        exact ⟨⟨u, rfl, hu.ok hw40 hn8⟩, _, _, .inr rfl, hs, rfl⟩
    · rintro ρ acc ⟨st, s4, h4, hs, rfl⟩ hP hl2
      obtain ⟨us, rfl, hus⟩ := ex_mapP hP
      rw [List.length_range, List.length_map] at hl2
      decreasing_trivial
      exact ⟨(t.name, us), rfl, ⟨t, htm, rfl, hl2⟩, hus, hs⟩
  · rw [show fcD f = PyData.tuple [.str f.1, .tuple (f.2.map .str)] from rfl]
    decreasing_trivial
    generalize hFD : PyData.tuple [.str f.1, .tuple (f.2.map .str)] = FD
    refine wf_inv (pre := []) (fun pre ρ => ∃ (st : List D) (us : List Tm) (s4 s8 s9 : Option Slt), N5 ns s4 ∧ ρ = [some (.own st), some (.val (.list (ts.map tD))), some (.val (.list (ws.map .str))), some (.val FD), s4, none, none, some (.own (us.map tmD)), s8, s9] ∧ St st ∧ us.length = pre.length ∧ ∀ u ∈ us, TmOk u) ⟨_, [], _, _, _, .inl rfl, rfl, hs, rfl, by simp⟩ ?_ ?_
    · rintro pre x po ρ hx ⟨st, us, s4, s8, s9, h4, rfl, hs, hl, hus⟩
      have hx : f.2 = pre ++ x :: po := hx
      have hx40 : x.length ≤ 40 := hw40 x (hfw x (by rw [hx]; simp))
      have hlt : pre.length < f.2.length := by rw [hx]; simp
      have hfl : f.2.length ≤ 4 := by
        obtain ⟨t, h1, h2, h3⟩ := hf
        have := (hok t h1).w4
        omega
      have app : ∀ {st : List D} {s4 : Option Slt} (u : Tm), N5 ns s4 → St st → TmOk u → W t__law_atom_1 [some (.own st), some (.val (.list (ts.map tD))), some (.val (.list (ws.map .str))), some (.val FD), s4, none, none, some (.own (us.map tmD)), some (.val (.str x)), some (.val (tmD u))]
          (lpK (fun ρ => ∃ (st : List D) (us : List Tm) (s4 s8 s9 : Option Slt), N5 ns s4 ∧ ρ = [some (.own st), some (.val (.list (ts.map tD))), some (.val (.list (ws.map .str))), some (.val FD), s4, none, none, some (.own (us.map tmD)), s8, s9] ∧ St st ∧ us.length = (pre ++ [x]).length ∧ ∀ u ∈ us, TmOk u)
            (kS (sSeq (sRet (.ex true (eDis mkTup [(.ex true (eOp2 gIx (.slot 3) (.ex true (eLit (.int 0))))), (.ex true (eOpN gTuple [(.slot 7)]))]))) sNop) (fnK true fun r o => ∃ a : At, r = .val (aD a) ∧ (∃ t ∈ ts, a.1 = t.name ∧ a.2.length = t.width) ∧ (∀ u ∈ a.2, TmOk u) ∧ St o))) := by
        intro st s4 u h4 hs hu
        unfold t__law_atom_1
        decreasing_trivial
        refine ⟨small1000 (by rw [List.length_map]; omega), st, us ++ [u], _, _, _, h4, by rw [List.map_append]; rfl, hs, by simp [hl], fun v hv => ?_⟩
        rw [List.mem_append, List.mem_singleton] at hv
        rcases hv with hv | rfl
        · exact hus v hv
        · exact hu
      rcases h4 with rfl | rfl
      · decreasing_trivial
        refine wm_imp (term_ok hs hw (by omega) (by omega)) ?_
        rintro _ _ ⟨u, rfl, hu, hs⟩
        have hu := hu.ok hw40 hn8
        cases u with
        | v n =>
          rw [show tmD (.v n) = PyData.tuple [.str "var", .int n] from rfl]
          decreasing_trivial
          rw [vw]
          decreasing_trivial
          exact app (.v n) (.inr rfl) hs hu
        | w y =>
          rw [show tmD (.w y) = PyData.tuple [.str "word", .str y] from rfl]
          decreasing_trivial
          (refine wm_imp (draw_ok hs (by omega) (by omega)) ?_; rintro _ _ ⟨v, rfl, hv0, hv1, hs⟩; decreasing_trivial)
          exact ⟨fun _ => app (.w x) (.inr rfl) hs hx40, fun _ => app (.w y) (.inr rfl) hs hu⟩
      · decreasing_trivial
        refine wm_imp (term_ok hs hw (by omega) (by omega)) ?_
        rintro _ _ ⟨u, rfl, hu, hs⟩
        have hu := hu.ok hw40 hn8
        cases u with
        | v n =>
          rw [show tmD (.v n) = PyData.tuple [.str "var", .int n] from rfl]
          decreasing_trivial
          rw [vw]
          decreasing_trivial
          exact app (.v n) (.inr rfl) hs hu
        | w y =>
          rw [show tmD (.w y) = PyData.tuple [.str "word", .str y] from rfl]
          decreasing_trivial
          (refine wm_imp (draw_ok hs (by omega) (by omega)) ?_; rintro _ _ ⟨v, rfl, hv0, hv1, hs⟩; decreasing_trivial)
          exact ⟨fun _ => app (.w x) (.inr rfl) hs hx40, fun _ => app (.w y) (.inr rfl) hs hu⟩
    · rintro ρ ⟨st, us, s4, s8, s9, h4, rfl, hs, hl, hus⟩
      rw [List.nil_append] at hl
      rw [← hFD]
      decreasing_trivial
      obtain ⟨t, h1, h2, h3⟩ := hf
      exact ⟨(f.1, us), rfl, ⟨t, h1, h2, hl.trans h3⟩, hus, hs⟩
theorem PsOk.add {n : Nat} {ps : List (Nat × Str)} (h : PsOk n ps) {w : Str} (hw : w.length ≤ 40) : PsOk (n + 1) (ps ++ [(n, w)]) := by
  refine ⟨?_, fun p hp => ?_, fun p hp => ?_⟩
  · rw [List.map_append, List.pairwise_append]
    refine ⟨h.asc, by simp, fun a ha b hb => ?_⟩
    obtain ⟨p, hp, rfl⟩ := List.mem_map.mp ha
    have : b = n := by simpa using hb
    rw [this]
    exact h.lt p hp
  · rw [List.mem_append, List.mem_singleton] at hp
    rcases hp with hp | rfl
    · exact Nat.lt_succ_of_lt (h.lt p hp)
    · exact Nat.lt_succ_self n
  · rw [List.mem_append, List.mem_singleton] at hp
    rcases hp with hp | rfl
    · exact h.w p hp
    · exact hw
theorem PsOk.mono {n : Nat} {ps : List (Nat × Str)} (h : PsOk n ps) : PsOk (n + 1) ps := ⟨h.asc, fun p hp => Nat.lt_succ_of_lt (h.lt p hp), h.w⟩
theorem PsOk.len {n : Nat} {ps : List (Nat × Str)} (h : PsOk n ps) : ps.length ≤ n := by
  have hn : (ps.map Prod.fst).Nodup := List.Pairwise.imp (fun h => Nat.ne_of_lt h) h.asc
  have := nodup_lt hn (n := n) fun v hv => by
    obtain ⟨p, hp, rfl⟩ := List.mem_map.mp hv
    exact h.lt p hp
  rwa [List.length_map] at this
theorem given_ok {st : List D} (hs : St st) {ws : List Str} (hw : ws ≠ []) (hwl : ws.length ≤ 100) (hw40 : ∀ w ∈ ws, w.length ≤ 40) {a : At} (ha : a.2.length ≤ 4) (hat : ∀ u ∈ a.2, TmOk u) {f : Fc} (hfl : f.2.length ≤ 4) (hfw : ∀ w ∈ f.2, w ∈ ws) :
    WM e__law_given.m [.own st, .val (.list (ws.map .str)), .val (aD a), .val (fcD f)] fun r o => ∃ ps : List (Nat × Str), r = .val (.tuple (ps.map pD)) ∧ PsOk 8 ps ∧ St o := by
  refine wm_run ?_
  show W b__law_given [some (.own st), some (.val (.list (ws.map .str))), some (.val (aD a)), some (.val (fcD f)), none, none, none, none, none] _
  unfold b__law_given
  have hws := List.length_pos_iff.mpr hw
  decreasing_trivial
  refine wf_inv (pre := []) (fun pre ρ => ∃ (st : List D) (ps : List (Nat × Str)) (s5 s6 s7 s8 : Option Slt), ρ = [some (.own st), some (.val (.list (ws.map .str))), some (.val (aD a)), some (.val (fcD f)), some (.own (ps.map pD)), s5, s6, s7, s8] ∧ St st ∧ PsOk pre.length ps) ⟨_, [], _, _, _, _, rfl, hs, ⟨by simp, by simp, by simp⟩⟩ ?_ ?_
  · rintro pre x po ρ hx ⟨st, ps, s5, s6, s7, s8, rfl, hs, hp⟩
    have hx : List.range 8 = pre ++ x :: po := hx
    obtain ⟨rfl, hxl⟩ := rng_at hx
    have hpl := hp.len
    decreasing_trivial
    (refine wm_imp (draw_ok hs (by omega) (by omega)) ?_; rintro _ _ ⟨kind, rfl, kind0, kind1, hs⟩; decreasing_trivial)
    rw [List.length_map]
    (refine wm_imp (draw_ok hs (by omega) (by omega)) ?_; rintro _ _ ⟨v, rfl, hv0, hv1, hs⟩; decreasing_trivial)
    refine ex_atI_map hv0 (by omega) fun w hwm => ?_
    decreasing_trivial
    have sz : (ps.map pD).length < sizeLine := small1000 (by rw [List.length_map]; omega)
    have fin : ∀ {st : List D} (w : Str) {s5 s6 s7 s8 : Option Slt}, St st → w.length ≤ 40 → ∃ (st' : List D) (ps' : List (Nat × Str)) (s5' s6' s7' s8' : Option Slt), [some (Slt.own st), some (.val (.list (ws.map .str))), some (.val (aD a)), some (.val (fcD f)), some (.own (ps.map pD ++ [PyData.tuple [.int (0 + (pre.length : Int)), .str w]])), s5, s6, s7, s8] = [some (.own st'), some (.val (.list (ws.map .str))), some (.val (aD a)), some (.val (fcD f)), some (.own (ps'.map pD)), s5', s6', s7', s8'] ∧ St st' ∧ PsOk (pre ++ [pre.length]).length ps' := by
      intro st w s5 s6 s7 s8 hs hw'
      refine ⟨st, ps ++ [(pre.length, w)], _, _, _, _, by rw [List.map_append, Int.zero_add]; rfl, hs, ?_⟩
      rw [List.length_append, List.length_singleton]
      exact hp.add hw'
    have keep : ∀ {st : List D} {s5 s6 s7 s8 : Option Slt}, St st → ∃ (st' : List D) (ps' : List (Nat × Str)) (s5' s6' s7' s8' : Option Slt), [some (Slt.own st), some (.val (.list (ws.map .str))), some (.val (aD a)), some (.val (fcD f)), some (.own (ps.map pD)), s5, s6, s7, s8] = [some (.own st'), some (.val (.list (ws.map .str))), some (.val (aD a)), some (.val (fcD f)), some (.own (ps'.map pD)), s5', s6', s7', s8'] ∧ St st' ∧ PsOk (pre ++ [pre.length]).length ps' := fun {st s5 s6 s7 s8} hs => ⟨st, ps, _, _, _, _, rfl, hs, by rw [List.length_append, List.length_singleton]; exact hp.mono⟩
    refine ⟨fun _ => ⟨sz, fin w hs (hw40 w hwm)⟩, fun _ => ⟨fun _ => ?_, fun _ => keep hs⟩⟩
    have eA : aD a = PyData.tuple [.str a.1, .tuple (a.2.map tmD)] := rfl
    have eF : fcD f = PyData.tuple [.str f.1, .tuple (f.2.map .str)] := rfl
    rw [eA, eF]
    generalize hN : PyData.int (0 + (pre.length : Int)) = ND
    generalize hP : ps.map pD = PS
    decreasing_trivial
    rw [List.length_map]
    refine ⟨by omega, by omega, ?_⟩
    rw [Int.toNat_natCast]
    refine wf_inv (pre := []) (fun (_ : List Nat) ρ => ∃ (w : Str) (s8 : Option Slt), ρ = [some (Slt.own _), some (.val (.list (ws.map .str))), some (.val (.tuple [.str a.1, .tuple (a.2.map tmD)])), some (.val (.tuple [.str f.1, .tuple (f.2.map .str)])), some (.own PS), some (.val ND), some (.val (.int kind)), some (.val (.str w)), s8] ∧ w.length ≤ 40) ⟨w, _, rfl, hw40 w hwm⟩ ?_ ?_
    · rintro pre2 x po2 ρ hx2 ⟨w, s8, rfl, hw'⟩
      have hx2 : List.range a.2.length = pre2 ++ x :: po2 := hx2
      obtain ⟨rfl, hxl2⟩ := rng_at hx2
      decreasing_trivial
      rw [atI_at (map_at hxl2)]
      decreasing_trivial
      refine ⟨Nat.le_trans (Nat.min_le_left _ _) (Nat.le_trans (gd_depth (pl_gd (tm_pl (hat _ (List.getElem_mem _))))) (by decide)), fun _ => ⟨fun h => ?_, fun _ => ⟨w, _, rfl, hw'⟩⟩, fun _ => ⟨w, _, rfl, hw'⟩⟩
      rw [List.length_map] at h
      have hlt : pre2.length < f.2.length := by omega
      rw [atI_at (map_at hlt)]
      exact ⟨_, _, rfl, hw40 _ (hfw _ (List.getElem_mem _))⟩
    · rintro ρ ⟨w, s8, rfl, hw'⟩
      rw [← hP, ← hN]
      decreasing_trivial
      exact ⟨sz, fin w hs hw'⟩
  · rintro ρ ⟨st, ps, s5, s6, s7, s8, rfl, hs, hp⟩
    rw [List.nil_append, List.length_range] at hp
    decreasing_trivial
    exact ⟨ps, rfl, hp, hs⟩

theorem zip_drop {α β : Type} {xs : List α} {ys : List β} {k : Nat} (h1 : k < xs.length) (h2 : k < ys.length) : (xs.zip ys).drop k = (xs[k], ys[k]) :: (xs.zip ys).drop (k + 1) := by
  have h : k < (xs.zip ys).length := by rw [List.length_zip]; omega
  rw [List.drop_eq_getElem_cons h, List.getElem_zip]
theorem law_due_ok {a : At} {f : Fc} {ps : List (Nat × Str)} (ha : ∀ t ∈ a.2, TmOk t) (hf : ∀ w ∈ f.2, w.length ≤ 40) (hps : PsOk 8 ps) (hl : a.1 = f.1 → a.2.length = f.2.length) (hl4 : f.2.length ≤ 4) : e__law_due.m [.val (aD a), .val (fcD f), .val (.tuple (ps.map pD))] = some (.val (unD (unL a f (lkP ps))), []) := by
  refine wm_of (wm_run ?_)
  show W b__law_due [some (.val (aD a)), some (.val (fcD f)), some (.val (.tuple (ps.map pD))), none, none, none, none, none, none] _
  unfold b__law_due
  have eA : aD a = PyData.tuple [.str a.1, .tuple (a.2.map tmD)] := rfl
  have eF : fcD f = PyData.tuple [.str f.1, .tuple (f.2.map .str)] := rfl
  rw [eA, eF]
  decreasing_trivial
  refine ⟨fun h => ?_, fun h => ?_⟩
  · have : a.1 ≠ f.1 := by simpa using h
    unfold unL
    rw [if_neg this]
    simp [unD]
  have e1 : a.1 = f.1 := by simpa using h
  have hl := hl e1
  have eU : unL a f (lkP ps) = goU (a.2.zip f.2) (lkP ps) := if_pos e1
  rw [eU]
  generalize hAD : PyData.tuple [.str a.1, .tuple (a.2.map tmD)] = AD
  generalize hFD : PyData.tuple [.str f.1, .tuple (f.2.map .str)] = FD
  have hpl := hps.len
  refine wf_inv (pre := []) (fun pre ρ => ∃ (s4 s5 : Option Slt), ρ = [some (.val AD), some (.val FD), some (.val (.tuple (ps.map pD))), some (.dct (mkK [] (pre.map fun p : Nat × Str => ((Sum.inl (p.1 : Int) : Key), PyData.str p.2)))), s4, s5, none, none, none] ∧ pre.length ≤ 8) ⟨_, _, rfl, by simp⟩ ?_ ?_
  · rintro pre p po ρ hx ⟨s4, s5, rfl, hp8⟩
    have hx : ps = pre ++ p :: po := hx
    have hpp : PsOk 8 pre := ⟨by have := hps.asc; rw [hx, List.map_append, List.pairwise_append] at this; exact this.1, fun q hq => hps.lt q (by rw [hx]; simp [hq]), fun q hq => hps.w q (by rw [hx]; simp [hq])⟩
    have hdl := dl_of hpp (Nat.le_refl _)
    have hkl := hdl.len
    have hlt : pre.length < ps.length := by rw [hx]; simp
    unfold pD nD
    decreasing_trivial
    refine ⟨small1000 (by omega), _, _, by rw [List.map_append]; unfold mkK; rw [List.foldl_append]; rfl, ?_⟩
    rw [List.length_append, List.length_singleton]; omega
  · rintro ρ ⟨s4, s5, rfl, _⟩
    have hd0 := dl_of hps (Nat.le_refl _)
    rw [List.nil_append]
    generalize mkK [] (ps.map fun p : Nat × Str => ((Sum.inl (p.1 : Int) : Key), PyData.str p.2)) = kvs0 at hd0 ⊢
    generalize hPD : PyData.tuple (ps.map pD) = PD
    have hL0 : ∀ n w, lkP ps n = some w → n < 8 ∧ w.length ≤ 40 := fun n w h => ⟨hps.lt _ (lk_mem h), hps.w _ (lk_mem h)⟩
    have hz : ∀ p ∈ a.2.zip f.2, p.2.length ≤ 40 ∧ TmOk p.1 := fun p hp => ⟨hf _ (List.of_mem_zip hp).2, ha _ (List.of_mem_zip hp).1⟩
    rw [← hFD]
    decreasing_trivial
    rw [List.length_map]
    refine ⟨by omega, by omega, ?_⟩
    rw [Int.toNat_natCast]
    refine wf_inv (pre := []) (fun pre ρ => ∃ (kvs : List (Key × D)) (L : Lk) (s4 s5 s6 s7 s8 : Option Slt), ρ = [some (.val AD), some (.val (.tuple [.str f.1, .tuple (f.2.map .str)])), some (.val PD), some (.dct kvs), s4, s5, s6, s7, s8] ∧ DL kvs L ∧ goU (a.2.zip f.2) (lkP ps) = goU ((a.2.zip f.2).drop pre.length) L) ⟨_, lkP ps, _, _, _, _, _, rfl, hd0, rfl⟩ ?_ ?_
    · rintro pre x po ρ hx ⟨kvs, L, s4, s5, s6, s7, s8, rfl, hk, hg⟩
      have hx : List.range f.2.length = pre ++ x :: po := hx
      obtain ⟨rfl, hxl⟩ := rng_at hx
      have hxa : pre.length < a.2.length := by omega
      rw [zip_drop hxa hxl] at hg
      have hty : TmOk a.2[pre.length] := ha _ (List.getElem_mem _)
      have hy : f.2[pre.length].length ≤ 40 := hf _ (List.getElem_mem _)
      have hkl := hk.len
      have next : ∀ {kvs' : List (Key × D)} {L' : Lk} {s4 s5 s6 s7 s8 : Option Slt}, DL kvs' L' → goU (a.2.zip f.2) (lkP ps) = goU ((a.2.zip f.2).drop (pre.length + 1)) L' → ∃ (kvs2 : List (Key × D)) (L2 : Lk) (s4' s5' s6' s7' s8' : Option Slt), [some (Slt.val AD), some (.val (.tuple [.str f.1, .tuple (f.2.map .str)])), some (.val PD), some (.dct kvs'), s4, s5, s6, s7, s8] = [some (.val AD), some (.val (.tuple [.str f.1, .tuple (f.2.map .str)])), some (.val PD), some (.dct kvs2), s4', s5', s6', s7', s8'] ∧ DL kvs2 L2 ∧ goU (a.2.zip f.2) (lkP ps) = goU ((a.2.zip f.2).drop (pre ++ [pre.length]).length) L2 := fun {kvs' L' s4 s5 s6 s7 s8} h1 h2 => ⟨_, L', _, _, _, _, _, rfl, h1, by rw [List.length_append, List.length_singleton]; exact h2⟩
      rw [← hAD]
      decreasing_trivial
      rw [atI_at (map_at hxa)]
      generalize hyy : f.2[pre.length] = y at hg hy
      have hya : (f.2.map PyData.str)[pre.length]? = some (PyData.str y) := by rw [map_at hxl, hyy]
      generalize a.2[pre.length] = t at hg hty ⊢
      cases t with
      | w x =>
        have hg : goU (a.2.zip f.2) (lkP ps) = if x = y then goU ((a.2.zip f.2).drop (pre.length + 1)) L else none := hg
        rw [show tmD (.w x) = PyData.tuple [.str "word", .str x] from rfl]
        decreasing_trivial
        rw [atI_at hya]
        decreasing_trivial
        rw [hAD]
        refine ⟨fun h => ?_, fun h => ?_⟩
        · have : x ≠ y := by simpa using h
          rw [hg, if_neg this]
          simp [unD]
        · have : x = y := by simpa using h
          rw [if_pos this] at hg
          rw [wv]
          decreasing_trivial
          exact next hk hg
      | v n =>
        have hg : goU (a.2.zip f.2) (lkP ps) = match L n with
          | none => goU ((a.2.zip f.2).drop (pre.length + 1)) (updL L n y)
          | some q => if q = y then goU ((a.2.zip f.2).drop (pre.length + 1)) L else none := hg
        rw [show tmD (.v n) = PyData.tuple [.str "var", .int n] from rfl]
        decreasing_trivial
        rw [vw]
        decreasing_trivial
        rw [hk.val]
        cases q : L n with
        | none =>
          rw [q] at hg
          have hg : goU (a.2.zip f.2) (lkP ps) = goU ((a.2.zip f.2).drop (pre.length + 1)) (updL L n y) := hg
          simp only [Option.map_none, Option.isSome_none]
          decreasing_trivial
          rw [atI_at hya]
          decreasing_trivial
          rw [hAD]
          refine ⟨small1000 (by omega), ?_⟩
          exact next (hk.put hty y) hg
        | some u =>
          rw [q] at hg
          have hg : goU (a.2.zip f.2) (lkP ps) = if u = y then goU ((a.2.zip f.2).drop (pre.length + 1)) L else none := hg
          simp only [Option.map_some, Option.isSome_some]
          decreasing_trivial
          rw [atI_at hya]
          decreasing_trivial
          rw [hAD]
          refine ⟨fun h => ?_, fun h => ?_⟩
          · have : u ≠ y := by simpa using h
            rw [hg, if_neg this]
            simp [unD]
          · have e : u = y := by simpa using h
            rw [if_pos e] at hg
            rw [atI_at hya]
            decreasing_trivial
            refine ⟨small1000 (by omega), ?_⟩
            exact next ((hk.put hty y).ext fun m => by
              unfold updL
              by_cases z : m = n
              · rw [if_pos z, z, q, e]
              · rw [if_neg z]) hg
    · rintro ρ ⟨kvs, L, s4, s5, s6, s7, s8, rfl, hk, hg⟩
      rw [List.nil_append, List.length_range, List.drop_eq_nil_of_le (by rw [List.length_zip]; omega)] at hg
      have hg : goU (a.2.zip f.2) (lkP ps) = some L := hg
      decreasing_trivial
      refine wlc_map (fun n : Nat => (L n).isSome) (fun n : Nat => PyData.tuple [.int (n : Int), .str ((L n).getD Str.empty)]) (le_size (by decide)) (fun n hn => ?_) ?_
      · decreasing_trivial
        rw [Int.zero_add, hk.val]
        cases q : L n with
        | none =>
          simp only [Option.map_none, Option.isSome_none]
          decreasing_trivial
        | some u =>
          simp only [Option.map_some, Option.isSome_some]
          decreasing_trivial
          rfl
      · decreasing_trivial
        rw [hg]
        have : ((List.range 8).filter fun n : Nat => (L n).isSome).map (fun n : Nat => PyData.tuple [.int (n : Int), .str ((L n).getD Str.empty)]) = (prs L).map pD := by
          unfold prs
          rw [List.map_filterMap]
          induction List.range 8 with
          | nil => rfl
          | cons n l ih =>
            rw [List.filterMap_cons, List.filter_cons]
            cases q : L n with
            | none => simpa [q] using ih
            | some u => simp [q, ih, pD, nD]
        simp only [unD, this]
theorem law_true (ns : List Int) (hn : ns.length ≤ 63) : ∃ out, e_law.m [scr ns] = some (.val (.bool true), out) := by
  refine ⟨[], wm_of (wm_run ?_)⟩
  show W b_law [some (.val (.list (ns.map .int))), none, none, none, none, none, none, none] _
  unfold b_law
  have hs : St [.list (ns.map .int), .int 0, .int 0] := .mk (by decide)
  decreasing_trivial
  generalize PyData.list (ns.map .int) = sc at *
  refine wm_imp (words_ok hs (by decide) (by decide)) ?_
  rintro _ _ ⟨ws, rfl, hw, hwl, hw40, _, hs⟩
  decreasing_trivial
  refine wm_imp (schema_ok hs (by decide) (by decide)) ?_
  rintro _ _ ⟨ts, rfl, ht, ht4, hok, hnd, hs⟩
  decreasing_trivial
  refine wm_imp (fact_ok hs ht ht4 hok hw (by omega)) ?_
  rintro _ _ ⟨f, rfl, hf, hfw, hs⟩
  decreasing_trivial
  refine wm_imp (atom_ok hs ht ht4 hok hw (by omega) hw40 hf hfw) ?_
  rintro _ _ ⟨a, rfl, ha, hat, hs⟩
  decreasing_trivial
  obtain ⟨t1, ht1, hf1, hf2⟩ := hf
  obtain ⟨t2, ht2, ha1, ha2⟩ := ha
  have w1 := (hok t1 ht1).w4
  have w2 := (hok t2 ht2).w4
  have hfl : f.2.length ≤ 4 := by omega
  have hf40 : ∀ w ∈ f.2, w.length ≤ 40 := fun w h => hw40 w (hfw w h)
  refine wm_imp (given_ok hs hw (by omega) hw40 (a := a) (by omega) hat hfl hfw) ?_
  rintro _ _ ⟨ps, rfl, hps, hs⟩
  decreasing_trivial
  have hal : a.1 = f.1 → a.2.length = f.2.length := fun e => by
    have : t1 = t2 := nodup_key hnd ht1 ht2 (by rw [← hf1, ← ha1, e])
    rw [ha2, hf2, this]
  have gU : ∀ {qs : List (Nat × Str)}, PsOk 8 qs → gd 11 (unD (unL a f (lkP qs))) := fun {qs} h => by
    cases e : unL a f (lkP qs) with
    | none => trivial
    | some L =>
      have h8 : ∀ n w, L n = some w → n < 8 ∧ w.length ≤ 40 := by
        unfold unL at e
        split at e
        · exact goU_ok e (fun p hp => ⟨hf40 _ (List.of_mem_zip hp).2, hat _ (List.of_mem_zip hp).1⟩) fun n w hn => ⟨h.lt _ (lk_mem hn), h.w _ (lk_mem hn)⟩
        · cases e
      have ok := prs_ok fun n w h => (h8 n w h).2
      have := ok.len
      show gd 11 (.tuple ((prs L).map pD))
      rw [gd_tup, List.length_map]
      refine ⟨by omega, fun x hx => ?_⟩
      obtain ⟨p, hp, rfl⟩ := List.mem_map.mp hx
      exact gd_mono (by decide) (pl_gd (pD_pl (ok.w p hp)))
  have p0 : PsOk 8 [] := ⟨by simp, by simp, by simp⟩
  have due0 := law_due_ok hat hf40 p0 hal hfl
  have un0 := unify_ok hat hf40 p0
  have due1 := law_due_ok hat hf40 hps hal hfl
  have un1 := unify_ok hat hf40 hps
  have g1 := gU hps
  have g0 := gU p0
  rw [List.map_nil] at due0 un0
  generalize unL a f (lkP ps) = U at due1 un1 g1
  generalize unL a f (lkP []) = U0 at due0 un0 g0
  cases U <;> cases U0 <;> (
    simp only [unD] at due0 un0 due1 un1 g0 g1
    rw [wm_eq due1]
    decreasing_trivial
    rw [wm_eq un1]
    decreasing_trivial
    rw [wm_eq (same_refl (n := 11) g1)]
    decreasing_trivial
    rw [wm_eq un0]
    decreasing_trivial
    rw [wm_eq due0]
    decreasing_trivial
    rw [wm_eq (same_refl (n := 11) g0)]
    decreasing_trivial
    rw [wm_eq un1]
    decreasing_trivial
    rw [wm_eq (same_refl (n := 11) g1)]
    decreasing_trivial)
end L17

namespace L17
open PySem PySem.Spec PyProof.Rows L2 Pv
def topS (i : Nat) : Stmt := PySem.Challenge.pw_wishshown_k17_unify_an_atom.main.body.getD i (.Pass ⟨0, 0, 0, 0⟩)
theorem s_unify : FnScope ["atom", "fact", "assignment", "words", "term", "word"] ["atom", "fact", "assignment"] (defScope (topS 1)) := ⟨rfl, rfl, rfl, by decide +kernel, rfl, by decide +kernel, by decide +kernel⟩
theorem c_unify : compD ["atom", "fact", "assignment", "words", "term", "word"] (topS 1) false [] cst blt [-4] = some b_unify := by with_unfolding_all rfl
theorem s__law_same : FnScope ["_law_actual", "_law_due_here", "_law_place"] ["_law_actual", "_law_due_here"] (defScope (topS 4)) := ⟨rfl, rfl, rfl, by decide +kernel, rfl, by decide +kernel, by decide +kernel⟩
theorem c__law_same (sm : List Slt → Option (Slt × List D)) : compD ["_law_actual", "_law_due_here", "_law_place"] (topS 4) false [("_law_same", ⟨2, false, false, sm⟩)] cst blt [] = some (b__law_same sm) := by with_unfolding_all rfl
theorem s__law_due : FnScope ["_law_atom_here", "_law_fact_here", "_law_assignment", "_law_words_here", "_law_number", "_law_word_here", "_law_place", "_law_kind", "_law_content"] ["_law_atom_here", "_law_fact_here", "_law_assignment"] (defScope (topS 16)) := ⟨rfl, rfl, rfl, by decide +kernel, rfl, by decide +kernel, by decide +kernel⟩
theorem c__law_due : compD ["_law_atom_here", "_law_fact_here", "_law_assignment", "_law_words_here", "_law_number", "_law_word_here", "_law_place", "_law_kind", "_law_content"] (topS 16) false [] cst blt [-4] = some b__law_due := by with_unfolding_all rfl
theorem s__law_draw : FnScope ["_law_stream", "_law_many", "_law_cell", "_law_mixed", "_law_other", "_law_value"] ["_law_stream", "_law_many"] (defScope (topS 3)) := ⟨rfl, rfl, rfl, by decide +kernel, rfl, by decide +kernel, by decide +kernel⟩
theorem c__law_draw : compD ["_law_stream", "_law_many", "_law_cell", "_law_mixed", "_law_other", "_law_value"] (topS 3) true [] cst blt [] = some b__law_draw := by with_unfolding_all rfl
theorem s__law_given : FnScope ["_law_stream", "_law_words_here", "_law_atom_here", "_law_fact_here", "_law_pairs", "_law_number", "_law_kind", "_law_word_here", "_law_place"] ["_law_stream", "_law_words_here", "_law_atom_here", "_law_fact_here"] (defScope (topS 15)) := ⟨rfl, rfl, rfl, by decide +kernel, rfl, by decide +kernel, by decide +kernel⟩
theorem c__law_given : compD ["_law_stream", "_law_words_here", "_law_atom_here", "_law_fact_here", "_law_pairs", "_law_number", "_law_kind", "_law_word_here", "_law_place"] (topS 15) true [("_law_draw", e__law_draw)] cst blt [] = some b__law_given := by with_unfolding_all rfl
theorem s__law_term : FnScope ["_law_stream", "_law_words_here", "_law_numbers_here"] ["_law_stream", "_law_words_here", "_law_numbers_here"] (defScope (topS 9)) := ⟨rfl, rfl, rfl, by decide +kernel, rfl, by decide +kernel, by decide +kernel⟩
theorem c__law_term : compD ["_law_stream", "_law_words_here", "_law_numbers_here"] (topS 9) true [("_law_draw", e__law_draw)] cst blt [] = some b__law_term := by with_unfolding_all rfl
theorem s__law_numbers : FnScope ["_law_stream", "_law_most", "_law_numbers_here", "_law_turn", "_law_number"] ["_law_stream", "_law_most"] (defScope (topS 11)) := ⟨rfl, rfl, rfl, by decide +kernel, rfl, by decide +kernel, by decide +kernel⟩
theorem c__law_numbers : compD ["_law_stream", "_law_most", "_law_numbers_here", "_law_turn", "_law_number"] (topS 11) true [("_law_draw", e__law_draw)] cst blt [] = some b__law_numbers := by with_unfolding_all rfl
theorem s__law_atom : FnScope ["_law_stream", "_law_schema_here", "_law_words_here", "_law_fact_here", "_law_numbers_here", "_law_table", "_law_place", "_law_terms", "_law_word_here", "_law_term_here"] ["_law_stream", "_law_schema_here", "_law_words_here", "_law_fact_here"] (defScope (topS 14)) := ⟨rfl, rfl, rfl, by decide +kernel, rfl, by decide +kernel, by decide +kernel⟩
theorem c__law_atom : compD ["_law_stream", "_law_schema_here", "_law_words_here", "_law_fact_here", "_law_numbers_here", "_law_table", "_law_place", "_law_terms", "_law_word_here", "_law_term_here"] (topS 14) true [("_law_draw", e__law_draw), ("_law_term", e__law_term), ("_law_numbers", e__law_numbers)] cst blt [] = some b__law_atom := by with_unfolding_all rfl
theorem s__law_fact : FnScope ["_law_stream", "_law_schema_here", "_law_words_here", "_law_table", "_law_row", "_law_place"] ["_law_stream", "_law_schema_here", "_law_words_here"] (defScope (topS 8)) := ⟨rfl, rfl, rfl, by decide +kernel, rfl, by decide +kernel, by decide +kernel⟩
theorem c__law_fact : compD ["_law_stream", "_law_schema_here", "_law_words_here", "_law_table", "_law_row", "_law_place"] (topS 8) true [("_law_draw", e__law_draw)] cst blt [] = some b__law_fact := by with_unfolding_all rfl
theorem s__law_word : FnScope ["_law_stream", "_law_signs", "_law_size", "_law_place"] ["_law_stream"] (defScope (topS 5)) := ⟨rfl, rfl, rfl, by decide +kernel, rfl, by decide +kernel, by decide +kernel⟩
theorem c__law_word : compD ["_law_stream", "_law_signs", "_law_size", "_law_place"] (topS 5) true [("_law_draw", e__law_draw)] cst blt [] = some b__law_word := by with_unfolding_all rfl
theorem s__law_words : FnScope ["_law_stream", "_law_many", "_law_signs", "_law_text", "_law_place", "_law_alike", "_law_words_here", "_law_turn", "_law_word_here"] ["_law_stream", "_law_many"] (defScope (topS 6)) := ⟨rfl, rfl, rfl, by decide +kernel, rfl, by decide +kernel, by decide +kernel⟩
theorem c__law_words : compD ["_law_stream", "_law_many", "_law_signs", "_law_text", "_law_place", "_law_alike", "_law_words_here", "_law_turn", "_law_word_here"] (topS 6) true [("_law_draw", e__law_draw), ("_law_word", e__law_word)] cst blt [] = some b__law_words := by with_unfolding_all rfl
theorem s__law_schema : FnScope ["_law_stream", "_law_most", "_law_many", "_law_schema_here", "_law_name", "_law_width", "_law_key"] ["_law_stream", "_law_most"] (defScope (topS 7)) := ⟨rfl, rfl, rfl, by decide +kernel, rfl, by decide +kernel, by decide +kernel⟩
theorem c__law_schema : compD ["_law_stream", "_law_most", "_law_many", "_law_schema_here", "_law_name", "_law_width", "_law_key"] (topS 7) true [("_law_words", e__law_words), ("_law_draw", e__law_draw)] cst blt [] = some b__law_schema := by with_unfolding_all rfl
theorem s_law : FnScope ["_law_script", "_law_stream", "_law_words_here", "_law_schema_here", "_law_fact_here", "_law_atom_here", "_law_assignment", "_law_due_here"] ["_law_script"] (defScope (topS 17)) := ⟨rfl, rfl, rfl, by decide +kernel, rfl, by decide +kernel, by decide +kernel⟩
theorem c_law : compD ["_law_script", "_law_stream", "_law_words_here", "_law_schema_here", "_law_fact_here", "_law_atom_here", "_law_assignment", "_law_due_here"] (topS 17) false [("unify", e_unify), ("_law_same", (e__law_same 12)), ("_law_due", e__law_due), ("_law_given", e__law_given), ("_law_atom", e__law_atom), ("_law_fact", e__law_fact), ("_law_schema", e__law_schema), ("_law_words", e__law_words)] cst blt [] = some b_law := by with_unfolding_all rfl
theorem all_of {l : PySem.W.OpenLaw} {w : World} {K : PySem.W.Frag} {h : Heap} {mg : Str → Option Value} {fa f1 f2 f3 f4 f5 f6 f7 f8 f9 f10 f11 f12 f13 : Addr} (X : K.In h) (G : h.Ns mainGlobals mg) (hfa : mg "law" = some (.ref fa))
    {od1 an1 od2 an2 od3 an3 od4 an4 od5 an5 od6 an6 od7 an7 od8 an8 od9 an9 od10 an10 od11 an11 od12 an12 od13 an13 : Option Addr} {sl1 sl2 sl3 sl4 sl5 sl6 sl7 sl8 sl9 sl10 sl11 sl12 sl13 : Array (Option Value)} {oc1 kV1 dc1 pm1 cd1 ct1 oc2 kV2 dc2 pm2 cd2 ct2 oc3 kV3 dc3 pm3 cd3 ct3 oc4 kV4 dc4 pm4 cd4 ct4 oc5 kV5 dc5 pm5 cd5 ct5 oc6 kV6 dc6 pm6 cd6 ct6 oc7 kV7 dc7 pm7 cd7 ct7 oc8 kV8 dc8 pm8 cd8 ct8 oc9 kV9 dc9 pm9 cd9 ct9 oc10 kV10 dc10 pm10 cd10 ct10 oc11 kV11 dc11 pm11 cd11 ct11 oc12 kV12 dc12 pm12 cd12 ct12 oc13 kV13 dc13 pm13 cd13 ct13 : Value}
    (a1 : PySem.W.nsIn K mainGlobals "unify" = some (some (.ref f1))) (l1 : K.lookup f1 = some ⟨oc1, od1, .func (PySem.W.fnOf "unify" "unify" (defArgs (topS 1)) (defBody (topS 1)) (defScope (topS 1)) .none kV1 dc1 pm1 an1 cd1 ct1), sl1⟩) (c1 : PySem.W.codeIn K cd1 "unify" = true) (k1 : PySem.W.keepIn K (.ref f1) = true)
    (a2 : PySem.W.nsIn K mainGlobals "_law_same" = some (some (.ref f2))) (l2 : K.lookup f2 = some ⟨oc2, od2, .func (PySem.W.fnOf "_law_same" "_law_same" (defArgs (topS 4)) (defBody (topS 4)) (defScope (topS 4)) .none kV2 dc2 pm2 an2 cd2 ct2), sl2⟩) (c2 : PySem.W.codeIn K cd2 "_law_same" = true) (k2 : PySem.W.keepIn K (.ref f2) = true)
    (a3 : PySem.W.nsIn K mainGlobals "_law_due" = some (some (.ref f3))) (l3 : K.lookup f3 = some ⟨oc3, od3, .func (PySem.W.fnOf "_law_due" "_law_due" (defArgs (topS 16)) (defBody (topS 16)) (defScope (topS 16)) .none kV3 dc3 pm3 an3 cd3 ct3), sl3⟩) (c3 : PySem.W.codeIn K cd3 "_law_due" = true) (k3 : PySem.W.keepIn K (.ref f3) = true)
    (a4 : PySem.W.nsIn K mainGlobals "_law_draw" = some (some (.ref f4))) (l4 : K.lookup f4 = some ⟨oc4, od4, .func (PySem.W.fnOf "_law_draw" "_law_draw" (defArgs (topS 3)) (defBody (topS 3)) (defScope (topS 3)) .none kV4 dc4 pm4 an4 cd4 ct4), sl4⟩) (c4 : PySem.W.codeIn K cd4 "_law_draw" = true) (k4 : PySem.W.keepIn K (.ref f4) = true)
    (a5 : PySem.W.nsIn K mainGlobals "_law_given" = some (some (.ref f5))) (l5 : K.lookup f5 = some ⟨oc5, od5, .func (PySem.W.fnOf "_law_given" "_law_given" (defArgs (topS 15)) (defBody (topS 15)) (defScope (topS 15)) .none kV5 dc5 pm5 an5 cd5 ct5), sl5⟩) (c5 : PySem.W.codeIn K cd5 "_law_given" = true) (k5 : PySem.W.keepIn K (.ref f5) = true)
    (a6 : PySem.W.nsIn K mainGlobals "_law_term" = some (some (.ref f6))) (l6 : K.lookup f6 = some ⟨oc6, od6, .func (PySem.W.fnOf "_law_term" "_law_term" (defArgs (topS 9)) (defBody (topS 9)) (defScope (topS 9)) .none kV6 dc6 pm6 an6 cd6 ct6), sl6⟩) (c6 : PySem.W.codeIn K cd6 "_law_term" = true) (k6 : PySem.W.keepIn K (.ref f6) = true)
    (a7 : PySem.W.nsIn K mainGlobals "_law_numbers" = some (some (.ref f7))) (l7 : K.lookup f7 = some ⟨oc7, od7, .func (PySem.W.fnOf "_law_numbers" "_law_numbers" (defArgs (topS 11)) (defBody (topS 11)) (defScope (topS 11)) .none kV7 dc7 pm7 an7 cd7 ct7), sl7⟩) (c7 : PySem.W.codeIn K cd7 "_law_numbers" = true) (k7 : PySem.W.keepIn K (.ref f7) = true)
    (a8 : PySem.W.nsIn K mainGlobals "_law_atom" = some (some (.ref f8))) (l8 : K.lookup f8 = some ⟨oc8, od8, .func (PySem.W.fnOf "_law_atom" "_law_atom" (defArgs (topS 14)) (defBody (topS 14)) (defScope (topS 14)) .none kV8 dc8 pm8 an8 cd8 ct8), sl8⟩) (c8 : PySem.W.codeIn K cd8 "_law_atom" = true) (k8 : PySem.W.keepIn K (.ref f8) = true)
    (a9 : PySem.W.nsIn K mainGlobals "_law_fact" = some (some (.ref f9))) (l9 : K.lookup f9 = some ⟨oc9, od9, .func (PySem.W.fnOf "_law_fact" "_law_fact" (defArgs (topS 8)) (defBody (topS 8)) (defScope (topS 8)) .none kV9 dc9 pm9 an9 cd9 ct9), sl9⟩) (c9 : PySem.W.codeIn K cd9 "_law_fact" = true) (k9 : PySem.W.keepIn K (.ref f9) = true)
    (a10 : PySem.W.nsIn K mainGlobals "_law_word" = some (some (.ref f10))) (l10 : K.lookup f10 = some ⟨oc10, od10, .func (PySem.W.fnOf "_law_word" "_law_word" (defArgs (topS 5)) (defBody (topS 5)) (defScope (topS 5)) .none kV10 dc10 pm10 an10 cd10 ct10), sl10⟩) (c10 : PySem.W.codeIn K cd10 "_law_word" = true) (k10 : PySem.W.keepIn K (.ref f10) = true)
    (a11 : PySem.W.nsIn K mainGlobals "_law_words" = some (some (.ref f11))) (l11 : K.lookup f11 = some ⟨oc11, od11, .func (PySem.W.fnOf "_law_words" "_law_words" (defArgs (topS 6)) (defBody (topS 6)) (defScope (topS 6)) .none kV11 dc11 pm11 an11 cd11 ct11), sl11⟩) (c11 : PySem.W.codeIn K cd11 "_law_words" = true) (k11 : PySem.W.keepIn K (.ref f11) = true)
    (a12 : PySem.W.nsIn K mainGlobals "_law_schema" = some (some (.ref f12))) (l12 : K.lookup f12 = some ⟨oc12, od12, .func (PySem.W.fnOf "_law_schema" "_law_schema" (defArgs (topS 7)) (defBody (topS 7)) (defScope (topS 7)) .none kV12 dc12 pm12 an12 cd12 ct12), sl12⟩) (c12 : PySem.W.codeIn K cd12 "_law_schema" = true) (k12 : PySem.W.keepIn K (.ref f12) = true)
    (a13 : PySem.W.nsIn K mainGlobals "law" = some (some (.ref f13))) (l13 : K.lookup f13 = some ⟨oc13, od13, .func (PySem.W.fnOf "law" "law" (defArgs (topS 17)) (defBody (topS 17)) (defScope (topS 17)) .none kV13 dc13 pm13 an13 cd13 ct13), sl13⟩) (c13 : PySem.W.codeIn K cd13 "law" = true) (k13 : PySem.W.keepIn K (.ref f13) = true)
    (z0 : PySem.W.nsIn K mainGlobals "sorted" = some none)
    (z1 : PySem.W.nsIn K mainGlobals "tuple" = some none)
    (z2 : PySem.W.nsIn K mainGlobals "zip" = some none)
    (z3 : PySem.W.nsIn K mainGlobals "dict" = some none)
    (z4 : PySem.W.nsIn K mainGlobals "isinstance" = some none)
    (z5 : PySem.W.nsIn K mainGlobals "str" = some none)
    (z6 : PySem.W.nsIn K mainGlobals "int" = some none)
    (z7 : PySem.W.nsIn K mainGlobals "bool" = some none)
    (z8 : PySem.W.nsIn K mainGlobals "list" = some none)
    (z9 : PySem.W.nsIn K mainGlobals "len" = some none)
    (z10 : PySem.W.nsIn K mainGlobals "range" = some none)
    (z11 : PySem.W.nsIn K mainGlobals "all" = some none)
    : ∃ fd : FuncData, (∀ (s : Shared) (v : Value), BindsTo s fd ⟨[v], []⟩ [("_law_script", v)]) ∧ ∀ base : Heap, K.In base → base.Ns mainGlobals mg → FnOk l.prog w K mg base CX0 25 fa fd ["_law_script"] (spD K [] e_law) := by
  have e := hfa.symm.trans (PySem.W.mg_of X G a13)
  cases e
  have C : Fcs K mg cst blt := ⟨cl_nil, bl_cons (PySem.W.mg_none_of X G z0) (bl_cons (PySem.W.mg_none_of X G z1) (bl_cons (PySem.W.mg_none_of X G z2) (bl_cons (PySem.W.mg_none_of X G z3) (bl_cons (PySem.W.mg_none_of X G z4) (bl_cons (PySem.W.mg_none_of X G z5) (bl_cons (PySem.W.mg_none_of X G z6) (bl_cons (PySem.W.mg_none_of X G z7) (bl_cons (PySem.W.mg_none_of X G z8) (bl_cons (PySem.W.mg_none_of X G z9) (bl_cons (PySem.W.mg_none_of X G z10) (bl_cons (PySem.W.mg_none_of X G z11) (bl_nil))))))))))))⟩
  have F1 := fun_mk (st := topS 1) l1 c1 k1
  have b1 := F1.binds (ps := ["atom", "fact", "assignment"]) fun _ _ _ _ _ _ us hl => match us, hl with | [_, _, _], _ => rfl
  have F2 := fun_mk (st := topS 4) l2 c2 k2
  have b2 := F2.binds (ps := ["_law_actual", "_law_due_here"]) fun _ _ _ _ _ _ us hl => match us, hl with | [_, _], _ => rfl
  have F3 := fun_mk (st := topS 16) l3 c3 k3
  have b3 := F3.binds (ps := ["_law_atom_here", "_law_fact_here", "_law_assignment"]) fun _ _ _ _ _ _ us hl => match us, hl with | [_, _, _], _ => rfl
  have F4 := fun_mk (st := topS 3) l4 c4 k4
  have b4 := F4.binds (ps := ["_law_stream", "_law_many"]) fun _ _ _ _ _ _ us hl => match us, hl with | [_, _], _ => rfl
  have F5 := fun_mk (st := topS 15) l5 c5 k5
  have b5 := F5.binds (ps := ["_law_stream", "_law_words_here", "_law_atom_here", "_law_fact_here"]) fun _ _ _ _ _ _ us hl => match us, hl with | [_, _, _, _], _ => rfl
  have F6 := fun_mk (st := topS 9) l6 c6 k6
  have b6 := F6.binds (ps := ["_law_stream", "_law_words_here", "_law_numbers_here"]) fun _ _ _ _ _ _ us hl => match us, hl with | [_, _, _], _ => rfl
  have F7 := fun_mk (st := topS 11) l7 c7 k7
  have b7 := F7.binds (ps := ["_law_stream", "_law_most"]) fun _ _ _ _ _ _ us hl => match us, hl with | [_, _], _ => rfl
  have F8 := fun_mk (st := topS 14) l8 c8 k8
  have b8 := F8.binds (ps := ["_law_stream", "_law_schema_here", "_law_words_here", "_law_fact_here"]) fun _ _ _ _ _ _ us hl => match us, hl with | [_, _, _, _], _ => rfl
  have F9 := fun_mk (st := topS 8) l9 c9 k9
  have b9 := F9.binds (ps := ["_law_stream", "_law_schema_here", "_law_words_here"]) fun _ _ _ _ _ _ us hl => match us, hl with | [_, _, _], _ => rfl
  have F10 := fun_mk (st := topS 5) l10 c10 k10
  have b10 := F10.binds (ps := ["_law_stream"]) fun _ _ _ _ _ _ us hl => match us, hl with | [_], _ => rfl
  have F11 := fun_mk (st := topS 6) l11 c11 k11
  have b11 := F11.binds (ps := ["_law_stream", "_law_many"]) fun _ _ _ _ _ _ us hl => match us, hl with | [_, _], _ => rfl
  have F12 := fun_mk (st := topS 7) l12 c12 k12
  have b12 := F12.binds (ps := ["_law_stream", "_law_most"]) fun _ _ _ _ _ _ us hl => match us, hl with | [_, _], _ => rfl
  have F13 := fun_mk (st := topS 17) l13 c13 k13
  have b13 := F13.binds (ps := ["_law_script"]) fun _ _ _ _ _ _ us hl => match us, hl with | [_], _ => rfl
  refine ⟨PySem.W.fnOf "law" "law" (defArgs (topS 17)) (defBody (topS 17)) (defScope (topS 17)) .none kV13 dc13 pm13 an13 cd13 ct13, fun s v => .of_eq rfl, fun base _ _ => ?_⟩
  have d1 : DOk l.prog w K mg base ([]) 1 "unify" e_unify := dOk_of (k := 0) F1 (PySem.W.mg_of X G a1) b1 s_unify C c_unify (dl_nil)
  have d2 : ∀ n : Nat, DOk l.prog w K mg base ([]) (n + 2) "_law_same" (e__law_same n) := fun n => by
    induction n with
    | zero => exact dOk_0 F2 (PySem.W.mg_of X G a2) b2 s__law_same
    | succ n ih => exact (show n + 1 + 2 = (n + 2) + 1 by omega) ▸ dOk_of (k := n + 2) F2 (PySem.W.mg_of X G a2) b2 s__law_same C (c__law_same (m__law_same n)) (dl_cons ih (dl_nil))
  have d3 : DOk l.prog w K mg base ([]) 15 "_law_due" e__law_due := dOk_of (k := 14) F3 (PySem.W.mg_of X G a3) b3 s__law_due C c__law_due (dl_nil)
  have d4 : DOk l.prog w K mg base ([]) 16 "_law_draw" e__law_draw := dOk_of (k := 15) F4 (PySem.W.mg_of X G a4) b4 s__law_draw C c__law_draw (dl_nil)
  have d5 : DOk l.prog w K mg base ([]) 17 "_law_given" e__law_given := dOk_of (k := 16) F5 (PySem.W.mg_of X G a5) b5 s__law_given C c__law_given (dl_cons (d4.mono (by omega)) (dl_nil))
  have d6 : DOk l.prog w K mg base ([]) 18 "_law_term" e__law_term := dOk_of (k := 17) F6 (PySem.W.mg_of X G a6) b6 s__law_term C c__law_term (dl_cons (d4.mono (by omega)) (dl_nil))
  have d7 : DOk l.prog w K mg base ([]) 19 "_law_numbers" e__law_numbers := dOk_of (k := 18) F7 (PySem.W.mg_of X G a7) b7 s__law_numbers C c__law_numbers (dl_cons (d4.mono (by omega)) (dl_nil))
  have d8 : DOk l.prog w K mg base ([]) 20 "_law_atom" e__law_atom := dOk_of (k := 19) F8 (PySem.W.mg_of X G a8) b8 s__law_atom C c__law_atom (dl_cons (d4.mono (by omega)) (dl_cons (d6.mono (by omega)) (dl_cons (d7.mono (by omega)) (dl_nil))))
  have d9 : DOk l.prog w K mg base ([]) 21 "_law_fact" e__law_fact := dOk_of (k := 20) F9 (PySem.W.mg_of X G a9) b9 s__law_fact C c__law_fact (dl_cons (d4.mono (by omega)) (dl_nil))
  have d10 : DOk l.prog w K mg base ([]) 22 "_law_word" e__law_word := dOk_of (k := 21) F10 (PySem.W.mg_of X G a10) b10 s__law_word C c__law_word (dl_cons (d4.mono (by omega)) (dl_nil))
  have d11 : DOk l.prog w K mg base ([]) 23 "_law_words" e__law_words := dOk_of (k := 22) F11 (PySem.W.mg_of X G a11) b11 s__law_words C c__law_words (dl_cons (d4.mono (by omega)) (dl_cons (d10.mono (by omega)) (dl_nil)))
  have d12 : DOk l.prog w K mg base ([]) 24 "_law_schema" e__law_schema := dOk_of (k := 23) F12 (PySem.W.mg_of X G a12) b12 s__law_schema C c__law_schema (dl_cons (d11.mono (by omega)) (dl_cons (d4.mono (by omega)) (dl_nil)))
  exact fnOk_of (k := 24) F13 s_law C (dl_cons (d1.mono (by omega)) (dl_cons ((d2 12).mono (by omega)) (dl_cons (d3.mono (by omega)) (dl_cons (d5.mono (by omega)) (dl_cons (d8.mono (by omega)) (dl_cons (d9.mono (by omega)) (dl_cons (d12.mono (by omega)) (dl_cons (d11.mono (by omega)) (dl_nil))))))))) c_law
end L17

open PySem PySem.W PyProof.Rows
set_option maxHeartbeats 0 in
theorem PySem.Challenge.cw_wishshown_k17_unify_an_atom_holds : PySem.Challenge.rw_wishshown_k17_unify_an_atom.Holds := by
  w_on; o_law; k_head; (case hw => w_witness2)
  k_fill
  refine L2.walk_of (l := PySem.Challenge.rw_wishshown_k17_unify_an_atom) (n := 63) (k := 25) (x := "_law_script") (CX := fun _ => L2.CX0) (sp := fun w => Pv.spD _ [] L17.e_law) rfl (by decide) rfl ⟨rfl, by decide, by decide⟩ (fun w h Y => PySem.W.kIn_of Y) ?F (fun w _ a ns hl _ hS => Pv.sp_law (by rfl) rfl rfl (L17.law_true ns hl) hS) (fun _ _ _ _ _ h => h)
  case F =>
    intro w mg fa h KX G hmg
    refine' L17.all_of KX G hmg ?a1 ?l1 ?c1 ?k1 ?a2 ?l2 ?c2 ?k2 ?a3 ?l3 ?c3 ?k3 ?a4 ?l4 ?c4 ?k4 ?a5 ?l5 ?c5 ?k5 ?a6 ?l6 ?c6 ?k6 ?a7 ?l7 ?c7 ?k7 ?a8 ?l8 ?c8 ?k8 ?a9 ?l9 ?c9 ?k9 ?a10 ?l10 ?c10 ?k10 ?a11 ?l11 ?c11 ?k11 ?a12 ?l12 ?c12 ?k12 ?a13 ?l13 ?c13 ?k13 ?z0 ?z1 ?z2 ?z3 ?z4 ?z5 ?z6 ?z7 ?z8 ?z9 ?z10 ?z11
    (case a1 => k_is); (case l1 => k_is); (case c1 => k_is); (case k1 => k_is); (case a2 => k_is); (case l2 => k_is); (case c2 => k_is); (case k2 => k_is); (case a3 => k_is); (case l3 => k_is); (case c3 => k_is); (case k3 => k_is); (case a4 => k_is); (case l4 => k_is); (case c4 => k_is); (case k4 => k_is); (case a5 => k_is); (case l5 => k_is); (case c5 => k_is); (case k5 => k_is); (case a6 => k_is); (case l6 => k_is); (case c6 => k_is); (case k6 => k_is); (case a7 => k_is); (case l7 => k_is); (case c7 => k_is); (case k7 => k_is); (case a8 => k_is); (case l8 => k_is); (case c8 => k_is); (case k8 => k_is); (case a9 => k_is); (case l9 => k_is); (case c9 => k_is); (case k9 => k_is); (case a10 => k_is); (case l10 => k_is); (case c10 => k_is); (case k10 => k_is); (case a11 => k_is); (case l11 => k_is); (case c11 => k_is); (case k11 => k_is); (case a12 => k_is); (case l12 => k_is); (case c12 => k_is); (case k12 => k_is); (case a13 => k_is); (case l13 => k_is); (case c13 => k_is); (case k13 => k_is); (case z0 => k_is); (case z1 => k_is); (case z2 => k_is); (case z3 => k_is); (case z4 => k_is); (case z5 => k_is); (case z6 => k_is); (case z7 => k_is); (case z8 => k_is); (case z9 => k_is); (case z10 => k_is); (case z11 => k_is)

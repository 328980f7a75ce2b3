import PyProof.Rows.All
import Wide.All
import OpenK.AllK
import Wide.FinOn
import HandS.ForMost
import HandS.ForExc
import HandS.Lambda
import HandS.EndTab
import KE.KNest
import HandS.Deep
import HandS.TupAny
import HandS.TupMul
import HandS.IsInst
import HandS.Conv
import HandS.SortInts
import HandS.Strs
import HandS.Set
import KE.SortData
import HandS.Walk
import HandS.Zip
import HandS.SetFor
import HandS.WrittenGet
import Wide.Loose
import HandS.HeadHook3
import HandS.Ends
import HandS.TryMany
import HandS.Dict
import PyProof.EnumMake
import PyProof.Draws
import PyProof.TupleIter
import KE.GoesMore
import HandS.Iter
import KE.KDictPairs
import HandS.Style
import HandS.Small
import KE.SortCalls
import KE.LtData
import HandS.More
import PySem.Challenge.RW_walkcounts_k11_whole_stretches_best_coun
import HandS.Text
set_option Elab.async false
set_option linter.all false
set_option maxRecDepth 100000
set_option maxHeartbeats 4000000
/-! Data over the heap: what a value bears as plain data, frozen or owned; the basic relations. -/
namespace Dk
open PySem PySem.Spec L2

abbrev D := PyData
/-- a value that is held: plain data, or one of the owned (changing) objects -/
inductive OV where
  | dat (d : D)
  | own (n : Nat)
structure Exn where
  cls : Str
  arg : Option (Str × D)
/-- an answer: a value or an error, with the owned objects behind it -/
abbrev Rs (α : Type) := Option (Sum α Exn × List D)
abbrev Sto := List D
abbrev Env1 := List (Option OV)
def Rs.bind {α β : Type} (r : Rs α) (k : α → Sto → Rs β) : Rs β :=
  match r with
  | none => none
  | some (.inr e, S) => some (.inr e, S)
  | some (.inl a, S) => k a S
def ret {α : Type} (a : α) (S : Sto) : Rs α := some (.inl a, S)

/-! ### the frozen part of a heap: what is not owned, and no table of code objects -/
def noTb : Option HO → Option HO
  | some (.tbl _) => none
  | o => o
theorem noTb_some {x : Option HO} {o : HO} (h : noTb x = some o) : x = some o ∧ ∀ ps, o ≠ .tbl ps := by
  unfold noTb at h
  split at h
  · cases h
  · rename_i n
    refine ⟨h, fun ps z => ?_⟩
    subst z
    exact n ps h
theorem noTb_of {x : Option HO} {o : HO} (h : x = some o) (n : ∀ ps, o ≠ .tbl ps) : noTb x = some o := by
  subst h
  unfold noTb
  split
  · rename_i ps z
    exact absurd (Option.some.inj z) (n ps)
  · rfl
def mask (L : List Addr) (H : Hp) : Hp := fun a => if a ∈ L then none else noTb (H a)
theorem mask_some {L : List Addr} {H : Hp} {a : Addr} {o : HO} (h : mask L H a = some o) : a ∉ L ∧ H a = some o := by
  unfold mask at h
  split at h
  · cases h
  · exact ⟨by assumption, (noTb_some h).1⟩
theorem mask_nt {L : List Addr} {H : Hp} {a : Addr} {o : HO} (h : mask L H a = some o) : ∀ ps, o ≠ .tbl ps := by
  unfold mask at h
  split at h
  · cases h
  · exact (noTb_some h).2
theorem mask_of {L : List Addr} {H : Hp} {a : Addr} {o : HO} (h : a ∉ L) (e : H a = some o) (n : ∀ ps, o ≠ .tbl ps := by intro _ z; cases z) : mask L H a = some o := by
  unfold mask
  rw [if_neg h]
  exact noTb_of e n
theorem mask_same (L : List Addr) (H : Hp) : Same (mask L H) H := fun a o h => (mask_some h).2
theorem mask_less {L M : List Addr} {H : Hp} (h : ∀ a ∈ M, a ∈ L) : Same (mask L H) (mask M H) := fun a o e => by
  obtain ⟨h1, h2⟩ := mask_some e
  exact mask_of (fun z => h1 (h a z)) h2 (mask_nt e)

/-! ### the tables of the defs that make lambdas -/
def tabNames : List Str := ["law", "_law_right", "_law_judged", "_law_refuses", "_law_both", "_law_trials_right", "_law_full_right", "_law_booked", "_law_others", "_law_told_right", "_law_inward"]
def lamQ (x : Str) : Str := x ++ ".<locals>." ++ "<lambda>"
def tabCs (K : PySem.W.Frag) : List (Str × Addr × Addr) := tabNames.filterMap fun x => (PySem.W.tabIn K x).map fun cp => (x, cp)
def tabsOf (K : PySem.W.Frag) : List (Addr × Str) := (tabCs K).map fun p => (p.2.2, lamQ p.1)
theorem tabs_but {T : List (Addr × Str)} {H H' : Hp} {p : Addr} {z : HO} (t : LamX.Tabs T H) (hp : H p = some z) (n1 : ∀ ps, z ≠ .tbl ps) (n2 : ∀ c q, z ≠ LamX.CodeO c q) (e : ∀ b o, b ≠ p → H b = some o → H' b = some o) : LamX.Tabs T H' := fun x hx => by
  obtain ⟨ps, h1, h2, h3⟩ := t x hx
  refine ⟨ps, e _ _ (fun q => ?_) h1, h2, fun pos cv hc => ?_⟩
  · rw [q, hp] at h1
    exact n1 ps (Option.some.inj h1)
  · obtain ⟨c, e1, e2⟩ := h3 pos cv hc
    refine ⟨c, e1, e _ _ (fun q => ?_) e2⟩
    rw [q, hp] at e2
    exact n2 _ _ (Option.some.inj e2)
theorem same_rd {H H' : Hp} {a : Addr} {u : HO} (e : Same H H') (h : Rd H a u) : Rd H' a u := by
  rcases h with h | ⟨o, h⟩
  · exact .inl (e _ _ h)
  · exact .inr ⟨o, e _ _ h⟩
theorem same_l {K : PySem.W.Frag} {H H' : Hp} {a : Addr} {xs : List V} (e : Same H H') (h : SqL K H a xs) : SqL K H' a xs := by
  rcases h with h | h
  · exact .inl (same_rd e h)
  · exact .inr h
theorem same_t {K : PySem.W.Frag} {H H' : Hp} {a : Addr} {xs : List V} (e : Same H H') (h : SqT K H a xs) : SqT K H' a xs := by
  rcases h with h | h
  · exact .inl (same_rd e h)
  · exact .inr h

/-! ### a value bears data -/
def keyD : Key → D
  | .inl i => .int i
  | .inr x => .str x
def keysD (ks : List Key) : D := .tuple (ks.map keyD)

mutual
inductive Rep (K : PySem.W.Frag) (G : Hp) : V → D → Prop
  | non : Rep K G .non .none
  | bl (b : Bool) : Rep K G (.bl b) (.bool b)
  | int (i : Int) : Rep K G (.int i) (.int i)
  | str (x : Str) : Rep K G (.str x) (.str x)
  | lst {a : Addr} {vs : List V} {ds : List D} : SqL K G a vs → Reps K G vs ds → Rep K G (.ref a) (.list ds)
  | tup {a : Addr} {vs : List V} {ds : List D} : G a = some (.tup vs) → Reps K G vs ds → Rep K G (.ref a) (.tuple ds)
  | dk {a : Addr} {ks : List Key} {vs : List V} {ds : List D} : ks.length = vs.length → G a = some (.dK (ks.zip vs)) → Reps K G vs ds → Rep K G (.ref a) (.dict ((ks.map keyD).zip ds))
  | dt {a : Addr} {ks : List (List Key)} {vs : List V} {ds : List D} : ks.length = vs.length → G a = some (.dT (ks.zip vs)) → Reps K G vs ds → Rep K G (.ref a) (.dict ((ks.map keysD).zip ds))
inductive Reps (K : PySem.W.Frag) (G : Hp) : List V → List D → Prop
  | nil : Reps K G [] []
  | cons {v : V} {vs : List V} {d : D} {ds : List D} : Rep K G v d → Reps K G vs ds → Reps K G (v :: vs) (d :: ds)
end

section
variable {K : PySem.W.Frag} {G G' : Hp}
mutual
theorem Rep.mono (e : Same G G') : ∀ {v : V} {d : D}, Rep K G v d → Rep K G' v d
  | _, _, .non => .non
  | _, _, .bl b => .bl b
  | _, _, .int i => .int i
  | _, _, .str x => .str x
  | _, _, .lst h r => .lst (same_l e h) (Reps.mono e r)
  | _, _, .tup h r => .tup (e _ _ h) (Reps.mono e r)
  | _, _, .dk hl h r => .dk hl (e _ _ h) (Reps.mono e r)
  | _, _, .dt hl h r => .dt hl (e _ _ h) (Reps.mono e r)
theorem Reps.mono (e : Same G G') : ∀ {vs : List V} {ds : List D}, Reps K G vs ds → Reps K G' vs ds
  | _, _, .nil => .nil
  | _, _, .cons h r => .cons (Rep.mono e h) (Reps.mono e r)
end
theorem Reps.length : ∀ {vs : List V} {ds : List D}, Reps K G vs ds → vs.length = ds.length
  | _, _, .nil => rfl
  | _, _, .cons _ r => congrArg (· + 1) (Reps.length r)
theorem Reps.get : ∀ {vs : List V} {ds : List D} {i : Nat} {v : V}, Reps K G vs ds → vs[i]? = some v → ∃ d, ds[i]? = some d ∧ Rep K G v d
  | _, _, _, _, .nil, e => by simp at e
  | _, _, 0, _, .cons h _, e => by simp at e; subst e; exact ⟨_, rfl, h⟩
  | _, _, i + 1, v, .cons _ r, e => by
    obtain ⟨d, h1, h2⟩ := Reps.get (i := i) (v := v) r (by simpa using e)
    exact ⟨d, by simpa using h1, h2⟩
theorem Reps.at_ : ∀ {vs : List V} {ds : List D} {i : Nat} {d : D}, Reps K G vs ds → ds[i]? = some d → ∃ v, vs[i]? = some v ∧ Rep K G v d
  | _, _, _, _, .nil, e => by simp at e
  | _, _, 0, _, .cons h _, e => by simp at e; subst e; exact ⟨_, rfl, h⟩
  | _, _, i + 1, d, .cons _ r, e => by
    obtain ⟨v, h1, h2⟩ := Reps.at_ (i := i) (d := d) r (by simpa using e)
    exact ⟨v, by simpa using h1, h2⟩
theorem Reps.append : ∀ {vs ws : List V} {ds es : List D}, Reps K G vs ds → Reps K G ws es → Reps K G (vs ++ ws) (ds ++ es)
  | _, _, _, _, .nil, s => s
  | _, _, _, _, .cons h r, s => .cons h (Reps.append r s)
theorem Reps.take : ∀ {vs : List V} {ds : List D} (n : Nat), Reps K G vs ds → Reps K G (vs.take n) (ds.take n)
  | _, _, 0, _ => .nil
  | _, _, _ + 1, .nil => .nil
  | _, _, n + 1, .cons h r => .cons h (Reps.take n r)
theorem Reps.drop : ∀ {vs : List V} {ds : List D} (n : Nat), Reps K G vs ds → Reps K G (vs.drop n) (ds.drop n)
  | _, _, 0, r => r
  | _, _, _ + 1, .nil => .nil
  | _, _, n + 1, .cons _ r => Reps.drop n r
theorem Reps.set {v : V} {d : D} (h : Rep K G v d) : ∀ {vs : List V} {ds : List D} (i : Nat), Reps K G vs ds → Reps K G (vs.set i v) (ds.set i d)
  | _, _, _, .nil => .nil
  | _, _, 0, .cons _ r => .cons h r
  | _, _, i + 1, .cons q r => .cons q (Reps.set h i r)
theorem Reps.eraseIdx : ∀ {vs : List V} {ds : List D} (i : Nat), Reps K G vs ds → Reps K G (vs.eraseIdx i) (ds.eraseIdx i)
  | _, _, _, .nil => .nil
  | _, _, 0, .cons _ r => r
  | _, _, i + 1, .cons q r => .cons q (Reps.eraseIdx i r)
theorem Reps.one {v : V} {d : D} (h : Rep K G v d) : Reps K G [v] [d] := .cons h .nil

/-- plain data as the layer's own reading has it -/
theorem canLayAll_cons {x : D} {xs : List D} (h : PyData.canLayAll0 (x :: xs) = true) : PyData.canLay0 x = true ∧ PyData.canLayAll0 xs = true := by
  simpa [PyData.canLayAll0] using h
mutual
theorem Rep.dp : ∀ {v : V} {d : D}, Rep K G v d → PyData.canLay0 d = true → Dp K G v d
  | _, _, .non, _ => .non
  | _, _, .bl b, _ => .bl b
  | _, _, .int i, _ => .int i
  | _, _, .str x, _ => .str x
  | _, _, .lst h r, c => .lst h (Reps.dp r (by simpa [PyData.canLay0] using c))
  | _, _, .tup h r, c => .tup (SqT.of h) (Reps.dp r (by simpa [PyData.canLay0] using c))
  | _, _, .dk _ _ _, c => by simp [PyData.canLay0] at c
  | _, _, .dt _ _ _, c => by simp [PyData.canLay0] at c
theorem Reps.dp : ∀ {vs : List V} {ds : List D}, Reps K G vs ds → PyData.canLayAll0 ds = true → DpAll K G vs ds
  | _, _, .nil, _ => .nil
  | _, _, .cons h r, c => .cons (Rep.dp h (canLayAll_cons c).1) (Reps.dp r (canLayAll_cons c).2)
end
/-- ints, texts, bools in a row -/
theorem Reps.ints : ∀ {vs : List V} {ns : List Int}, Reps K G vs (ns.map .int) → vs = ns.map V.int
  | _, [], .nil => rfl
  | _, _ :: _, .cons (.int _) r => congrArg (V.int _ :: ·) (Reps.ints r)
theorem Reps.of_ints : ∀ ns : List Int, Reps K G (ns.map V.int) (ns.map .int)
  | [] => .nil
  | n :: ns => .cons (.int n) (Reps.of_ints ns)
theorem Reps.bools : ∀ {vs : List V} {bs : List Bool}, Reps K G vs (bs.map .bool) → vs = bs.map V.bl
  | _, [], .nil => rfl
  | _, _ :: _, .cons (.bl _) r => congrArg (V.bl _ :: ·) (Reps.bools r)
theorem Reps.strs : ∀ {vs : List V} {xs : List Str}, Reps K G vs (xs.map .str) → vs = xs.map V.str
  | _, [], .nil => rfl
  | _, _ :: _, .cons (.str _) r => congrArg (V.str _ :: ·) (Reps.strs r)
theorem Reps.of_strs : ∀ ns : List Str, Reps K G (ns.map V.str) (ns.map .str)
  | [] => .nil
  | n :: ns => .cons (.str n) (Reps.of_strs ns)
end

/-! ### what is owned, and a step from one heap to the next -/
/-- the mark of a dict that is walked just now -/
def lockD : D × D := (.none, .none)
def isLk : List (D × D) → Bool
  | (.none, _) :: _ => true
  | _ => false
def ObjR (K : PySem.W.Frag) (G H : Hp) (a : Addr) : D → Prop
  | .list ds => ∃ vs, H a = some (.lst vs) ∧ Reps K G vs ds
  | .dict kvs => (∃ (ks : List Key) (vs : List V) (ds : List D), ks.length = vs.length ∧ H a = some (.dK (ks.zip vs)) ∧ Reps K G vs ds ∧ kvs = (ks.map keyD).zip ds ∧ ks ≠ []) ∨
      (∃ (ks : List (List Key)) (vs : List V) (ds : List D), ks.length = vs.length ∧ H a = some (.dT (ks.zip vs)) ∧ Reps K G vs ds ∧ kvs = (ks.map keysD).zip ds) ∨
      (∃ (ob : Obj) (ks : List Key) (vs : List V) (ds : List D), ks.length = vs.length ∧ H a = some (.frz ob (.dK (ks.zip vs))) ∧ Reps K G vs ds ∧ kvs = lockD :: (ks.map keyD).zip ds ∧ ks ≠ []) ∨
      ∃ (ob : Obj) (ks : List (List Key)) (vs : List V) (ds : List D), ks.length = vs.length ∧ H a = some (.frz ob (.dT (ks.zip vs))) ∧ Reps K G vs ds ∧ kvs = lockD :: (ks.map keysD).zip ds
  | _ => False
structure StoR (K : PySem.W.Frag) (L : List Addr) (H : Hp) (S : Sto) : Prop where
  nd : L.Nodup
  len : L.length = S.length
  obj : ∀ (n : Nat) (a : Addr) (d : D), L[n]? = some a → S[n]? = some d → ObjR K (mask L H) H a d
  tb : LamX.Tabs (tabsOf K) H
structure Step (L : List Addr) (H : Hp) (L' : List Addr) (H' : Hp) : Prop where
  frz : Same (mask L H) (mask L' H')
  pre : ∃ M, L' = L ++ M
  fz : ∀ b ob u, H b = some (.frz ob u) → H' b = some (.frz ob u)
def RepO (K : PySem.W.Frag) (L : List Addr) (H : Hp) (v : V) : OV → Prop
  | .dat d => Rep K (mask L H) v d
  | .own n => ∃ a, v = .ref a ∧ L[n]? = some a
def EnvR (K : PySem.W.Frag) (L : List Addr) (H : Hp) (σ : St) (ρ : Env1) : Prop :=
  σ.length = ρ.length ∧ ∀ (i : Nat) (o : OV), ρ[i]? = some (some o) → ∃ v, σ[i]? = some (some v) ∧ RepO K L H v o
inductive RepOs (K : PySem.W.Frag) (L : List Addr) (H : Hp) : List V → List OV → Prop
  | nil : RepOs K L H [] []
  | cons {v : V} {vs : List V} {o : OV} {os : List OV} : RepO K L H v o → RepOs K L H vs os → RepOs K L H (v :: vs) (o :: os)

section
variable {K : PySem.W.Frag} {L L' L3 : List Addr} {H H' H2 : Hp} {S : Sto}
theorem Step.refl : Step L H L H := ⟨Same.refl _, ⟨[], by simp⟩, fun _ _ _ e => e⟩
theorem Step.trans (a : Step L H L' H') (b : Step L' H' L3 H2) : Step L H L3 H2 := by
  obtain ⟨M, rfl⟩ := a.pre
  obtain ⟨N, rfl⟩ := b.pre
  exact ⟨a.frz.trans b.frz, ⟨M ++ N, by simp⟩, fun c ob u h => b.fz c ob u (a.fz c ob u h)⟩
theorem Step.get (a : Step L H L' H') {n : Nat} {x : Addr} (h : L[n]? = some x) : L'[n]? = some x := by
  obtain ⟨M, rfl⟩ := a.pre
  have hn : n < L.length := by
    rcases Nat.lt_or_ge n L.length with q | q
    · exact q
    · rw [List.getElem?_eq_none q] at h
      cases h
  rw [List.getElem?_append_left hn]
  exact h
theorem RepO.step (a : Step L H L' H') {v : V} : ∀ {o : OV}, RepO K L H v o → RepO K L' H' v o
  | .dat _, h => Rep.mono a.frz h
  | .own _, ⟨x, h1, h2⟩ => ⟨x, h1, a.get h2⟩
theorem RepOs.step (a : Step L H L' H') : ∀ {vs : List V} {os : List OV}, RepOs K L H vs os → RepOs K L' H' vs os
  | _, _, .nil => .nil
  | _, _, .cons h r => .cons (h.step a) (RepOs.step a r)
theorem RepOs.length : ∀ {vs : List V} {os : List OV}, RepOs K L H vs os → vs.length = os.length
  | _, _, .nil => rfl
  | _, _, .cons _ r => congrArg (· + 1) (RepOs.length r)
theorem EnvR.step (a : Step L H L' H') {σ : St} {ρ : Env1} (h : EnvR K L H σ ρ) : EnvR K L' H' σ ρ :=
  ⟨h.1, fun i o e => by
    obtain ⟨v, h1, h2⟩ := h.2 i o e
    exact ⟨v, h1, h2.step a⟩⟩
theorem EnvR.set {σ : St} {ρ : Env1} (h : EnvR K L H σ ρ) {v : V} {o : OV} (r : RepO K L H v o) (i : Nat) : EnvR K L H (σ.set i (some v)) (ρ.set i (some o)) := by
  refine ⟨by rw [List.length_set, List.length_set]; exact h.1, fun j o' e => ?_⟩
  by_cases hij : i = j
  · subst hij
    by_cases hl : i < ρ.length
    · rw [List.getElem?_set_self hl] at e
      cases e
      exact ⟨v, List.getElem?_set_self (by rw [h.1]; exact hl), r⟩
    · rw [List.getElem?_eq_none (by rw [List.length_set]; omega)] at e
      cases e
  · rw [List.getElem?_set_ne hij] at e ⊢
    exact h.2 j o' e
theorem EnvR.get {σ : St} {ρ : Env1} (h : EnvR K L H σ ρ) {i : Nat} {o : OV} (e : ρ[i]? = some (some o)) : ∃ v, σ[i]? = some (some v) ∧ RepO K L H v o := h.2 i o e
theorem EnvR.wipe {σ : St} {ρ : Env1} (h : EnvR K L H σ ρ) (i : Nat) : EnvR K L H (σ.set i none) (ρ.set i none) := by
  refine ⟨by rw [List.length_set, List.length_set]; exact h.1, fun j o' e => ?_⟩
  by_cases hij : i = j
  · subst hij
    by_cases hl : i < ρ.length
    · rw [List.getElem?_set_self hl] at e
      cases e
    · rw [List.getElem?_eq_none (by rw [List.length_set]; omega)] at e
      cases e
  · rw [List.getElem?_set_ne hij] at e ⊢
    exact h.2 j o' e

theorem ObjR.some {G : Hp} {a : Addr} : ∀ {d : D}, ObjR K G H a d → ∃ o, H a = some o
  | .list _, ⟨_, h, _⟩ => ⟨_, h⟩
  | .dict _, .inl ⟨_, _, _, _, h, _⟩ => ⟨_, h⟩
  | .dict _, .inr (.inl ⟨_, _, _, _, h, _⟩) => ⟨_, h⟩
  | .dict _, .inr (.inr (.inl ⟨_, _, _, _, _, h, _⟩)) => ⟨_, h⟩
  | .dict _, .inr (.inr (.inr ⟨_, _, _, _, _, h, _⟩)) => ⟨_, h⟩
theorem objR_kind {G : Hp} {a : Addr} : ∀ {d : D}, ObjR K G H a d → ∃ o, H a = some o ∧ (∀ ps, o ≠ .tbl ps) ∧ ∀ c q, o ≠ LamX.CodeO c q
  | .list _, ⟨_, h, _⟩ => ⟨_, h, fun _ z => (by cases z), fun _ _ z => (by unfold LamX.CodeO at z; cases z)⟩
  | .dict _, .inl ⟨_, _, _, _, h, _⟩ => ⟨_, h, fun _ z => (by cases z), fun _ _ z => (by unfold LamX.CodeO at z; cases z)⟩
  | .dict _, .inr (.inl ⟨_, _, _, _, h, _⟩) => ⟨_, h, fun _ z => (by cases z), fun _ _ z => (by unfold LamX.CodeO at z; cases z)⟩
  | .dict _, .inr (.inr (.inl ⟨_, _, _, _, _, h, _⟩)) => ⟨_, h, fun _ z => (by cases z), fun _ _ z => (by unfold LamX.CodeO at z; cases z)⟩
  | .dict _, .inr (.inr (.inr ⟨_, _, _, _, _, h, _⟩)) => ⟨_, h, fun _ z => (by cases z), fun _ _ z => (by unfold LamX.CodeO at z; cases z)⟩
/-- an owned address is tracked -/
theorem StoR.there (s : StoR K L H S) {a : Addr} (h : a ∈ L) : ∃ o, H a = some o := by
  obtain ⟨n, hn, e⟩ := List.mem_iff_getElem.mp h
  have h1 : L[n]? = some a := by rw [List.getElem?_eq_getElem hn, e]
  have h2 : S[n]? = some (S[n]'(by rw [← s.len]; exact hn)) := List.getElem?_eq_getElem _
  exact (s.obj n a _ h1 h2).some
theorem StoR.new (s : StoR K L H S) {p : Addr} (h : H p = none) : p ∉ L := fun z => by
  obtain ⟨o, e⟩ := s.there z
  rw [h] at e
  cases e
theorem ObjR.mono {G G' : Hp} {a : Addr} (e : Same G G') (k : H' a = H a) : ∀ {d : D}, ObjR K G H a d → ObjR K G' H' a d
  | .list _, ⟨vs, h, r⟩ => ⟨vs, k.trans h, Reps.mono e r⟩
  | .dict _, .inl ⟨ks, vs, ds, h1, h, r, q⟩ => .inl ⟨ks, vs, ds, h1, k.trans h, Reps.mono e r, q⟩
  | .dict _, .inr (.inl ⟨ks, vs, ds, h1, h, r, q⟩) => .inr (.inl ⟨ks, vs, ds, h1, k.trans h, Reps.mono e r, q⟩)
  | .dict _, .inr (.inr (.inl ⟨ob, ks, vs, ds, h1, h, r, q⟩)) => .inr (.inr (.inl ⟨ob, ks, vs, ds, h1, k.trans h, Reps.mono e r, q⟩))
  | .dict _, .inr (.inr (.inr ⟨ob, ks, vs, ds, h1, h, r, q⟩)) => .inr (.inr (.inr ⟨ob, ks, vs, ds, h1, k.trans h, Reps.mono e r, q⟩))
/-- a new object is laid -/
theorem mask_upd_new {p : Addr} {o : HO} (h : H p = none) : Same (mask L H) (mask L (upd H p o)) := fun a u e => by
  obtain ⟨h1, h2⟩ := mask_some e
  refine mask_of h1 ?_ (mask_nt e)
  rw [upd_ne (ne_of_none h2 h)]
  exact h2
theorem step_new {p : Addr} {o : HO} (h : H p = none) : Step L H L (upd H p o) := ⟨mask_upd_new h, ⟨[], by simp⟩, fun b ob u e => by rw [upd_ne (ne_of_none e h)]; exact e⟩
theorem StoR.laid (s : StoR K L H S) {p : Addr} {o : HO} (h : H p = none) : StoR K L (upd H p o) S :=
  ⟨s.nd, s.len, fun n a d h1 h2 => (s.obj n a d h1 h2).mono (mask_upd_new h) (upd_ne fun e => by
    have := s.there (List.mem_of_getElem? h1)
    rw [e, h] at this
    obtain ⟨_, z⟩ := this
    cases z), s.tb.ext fun b u e => by rw [upd_ne (ne_of_none e h)]; exact e⟩
/-- a new owned object -/
theorem mask_own_new {p : Addr} {o : HO} (h : H p = none) : mask (L ++ [p]) (upd H p o) = mask L H := by
  funext a
  unfold mask
  by_cases hp : a = p
  · subst hp
    by_cases ha : a ∈ L
    · rw [if_pos ha, if_pos (by simp [ha])]
    · rw [if_neg ha, if_pos (by simp), h]
      rfl
  · by_cases ha : a ∈ L
    · rw [if_pos ha, if_pos (by simp [ha])]
    · rw [if_neg ha, if_neg (by simp [ha, hp]), upd_ne hp]
theorem StoR.own (s : StoR K L H S) {p : Addr} {o : HO} (h : H p = none) {d : D} (od : ObjR K (mask L H) (upd H p o) p d) : Step L H (L ++ [p]) (upd H p o) ∧ StoR K (L ++ [p]) (upd H p o) (S ++ [d]) := by
  have hp := s.new h
  refine ⟨⟨by rw [mask_own_new h]; exact Same.refl _, ⟨[p], rfl⟩, fun b ob u e => by rw [upd_ne (ne_of_none e h)]; exact e⟩, ?_, by simp [s.len], fun n a e h1 h2 => ?_, s.tb.ext fun b u e => by rw [upd_ne (ne_of_none e h)]; exact e⟩
  · rw [List.nodup_append]
    exact ⟨s.nd, by simp, fun x hx y hy e => by
      simp at hy
      subst hy
      subst e
      exact hp hx⟩
  · rw [mask_own_new h]
    rcases Nat.lt_or_ge n L.length with q | q
    · rw [List.getElem?_append_left q] at h1
      rw [List.getElem?_append_left (by rw [← s.len]; exact q)] at h2
      refine (s.obj n a e h1 h2).mono (Same.refl _) (upd_ne fun z => ?_)
      exact hp (z ▸ List.mem_of_getElem? h1)
    · rw [List.getElem?_append_right q] at h1
      rw [List.getElem?_append_right (by rw [← s.len]; exact q)] at h2
      have e1 : n - L.length = 0 := by
        cases hz : n - L.length with
        | zero => rfl
        | succ k =>
          rw [hz] at h1
          simp at h1
      rw [e1] at h1
      rw [← s.len, e1] at h2
      simp at h1 h2
      subst h1
      subst h2
      exact od
/-- an owned object is changed -/
theorem mask_upd_own {p : Addr} {o : HO} (h : p ∈ L) : mask L (upd H p o) = mask L H := by
  funext a
  unfold mask
  by_cases ha : a ∈ L
  · rw [if_pos ha, if_pos ha]
  · have hne : a ≠ p := fun e => ha (by rw [e]; exact h)
    rw [if_neg ha, if_neg ha, upd_ne hne]
theorem nf_of {p : Addr} {o : HO} (e : H p = some o) (n : ∀ ob u, o ≠ .frz ob u := by intro _ _ z; cases z) : ∀ ob u, H p ≠ some (.frz ob u) := fun ob u z => by
  rw [e] at z
  exact n _ _ (Option.some.inj z)
theorem StoR.wr (s : StoR K L H S) {n : Nat} {p : Addr} {o : HO} (hp : L[n]? = some p) {d : D} (od : ObjR K (mask L H) (upd H p o) p d) : StoR K L (upd H p o) (S.set n d) := by
  have hm := List.mem_of_getElem? hp
  obtain ⟨u, hu, n1, n2⟩ : ∃ u, H p = some u ∧ (∀ ps, u ≠ .tbl ps) ∧ ∀ c q, u ≠ LamX.CodeO c q := by
    have hl : n < S.length := by
      rw [← s.len]
      exact (List.getElem?_eq_some_iff.mp hp).1
    exact objR_kind (s.obj n p _ hp (List.getElem?_eq_getElem hl))
  refine ⟨s.nd, by simp [s.len], fun j a e h1 h2 => ?_, tabs_but s.tb hu n1 n2 fun b v hb e => by rw [upd_ne hb]; exact e⟩
  rw [mask_upd_own hm]
  by_cases hj : n = j
  · subst hj
    rw [hp] at h1
    cases h1
    have hl : n < S.length := by
      rw [← s.len]
      exact (List.getElem?_eq_some_iff.mp hp).1
    rw [List.getElem?_set_self hl] at h2
    cases h2
    exact od
  · rw [List.getElem?_set_ne hj] at h2
    refine (s.obj j a e h1 h2).mono (Same.refl _) (upd_ne fun z => ?_)
    subst z
    have q1 := (List.getElem?_eq_some_iff.mp hp)
    have q2 := (List.getElem?_eq_some_iff.mp h1)
    exact hj (List.getElem_inj s.nd |>.mp (q1.2.trans q2.2.symm))
theorem StoR.write (s : StoR K L H S) {n : Nat} {p : Addr} {o : HO} (hp : L[n]? = some p) {d : D} (od : ObjR K (mask L H) (upd H p o) p d) (nf : ∀ ob u, H p ≠ some (.frz ob u)) : Step L H L (upd H p o) ∧ StoR K L (upd H p o) (S.set n d) :=
  ⟨⟨by rw [mask_upd_own (List.mem_of_getElem? hp)]; exact Same.refl _, ⟨[], by simp⟩, fun b ob u e => by
    rw [upd_ne (show b ≠ p from fun z => nf ob u (by rw [← z]; exact e))]
    exact e⟩, s.wr hp od⟩

/-! ### looking at a held value -/
def view (S : Sto) : OV → Option D
  | .dat d => some d
  | .own n => S[n]?
theorem view_list {v : V} {ds : List D} : ∀ {o : OV}, view S o = some (.list ds) → RepO K L H v o → StoR K L H S → ∃ a vs, v = .ref a ∧ SqL K H a vs ∧ Reps K (mask L H) vs ds
  | .dat d, e, r, s => by
    cases e
    cases r with
    | lst h1 h2 => exact ⟨_, _, rfl, same_l (mask_same L H) h1, h2⟩
  | .own n, e, ⟨a, h1, h2⟩, s => by
    obtain ⟨vs, q1, q2⟩ := (s.obj n a _ h2 e : ObjR K (mask L H) H a (.list ds))
    exact ⟨a, vs, h1, SqL.of q1, q2⟩
theorem view_tup {v : V} {ds : List D} : ∀ {o : OV}, view S o = some (.tuple ds) → RepO K L H v o → StoR K L H S → ∃ a vs, v = .ref a ∧ SqT K H a vs ∧ Reps K (mask L H) vs ds
  | .dat d, e, r, s => by
    cases e
    cases r with
    | tup h1 h2 => exact ⟨_, _, rfl, SqT.of (mask_same L H _ _ h1), h2⟩
  | .own n, e, ⟨a, h1, h2⟩, s => by
    exact (s.obj n a _ h2 e : ObjR K (mask L H) H a (.tuple ds)).elim
theorem view_int {v : V} {i : Int} : ∀ {o : OV}, view S o = some (.int i) → RepO K L H v o → StoR K L H S → v = .int i
  | .dat d, e, r, s => by
    cases e
    cases r
    rfl
  | .own n, e, ⟨a, h1, h2⟩, s => (s.obj n a _ h2 e : ObjR K (mask L H) H a (.int i)).elim
theorem view_str {v : V} {x : Str} : ∀ {o : OV}, view S o = some (.str x) → RepO K L H v o → StoR K L H S → v = .str x
  | .dat d, e, r, s => by
    cases e
    cases r
    rfl
  | .own n, e, ⟨a, h1, h2⟩, s => (s.obj n a _ h2 e : ObjR K (mask L H) H a (.str x)).elim
theorem view_bool {v : V} {b : Bool} : ∀ {o : OV}, view S o = some (.bool b) → RepO K L H v o → StoR K L H S → v = .bl b
  | .dat d, e, r, s => by
    cases e
    cases r
    rfl
  | .own n, e, ⟨a, h1, h2⟩, s => (s.obj n a _ h2 e : ObjR K (mask L H) H a (.bool b)).elim
theorem view_none {v : V} : ∀ {o : OV}, view S o = some .none → RepO K L H v o → StoR K L H S → v = .non
  | .dat d, e, r, s => by
    cases e
    cases r
    rfl
  | .own n, e, ⟨a, h1, h2⟩, s => (s.obj n a _ h2 e : ObjR K (mask L H) H a .none).elim
/-- what is seen, as plain data over the whole heap -/
theorem view_rep {v : V} {d : D} : ∀ {o : OV}, view S o = some d → RepO K L H v o → StoR K L H S → PyData.canLay0 d = true → Dp K H v d
  | .dat d', e, r, s, c => by
    cases e
    exact Rep.dp (Rep.mono (mask_same L H) r) c
  | .own n, e, ⟨a, h1, h2⟩, s, c => by
    have q := s.obj n a _ h2 e
    subst h1
    cases d with
    | list ds =>
      obtain ⟨vs, q1, q2⟩ := (q : ObjR K (mask L H) H a (.list ds))
      exact .lst (SqL.of q1) (Reps.dp (Reps.mono (mask_same L H) q2) (by simpa [PyData.canLay0] using c))
    | dict _ => simp [PyData.canLay0] at c
    | none => exact q.elim
    | bool _ => exact q.elim
    | int _ => exact q.elim
    | str _ => exact q.elim
    | tuple _ => exact q.elim
theorem new_lst (s : StoR K L H S) {p : Addr} (h : H p = none) {vs : List V} {ds : List D} (r : Reps K (mask L H) vs ds) : Rep K (mask L (upd H p (.lst vs))) (.ref p) (.list ds) :=
  .lst (SqL.of (mask_of (s.new h) upd_same)) (Reps.mono (mask_upd_new h) r)
theorem new_tup (s : StoR K L H S) {p : Addr} (h : H p = none) {vs : List V} {ds : List D} (r : Reps K (mask L H) vs ds) : Rep K (mask L (upd H p (.tup vs))) (.ref p) (.tuple ds) :=
  .tup (mask_of (s.new h) upd_same) (Reps.mono (mask_upd_new h) r)
end
end Dk
set_option Elab.async false
set_option linter.all false
set_option maxRecDepth 100000
set_option maxHeartbeats 4000000
/-! Expressions over data: what a reading answers, and the rules. -/
namespace Dk
open PySem PySem.Spec L2

/-- an error, as it lies behind a raise -/
def ExcR (C : Str → Value) (K : PySem.W.Frag) (L : List Addr) (H : Hp) (e : Exn) (cls : Value) (d : Option Addr) : Prop :=
  cls = C e.cls ∧ match e.arg with
    | none => d = none
    | some (f, x) => ∃ da v, d = some da ∧ H da = some (.xd [(f, v)]) ∧ Rep K (mask L H) v x
structure Post {β : Type} (K : PySem.W.Frag) (C : Str → Value) (W : WX) (L : List Addr) (H : Hp) (σ : L2.St) (S' : Sto) (r : Sum β Exn) (ok : List Addr → Hp → β → Prop) : Prop where
  fine : ∀ b, r = .inl b → ∀ L' H', Step L H L' H' → StoR K L' H' S' → ok L' H' b
  bad : ∀ e, r = .inr e → ∀ L' H', Step L H L' H' → StoR K L' H' S' → ∀ cls d, ExcR C K L' H' e cls d → W cls d σ H'
theorem Post.step {β : Type} {K : PySem.W.Frag} {C : Str → Value} {W : WX} {L L1 : List Addr} {H H1 : Hp} {σ : L2.St} {S' : Sto} {r : Sum β Exn} {ok : List Addr → Hp → β → Prop}
    (p : Post K C W L H σ S' r ok) (a : Step L H L1 H1) : Post K C W L1 H1 σ S' r ok :=
  ⟨fun b e L' H' s => p.fine b e L' H' (a.trans s), fun e he L' H' s => p.bad e he L' H' (a.trans s)⟩

abbrev E1 := Env1 → Sto → Rs OV
abbrev EB := Env1 → Sto → Rs Bool
abbrev EL := Env1 → Sto → Rs (List OV)
/-- what gives a new list -/
abbrev EF := Env1 → Sto → Rs (List D)

section
variable (K : PySem.W.Frag) (C : Str → Value) (W : WX)
def SmE (t : TE) (f : E1) : Prop := ∀ ρ S r S', f ρ S = some (r, S') → ∀ L σ H (Q : VK), EnvR K L H σ ρ → StoR K L H S →
  Post K C W L H σ S' r (fun L' H' o => ∀ v, RepO K L' H' v o → Q v H') → t σ H Q
def SmT (t : TT) (f : EB) : Prop := ∀ ρ S r S', f ρ S = some (r, S') → ∀ L σ H (Q : Bool → Hp → Prop), EnvR K L H σ ρ → StoR K L H S →
  Post K C W L H σ S' r (fun _ H' b => Q b H') → t σ H Q
def SmA (t : TA) (f : EL) : Prop := ∀ ρ S r S', f ρ S = some (r, S') → ∀ L σ H (Q : List V → Hp → Prop), EnvR K L H σ ρ → StoR K L H S →
  Post K C W L H σ S' r (fun L' H' os => ∀ vs, RepOs K L' H' vs os → Q vs H') → t σ H Q
def SmF (t : TE) (f : EF) : Prop := ∀ ρ S r S', f ρ S = some (r, S') → ∀ L σ H (Q : VK), EnvR K L H σ ρ → StoR K L H S →
  Post K C W L H σ S' r (fun L' H' ds => ∀ p vs, H' p = none → Reps K (mask L' H') vs ds → Q (.ref p) (upd H' p (.lst vs))) → t σ H Q
end
section
variable {K : PySem.W.Frag} {C : Str → Value} {W : WX} {β : Type} {ρ : Env1} {S S' : Sto} {r : Sum β Exn} {L : List Addr} {H : Hp} {σ : L2.St} {ok : List Addr → Hp → β → Prop}
theorem SmE.bind {ta : TE} {fa : E1} (ha : SmE K C W ta fa) {k : OV → Sto → Rs β} (h : (fa ρ S).bind k = some (r, S')) (en : EnvR K L H σ ρ) (so : StoR K L H S) (po : Post K C W L H σ S' r ok) {R : VK}
    (go : ∀ a S1 L1 H1 v, k a S1 = some (r, S') → Step L H L1 H1 → StoR K L1 H1 S1 → RepO K L1 H1 v a → EnvR K L1 H1 σ ρ → Post K C W L1 H1 σ S' r ok → R v H1) : ta σ H R := by
  cases e : fa ρ S with
  | none => rw [e] at h; cases h
  | some q =>
    obtain ⟨q, S1⟩ := q
    rw [e] at h
    cases q with
    | inr x =>
      cases h
      exact ha ρ S _ _ e L σ H R en so ⟨fun b z => (by cases z), fun e' he L' H' st so' cls d x => po.bad e' (by cases he; rfl) L' H' st so' cls d x⟩
    | inl a =>
      refine ha ρ S _ _ e L σ H R en so ⟨fun b z L' H' st so' v rv => ?_, fun e' he => by cases he⟩
      cases z
      exact go a S1 L' H' v h st so' rv (en.step st) (po.step st)
theorem SmT.bind {ta : TT} {fa : EB} (ha : SmT K C W ta fa) {k : Bool → Sto → Rs β} (h : (fa ρ S).bind k = some (r, S')) (en : EnvR K L H σ ρ) (so : StoR K L H S) (po : Post K C W L H σ S' r ok) {R : Bool → Hp → Prop}
    (go : ∀ a S1 L1 H1, k a S1 = some (r, S') → Step L H L1 H1 → StoR K L1 H1 S1 → EnvR K L1 H1 σ ρ → Post K C W L1 H1 σ S' r ok → R a H1) : ta σ H R := by
  cases e : fa ρ S with
  | none => rw [e] at h; cases h
  | some q =>
    obtain ⟨q, S1⟩ := q
    rw [e] at h
    cases q with
    | inr x =>
      cases h
      exact ha ρ S _ _ e L σ H R en so ⟨fun b z => (by cases z), fun e' he L' H' st so' cls d x => po.bad e' (by cases he; rfl) L' H' st so' cls d x⟩
    | inl a =>
      refine ha ρ S _ _ e L σ H R en so ⟨fun b z L' H' st so' => ?_, fun e' he => by cases he⟩
      cases z
      exact go a S1 L' H' h st so' (en.step st) (po.step st)
theorem SmA.bind {ta : TA} {fa : EL} (ha : SmA K C W ta fa) {k : List OV → Sto → Rs β} (h : (fa ρ S).bind k = some (r, S')) (en : EnvR K L H σ ρ) (so : StoR K L H S) (po : Post K C W L H σ S' r ok) {R : List V → Hp → Prop}
    (go : ∀ a S1 L1 H1 vs, k a S1 = some (r, S') → Step L H L1 H1 → StoR K L1 H1 S1 → RepOs K L1 H1 vs a → EnvR K L1 H1 σ ρ → Post K C W L1 H1 σ S' r ok → R vs H1) : ta σ H R := by
  cases e : fa ρ S with
  | none => rw [e] at h; cases h
  | some q =>
    obtain ⟨q, S1⟩ := q
    rw [e] at h
    cases q with
    | inr x =>
      cases h
      exact ha ρ S _ _ e L σ H R en so ⟨fun b z => (by cases z), fun e' he L' H' st so' cls d x => po.bad e' (by cases he; rfl) L' H' st so' cls d x⟩
    | inl a =>
      refine ha ρ S _ _ e L σ H R en so ⟨fun b z L' H' st so' v rv => ?_, fun e' he => by cases he⟩
      cases z
      exact go a S1 L' H' v h st so' rv (en.step st) (po.step st)
theorem SmF.bind {ta : TE} {fa : EF} (ha : SmF K C W ta fa) {k : List D → Sto → Rs β} (h : (fa ρ S).bind k = some (r, S')) (en : EnvR K L H σ ρ) (so : StoR K L H S) (po : Post K C W L H σ S' r ok) {R : VK}
    (go : ∀ a S1 L1 H1 p vs, k a S1 = some (r, S') → Step L H L1 H1 → StoR K L1 H1 S1 → H1 p = none → Reps K (mask L1 H1) vs a → EnvR K L1 H1 σ ρ → Post K C W L1 H1 σ S' r ok → R (.ref p) (upd H1 p (.lst vs))) : ta σ H R := by
  cases e : fa ρ S with
  | none => rw [e] at h; cases h
  | some q =>
    obtain ⟨q, S1⟩ := q
    rw [e] at h
    cases q with
    | inr x =>
      cases h
      exact ha ρ S _ _ e L σ H R en so ⟨fun b z => (by cases z), fun e' he L' H' st so' cls d x => po.bad e' (by cases he; rfl) L' H' st so' cls d x⟩
    | inl a =>
      refine ha ρ S _ _ e L σ H R en so ⟨fun b z L' H' st so' p vs hp rv => ?_, fun e' he => by cases he⟩
      cases z
      exact go a S1 L' H' p vs h st so' hp rv (en.step st) (po.step st)
/-- the end of a bind -/
theorem Post.done {S0 : Sto} {b : β} (po : Post K C W L H σ S' r ok) (h : ret b S0 = some (r, S')) {L' : List Addr} {H' : Hp} (st : Step L H L' H') (so : StoR K L' H' S0) : ok L' H' b := by
  cases h
  exact po.fine b rfl L' H' st so
end

/-! ### the judgements: a piece of the text, and the function that it is -/
structure DE (X : Cx) (C : Str → Value) (W : WX) (e : Expr) (f : E1) : Prop where
  ex : ∃ t, PE X e t ∧ SmE X.K C W t f
structure DT (X : Cx) (C : Str → Value) (W : WX) (e : Expr) (f : EB) : Prop where
  ex : ∃ t, PT X e t ∧ SmT X.K C W t f
structure DW (X : Cx) (C : Str → Value) (W : WX) (e : Expr) (f : EB) : Prop where
  ex : ∃ t, PW X e t ∧ SmT X.K C W t f
structure DF (X : Cx) (C : Str → Value) (W : WX) (e : Expr) (f : EF) : Prop where
  ex : ∃ t, PE X e t ∧ SmF X.K C W t f
structure DA (X : Cx) (C : Str → Value) (W : WX) (es : List Expr) (f : EL) : Prop where
  ex : ∃ t, PA X es t ∧ SmA X.K C W t f

/-! ### names, constants -/
def fVar (i : Nat) : E1 := fun ρ S => (ρ[i]?.join).bind fun o => ret o S
def fC (d : D) : E1 := fun _ S => ret (.dat d) S
section
variable {X : Cx} {C : Str → Value} {W : WX}
theorem sm_var {K : PySem.W.Frag} {i : Nat} : SmE K C W (tVar i) (fVar i) := by
  intro ρ S r S' h L σ H Q en so po
  unfold fVar at h
  cases e : ρ[i]? with
  | none => rw [e] at h; cases h
  | some o =>
    cases o with
    | none => rw [e] at h; cases h
    | some o =>
      rw [e] at h
      obtain ⟨v, h1, h2⟩ := en.get e
      exact ⟨v, h1, po.done (S0 := S) h Step.refl so v h2⟩
theorem sm_c {K : PySem.W.Frag} {v : V} {d : D} (hd : ∀ G, Rep K G v d) : SmE K C W (tC v) (fC d) := by
  intro ρ S r S' h L σ H Q en so po
  exact po.done (S0 := S) h Step.refl so v (hd _)
theorem de_var (i : Nat) {x : Str} {pos : Pos} (hN : X.N[i]? = some x := by rfl) (hv : Vis X.env.scope x := by first | exact Or.inl rfl | exact Or.inr (Or.inl rfl) | exact Or.inr (Or.inr rfl)) (hd : (x == ("__debug__" : Str)) = false := by decide)
    (hcd : (x == ("__classdict__" : Str)) = false := by decide) : DE X C W (.Name x pos) (fVar i) := ⟨_, pe_var hN hv hd hcd, sm_var⟩
theorem de_int {i j pos} : DE X C W (.Constant (.int i) j pos) (fC (.int i)) := ⟨_, pe_int, sm_c fun _ => .int i⟩
theorem de_bl {b j pos} : DE X C W (.Constant (.bool b) j pos) (fC (.bool b)) := ⟨_, pe_bl, sm_c fun _ => .bl b⟩
theorem de_non {j pos} : DE X C W (.Constant .none j pos) (fC .none) := ⟨_, pe_non, sm_c fun _ => .non⟩
theorem de_str {x j pos} : DE X C W (.Constant (.str x) j pos) (fC (.str x)) := ⟨_, pe_str, sm_c fun _ => .str x⟩
theorem de_globI {x : Str} {i : Int} {t : Tok} {pos : Pos} (hg : Gl X x) (hm : X.mg x = some (.int i t)) (hd : (x == ("__debug__" : Str)) = false := by decide) : DE X C W (.Name x pos) (fC (.int i)) := ⟨_, pe_glob (v := .int i) hg hm ⟨t, rfl⟩ hd, sm_c fun _ => .int i⟩
end

/-! ### operators -/
def rOf (K : PySem.W.Frag) (g : Sto → OV → OV → Option D) : R2 := fun x y H Q => ∃ L S a b d, StoR K L H S ∧ RepO K L H x a ∧ RepO K L H y b ∧ g S a b = some d ∧
  ∀ v H', Step L H L H' → StoR K L H' S → Rep K (mask L H') v d → Q v H'
def op2 (g : Sto → OV → OV → Option D) (fa fb : E1) : E1 := fun ρ S => (fa ρ S).bind fun a S1 => (fb ρ S1).bind fun b S2 => (g S2 a b).bind fun d => ret (.dat d) S2
def rOf1 (K : PySem.W.Frag) (g : Sto → OV → Option D) : V → Hp → VK → Prop := fun x H Q => ∃ L S a d, StoR K L H S ∧ RepO K L H x a ∧ g S a = some d ∧
  ∀ v H', Step L H L H' → StoR K L H' S → Rep K (mask L H') v d → Q v H'
def op1 (g : Sto → OV → Option D) (fa : E1) : E1 := fun ρ S => (fa ρ S).bind fun a S1 => (g S1 a).bind fun d => ret (.dat d) S1
theorem opt_bind {α β : Type} {o : Option α} {k : α → Option β} {x : β} (h : o.bind k = some x) : ∃ a, o = some a ∧ k a = some x := by
  cases o with
  | none => cases h
  | some a => exact ⟨a, rfl, h⟩
section
variable {X : Cx} {C : Str → Value} {W : WX} {a b c : Expr} {pos : Pos} {fa fb fc : E1}
theorem sm_op {K : PySem.W.Frag} {g : Sto → OV → OV → Option D} {ta tb : TE} (ha : SmE K C W ta fa) (hb : SmE K C W tb fb) : SmE K C W (tOp (rOf K g) ta tb) (op2 g fa fb) := by
  intro ρ S r S' h L σ H Q en so po
  refine ha.bind h en so po fun x S1 L1 H1 v h1 st1 so1 r1 en1 po1 => ?_
  refine hb.bind h1 en1 so1 po1 fun y S2 L2 H2 u h2 st2 so2 r2 en2 po2 => ?_
  obtain ⟨d, e, h3⟩ := opt_bind h2
  exact ⟨L2, S2, x, y, d, so2, r1.step st2, r2, e, fun w H' st so' rw' => po2.done (S0 := S2) h3 st so' w rw'⟩
theorem sm_un {K : PySem.W.Frag} {g : Sto → OV → Option D} {ta : TE} (ha : SmE K C W ta fa) : SmE K C W (tUn (rOf1 K g) ta) (op1 g fa) := by
  intro ρ S r S' h L σ H Q en so po
  refine ha.bind h en so po fun x S1 L1 H1 v h1 st1 so1 r1 en1 po1 => ?_
  obtain ⟨d, e, h3⟩ := opt_bind h1
  exact ⟨L1, S1, x, d, so1, r1, e, fun w H' st so' rw' => po1.done (S0 := S1) h3 st so' w rw'⟩
theorem de_op {op : Operator} {g : Sto → OV → OV → Option D} (ho : OpR X (binaryOp op) (rOf X.K g)) (ha : DE X C W a fa) (hb : DE X C W b fb) : DE X C W (.BinOp a op b pos) (op2 g fa fb) := by
  obtain ⟨ta, p1, s1⟩ := ha.ex
  obtain ⟨tb, p2, s2⟩ := hb.ex
  exact ⟨_, pe_op ho p1 p2, sm_op s1 s2⟩
theorem de_un {op : UnaryOp} {g : Sto → OV → Option D} (ho : UnR X (unaryOp op) (rOf1 X.K g)) (ha : DE X C W a fa) : DE X C W (.UnaryOp op a pos) (op1 g fa) := by
  obtain ⟨ta, p1, s1⟩ := ha.ex
  exact ⟨_, pe_un ho p1, sm_un s1⟩
theorem de_cmp {op : CmpOp} {g : Sto → OV → OV → Option D} (ho : OpR X (compareOp op) (rOf X.K g)) (ha : DE X C W a fa) (hb : DE X C W b fb) (hm : behindInMarks op b = false) : DE X C W (.Compare a [op] [b] pos) (op2 g fa fb) := by
  obtain ⟨ta, p1, s1⟩ := ha.ex
  obtain ⟨tb, p2, s2⟩ := hb.ex
  exact ⟨_, pe_cmpR ho p1 p2 hm, sm_op s1 s2⟩
/-- a value that is a bool, as a test -/
def bOf (fa : E1) : EB := fun ρ S => (fa ρ S).bind fun a S1 => match a with
  | .dat (.bool k) => ret k S1
  | _ => none
theorem sm_test {K : PySem.W.Frag} {ta : TE} (ha : SmE K C W ta fa) : SmT K C W (tTest ta) (bOf fa) := by
  intro ρ S r S' h L σ H Q en so po
  refine ha.bind h en so po fun x S1 L1 H1 v h1 st1 so1 r1 en1 po1 => ?_
  cases x with
  | own n => cases h1
  | dat d =>
    cases d <;> try (cases h1; done)
    rename_i k
    cases (r1 : Rep K _ v (.bool k))
    exact ⟨k, rfl, po1.done (S0 := S1) h1 Step.refl so1⟩
theorem dt_cmp {op : CmpOp} {g : Sto → OV → OV → Option D} (ho : OpR X (compareOp op) (rOf X.K g)) (ha : DE X C W a fa) (hb : DE X C W b fb) (hm : behindInMarks op b = false) : DT X C W (.Compare a [op] [b] pos) (bOf (op2 g fa fb)) := by
  obtain ⟨ta, p1, s1⟩ := ha.ex
  obtain ⟨tb, p2, s2⟩ := hb.ex
  exact ⟨_, pt_cmpR ho p1 p2 hm, sm_test (sm_op s1 s2)⟩
theorem dt_val {e : Expr} (h : DE X C W e fa) (he : ∀ whole, isTrue e X.env whole = (do let v ← whole; standAt e.pos; holding [v] (truthy v)) := by intro _; rfl) : DT X C W e (bOf fa) := by
  obtain ⟨t, p, s⟩ := h.ex
  exact ⟨_, pt_val p he, fun ρ S r S' h L σ H Q en so po => sm_test s ρ S r S' h L σ H Q en so po⟩
/-- a chain of two comparisons -/
def chn (g g' : Sto → OV → OV → Option D) (fa fb fc : E1) : E1 := fun ρ S => (fa ρ S).bind fun a S1 => (fb ρ S1).bind fun b S2 => (g S2 a b).bind fun d => match d with
  | .bool true => (fc ρ S2).bind fun c S3 => (g' S3 b c).bind fun d => ret (.dat d) S3
  | .bool false => ret (.dat (.bool false)) S2
  | _ => none
theorem sm_chain {K : PySem.W.Frag} {g g' : Sto → OV → OV → Option D} {ta tb tc : TE} (ha : SmE K C W ta fa) (hb : SmE K C W tb fb) (hc : SmE K C W tc fc) : SmE K C W (tChain (rOf K g) (rOf K g') ta tb tc) (chn g g' fa fb fc) := by
  intro ρ S r S' h L σ H Q en so po
  refine ha.bind h en so po fun x S1 L1 H1 v h1 st1 so1 r1 en1 po1 => ?_
  refine hb.bind h1 en1 so1 po1 fun y S2 L2 H2 u h2 st2 so2 r2 en2 po2 => ?_
  obtain ⟨d, e, h3⟩ := opt_bind h2
  refine ⟨L2, S2, x, y, d, so2, r1.step st2, r2, e, fun w H3 st3 so3 rw' => ?_⟩
  cases d <;> try (cases h3; done)
  rename_i k
  cases (rw' : Rep K _ w (.bool k))
  refine ⟨k, rfl, ?_⟩
  cases k with
  | false => exact iteF ((po2.step st3).done (S0 := S2) h3 Step.refl so3 _ (.bl false))
  | true =>
    refine iteT ?_
    refine hc.bind (ρ := ρ) (S := S2) h3 (en2.step st3) so3 (po2.step st3) fun z S4 L4 H4 t h4 st4 so4 r4 en4 po4 => ?_
    obtain ⟨d', e', h5⟩ := opt_bind h4
    exact ⟨L4, S4, y, z, d', so4, (r2.step st3).step st4, r4, e', fun w H' st so' rw' => po4.done (S0 := S4) h5 st so' w rw'⟩
theorem de_chain {op op' : CmpOp} {g g' : Sto → OV → OV → Option D} (ho : OpR X (compareOp op) (rOf X.K g)) (ho' : OpR X (compareOp op') (rOf X.K g')) (ha : DE X C W a fa) (hb : DE X C W b fb) (hc : DE X C W c fc)
    (hm : lastMarks [op, op'] [b, c] = false := by with_unfolding_all rfl) : DE X C W (.Compare a [op, op'] [b, c] pos) (chn g g' fa fb fc) := by
  obtain ⟨ta, p1, s1⟩ := ha.ex
  obtain ⟨tb, p2, s2⟩ := hb.ex
  obtain ⟨tc, p3, s3⟩ := hc.ex
  exact ⟨_, pe_chain ho ho' p1 p2 p3 hm, sm_chain s1 s2 s3⟩
theorem dt_chain {op op' : CmpOp} {g g' : Sto → OV → OV → Option D} (ho : OpR X (compareOp op) (rOf X.K g)) (ho' : OpR X (compareOp op') (rOf X.K g')) (ha : DE X C W a fa) (hb : DE X C W b fb) (hc : DE X C W c fc)
    (hm : lastMarks [op, op'] [b, c] = false := by with_unfolding_all rfl) : DT X C W (.Compare a [op, op'] [b, c] pos) (bOf (chn g g' fa fb fc)) := by
  obtain ⟨ta, p1, s1⟩ := ha.ex
  obtain ⟨tb, p2, s2⟩ := hb.ex
  obtain ⟨tc, p3, s3⟩ := hc.ex
  exact ⟨_, pt_chain ho ho' p1 p2 p3 hm, sm_test (sm_chain s1 s2 s3)⟩
end

/-! ### and, or, not, if -/
def bAnd (f g : EB) : EB := fun ρ S => (f ρ S).bind fun k S1 => if k = true then g ρ S1 else ret false S1
def bOr (f g : EB) : EB := fun ρ S => (f ρ S).bind fun k S1 => if k = true then ret true S1 else g ρ S1
def bNot (f : EB) : EB := fun ρ S => (f ρ S).bind fun k S1 => ret (!k) S1
def vAnd (f g : E1) : E1 := fun ρ S => (bOf f ρ S).bind fun k S1 => if k = true then g ρ S1 else ret (.dat (.bool false)) S1
def vOr (f g : E1) : E1 := fun ρ S => (bOf f ρ S).bind fun k S1 => if k = true then ret (.dat (.bool true)) S1 else g ρ S1
def vNot (f : E1) : E1 := fun ρ S => (bOf f ρ S).bind fun k S1 => ret (.dat (.bool (!k))) S1
def vIf (t : EB) (f g : E1) : E1 := fun ρ S => (t ρ S).bind fun k S1 => if k = true then f ρ S1 else g ρ S1
section
variable {X : Cx} {C : Str → Value} {W : WX} {a b c : Expr} {rest : List Expr} {pos : Pos} {fa fb fc : E1} {ba bb : EB} {K : PySem.W.Frag}
theorem dw_and1 (ha : DT X C W a ba) : DW X C W (.BoolOp .And [a] pos) ba := by
  obtain ⟨t, p, s⟩ := ha.ex
  exact ⟨_, pw_and1 p, s⟩
theorem dw_or1 (ha : DT X C W a ba) : DW X C W (.BoolOp .Or [a] pos) ba := by
  obtain ⟨t, p, s⟩ := ha.ex
  exact ⟨_, pw_or1 p, s⟩
theorem dw_and (ha : DT X C W a ba) (hb : DW X C W (.BoolOp .And (b :: rest) pos) bb) : DW X C W (.BoolOp .And (a :: b :: rest) pos) (bAnd ba bb) := by
  obtain ⟨t, p, s⟩ := ha.ex
  obtain ⟨u, q, s2⟩ := hb.ex
  refine ⟨_, pw_and p q, fun ρ S r S' h L σ H Q en so po => ?_⟩
  refine s.bind h en so po fun k S1 L1 H1 h1 st1 so1 en1 po1 => ?_
  cases k with
  | true => exact iteT (s2 ρ S1 r S' h1 L1 σ H1 Q en1 so1 po1)
  | false => exact iteF (po1.done (S0 := S1) h1 Step.refl so1)
theorem dw_or (ha : DT X C W a ba) (hb : DW X C W (.BoolOp .Or (b :: rest) pos) bb) : DW X C W (.BoolOp .Or (a :: b :: rest) pos) (bOr ba bb) := by
  obtain ⟨t, p, s⟩ := ha.ex
  obtain ⟨u, q, s2⟩ := hb.ex
  refine ⟨_, pw_or p q, fun ρ S r S' h L σ H Q en so po => ?_⟩
  refine s.bind h en so po fun k S1 L1 H1 h1 st1 so1 en1 po1 => ?_
  cases k with
  | true => exact iteT (po1.done (S0 := S1) h1 Step.refl so1)
  | false => exact iteF (s2 ρ S1 r S' h1 L1 σ H1 Q en1 so1 po1)
theorem DW.dt {e : Expr} (h : DW X C W e ba) : DT X C W e ba := by
  obtain ⟨t, p, s⟩ := h.ex
  exact ⟨_, p.pt, s⟩
theorem dt_not (ha : DT X C W a ba) : DT X C W (.UnaryOp .Not a pos) (bNot ba) := by
  obtain ⟨t, p, s⟩ := ha.ex
  refine ⟨_, pt_not p, fun ρ S r S' h L σ H Q en so po => ?_⟩
  exact s.bind h en so po fun k S1 L1 H1 h1 st1 so1 en1 po1 => po1.done (S0 := S1) h1 Step.refl so1
theorem sm_b {ta : TE} (ha : SmE K C W ta fa) {β : Type} {ρ : Env1} {S S' : Sto} {r : Sum β Exn} {L : List Addr} {H : Hp} {σ : L2.St} {ok : List Addr → Hp → β → Prop} {k : Bool → Sto → Rs β} (h : (bOf fa ρ S).bind k = some (r, S')) (en : EnvR K L H σ ρ) (so : StoR K L H S)
    (po : Post K C W L H σ S' r ok) {R : Bool → Hp → Prop} (go : ∀ a S1 L1 H1, k a S1 = some (r, S') → Step L H L1 H1 → StoR K L1 H1 S1 → EnvR K L1 H1 σ ρ → Post K C W L1 H1 σ S' r ok → R a H1) : ta σ H (fun x H1 => ∃ c, x = .bl c ∧ R c H1) :=
  SmT.bind (sm_test ha) h en so po go
theorem de_one {op} (h : DE X C W a fa) : DE X C W (.BoolOp op [a] pos) fa := by
  obtain ⟨t, p, s⟩ := h.ex
  exact ⟨_, pe_one p, s⟩
theorem de_and (ha : DE X C W a fa) (hb : DE X C W (.BoolOp .And (b :: rest) pos) fb) : DE X C W (.BoolOp .And (a :: b :: rest) pos) (vAnd fa fb) := by
  obtain ⟨t, p, s⟩ := ha.ex
  obtain ⟨u, q, s2⟩ := hb.ex
  refine ⟨_, pe_and p q, fun ρ S r S' h L σ H Q en so po => ?_⟩
  refine sm_b s h en so po (R := fun c H1 => if c = true then u σ H1 Q else Q (.bl false) H1) fun k S1 L1 H1 h1 st1 so1 en1 po1 => ?_
  cases k with
  | true => exact iteT (s2 ρ S1 r S' h1 L1 σ H1 Q en1 so1 po1)
  | false => exact iteF (po1.done (S0 := S1) h1 Step.refl so1 _ (.bl false))
theorem de_or (ha : DE X C W a fa) (hb : DE X C W (.BoolOp .Or (b :: rest) pos) fb) : DE X C W (.BoolOp .Or (a :: b :: rest) pos) (vOr fa fb) := by
  obtain ⟨t, p, s⟩ := ha.ex
  obtain ⟨u, q, s2⟩ := hb.ex
  refine ⟨_, pe_or p q, fun ρ S r S' h L σ H Q en so po => ?_⟩
  refine sm_b s h en so po (R := fun c H1 => if c = true then Q (.bl true) H1 else u σ H1 Q) fun k S1 L1 H1 h1 st1 so1 en1 po1 => ?_
  cases k with
  | true => exact iteT (po1.done (S0 := S1) h1 Step.refl so1 _ (.bl true))
  | false => exact iteF (s2 ρ S1 r S' h1 L1 σ H1 Q en1 so1 po1)
theorem de_not (ha : DE X C W a fa) : DE X C W (.UnaryOp .Not a pos) (vNot fa) := by
  obtain ⟨t, p, s⟩ := ha.ex
  refine ⟨_, pe_not p, fun ρ S r S' h L σ H Q en so po => ?_⟩
  exact sm_b s h en so po (R := fun c H1 => Q (.bl (!c)) H1) fun k S1 L1 H1 h1 st1 so1 en1 po1 => po1.done (S0 := S1) h1 Step.refl so1 _ (.bl (!k))
theorem de_if (hc : DT X C W c ba) (ha : DE X C W a fa) (hb : DE X C W b fb) : DE X C W (.IfExp c a b pos) (vIf ba fa fb) := by
  obtain ⟨t, p, s⟩ := hc.ex
  obtain ⟨u, q, s2⟩ := ha.ex
  obtain ⟨v, q3, s3⟩ := hb.ex
  refine ⟨_, pe_ifExp p q q3, fun ρ S r S' h L σ H Q en so po => ?_⟩
  refine s.bind h en so po fun k S1 L1 H1 h1 st1 so1 en1 po1 => ?_
  cases k with
  | true => exact iteT (s2 ρ S1 r S' h1 L1 σ H1 Q en1 so1 po1)
  | false => exact iteF (s3 ρ S1 r S' h1 L1 σ H1 Q en1 so1 po1)
end

/-! ### arguments, displays, calls -/
def aNil : EL := fun _ S => ret [] S
def aCons (f : E1) (g : EL) : EL := fun ρ S => (f ρ S).bind fun a S1 => (g ρ S1).bind fun as S2 => ret (a :: as) S2
def dats : List OV → Option (List D)
  | [] => some []
  | .dat d :: r => (dats r).bind fun ds => some (d :: ds)
  | .own _ :: _ => none
/-- a display -/
def fTup (f : EL) : E1 := fun ρ S => (f ρ S).bind fun as S1 => (dats as).bind fun ds => if ds.length ≤ sizeLine then ret (.dat (.tuple ds)) S1 else none
def fLst (f : EL) : EF := fun ρ S => (f ρ S).bind fun as S1 => (dats as).bind fun ds => if ds.length ≤ sizeLine then ret ds S1 else none
theorem dats_reps {K : PySem.W.Frag} {L : List Addr} {H : Hp} : ∀ {vs : List V} {os : List OV} {ds : List D}, RepOs K L H vs os → dats os = some ds → Reps K (mask L H) vs ds
  | _, _, _, .nil, e => by cases e; exact .nil
  | _, .dat d :: _, _, .cons h r, e => by
    obtain ⟨es, e1, e2⟩ := opt_bind (show (dats _).bind _ = some _ from e)
    cases e2
    exact .cons h (dats_reps r e1)
  | _, .own n :: _, _, .cons h r, e => by cases e
section
variable {X : Cx} {C : Str → Value} {W : WX} {e : Expr} {es : List Expr} {pos : Pos} {fe : E1} {fs : EL} {K : PySem.W.Frag}
theorem da_nil : DA X C W [] aNil := ⟨_, pa_nil, fun ρ S r S' h L σ H Q en so po => po.done (S0 := S) h Step.refl so _ .nil⟩
theorem sm_cons {te : TE} {t : TA} (s : SmE K C W te fe) (s2 : SmA K C W t fs) : SmA K C W (tCons te t) (aCons fe fs) := fun ρ S r S' h L σ H Q en so po => by
  refine s.bind h en so po fun a S1 L1 H1 v h1 st1 so1 r1 en1 po1 => ?_
  refine s2.bind h1 en1 so1 po1 fun as S2 L2 H2 vs h2 st2 so2 r2 en2 po2 => ?_
  exact po2.done (S0 := S2) h2 Step.refl so2 _ (.cons (r1.step st2) r2)
theorem da_cons (ha : DE X C W e fe) (hr : DA X C W es fs) (hs : starEach (e :: es) X.env = (false, eval e X.env) :: starEach es X.env := by rfl) : DA X C W (e :: es) (aCons fe fs) := by
  obtain ⟨t, p, s⟩ := ha.ex
  obtain ⟨u, q, s2⟩ := hr.ex
  exact ⟨_, pa_cons p q hs, sm_cons s s2⟩
theorem de_tup {x1} (h : DA X C W es fs) : DE X C W (.Tuple es x1 pos) (fTup fs) := by
  obtain ⟨t, p, s⟩ := h.ex
  refine ⟨_, pe_tup p, fun ρ S r S' h L σ H Q en so po => ?_⟩
  refine s.bind h en so po fun as S1 L1 H1 vs h1 st1 so1 r1 en1 po1 => ?_
  obtain ⟨ds, e1, h2⟩ := opt_bind h1
  have rs := dats_reps r1 e1
  split at h2
  · rename_i hz
    exact ⟨by rw [rs.length]; exact hz, fun q hq => po1.done (S0 := S1) h2 (step_new hq) (so1.laid hq) _ (new_tup so1 hq rs)⟩
  · cases h2
theorem own_lst {L : List Addr} {H : Hp} {S : Sto} (so : StoR K L H S) {p : Addr} (hp : H p = none) {vs : List V} {ds : List D} (rs : Reps K (mask L H) vs ds) :
    Step L H (L ++ [p]) (upd H p (.lst vs)) ∧ StoR K (L ++ [p]) (upd H p (.lst vs)) (S ++ [.list ds]) ∧ RepO K (L ++ [p]) (upd H p (.lst vs)) (.ref p) (.own S.length) := by
  obtain ⟨h1, h2⟩ := so.own (o := .lst vs) hp (d := .list ds) ⟨vs, upd_same, rs⟩
  exact ⟨h1, h2, p, rfl, by rw [← so.len, List.getElem?_append_right (Nat.le_refl _), Nat.sub_self]; rfl⟩
theorem df_lst (h : DA X C W es fs) : DF X C W (.List es pos) (fLst fs) := by
  obtain ⟨t, p, s⟩ := h.ex
  refine ⟨_, pe_lst p, fun ρ S r S' h L σ H Q en so po => ?_⟩
  refine s.bind h en so po fun as S1 L1 H1 vs h1 st1 so1 r1 en1 po1 => ?_
  obtain ⟨ds, e1, h2⟩ := opt_bind h1
  have rs := dats_reps r1 e1
  split at h2
  · rename_i hz
    exact ⟨by rw [rs.length]; exact hz, fun q hq => po1.done (S0 := S1) h2 Step.refl so1 q vs hq rs⟩
  · cases h2
/-- a new list, as a value; owned from here on -/
def frz (f : EF) : E1 := fun ρ S => (f ρ S).bind fun ds S1 => ret (.dat (.list ds)) S1
def ownL (f : EF) : E1 := fun ρ S => (f ρ S).bind fun ds S1 => ret (.own S1.length) (S1 ++ [.list ds])
theorem DF.dat {f : EF} (h : DF X C W e f) : DE X C W e (frz f) := by
  obtain ⟨t, p, s⟩ := h.ex
  refine ⟨_, p, fun ρ S r S' h L σ H Q en so po => ?_⟩
  exact s.bind h en so po fun ds S1 L1 H1 q vs h1 st1 so1 hq rs en1 po1 => po1.done (S0 := S1) h1 (step_new hq) (so1.laid hq) _ (new_lst so1 hq rs)
theorem DF.own {f : EF} (h : DF X C W e f) : DE X C W e (ownL f) := by
  obtain ⟨t, p, s⟩ := h.ex
  refine ⟨_, p, fun ρ S r S' h L σ H Q en so po => ?_⟩
  refine s.bind h en so po fun ds S1 L1 H1 q vs h1 st1 so1 hq rs en1 po1 => ?_
  obtain ⟨k1, k2, k3⟩ := own_lst so1 hq rs
  exact po1.done (S0 := S1 ++ [.list ds]) h1 k1 k2 _ k3
end

/-! ### what a def is worth -/
def spD (K : PySem.W.Frag) (C : Str → Value) (n : Nat) (F : List OV → Sto → Rs OV) : Sp := fun vs H Q E => ∃ os L S r S', os.length = n ∧ RepOs K L H vs os ∧ StoR K L H S ∧ F os S = some (r, S') ∧
  ∀ L' H', Step L H L' H' → StoR K L' H' S' → (∀ o, r = .inl o → ∀ v, RepO K L' H' v o → Q v H') ∧ ∀ e, r = .inr e → ∀ cls d, ExcR C K L' H' e cls d → E cls d H'
structure FnD (P : Program) (w : World) (K : PySem.W.Frag) (mg : Str → Option Value) (base : Heap) (C : Str → Value) (k : Nat) (x : Str) (n : Nat) (F : List OV → Sto → Rs OV) : Prop where
  ex : ∃ (f : Addr) (fd : FuncData) (ps : List Str), ps.length = n ∧ mg x = some (.ref f) ∧ PySem.W.keepIn K (.ref f) = true ∧ Binds K fd ps [] ∧ FnOk P w K mg base (L2.CX P w) k f fd ps (spD K C n F)
def fCall (F : List OV → Sto → Rs OV) (fa : EL) : E1 := fun ρ S => (fa ρ S).bind fun os S1 => F os S1
section
variable {X : Cx} {C : Str → Value} {W : WX} {e : Expr} {es : List Expr} {x : Str} {p pos : Pos} {fe : E1} {fs : EL} {K : PySem.W.Frag} {k n : Nat} {F : List OV → Sto → Rs OV}
theorem de_call (G : FnD X.prog X.w X.K X.mg X.base C k x n F) (hr : Room k X.A) (tk : Takes X W) (hg : Gl X x) (ha : DA X C W (e :: es) fs) (hn : ∀ ρ S os S', fs ρ S = some (.inl os, S') → os.length = n)
    (hdb : (x == ("__debug__" : Str)) = false := by decide) (he : starEach (e :: es) X.env = (false, eval e X.env) :: starEach es X.env := by rfl) (hpl : (backTo pos (starEach es X.env)).any (·.1) = false := by rfl) :
    DE X C W (.Call (.Name x p) (e :: es) [] pos) (fCall F fs) := by
  obtain ⟨f, fd, ps, hps, hm, hk, hb, ok⟩ := G.ex
  obtain ⟨t, pa, s⟩ := ha.ex
  refine ⟨_, pe_callS ok hr hg hm hk hb (fun σ => passAt tk σ) pa hdb he hpl, fun ρ S r S' h L σ H Q en so po => ?_⟩
  have hlen := hn ρ S
  cases hq : fs ρ S with
  | none => unfold fCall at h; rw [hq] at h; cases h
  | some q =>
    obtain ⟨q, S1⟩ := q
    unfold fCall at h
    rw [hq] at h hlen
    cases q with
    | inr x =>
      cases h
      exact s ρ S _ _ hq L σ H _ en so ⟨fun b z => (by cases z), fun e' he' L' H' st so' cls d x => po.bad e' (by cases he'; rfl) L' H' st so' cls d x⟩
    | inl os =>
      refine s ρ S _ _ hq L σ H _ en so ⟨fun b z L1 H1 st1 so1 vs rv => ?_, fun e' he' => by cases he'⟩
      cases z
      refine ⟨os, L1, S1, r, S', hlen os S1 rfl, rv, so1, h, fun L' H' st so' => ⟨fun o ho v rvo => ?_, fun e' he' cls d xr => ?_⟩⟩
      · exact po.fine o ho L' H' (st1.trans st) so' v rvo
      · exact po.bad e' he' L' H' (st1.trans st) so' cls d xr
theorem len_nil (ρ : Env1) (S : Sto) (os : List OV) (S' : Sto) (h : aNil ρ S = some (.inl os, S')) : os.length = 0 := by
  cases h
  rfl
theorem len_cons {n : Nat} (hn : ∀ ρ S os S', fs ρ S = some (.inl os, S') → os.length = n) (ρ : Env1) (S : Sto) (os : List OV) (S' : Sto) (h : aCons fe fs ρ S = some (.inl os, S')) : os.length = n + 1 := by
  unfold aCons at h
  cases e1 : fe ρ S with
  | none => rw [e1] at h; cases h
  | some q =>
    obtain ⟨q, S1⟩ := q
    rw [e1] at h
    cases q with
    | inr x => cases h
    | inl a =>
      change (fs ρ S1).bind _ = _ at h
      cases e2 : fs ρ S1 with
      | none => rw [e2] at h; cases h
      | some q2 =>
        obtain ⟨q2, S2⟩ := q2
        rw [e2] at h
        cases q2 with
        | inr x => cases h
        | inl as =>
          cases h
          exact congrArg (· + 1) (hn _ _ _ _ e2)
end
end Dk
set_option Elab.async false
set_option linter.all false
set_option maxRecDepth 100000
set_option maxHeartbeats 4000000
/-! What operators and built-ins answer on data. -/
namespace Dk
open PySem PySem.Spec L2

/-! ### numbers, joining -/
def addS (S : Sto) (a b : OV) : Option D := match view S a, view S b with
  | some (.int i), some (.int j) => some (.int (i + j))
  | some (.str x), some (.str y) => if x.length + y.length ≤ sizeLine then some (.str (x ++ y)) else none
  | some (.list xs), some (.list ys) => if xs.length + ys.length ≤ sizeLine then some (.list (xs ++ ys)) else none
  | some (.tuple xs), some (.tuple ys) => if xs.length + ys.length ≤ sizeLine then some (.tuple (xs ++ ys)) else none
  | _, _ => none
def subS (S : Sto) (a b : OV) : Option D := match view S a, view S b with
  | some (.int i), some (.int j) => some (.int (i - j))
  | _, _ => none
def big : Int := 18446744073709551616
def mulS (S : Sto) (a b : OV) : Option D := match view S a, view S b with
  | some (.int i), some (.int j) => if (-big < i ∧ i < big) ∨ (-big < j ∧ j < big) then some (.int (i * j)) else none
  | some (.tuple xs), some (.int k) => if xs ≠ [] ∧ 2 ≤ k ∧ k ≤ 1000 ∧ xs.length ≤ 1000 then some (.tuple (List.replicate k.toNat xs).flatten) else none
  | _, _ => none
def fdivS (S : Sto) (a b : OV) : Option D := match view S a, view S b with
  | some (.int i), some (.int j) => if j ≠ 0 ∧ (j.natAbs < 1073741824 ∨ j.natAbs.log2 < 9000) then some (.int (i.fdiv j)) else none
  | _, _ => none
def modS (S : Sto) (a b : OV) : Option D := match view S a, view S b with
  | some (.int i), some (.int j) => if j ≠ 0 then some (.int (i.fmod j)) else none
  | _, _ => none
def powS (S : Sto) (a b : OV) : Option D := match view S a, view S b with
  | some (.int i), some (.int j) => if 0 ≤ j ∧ j ≤ 1000000 ∧ i.natAbs < 2 ^ 64 then some (.int (i ^ j.toNat)) else none
  | _, _ => none
def negS (S : Sto) (a : OV) : Option D := match view S a with
  | some (.int i) => some (.int (-i))
  | _ => none
def cmpS (p : Int → Int → Bool) (S : Sto) (a b : OV) : Option D := match view S a, view S b with
  | some (.int i), some (.int j) => some (.bool (p i j))
  | _, _ => none
abbrev ltS := cmpS fun i j => decide (i < j)
abbrev leS := cmpS fun i j => decide (i ≤ j)
abbrev gtS := cmpS fun i j => decide (j < i)
abbrev geS := cmpS fun i j => decide (j ≤ i)
def eqD (d e : D) : Option Bool := match d, e with
  | .int i, .int j => some (decide (i = j))
  | .str x, .str y => some (decide (x = y))
  | d, e => if SeqAt.shaped d = true ∧ SeqAt.shaped e = true then some (PyData.eqv d e) else none
def eqS (S : Sto) (a b : OV) : Option D := match view S a, view S b with
  | some d, some e => (eqD d e).map PyData.bool
  | _, _ => none
def neS (S : Sto) (a b : OV) : Option D := match view S a, view S b with
  | some d, some e => (eqD d e).map fun k => PyData.bool (!k)
  | _, _ => none
def isNoneD : D → Bool
  | .none => true
  | _ => false
def isS (S : Sto) (a b : OV) : Option D := match a, b with
  | .dat d, .dat .none => some (.bool (isNoneD d))
  | _, _ => none
def isNotS (S : Sto) (a b : OV) : Option D := match a, b with
  | .dat d, .dat .none => some (.bool (!isNoneD d))
  | _, _ => none
def flatD : D → Bool
  | .none => true
  | .bool _ => true
  | .int _ => true
  | .str _ => true
  | _ => false
def oneSign (x : Str) : Option Nat := match x.cps.toList with
  | [c] => some c
  | _ => none
def inD (d e : D) : Option Bool := match e with
  | .str z => match d with
    | .str x => (oneSign x).map fun c => decide (c ∈ z.cps.toList)
    | _ => none
  | .tuple ds => if flatD d = true ∧ ds.all flatD = true then some (ds.any fun z => PyData.eqv z d) else none
  | .list ds => if flatD d = true ∧ ds.all flatD = true then some (ds.any fun z => PyData.eqv z d) else if SeqAt.shaped d = true ∧ SeqAt.shaped (.list ds) = true then some (ds.any fun z => PyData.eqv z d) else none
  | _ => none
def inS (S : Sto) (a b : OV) : Option D := match view S a, view S b with
  | some d, some e => (inD d e).map PyData.bool
  | _, _ => none
def notInS (S : Sto) (a b : OV) : Option D := match view S a, view S b with
  | some d, some e => (inD d e).map fun k => PyData.bool (!k)
  | _, _ => none

section
variable {X : Cx}
theorem ro_add : OpR X (binaryOp .Add) (rOf X.K addS) := by
  intro pins s σ H x y v u Q I rx ry h
  obtain ⟨L, S, a, b, d, so, ra, rb, e, q⟩ := h
  unfold addS at e
  split at e
  · rename_i i j h1 h2
    cases e
    obtain rfl := view_int h1 ra so
    obtain rfl := view_int h2 rb so
    exact op_add pins s σ H _ _ v u Q I rx ry ⟨i, j, rfl, rfl, q _ _ Step.refl so (.int _)⟩
  · rename_i i j h1 h2
    split at e
    · rename_i hz
      cases e
      obtain rfl := view_str h1 ra so
      obtain rfl := view_str h2 rb so
      exact op_add_str pins s σ H _ _ v u Q I rx ry ⟨i, j, rfl, rfl, hz, q _ _ Step.refl so (.str _)⟩
    · cases e
  · rename_i i j h1 h2
    split at e
    · rename_i hz
      cases e
      obtain ⟨p1, vs, rfl, m1, r1⟩ := view_list h1 ra so
      obtain ⟨p2, ws, rfl, m2, r2⟩ := view_list h2 rb so
      cases rx
      cases ry
      obtain ⟨its, k1, ⟨⟨cl1, od1, dt1, sl1⟩, n1, e1, c1, d1, q1⟩, z1⟩ := I.list m1
      obtain ⟨its2, k2, ⟨⟨cl2, od2, dt2, sl2⟩, n2, e2, c2, d2, q2⟩, z2⟩ := I.list m2
      simp only at c1 d1 q1 c2 d2 q2
      subst c1 d1 q1 c2 d2 q2
      have hl1 := k1.length
      have hl2 := k2.length
      have hz' : vs.length + ws.length ≤ sizeLine := by rw [r1.length, r2.length]; exact hz
      have road := PyProof.Rows.list_addW p1 p2 its.toArray its2.toArray n1 n2 none none sl1 sl2 (by rw [List.size_toArray, List.size_toArray]; omega)
      refine concat_meets ⟨_, e1, rfl⟩ ⟨_, e2, rfl⟩ noFill_list_add seq_list_add F.slot_list_add F.entry_list_add (F.args_list_add_2 _ _) road ⟨e1, e2, ?_⟩
      rw [show its.toArray ++ its2.toArray = (its ++ its2).toArray by simp]
      exact ⟨.ref _, _, I.lnew (t' := s.toks) (k1.append k2) (by rw [List.length_append]; exact hz'), rfl, q _ _ (step_new I.fresh) (so.laid I.fresh) (new_lst so I.fresh (r1.append r2))⟩
    · cases e
  · rename_i i j h1 h2
    split at e
    · rename_i hz
      cases e
      obtain ⟨p1, vs, rfl, m1, r1⟩ := view_tup h1 ra so
      obtain ⟨p2, ws, rfl, m2, r2⟩ := view_tup h2 rb so
      refine op_catA pins s σ H _ _ v u Q I rx ry ⟨p1, p2, vs, ws, rfl, rfl, m1, m2, by rw [r1.length, r2.length]; exact hz, fun z => ?_, fun z z2 => ?_, fun z z2 p hp => ?_⟩
      · subst z
        cases r1
        refine q _ _ Step.refl so ?_
        cases b with
        | dat d => cases h2; exact rb
        | own n =>
          obtain ⟨c, h3, h4⟩ := rb
          exact (so.obj n c _ h4 h2 : ObjR X.K (mask L H) H c (.tuple j)).elim
      · subst z2
        cases r2
        rw [List.append_nil] at q
        refine q _ _ Step.refl so ?_
        cases a with
        | dat d => cases h1; exact ra
        | own n =>
          obtain ⟨c, h3, h4⟩ := ra
          exact (so.obj n c _ h4 h1 : ObjR X.K (mask L H) H c (.tuple i)).elim
      · exact q _ _ (step_new hp) (so.laid hp) (new_tup so hp (r1.append r2))
    · cases e
  · cases e
theorem ro_sub : OpR X (binaryOp .Sub) (rOf X.K subS) := by
  intro pins s σ H x y v u Q I rx ry h
  obtain ⟨L, S, a, b, d, so, ra, rb, e, q⟩ := h
  unfold subS at e
  split at e
  · rename_i i j h1 h2
    cases e
    obtain rfl := view_int h1 ra so
    obtain rfl := view_int h2 rb so
    exact op_sub pins s σ H _ _ v u Q I rx ry ⟨i, j, rfl, rfl, q _ _ Step.refl so (.int _)⟩
  · cases e
theorem ro_mul : OpR X (binaryOp .Mult) (rOf X.K mulS) := by
  intro pins s σ H x y v u Q I rx ry h
  obtain ⟨L, S, a, b, d, so, ra, rb, e, q⟩ := h
  unfold mulS at e
  split at e
  · rename_i i j h1 h2
    split at e
    · rename_i hz
      cases e
      obtain rfl := view_int h1 ra so
      obtain rfl := view_int h2 rb so
      refine op_mul pins s σ H _ _ v u Q I rx ry ⟨i, j, rfl, rfl, ?_, q _ _ Step.refl so (.int _)⟩
      unfold big at hz
      rcases hz with hz | hz
      · exact .inl ⟨by omega, by omega⟩
      · exact .inr ⟨by omega, by omega⟩
    · cases e
  · rename_i i j h1 h2
    split at e
    · rename_i hz
      cases e
      obtain ⟨p1, vs, rfl, m1, r1⟩ := view_tup h1 ra so
      obtain rfl := view_int h2 rb so
      have rr : ∀ m : Nat, Reps X.K (mask L H) (List.replicate m vs).flatten (List.replicate m i).flatten := fun m => by
        induction m with
        | zero => exact .nil
        | succ m ih => exact r1.append ih
      refine op_repT pins s σ H _ _ v u Q I rx ry ⟨p1, j, vs, rfl, rfl, m1, fun z => hz.1 ?_, hz.2.1, hz.2.2.1, by rw [r1.length]; exact hz.2.2.2, fun p hp => q _ _ (step_new hp) (so.laid hp) (new_tup so hp (rr _))⟩
      subst z
      cases r1
      rfl
    · cases e
  · cases e
theorem op_fdivB : OpR X (binaryOp .FloorDiv) (rI (fun _ j => j ≠ 0 ∧ (j.natAbs < 1073741824 ∨ j.natAbs.log2 < 9000)) fun i j => .int (i.fdiv j)) := opI fun _ _ _ _ _ _ _ hc q => PyProof.Rows.floordiv_int hc.1 q (.inl (hc.2.elim PyProof.noPylong_small PyProof.noPylong_of_log2))
theorem ro_fdiv : OpR X (binaryOp .FloorDiv) (rOf X.K fdivS) := by
  intro pins s σ H x y v u Q I rx ry h
  obtain ⟨L, S, a, b, d, so, ra, rb, e, q⟩ := h
  unfold fdivS at e
  split at e
  · rename_i i j h1 h2
    split at e
    · rename_i hz
      cases e
      obtain rfl := view_int h1 ra so
      obtain rfl := view_int h2 rb so
      exact op_fdivB pins s σ H _ _ v u Q I rx ry ⟨i, j, rfl, rfl, hz, q _ _ Step.refl so (.int _)⟩
    · cases e
  · cases e
theorem ro_mod : OpR X (binaryOp .Mod) (rOf X.K modS) := by
  intro pins s σ H x y v u Q I rx ry h
  obtain ⟨L, S, a, b, d, so, ra, rb, e, q⟩ := h
  unfold modS at e
  split at e
  · rename_i i j h1 h2
    split at e
    · rename_i hz
      cases e
      obtain rfl := view_int h1 ra so
      obtain rfl := view_int h2 rb so
      exact op_modN pins s σ H _ _ v u Q I rx ry ⟨i, j, rfl, rfl, hz, q _ _ Step.refl so (.int _)⟩
    · cases e
  · cases e
theorem ro_pow : OpR X (binaryOp .Pow) (rOf X.K powS) := by
  intro pins s σ H x y v u Q I rx ry h
  obtain ⟨L, S, a, b, d, so, ra, rb, e, q⟩ := h
  unfold powS at e
  split at e
  · rename_i i j h1 h2
    split at e
    · rename_i hz
      cases e
      obtain rfl := view_int h1 ra so
      obtain rfl := view_int h2 rb so
      exact op_pow pins s σ H _ _ v u Q I rx ry ⟨i, j, rfl, rfl, hz, q _ _ Step.refl so (.int _)⟩
    · cases e
  · cases e
theorem ru_neg : UnR X (unaryOp .USub) (rOf1 X.K negS) := by
  intro pins s σ H x v Q I rx h
  obtain ⟨L, S, a, d, so, ra, e, q⟩ := h
  unfold negS at e
  split at e
  · rename_i i h1
    cases e
    obtain rfl := view_int h1 ra so
    exact un_neg pins s σ H _ v Q I rx ⟨i, rfl, q _ _ Step.refl so (.int _)⟩
  · cases e
theorem ro_cmp {op : CmpOp} {p : Int → Int → Bool} (ho : OpR X (compareOp op) (rI0 fun i j => .bl (p i j))) : OpR X (compareOp op) (rOf X.K (cmpS p)) := by
  intro pins s σ H x y v u Q I rx ry h
  obtain ⟨L, S, a, b, d, so, ra, rb, e, q⟩ := h
  unfold cmpS at e
  split at e
  · rename_i i j h1 h2
    cases e
    obtain rfl := view_int h1 ra so
    obtain rfl := view_int h2 rb so
    exact ho pins s σ H _ _ v u Q I rx ry ⟨i, j, rfl, rfl, q _ _ Step.refl so (.bl _)⟩
  · cases e
theorem ro_lt : OpR X (compareOp .Lt) (rOf X.K ltS) := ro_cmp op_lt
theorem ro_le : OpR X (compareOp .LtE) (rOf X.K leS) := ro_cmp op_le
theorem ro_gt : OpR X (compareOp .Gt) (rOf X.K gtS) := ro_cmp op_gt
theorem ro_ge : OpR X (compareOp .GtE) (rOf X.K geS) := ro_cmp op_ge
theorem shaped_lay {d : D} (h : SeqAt.shaped d = true) : PyData.canLay0 d = true := SeqAt.canLay_of_shaped h
theorem ro_eq {k : Nat} (hr : Room k X.A) : OpR X (compareOp .Eq) (rOf X.K eqS) := by
  intro pins s σ H x y v u Q I rx ry h
  obtain ⟨L, S, a, b, d, so, ra, rb, e, q⟩ := h
  unfold eqS at e
  split at e
  · rename_i d1 d2 h1 h2
    unfold eqD at e
    split at e
    · cases e
      obtain rfl := view_int h1 ra so
      obtain rfl := view_int h2 rb so
      refine op_eq pins s σ H _ _ v u Q I rx ry ⟨rfl, ?_⟩
      have := q (.bl (decide (_ = _))) H Step.refl so (.bl _)
      simpa using this
    · cases e
      obtain rfl := view_str h1 ra so
      obtain rfl := view_str h2 rb so
      refine op_eq pins s σ H _ _ v u Q I rx ry ⟨rfl, ?_⟩
      have := q (.bl (decide (_ = _))) H Step.refl so (.bl _)
      simpa using this
    · split at e
      · rename_i hz
        cases e
        exact op_eqD hr.units pins s σ H _ _ v u Q I rx ry ⟨_, _, view_rep h1 ra so (shaped_lay hz.1), view_rep h2 rb so (shaped_lay hz.2), hz.1, hz.2, q _ _ Step.refl so (.bl _)⟩
      · cases e
  · cases e
theorem ro_ne {k : Nat} (hr : Room k X.A) : OpR X (compareOp .NotEq) (rOf X.K neS) := by
  intro pins s σ H x y v u Q I rx ry h
  obtain ⟨L, S, a, b, d, so, ra, rb, e, q⟩ := h
  unfold neS at e
  split at e
  · rename_i d1 d2 h1 h2
    unfold eqD at e
    split at e
    · cases e
      obtain rfl := view_int h1 ra so
      obtain rfl := view_int h2 rb so
      refine op_ne pins s σ H _ _ v u Q I rx ry ⟨rfl, ?_⟩
      have := q (.bl (!decide (_ = _))) H Step.refl so (.bl _)
      simpa using this
    · cases e
      obtain rfl := view_str h1 ra so
      obtain rfl := view_str h2 rb so
      refine op_ne pins s σ H _ _ v u Q I rx ry ⟨rfl, ?_⟩
      have := q (.bl (!decide (_ = _))) H Step.refl so (.bl _)
      simpa using this
    · split at e
      · rename_i hz
        cases e
        exact op_neD hr.units pins s σ H _ _ v u Q I rx ry ⟨_, _, view_rep h1 ra so (shaped_lay hz.1), view_rep h2 rb so (shaped_lay hz.2), hz.1, hz.2, q _ _ Step.refl so (.bl _)⟩
      · cases e
  · cases e
theorem isNone_rep {K : PySem.W.Frag} {G : Hp} {x : V} : ∀ {d : D}, Rep K G x d → decide (x = .non) = isNoneD d
  | _, .non => rfl
  | _, .bl _ => rfl
  | _, .int _ => rfl
  | _, .str _ => rfl
  | _, .lst _ _ => rfl
  | _, .tup _ _ => rfl
  | _, .dk _ _ _ => rfl
  | _, .dt _ _ _ => rfl
theorem ro_is : OpR X (compareOp .Is) (rOf X.K isS) := by
  intro pins s σ H x y v u Q I rx ry h
  obtain ⟨L, S, a, b, d, so, ra, rb, e, q⟩ := h
  unfold isS at e
  split at e
  · cases e
    cases rb
    refine op_isN pins s σ H _ _ v u Q I rx ry ⟨rfl, ?_⟩
    rw [isNone_rep ra]
    exact q _ _ Step.refl so (.bl _)
  · cases e
theorem ro_isNot : OpR X (compareOp .IsNot) (rOf X.K isNotS) := by
  intro pins s σ H x y v u Q I rx ry h
  obtain ⟨L, S, a, b, d, so, ra, rb, e, q⟩ := h
  unfold isNotS at e
  split at e
  · cases e
    cases rb
    refine op_notN pins s σ H _ _ v u Q I rx ry ⟨rfl, ?_⟩
    rw [isNone_rep ra]
    exact q _ _ Step.refl so (.bl _)
  · cases e
theorem flat_rep {K : PySem.W.Frag} {G : Hp} {x : V} : ∀ {d : D}, Rep K G x d → flatV x = flatD d
  | _, .non => rfl
  | _, .bl _ => rfl
  | _, .int _ => rfl
  | _, .str _ => rfl
  | _, .lst _ _ => rfl
  | _, .tup _ _ => rfl
  | _, .dk _ _ _ => rfl
  | _, .dt _ _ _ => rfl
theorem eqV_rep {K : PySem.W.Frag} {G : Hp} {x y : V} {d e : D} (r : Rep K G x d) (r2 : Rep K G y e) (f : flatD d = true) (f2 : flatD e = true) : eqV x y = PyData.eqv d e := by
  cases r <;> first | (cases f; done) | (cases r2 <;> first | (cases f2; done) | (simp [eqV, PyData.eqv]))
theorem inV_rep {K : PySem.W.Frag} {G : Hp} {x : V} {d : D} (r : Rep K G x d) (f : flatD d = true) : ∀ {vs : List V} {ds : List D}, Reps K G vs ds → ds.all flatD = true → vs.all flatV = true ∧ inV x vs = ds.any fun z => PyData.eqv z d
  | _, _, .nil, _ => ⟨rfl, rfl⟩
  | v :: vs, e :: ds, .cons h t, k => by
    rw [List.all_cons, Bool.and_eq_true] at k
    obtain ⟨h1, h2⟩ := inV_rep r f t k.2
    refine ⟨by rw [List.all_cons, h1, flat_rep h, k.1]; rfl, ?_⟩
    show (eqV v x || inV x vs) = (PyData.eqv e d || ds.any fun z => PyData.eqv z d)
    rw [h2, eqV_rep h r k.1 f]
theorem view_flat {K : PySem.W.Frag} {L : List Addr} {H : Hp} {S : Sto} {v : V} {d : D} (f : flatD d = true) : ∀ {o : OV}, view S o = some d → RepO K L H v o → StoR K L H S → Rep K (mask L H) v d
  | .dat d', e, r, s => by cases e; exact r
  | .own n, e, ⟨a, h1, h2⟩, s => by
    have q := s.obj n a _ h2 e
    cases d <;> first | (cases f; done) | exact q.elim
theorem sign_of {x : Str} {c : Nat} (h : oneSign x = some c) : x = ⟨#[c]⟩ := by
  unfold oneSign at h
  split at h
  · rename_i q
    cases h
    obtain ⟨cps⟩ := x
    have : cps = #[c] := by
      apply Array.toList_inj.mp
      exact q
    rw [this]
  · cases h
theorem in_run {op : CmpOp} {neg : Bool} (h1 : OpR X (compareOp op) (rIn X.K neg)) (h2 : OpR X (compareOp op) (fun x y H Q => ∃ (c : Nat) (z : Str), x = .str ⟨#[c]⟩ ∧ y = .str z ∧ Q (.bl (if neg then !decide (c ∈ z.cps.toList) else decide (c ∈ z.cps.toList))) H))
    (h3 : OpR X (compareOp op) (fun x y H Q => ∃ d ds, Dp X.K H x d ∧ Dp X.K H y (.list ds) ∧ SeqAt.shaped d = true ∧ SeqAt.shaped (.list ds) = true ∧ Q (.bl (if neg then !(ds.any fun z => PyData.eqv z d) else ds.any fun z => PyData.eqv z d)) H))
    {g : Sto → OV → OV → Option D} (hg : ∀ S a b d, g S a b = some d → ∃ d1 d2 k, view S a = some d1 ∧ view S b = some d2 ∧ inD d1 d2 = some k ∧ d = .bool (if neg then !k else k)) : OpR X (compareOp op) (rOf X.K g) := by
  intro pins s σ H x y v u Q I rx ry h
  obtain ⟨L, S, a, b, d, so, ra, rb, e, q⟩ := h
  obtain ⟨d1, d2, k, e1, e2, e3, rfl⟩ := hg S a b d e
  unfold inD at e3
  split at e3
  · rename_i z
    split at e3
    · rename_i x'
      cases hs : oneSign x' with
      | none => rw [hs] at e3; cases e3
      | some c =>
        rw [hs] at e3
        cases e3
        obtain rfl := view_str e1 ra so
        obtain rfl := view_str e2 rb so
        exact h2 pins s σ H _ _ v u Q I rx ry ⟨c, z, by rw [sign_of hs], rfl, q _ _ Step.refl so (.bl _)⟩
    · cases e3
  · rename_i ds
    split at e3
    · rename_i hz
      cases e3
      obtain ⟨p, vs, rfl, m, r⟩ := view_tup e2 rb so
      have rx' := view_flat hz.1 e1 ra so
      obtain ⟨k1, k2⟩ := inV_rep rx' hz.1 r hz.2
      refine h1 pins s σ H _ _ v u Q I rx ry ⟨p, vs, rfl, .inr m, by rw [flat_rep rx']; exact hz.1, k1, ?_⟩
      rw [k2]
      exact q _ _ Step.refl so (.bl _)
    · cases e3
  · rename_i ds
    split at e3
    · rename_i hz
      cases e3
      obtain ⟨p, vs, rfl, m, r⟩ := view_list e2 rb so
      have rx' := view_flat hz.1 e1 ra so
      obtain ⟨k1, k2⟩ := inV_rep rx' hz.1 r hz.2
      refine h1 pins s σ H _ _ v u Q I rx ry ⟨p, vs, rfl, .inl m, by rw [flat_rep rx']; exact hz.1, k1, ?_⟩
      rw [k2]
      exact q _ _ Step.refl so (.bl _)
    · split at e3
      · rename_i hz
        cases e3
        exact h3 pins s σ H _ _ v u Q I rx ry ⟨_, ds, view_rep e1 ra so (shaped_lay hz.1), view_rep e2 rb so (shaped_lay hz.2), hz.1, hz.2, q _ _ Step.refl so (.bl _)⟩
      · cases e3
  · cases e3
theorem room65 {k : Nat} {A : Around} (hr : Room k A) : A.units + 65 < cLine := by
  have := hr.un
  omega
theorem ro_in {k : Nat} (hr : Room k X.A) : OpR X (compareOp .In) (rOf X.K inS) := by
  refine in_run (neg := false) op_in_seq op_in_sign (op_inD (room65 hr)) fun S a b d e => ?_
  unfold inS at e
  split at e
  · rename_i d1 d2 h1 h2
    cases e3 : inD d1 d2 with
    | none => rw [e3] at e; cases e
    | some k =>
      rw [e3] at e
      cases e
      exact ⟨_, _, k, h1, h2, e3, rfl⟩
  · cases e
theorem ro_notIn {k : Nat} (hr : Room k X.A) : OpR X (compareOp .NotIn) (rOf X.K notInS) := by
  refine in_run (neg := true) op_notIn_seq op_notIn_sign (op_notInD (room65 hr)) fun S a b d e => ?_
  unfold notInS at e
  split at e
  · rename_i d1 d2 h1 h2
    cases e3 : inD d1 d2 with
    | none => rw [e3] at e; cases e
    | some k =>
      rw [e3] at e
      cases e
      exact ⟨_, _, k, h1, h2, e3, rfl⟩
  · cases e
end
end Dk
set_option Elab.async false
set_option linter.all false
set_option maxRecDepth 100000
set_option maxHeartbeats 4000000
/-! Subscripts, slices, built-ins, methods on data. -/
namespace Dk
open PySem PySem.Spec L2

/-! ### subscripts -/
def ixS (S : Sto) (a b : OV) : Option D := match view S a, view S b with
  | some (.list ds), some (.int i) => atI ds i
  | some (.tuple ds), some (.int i) => atI ds i
  | some (.str x), some (.int i) => if x.length ≤ sizeLine then (atI x.cps.toList i).map fun c => .str ⟨#[c]⟩ else none
  | _, _ => none
theorem Reps.atI {K : PySem.W.Frag} {G : Hp} {vs : List V} {ds : List D} (r : Reps K G vs ds) {i : Int} {d : D} (h : L2.atI ds i = some d) : ∃ v, L2.atI vs i = some v ∧ Rep K G v d := by
  unfold L2.atI at h ⊢
  rw [r.length]
  obtain ⟨j, h1, h2⟩ := opt_bind h
  obtain ⟨v, h3, h4⟩ := r.at_ h2
  exact ⟨v, by rw [h1]; exact h3, h4⟩
/-! dicts as data: keys that are ints and texts, or tuples of them -/
def keyOf1 : D → Option L2.Key
  | .int i => some (.inl i)
  | .str x => some (.inr x)
  | _ => none
def keysOf : List D → Option (List L2.Key)
  | [] => some []
  | d :: r => (keyOf1 d).bind fun k => (keysOf r).map (k :: ·)
def valD (ks : List (D × D)) (d : D) : Option D := (ks.find? fun p => PyData.eqv p.1 d).map (·.2)
theorem keyOf1_eq {d : D} {k : L2.Key} (h : keyOf1 d = some k) : d = keyD k := by
  cases d <;> cases h <;> rfl
theorem keysOf_eq : ∀ {ds : List D} {ks : List L2.Key}, keysOf ds = some ks → ds = ks.map keyD
  | [], _, h => by cases h; rfl
  | d :: r, _, h => by
    obtain ⟨k, e1, h1⟩ := opt_bind (show (keyOf1 d).bind _ = some _ from h)
    cases e2 : keysOf r with
    | none => rw [e2] at h1; cases h1
    | some l =>
      rw [e2] at h1
      cases h1
      rw [keyOf1_eq e1, keysOf_eq e2]
      rfl
theorem eqv_key (a b : L2.Key) : PyData.eqv (keyD a) (keyD b) = decide (a = b) := by
  rw [Bool.eq_iff_iff]
  cases a <;> cases b <;> simp [keyD, PyData.eqv]
theorem eqv_keysAll : ∀ a b : List L2.Key, PyData.eqvAll (a.map keyD) (b.map keyD) = decide (a = b)
  | [], [] => by simp [PyData.eqvAll]
  | [], _ :: _ => by simp [PyData.eqvAll]
  | _ :: _, [] => by simp [PyData.eqvAll]
  | a :: l, b :: m => by
    rw [List.map_cons, List.map_cons, PyData.eqvAll, eqv_key, eqv_keysAll l m]
    rw [Bool.eq_iff_iff]
    simp
theorem eqv_keys (a b : List L2.Key) : PyData.eqv (keysD a) (keysD b) = decide (a = b) := by
  unfold keysD
  rw [PyData.eqv]
  exact eqv_keysAll a b
theorem valD_rep {κ : Type} [DecidableEq κ] {K : PySem.W.Frag} {G : Hp} (f : κ → D) (hf : ∀ a b, PyData.eqv (f a) (f b) = decide (a = b)) (k : κ) : ∀ {ks : List κ} {vs : List V} {ds : List D}, ks.length = vs.length → Reps K G vs ds →
    (∀ d, valD ((ks.map f).zip ds) (f k) = some d → ∃ v, valV (ks.zip vs) k = some v ∧ Rep K G v d) ∧ ((valD ((ks.map f).zip ds) (f k)).isSome = (valV (ks.zip vs) k).isSome)
  | [], _, _, _, _ => ⟨fun d h => (by cases h), rfl⟩
  | _ :: _, [], _, hl, _ => (by simp at hl)
  | a :: ks, v :: vs, _, hl, r => by
    cases r with
    | cons h t =>
    rename_i d ds
    have ih := valD_rep f hf k (ks := ks) (by simpa using hl) t
    by_cases c : a = k
    · subst c
      have e1 : valD (((a :: ks).map f).zip (d :: ds)) (f a) = some d := by simp [valD, List.find?_cons, hf]
      have e2 : valV ((a :: ks).zip (v :: vs)) a = some v := by simp [valV, List.find?_cons]
      refine ⟨fun d' q => ?_, by rw [e1, e2]; rfl⟩
      rw [e1] at q
      cases q
      exact ⟨v, e2, h⟩
    · have e1 : valD (((a :: ks).map f).zip (d :: ds)) (f k) = valD ((ks.map f).zip ds) (f k) := by simp [valD, List.find?_cons, hf, c]
      have e2 : valV ((a :: ks).zip (v :: vs)) k = valV (ks.zip vs) k := by simp [valV, List.find?_cons, c]
      rw [e1, e2]
      exact ih
/-- what may be asked of a dict: its keys are of the kind of the one that is asked for -/
def isK1 : D → Bool
  | .int _ => true
  | .str _ => true
  | _ => false
def isKT : D → Bool
  | .tuple ds => (keysOf ds).isSome
  | _ => false
def dgetD (kvs : List (D × D)) (k : D) : Option D := if (isK1 k = true ∧ kvs.all fun p => isK1 p.1) ∨ (isKT k = true ∧ kvs.all fun p => isKT p.1) then valD kvs k else none
def ixA (S : Sto) (a b : OV) : Option D := match view S a with
  | some (.dict kvs) => (view S b).bind fun k => dgetD kvs k
  | _ => ixS S a b
section
variable {X : Cx} {C : Str → Value} {W : WX} {a b : Expr} {pos : Pos} {fa fb : E1}
theorem ri_ix : IxR X (rOf X.K ixS) := by
  intro value slice pins s σ H x y v u Q I rx ry h hs
  obtain ⟨L, S, a, b, d, so, ra, rb, e, q⟩ := h
  unfold ixS at e
  split at e
  · rename_i ds i h1 h2
    obtain ⟨p1, vs, rfl, m1, r1⟩ := view_list h1 ra so
    obtain rfl := view_int h2 rb so
    obtain ⟨w, k1, k2⟩ := r1.atI e
    exact ix_list value slice pins s σ H _ _ v u Q I rx ry ⟨p1, vs, i, w, rfl, rfl, m1, k1, q _ _ Step.refl so k2⟩ hs
  · rename_i ds i h1 h2
    obtain ⟨p1, vs, rfl, m1, r1⟩ := view_tup h1 ra so
    obtain rfl := view_int h2 rb so
    obtain ⟨w, k1, k2⟩ := r1.atI e
    exact ix_tup value slice pins s σ H _ _ v u Q I rx ry ⟨p1, vs, i, w, rfl, rfl, m1, k1, q _ _ Step.refl so k2⟩ hs
  · rename_i z i h1 h2
    split at e
    · rename_i hz
      obtain rfl := view_str h1 ra so
      obtain rfl := view_int h2 rb so
      cases k : L2.atI z.cps.toList i with
      | none => rw [k] at e; cases e
      | some c =>
        rw [k] at e
        cases e
        exact ix_str value slice pins s σ H _ _ v u Q I rx ry ⟨z, i, c, rfl, rfl, hz, k, q _ _ Step.refl so (.str _)⟩ hs
    · cases e
  · cases e
theorem de_ix (ha : DE X C W a fa) (hb : DE X C W b fb) (hs : PlainIx b) : DE X C W (.Subscript a b pos) (op2 ixS fa fb) := by
  obtain ⟨ta, p1, s1⟩ := ha.ex
  obtain ⟨tb, p2, s2⟩ := hb.ex
  exact ⟨_, pe_ix ri_ix p1 p2 hs, sm_op s1 s2⟩
end

/-! ### slices -/
abbrev EO := Env1 → Sto → Rs (Option Int)
def SmO (K : PySem.W.Frag) (C : Str → Value) (W : WX) (t : TO) (f : EO) : Prop := ∀ ρ S r S', f ρ S = some (r, S') → ∀ L σ H (Q : Option Int → Hp → Prop), EnvR K L H σ ρ → StoR K L H S →
  Post K C W L H σ S' r (fun _ H' b => Q b H') → t σ H Q
structure DO (X : Cx) (C : Str → Value) (W : WX) (e : Option Expr) (f : EO) : Prop where
  ex : ∃ t, PO X e t ∧ SmO X.K C W t f
def oNone : EO := fun _ S => ret none S
def oSome (f : E1) : EO := fun ρ S => (f ρ S).bind fun a S1 => match a with
  | .dat (.int i) => ret (some i) S1
  | _ => none
def cutD {α : Type} (xs : List α) (lo hi : Option Int) : List α := (xs.drop (HT.sIx xs.length 0 lo)).take (HT.sIx xs.length xs.length hi - HT.sIx xs.length 0 lo)
def slS (S : Sto) (a : OV) (lo hi : Option Int) : Option D := match view S a with
  | some (.list ds) => some (.list (cutD ds lo hi))
  | some (.tuple ds) => some (.tuple (cutD ds lo hi))
  | some (.str x) => if x.length ≤ sizeLine then some (.str (cutS x lo hi)) else none
  | _ => none
def slL (S : Sto) (a : OV) (lo hi : Option Int) : Option (List D) := match view S a with
  | some (.list ds) => some (cutD ds lo hi)
  | _ => none
theorem Reps.cut {K : PySem.W.Frag} {G : Hp} {vs : List V} {ds : List D} (r : Reps K G vs ds) (lo hi : Option Int) : Reps K G (cutV vs lo hi) (cutD ds lo hi) := by
  unfold cutV cutD
  rw [r.length]
  exact (r.drop _).take _
theorem cut_whole {α : Type} (xs : List α) (lo hi : Option Int) (h : HT.sIx xs.length 0 lo = 0 ∧ HT.sIx xs.length xs.length hi = xs.length) : cutD xs lo hi = xs := by
  unfold cutD
  rw [h.1, h.2]
  simp
def fSl (f : E1) (lo hi : EO) : E1 := fun ρ S => (f ρ S).bind fun a S1 => (lo ρ S1).bind fun l S2 => (hi ρ S2).bind fun h S3 => (slS S3 a l h).bind fun d => ret (.dat d) S3
def fSlL (f : E1) (lo hi : EO) : EF := fun ρ S => (f ρ S).bind fun a S1 => (lo ρ S1).bind fun l S2 => (hi ρ S2).bind fun h S3 => (slL S3 a l h).bind fun d => ret d S3
section
variable {X : Cx} {C : Str → Value} {W : WX} {e : Expr} {fe : E1} {lo hi : Option Expr} {fl fh : EO} {pos p2 : Pos}
theorem SmO.bind {K : PySem.W.Frag} {β : Type} {ρ : Env1} {S S' : Sto} {r : Sum β Exn} {L : List Addr} {H : Hp} {σ : L2.St} {ok : List Addr → Hp → β → Prop} {ta : TO} {fa : EO} (ha : SmO K C W ta fa) {k : Option Int → Sto → Rs β} (h : (fa ρ S).bind k = some (r, S')) (en : EnvR K L H σ ρ) (so : StoR K L H S) (po : Post K C W L H σ S' r ok) {R : Option Int → Hp → Prop}
    (go : ∀ a S1 L1 H1, k a S1 = some (r, S') → Step L H L1 H1 → StoR K L1 H1 S1 → EnvR K L1 H1 σ ρ → Post K C W L1 H1 σ S' r ok → R a H1) : ta σ H R := by
  cases e : fa ρ S with
  | none => rw [e] at h; cases h
  | some q =>
    obtain ⟨q, S1⟩ := q
    rw [e] at h
    cases q with
    | inr x =>
      cases h
      exact ha ρ S _ _ e L σ H R en so ⟨fun b z => (by cases z), fun e' he L' H' st so' cls d x => po.bad e' (by cases he; rfl) L' H' st so' cls d x⟩
    | inl a =>
      refine ha ρ S _ _ e L σ H R en so ⟨fun b z L' H' st so' => ?_, fun e' he => by cases he⟩
      cases z
      exact go a S1 L' H' h st so' (en.step st) (po.step st)
theorem do_none : DO X C W none oNone := ⟨_, po_none, fun ρ S r S' h L σ H Q en so po => po.done (S0 := S) h Step.refl so⟩
theorem do_some (h : DE X C W e fe) : DO X C W (some e) (oSome fe) := by
  obtain ⟨t, p, s⟩ := h.ex
  refine ⟨_, po_some p, fun ρ S r S' h L σ H Q en so po => ?_⟩
  refine s.bind h en so po fun a S1 L1 H1 v h1 st1 so1 r1 en1 po1 => ?_
  cases a with
  | own n => cases h1
  | dat d =>
    cases d <;> try (cases h1; done)
    rename_i k
    cases (r1 : Rep X.K _ v (.int k))
    exact ⟨k, rfl, po1.done (S0 := S1) h1 Step.refl so1⟩
def rOfSl (K : PySem.W.Frag) : V → Option Int → Option Int → Hp → VK → Prop := fun x lo hi H Q => ∃ L S a d, StoR K L H S ∧ RepO K L H x a ∧ slS S a lo hi = some d ∧
  ∀ v H', Step L H L H' → StoR K L H' S → Rep K (mask L H') v d → Q v H'
theorem rs_sl : SlR X (rOfSl X.K) := by
  intro pins s σ H x v vl vu lo hi sl Q I rx hs pl pu h
  obtain ⟨L, S, a, d, so, ra, e, q⟩ := h
  unfold slS at e
  split at e
  · rename_i ds h1
    cases e
    obtain ⟨p1, vs, rfl, m1, r1⟩ := view_list h1 ra so
    exact sl_list pins s σ H _ v vl vu lo hi sl Q I rx hs pl pu ⟨p1, vs, rfl, m1, fun p hp => q _ _ (step_new hp) (so.laid hp) (new_lst so hp (r1.cut lo hi))⟩
  · rename_i ds h1
    cases e
    obtain ⟨p1, vs, rfl, m1, r1⟩ := view_tup h1 ra so
    refine sl_tupA pins s σ H _ v vl vu lo hi sl Q I rx hs pl pu ⟨p1, vs, rfl, m1, fun z => ?_, fun z p hp => q _ _ (step_new hp) (so.laid hp) (new_tup so hp (r1.cut lo hi))⟩
    rw [cut_whole ds lo hi (by rw [← r1.length]; exact z)] at q
    refine q _ _ Step.refl so ?_
    cases a with
    | dat d => cases h1; exact ra
    | own n =>
      obtain ⟨c, h3, h4⟩ := ra
      exact (so.obj n c _ h4 h1 : ObjR X.K (mask L H) H c (.tuple ds)).elim
  · rename_i z h1
    split at e
    · rename_i hz
      cases e
      obtain rfl := view_str h1 ra so
      exact sl_str pins s σ H _ v vl vu lo hi sl Q I rx hs pl pu ⟨z, rfl, hz, q _ _ Step.refl so (.str _)⟩
    · cases e
  · cases e
theorem de_sl (h : DE X C W e fe) (hl : DO X C W lo fl) (hh : DO X C W hi fh) : DE X C W (.Subscript e (.Slice lo hi none p2) pos) (fSl fe fl fh) := by
  obtain ⟨t, p, s⟩ := h.ex
  obtain ⟨tl, q1, s1⟩ := hl.ex
  obtain ⟨th, q2, s2⟩ := hh.ex
  refine ⟨_, pe_slice rs_sl p q1 q2, fun ρ S r S' h L σ H Q en so po => ?_⟩
  refine s.bind h en so po fun a S1 L1 H1 v h1 st1 so1 r1 en1 po1 => ?_
  refine s1.bind h1 en1 so1 po1 fun l S2 L2 H2 h2 st2 so2 en2 po2 => ?_
  refine s2.bind h2 en2 so2 po2 fun l' S3 L3 H3 h3 st3 so3 en3 po3 => ?_
  obtain ⟨d, e1, h4⟩ := opt_bind h3
  exact ⟨L3, S3, a, d, so3, (r1.step st2).step st3, e1, fun w H' st so' rw' => po3.done (S0 := S3) h4 st so' w rw'⟩
theorem df_sl (h : DE X C W e fe) (hl : DO X C W lo fl) (hh : DO X C W hi fh) : DF X C W (.Subscript e (.Slice lo hi none p2) pos) (fSlL fe fl fh) := by
  obtain ⟨t, p, s⟩ := h.ex
  obtain ⟨tl, q1, s1⟩ := hl.ex
  obtain ⟨th, q2, s2⟩ := hh.ex
  refine ⟨_, pe_slice sl_list p q1 q2, fun ρ S r S' h L σ H Q en so po => ?_⟩
  refine s.bind h en so po fun a S1 L1 H1 v h1 st1 so1 r1 en1 po1 => ?_
  refine s1.bind h1 en1 so1 po1 fun l S2 L2 H2 h2 st2 so2 en2 po2 => ?_
  refine s2.bind h2 en2 so2 po2 fun l' S3 L3 H3 h3 st3 so3 en3 po3 => ?_
  obtain ⟨d, e1, h4⟩ := opt_bind h3
  unfold slL at e1
  split at e1
  · rename_i ds k1
    cases e1
    obtain ⟨p1, vs, rfl, m1, r1⟩ := view_list k1 ((r1.step st2).step st3) so3
    exact ⟨p1, vs, rfl, m1, fun w hw => po3.done (S0 := S3) h4 Step.refl so3 w _ hw (r1.cut _ _)⟩
  · cases e1
end

/-! ### built-ins by values -/
def rOfL (K : PySem.W.Frag) (g : Sto → List OV → Option D) : List V → Hp → VK → Prop := fun xs H Q => ∃ L S os d, StoR K L H S ∧ RepOs K L H xs os ∧ g S os = some d ∧
  ∀ v H', Step L H L H' → StoR K L H' S → Rep K (mask L H') v d → Q v H'
def opL (g : Sto → List OV → Option D) (fs : EL) : E1 := fun ρ S => (fs ρ S).bind fun os S1 => (g S1 os).bind fun d => ret (.dat d) S1
/-- .. that give a new list -/
def rOfF (K : PySem.W.Frag) (g : Sto → List OV → Option (List D)) : List V → Hp → VK → Prop := fun xs H Q => ∃ L S os ds, StoR K L H S ∧ RepOs K L H xs os ∧ g S os = some ds ∧
  ∀ p vs, H p = none → Reps K (mask L H) vs ds → Q (.ref p) (upd H p (.lst vs))
def opF (g : Sto → List OV → Option (List D)) (fs : EL) : EF := fun ρ S => (fs ρ S).bind fun os S1 => (g S1 os).bind fun ds => ret ds S1
section
variable {X : Cx} {C : Str → Value} {W : WX} {e : Expr} {es : List Expr} {fs : EL} {p pos : Pos} {x : Str} {K : PySem.W.Frag}
theorem sm_cb {g : Sto → List OV → Option D} {t : TA} (s : SmA K C W t fs) : SmE K C W (tCB (rOfL K g) t) (opL g fs) := fun ρ S r S' h L σ H Q en so po => by
  refine s.bind h en so po fun os S1 L1 H1 vs h1 st1 so1 r1 en1 po1 => ?_
  obtain ⟨d, e1, h2⟩ := opt_bind h1
  exact ⟨L1, S1, os, d, so1, r1, e1, fun w H' st so' rw' => po1.done (S0 := S1) h2 st so' w rw'⟩
theorem sm_cf {g : Sto → List OV → Option (List D)} {t : TA} (s : SmA K C W t fs) : SmF K C W (tCB (rOfF K g) t) (opF g fs) := fun ρ S r S' h L σ H Q en so po => by
  refine s.bind h en so po fun os S1 L1 H1 vs h1 st1 so1 r1 en1 po1 => ?_
  obtain ⟨ds, e1, h2⟩ := opt_bind h1
  exact ⟨L1, S1, os, ds, so1, r1, e1, fun q ws hq rs => po1.done (S0 := S1) h2 Step.refl so1 q ws hq rs⟩
theorem de_callB {id : String} {g : Sto → List OV → Option D} (hc : CallR X (.builtin id) (rOfL X.K g)) (hg : Gl X x) (hm : X.mg x = none) (hv : bootBuiltins x = some (.builtin id)) (ha : DA X C W (e :: es) fs) (hn : x ≠ "__name__" := by decide) (hdb : (x == ("__debug__" : Str)) = false := by decide)
    (he : starEach (e :: es) X.env = (false, eval e X.env) :: starEach es X.env := by rfl) (hpl : (backTo pos (starEach es X.env)).any (·.1) = false := by rfl) : DE X C W (.Call (.Name x p) (e :: es) [] pos) (opL g fs) := by
  obtain ⟨t, pa, s⟩ := ha.ex
  exact ⟨_, pe_callB hc hg hm hv pa hn hdb he hpl, sm_cb s⟩
theorem de_callTy {T : String} {g : Sto → List OV → Option D} (hc : CallR X (.type T) (rOfL X.K g)) (hg : Gl X x) (hm : X.mg x = none) (hv : bootBuiltins x = some (.type T)) (ha : DA X C W (e :: es) fs) (hn : x ≠ "__name__" := by decide) (hdb : (x == ("__debug__" : Str)) = false := by decide)
    (he : starEach (e :: es) X.env = (false, eval e X.env) :: starEach es X.env := by rfl) (hpl : (backTo pos (starEach es X.env)).any (·.1) = false := by rfl) : DE X C W (.Call (.Name x p) (e :: es) [] pos) (opL g fs) := by
  obtain ⟨t, pa, s⟩ := ha.ex
  exact ⟨_, pe_callTy hc hg hm hv pa hn hdb he hpl, sm_cb s⟩
theorem df_callB {id : String} {g : Sto → List OV → Option (List D)} (hc : CallR X (.builtin id) (rOfF X.K g)) (hg : Gl X x) (hm : X.mg x = none) (hv : bootBuiltins x = some (.builtin id)) (ha : DA X C W (e :: es) fs) (hn : x ≠ "__name__" := by decide) (hdb : (x == ("__debug__" : Str)) = false := by decide)
    (he : starEach (e :: es) X.env = (false, eval e X.env) :: starEach es X.env := by rfl) (hpl : (backTo pos (starEach es X.env)).any (·.1) = false := by rfl) : DF X C W (.Call (.Name x p) (e :: es) [] pos) (opF g fs) := by
  obtain ⟨t, pa, s⟩ := ha.ex
  exact ⟨_, pe_callB hc hg hm hv pa hn hdb he hpl, sm_cf s⟩
theorem df_callTy {T : String} {g : Sto → List OV → Option (List D)} (hc : CallR X (.type T) (rOfF X.K g)) (hg : Gl X x) (hm : X.mg x = none) (hv : bootBuiltins x = some (.type T)) (ha : DA X C W (e :: es) fs) (hn : x ≠ "__name__" := by decide) (hdb : (x == ("__debug__" : Str)) = false := by decide)
    (he : starEach (e :: es) X.env = (false, eval e X.env) :: starEach es X.env := by rfl) (hpl : (backTo pos (starEach es X.env)).any (·.1) = false := by rfl) : DF X C W (.Call (.Name x p) (e :: es) [] pos) (opF g fs) := by
  obtain ⟨t, pa, s⟩ := ha.ex
  exact ⟨_, pe_callTy hc hg hm hv pa hn hdb he hpl, sm_cf s⟩
end

def lenS (S : Sto) (os : List OV) : Option D := match os with
  | [o] => match view S o with
    | some (.list ds) => some (.int ds.length)
    | some (.tuple ds) => some (.int ds.length)
    | some (.str x) => if x.length ≤ sizeLine then some (.int x.length) else none
    | _ => none
  | _ => none
def intS (S : Sto) (os : List OV) : Option D := match os with
  | [o] => match view S o with
    | some (.int i) => some (.int i)
    | some (.bool k) => some (.int (if k then 1 else 0))
    | some (.str x) => if x.length ≤ 640 then (PySem.intText? x).map PyData.int else none
    | _ => none
  | _ => none
def strS (S : Sto) (os : List OV) : Option D := match os with
  | [o] => match view S o with
    | some (.int i) => if i.natAbs.log2 < 1920 then some (.str (toString i)) else none
    | _ => none
  | _ => none
def asInts : List D → Option (List Int)
  | [] => some []
  | .int i :: r => (asInts r).map (i :: ·)
  | _ => none
def asBools : List D → Option (List Bool)
  | [] => some []
  | .bool i :: r => (asBools r).map (i :: ·)
  | _ => none
def asStrs : List D → Option (List Str)
  | [] => some []
  | .str i :: r => (asStrs r).map (i :: ·)
  | _ => none
theorem asInts_eq : ∀ {ds : List D} {ns : List Int}, asInts ds = some ns → ds = ns.map .int
  | [], _, h => by cases h; rfl
  | .int i :: r, _, h => by
    unfold asInts at h
    cases e : asInts r with
    | none => rw [e] at h; cases h
    | some q => rw [e] at h; cases h; rw [asInts_eq e]; rfl
  | .none :: _, _, h => by cases h
  | .bool _ :: _, _, h => by cases h
  | .str _ :: _, _, h => by cases h
  | .list _ :: _, _, h => by cases h
  | .tuple _ :: _, _, h => by cases h
  | .dict _ :: _, _, h => by cases h
theorem asBools_eq : ∀ {ds : List D} {ns : List Bool}, asBools ds = some ns → ds = ns.map .bool
  | [], _, h => by cases h; rfl
  | .bool i :: r, _, h => by
    unfold asBools at h
    cases e : asBools r with
    | none => rw [e] at h; cases h
    | some q => rw [e] at h; cases h; rw [asBools_eq e]; rfl
  | .none :: _, _, h => by cases h
  | .int _ :: _, _, h => by cases h
  | .str _ :: _, _, h => by cases h
  | .list _ :: _, _, h => by cases h
  | .tuple _ :: _, _, h => by cases h
  | .dict _ :: _, _, h => by cases h
theorem asStrs_eq : ∀ {ds : List D} {ns : List Str}, asStrs ds = some ns → ds = ns.map .str
  | [], _, h => by cases h; rfl
  | .str i :: r, _, h => by
    unfold asStrs at h
    cases e : asStrs r with
    | none => rw [e] at h; cases h
    | some q => rw [e] at h; cases h; rw [asStrs_eq e]; rfl
  | .none :: _, _, h => by cases h
  | .int _ :: _, _, h => by cases h
  | .bool _ :: _, _, h => by cases h
  | .list _ :: _, _, h => by cases h
  | .tuple _ :: _, _, h => by cases h
  | .dict _ :: _, _, h => by cases h
def lmax : List Int → Option Int
  | [] => none
  | [x] => some x
  | x :: r => (lmax r).map fun m => if m > x then m else x
def lmin : List Int → Option Int
  | [] => none
  | [x] => some x
  | x :: r => (lmin r).map fun m => if m < x then m else x
theorem lmax_ok : ∀ {ns : List Int} {m : Int}, lmax ns = some m → m ∈ ns ∧ ∀ y ∈ ns, y ≤ m
  | [], _, h => by cases h
  | [x], m, h => by cases h; simp
  | x :: y :: r, m, h => by
    unfold lmax at h
    cases e : lmax (y :: r) with
    | none => rw [e] at h; cases h
    | some q =>
      rw [e] at h
      obtain ⟨h1, h2⟩ := lmax_ok e
      cases h
      by_cases c : q > x
      · simp only [c, if_true]
        refine ⟨List.mem_cons_of_mem _ h1, fun z hz => ?_⟩
        rcases List.mem_cons.mp hz with rfl | hz
        · omega
        · exact h2 z hz
      · simp only [c, if_false]
        refine ⟨List.mem_cons_self, fun z hz => ?_⟩
        rcases List.mem_cons.mp hz with rfl | hz
        · omega
        · have := h2 z hz
          omega
theorem lmin_ok : ∀ {ns : List Int} {m : Int}, lmin ns = some m → m ∈ ns ∧ ∀ y ∈ ns, m ≤ y
  | [], _, h => by cases h
  | [x], m, h => by cases h; simp
  | x :: y :: r, m, h => by
    unfold lmin at h
    cases e : lmin (y :: r) with
    | none => rw [e] at h; cases h
    | some q =>
      rw [e] at h
      obtain ⟨h1, h2⟩ := lmin_ok e
      cases h
      by_cases c : q < x
      · simp only [c, if_true]
        refine ⟨List.mem_cons_of_mem _ h1, fun z hz => ?_⟩
        rcases List.mem_cons.mp hz with rfl | hz
        · omega
        · exact h2 z hz
      · simp only [c, if_false]
        refine ⟨List.mem_cons_self, fun z hz => ?_⟩
        rcases List.mem_cons.mp hz with rfl | hz
        · omega
        · have := h2 z hz
          omega
def viewL (S : Sto) (o : OV) : Option (List D) := match view S o with
  | some (.list ds) => some ds
  | _ => none
def viewSeq (S : Sto) (o : OV) : Option (List D) := match view S o with
  | some (.list ds) => some ds
  | some (.tuple ds) => some ds
  | _ => none
theorem viewL_eq {S : Sto} {o : OV} {ds : List D} (h : viewL S o = some ds) : view S o = some (.list ds) := by
  unfold viewL at h
  split at h
  · cases h; assumption
  · cases h
def allS (S : Sto) (os : List OV) : Option D := match os with
  | [o] => (viewL S o).bind fun ds => (asBools ds).map fun bs => .bool (bs.all id)
  | _ => none
def anyS (S : Sto) (os : List OV) : Option D := match os with
  | [o] => (viewL S o).bind fun ds => (asBools ds).map fun bs => .bool (bs.any id)
  | _ => none
def sumS (S : Sto) (os : List OV) : Option D := match os with
  | [o] => (viewL S o).bind fun ds => (asInts ds).map fun ns => .int ns.sum
  | _ => none
def maxLS (S : Sto) (os : List OV) : Option D := match os with
  | [o] => (viewL S o).bind fun ds => (asInts ds).bind fun ns => (lmax ns).map PyData.int
  | _ => none
def minLS (S : Sto) (os : List OV) : Option D := match os with
  | [o] => (viewL S o).bind fun ds => (asInts ds).bind fun ns => (lmin ns).map PyData.int
  | _ => none
def max2S (S : Sto) (os : List OV) : Option D := match os with
  | [a, b] => match view S a, view S b with
    | some (.int i), some (.int j) => some (.int (if j > i then j else i))
    | _, _ => none
  | _ => none
def min2S (S : Sto) (os : List OV) : Option D := match os with
  | [a, b] => match view S a, view S b with
    | some (.int i), some (.int j) => some (.int (if j < i then j else i))
    | _, _ => none
  | _ => none
def tupleS (S : Sto) (os : List OV) : Option D := match os with
  | [o] => (viewSeq S o).map PyData.tuple
  | _ => none
def listS (S : Sto) (os : List OV) : Option (List D) := match os with
  | [o] => viewSeq S o
  | _ => none
theorem reps_one {K : PySem.W.Frag} {L : List Addr} {H : Hp} {xs : List V} {o : OV} (r : RepOs K L H xs [o]) : ∃ v, xs = [v] ∧ RepO K L H v o := by
  cases r with
  | cons h t => cases t; exact ⟨_, rfl, h⟩
theorem reps_two {K : PySem.W.Frag} {L : List Addr} {H : Hp} {xs : List V} {o o' : OV} (r : RepOs K L H xs [o, o']) : ∃ v w, xs = [v, w] ∧ RepO K L H v o ∧ RepO K L H w o' := by
  cases r with
  | cons h t =>
    cases t with
    | cons h2 t2 => cases t2; exact ⟨_, _, rfl, h, h2⟩
theorem opt_map {α β : Type} {o : Option α} {k : α → β} {x : β} (h : o.map k = some x) : ∃ a, o = some a ∧ k a = x := by
  cases o with
  | none => cases h
  | some a => exact ⟨a, rfl, Option.some.inj h⟩
section
variable {X : Cx}
theorem rc_len : CallR X (.builtin "len") (rOfL X.K lenS) := by
  intro pins s σ H xs us Q I r h
  obtain ⟨L, S, os, d, so, ro, e, q⟩ := h
  unfold lenS at e
  split at e
  · obtain ⟨v, rfl, rv⟩ := reps_one ro
    split at e
    · rename_i ds h1
      cases e
      obtain ⟨p1, vs, rfl, m1, r1⟩ := view_list h1 rv so
      refine call_len_seq pins s σ H _ us Q I r ⟨p1, vs, rfl, .inl m1, ?_⟩
      rw [r1.length]
      exact q _ _ Step.refl so (.int _)
    · rename_i ds h1
      cases e
      obtain ⟨p1, vs, rfl, m1, r1⟩ := view_tup h1 rv so
      refine call_len_seq pins s σ H _ us Q I r ⟨p1, vs, rfl, .inr m1, ?_⟩
      rw [r1.length]
      exact q _ _ Step.refl so (.int _)
    · rename_i z h1
      split at e
      · rename_i hz
        cases e
        obtain rfl := view_str h1 rv so
        exact call_len_str pins s σ H _ us Q I r ⟨z, rfl, hz, q _ _ Step.refl so (.int _)⟩
      · cases e
    · cases e
  · cases e
theorem rc_int : CallR X (.type "int") (rOfL X.K intS) := by
  intro pins s σ H xs us Q I r h
  obtain ⟨L, S, os, d, so, ro, e, q⟩ := h
  unfold intS at e
  split at e
  · obtain ⟨v, rfl, rv⟩ := reps_one ro
    split at e
    · rename_i i h1
      cases e
      obtain rfl := view_int h1 rv so
      exact call_int1 pins s σ H _ us Q I r (.inl ⟨i, rfl, q _ _ Step.refl so (.int _)⟩)
    · rename_i k h1
      cases e
      obtain rfl := view_bool h1 rv so
      exact call_int1 pins s σ H _ us Q I r (.inr ⟨k, rfl, q _ _ Step.refl so (.int _)⟩)
    · rename_i z h1
      split at e
      · rename_i hz
        obtain ⟨n, e1, rfl⟩ := opt_map e
        obtain rfl := view_str h1 rv so
        exact call_int_str pins s σ H _ us Q I r ⟨z, n, rfl, e1, hz, q _ _ Step.refl so (.int _)⟩
      · cases e
    · cases e
  · cases e
theorem rc_str : CallR X (.type "str") (rOfL X.K strS) := by
  intro pins s σ H xs us Q I r h
  obtain ⟨L, S, os, d, so, ro, e, q⟩ := h
  unfold strS at e
  split at e
  · obtain ⟨v, rfl, rv⟩ := reps_one ro
    split at e
    · rename_i i h1
      split at e
      · rename_i hz
        cases e
        obtain rfl := view_int h1 rv so
        exact call_str_int pins s σ H _ us Q I r ⟨i, rfl, hz, q _ _ Step.refl so (.str _)⟩
      · cases e
    · cases e
  · cases e
theorem rc_all (hc : X.calm = true) : CallR X (.builtin "all") (rOfL X.K allS) := by
  intro pins s σ H xs us Q I r h
  obtain ⟨L, S, os, d, so, ro, e, q⟩ := h
  unfold allS at e
  split at e
  · obtain ⟨v, rfl, rv⟩ := reps_one ro
    obtain ⟨ds, e1, e2⟩ := opt_bind e
    obtain ⟨bs, e3, rfl⟩ := opt_map e2
    obtain ⟨p1, vs, rfl, m1, r1⟩ := view_list (viewL_eq e1) rv so
    rw [asBools_eq e3] at r1
    rw [r1.bools] at m1
    exact cr_all hc pins s σ H _ us Q I r ⟨p1, bs, rfl, m1, q _ _ Step.refl so (.bl _)⟩
  · cases e
theorem rc_any (hc : X.calm = true) : CallR X (.builtin "any") (rOfL X.K anyS) := by
  intro pins s σ H xs us Q I r h
  obtain ⟨L, S, os, d, so, ro, e, q⟩ := h
  unfold anyS at e
  split at e
  · obtain ⟨v, rfl, rv⟩ := reps_one ro
    obtain ⟨ds, e1, e2⟩ := opt_bind e
    obtain ⟨bs, e3, rfl⟩ := opt_map e2
    obtain ⟨p1, vs, rfl, m1, r1⟩ := view_list (viewL_eq e1) rv so
    rw [asBools_eq e3] at r1
    rw [r1.bools] at m1
    exact cr_any hc pins s σ H _ us Q I r ⟨p1, bs, rfl, m1, q _ _ Step.refl so (.bl _)⟩
  · cases e
theorem rc_sum (hc : X.calm = true) : CallR X (.builtin "sum") (rOfL X.K sumS) := by
  intro pins s σ H xs us Q I r h
  obtain ⟨L, S, os, d, so, ro, e, q⟩ := h
  unfold sumS at e
  split at e
  · obtain ⟨v, rfl, rv⟩ := reps_one ro
    obtain ⟨ds, e1, e2⟩ := opt_bind e
    obtain ⟨bs, e3, rfl⟩ := opt_map e2
    obtain ⟨p1, vs, rfl, m1, r1⟩ := view_list (viewL_eq e1) rv so
    rw [asInts_eq e3] at r1
    rw [r1.ints] at m1
    exact cr_sum hc pins s σ H _ us Q I r ⟨p1, bs, rfl, m1, q _ _ Step.refl so (.int _)⟩
  · cases e
theorem rc_maxL (hc : X.calm = true) : CallR X (.builtin "max") (rOfL X.K maxLS) := by
  intro pins s σ H xs us Q I r h
  obtain ⟨L, S, os, d, so, ro, e, q⟩ := h
  unfold maxLS at e
  split at e
  · obtain ⟨v, rfl, rv⟩ := reps_one ro
    obtain ⟨ds, e1, e2⟩ := opt_bind e
    obtain ⟨ns, e3, e4⟩ := opt_bind e2
    obtain ⟨m, e5, rfl⟩ := opt_map e4
    obtain ⟨p1, vs, rfl, m1, r1⟩ := view_list (viewL_eq e1) rv so
    rw [asInts_eq e3] at r1
    rw [r1.ints] at m1
    obtain ⟨k1, k2⟩ := lmax_ok e5
    refine cr_max hc pins s σ H _ us Q I r ⟨p1, ns, rfl, m1, List.length_pos_of_mem k1, fun m' h1 h2 => ?_⟩
    have a1 := k2 m' h1
    have a2 := h2 m k1
    obtain rfl : m' = m := by omega
    exact q _ _ Step.refl so (.int _)
  · cases e
theorem rc_minL (hc : X.calm = true) : CallR X (.builtin "min") (rOfL X.K minLS) := by
  intro pins s σ H xs us Q I r h
  obtain ⟨L, S, os, d, so, ro, e, q⟩ := h
  unfold minLS at e
  split at e
  · obtain ⟨v, rfl, rv⟩ := reps_one ro
    obtain ⟨ds, e1, e2⟩ := opt_bind e
    obtain ⟨ns, e3, e4⟩ := opt_bind e2
    obtain ⟨m, e5, rfl⟩ := opt_map e4
    obtain ⟨p1, vs, rfl, m1, r1⟩ := view_list (viewL_eq e1) rv so
    rw [asInts_eq e3] at r1
    rw [r1.ints] at m1
    obtain ⟨k1, k2⟩ := lmin_ok e5
    refine cr_min hc pins s σ H _ us Q I r ⟨p1, ns, rfl, m1, List.length_pos_of_mem k1, fun m' h1 h2 => ?_⟩
    have a1 := k2 m' h1
    have a2 := h2 m k1
    obtain rfl : m' = m := by omega
    exact q _ _ Step.refl so (.int _)
  · cases e
theorem rc_max2 (hc : X.calm = true) : CallR X (.builtin "max") (rOfL X.K max2S) := by
  intro pins s σ H xs us Q I r h
  obtain ⟨L, S, os, d, so, ro, e, q⟩ := h
  unfold max2S at e
  split at e
  · obtain ⟨v, w, rfl, rv, rw'⟩ := reps_two ro
    split at e
    · rename_i i j h1 h2
      cases e
      obtain rfl := view_int h1 rv so
      obtain rfl := view_int h2 rw' so
      exact call_max2 hc pins s σ H _ us Q I r ⟨i, j, rfl, q _ _ Step.refl so (.int _)⟩
    · cases e
  · cases e
theorem rc_min2 (hc : X.calm = true) : CallR X (.builtin "min") (rOfL X.K min2S) := by
  intro pins s σ H xs us Q I r h
  obtain ⟨L, S, os, d, so, ro, e, q⟩ := h
  unfold min2S at e
  split at e
  · obtain ⟨v, w, rfl, rv, rw'⟩ := reps_two ro
    split at e
    · rename_i i j h1 h2
      cases e
      obtain rfl := view_int h1 rv so
      obtain rfl := view_int h2 rw' so
      exact call_min2 hc pins s σ H _ us Q I r ⟨i, j, rfl, q _ _ Step.refl so (.int _)⟩
    · cases e
  · cases e
theorem viewSeq_ok {K : PySem.W.Frag} {L : List Addr} {H : Hp} {S : Sto} {v : V} {ds : List D} {o : OV} (h : viewSeq S o = some ds) (r : RepO K L H v o) (so : StoR K L H S) :
    ∃ a vs, v = .ref a ∧ Reps K (mask L H) vs ds ∧ ((view S o = some (.list ds) ∧ SqL K H a vs) ∨ (view S o = some (.tuple ds) ∧ SqT K H a vs ∧ Rep K (mask L H) v (.tuple ds))) := by
  unfold viewSeq at h
  split at h
  · rename_i q
    cases h
    obtain ⟨a, vs, e, m, rs⟩ := view_list q r so
    exact ⟨a, vs, e, rs, .inl ⟨q, m⟩⟩
  · rename_i q
    cases h
    obtain ⟨a, vs, e, m, rs⟩ := view_tup q r so
    refine ⟨a, vs, e, rs, .inr ⟨q, m, ?_⟩⟩
    cases o with
    | dat d => cases q; exact r
    | own n =>
      obtain ⟨c, h3, h4⟩ := r
      exact (so.obj n c _ h4 q : ObjR K (mask L H) H c (.tuple _)).elim
  · cases h
theorem rc_tuple : CallR X (.type "tuple") (rOfL X.K tupleS) := by
  intro pins s σ H xs us Q I r h
  obtain ⟨L, S, os, d, so, ro, e, q⟩ := h
  unfold tupleS at e
  split at e
  · obtain ⟨v, rfl, rv⟩ := reps_one ro
    obtain ⟨ds, e1, rfl⟩ := opt_map e
    obtain ⟨a, vs, rfl, rs, m⟩ := viewSeq_ok e1 rv so
    rcases m with ⟨_, m⟩ | ⟨_, m, rt⟩
    · exact call_tuple_of pins s σ H _ us Q I r ⟨a, vs, rfl, .inl ⟨m, fun l hl => q _ _ (step_new hl) (so.laid hl) (new_tup so hl rs)⟩⟩
    · exact call_tuple_of pins s σ H _ us Q I r ⟨a, vs, rfl, .inr ⟨m, q _ _ Step.refl so rt⟩⟩
  · cases e
theorem rc_list : CallR X (.type "list") (rOfF X.K listS) := by
  intro pins s σ H xs us Q I r h
  obtain ⟨L, S, os, d, so, ro, e, q⟩ := h
  unfold listS at e
  split at e
  · obtain ⟨v, rfl, rv⟩ := reps_one ro
    obtain ⟨a, vs, rfl, rs, m⟩ := viewSeq_ok e rv so
    rcases m with ⟨_, m⟩ | ⟨_, m, rt⟩
    · exact call_list_of pins s σ H _ us Q I r ⟨a, vs, rfl, .inl m, fun l hl => q l vs hl rs⟩
    · exact call_list_of pins s σ H _ us Q I r ⟨a, vs, rfl, .inr m, fun l hl => q l vs hl rs⟩
  · cases e
end

/-! ### isinstance of built-in types -/
def tyName : D → String
  | .none => "NoneType"
  | .bool _ => "bool"
  | .int _ => "int"
  | .str _ => "str"
  | .list _ => "list"
  | .tuple _ => "tuple"
  | .dict _ => "dict"
def isTy (n T : String) : Bool := n == T || (n == "bool" && T == "int")
def tyNames : List String := ["NoneType", "bool", "int", "str", "list", "tuple", "dict"]
theorem kit_tab : (tyNames.all fun n => ["int", "bool", "str", "tuple", "list"].all fun T => decide (kitB n T = some (isTy n T))) = true := by decide +kernel
theorem kit_is {n T : String} (hn : n ∈ tyNames) (hT : T ∈ ["int", "bool", "str", "tuple", "list"]) : kitB n T = some (isTy n T) := by
  have h := kit_tab
  rw [List.all_eq_true] at h
  have h1 := h n hn
  rw [List.all_eq_true] at h1
  exact of_decide_eq_true (h1 T hT)
theorem tyName_mem (d : D) : tyName d ∈ tyNames := by cases d <;> simp [tyName, tyNames]
def viewI (S : Sto) : OV → Option D
  | .dat d => some d
  | .own n => match S[n]? with
    | some (.dict kvs) => if isLk kvs = true then none else some (.dict kvs)
    | r => r
def isiF (T : String) (f : E1) : E1 := fun ρ S => (f ρ S).bind fun a S1 => (viewI S1 a).bind fun d => ret (.dat (.bool (isTy (tyName d) T))) S1
theorem rep_ty {K : PySem.W.Frag} {L : List Addr} {H : Hp} {x : V} {d : D} (r : Rep K (mask L H) x d) : TyX K H x (.type (tyName d)) := by
  cases r with
  | non => exact .base .non
  | bl b => exact .base (.bl b)
  | int i => exact .base (.int i)
  | str z => exact .base (.str z)
  | lst h _ =>
    rcases same_l (mask_same L H) h with (h | ⟨o, h⟩) | ⟨o, its, n, hk, hc, _⟩
    · exact .base (.lst h)
    · exact .base (.frz h)
    · exact .kList hk hc
  | tup h _ =>
    exact .base (.tup (mask_same L H _ _ h))
  | dk _ h _ => exact .base (.dK (mask_same L H _ _ h))
  | dt _ h _ => exact .base (.dT (mask_same L H _ _ h))
theorem repO_ty {K : PySem.W.Frag} {L : List Addr} {H : Hp} {S : Sto} {x : V} {d : D} : ∀ {o : OV}, viewI S o = some d → RepO K L H x o → StoR K L H S → TyX K H x (.type (tyName d))
  | .dat _, e, r, s => by cases e; exact rep_ty r
  | .own n, e, ⟨a, h1, h2⟩, s => by
    have e' : S[n]? = some d ∧ ∀ kvs, d = .dict kvs → isLk kvs ≠ true := by
      have e : (match S[n]? with
        | some (.dict kvs) => if isLk kvs = true then none else some (.dict kvs)
        | r => r) = some d := e
      split at e
      · rename_i kvs hk
        split at e
        · cases e
        · rename_i hl
          cases e
          exact ⟨hk, fun k2 z => by cases z; exact hl⟩
      · rename_i hn
        exact ⟨e, fun k2 z => absurd (by rw [e, z]) (hn k2)⟩
    obtain ⟨e, hl⟩ := e'
    have q := s.obj n a _ h2 e
    subst h1
    cases d <;> try exact q.elim
    · obtain ⟨vs, q1, _⟩ := q
      exact .base (.lst q1)
    · rcases q with ⟨_, _, _, _, q1, _⟩ | ⟨_, _, _, _, q1, _⟩ | ⟨_, _, _, _, _, q1, _, rfl, _⟩ | ⟨_, _, _, _, _, q1, _, rfl⟩
      · exact .base (.dK q1)
      · exact .base (.dT q1)
      · exact absurd rfl (hl _ rfl)
      · exact absurd rfl (hl _ rfl)
section
variable {X : Cx} {C : Str → Value} {W : WX} {a : Expr} {fa : E1} {p p2 pos : Pos} {T : String} {x : Str}
theorem de_isi (ha : DE X C W a fa) (hT : T ∈ ["int", "bool", "str", "tuple", "list"]) (hg : Gl X "isinstance") (hm : X.mg "isinstance" = none) (hgT : Gl X x) (hmT : X.mg x = none) (hvT : bootBuiltins x = some (.type T)) (hnT : x ≠ "__name__" := by decide) (hdT : (x == ("__debug__" : Str)) = false := by decide)
    (hs1 : starEach [a, .Name x p2] X.env = (false, eval a X.env) :: starEach [.Name x p2] X.env := by rfl) (hs2 : starEach [.Name x p2] X.env = (false, eval (.Name x p2) X.env) :: starEach [] X.env := by rfl)
    (hpl : (backTo pos (starEach [.Name x p2] X.env)).any (·.1) = false := by rfl) : DE X C W (.Call (.Name "isinstance" p) [a, .Name x p2] [] pos) (isiF T fa) := by
  obtain ⟨t, pa, s⟩ := ha.ex
  refine ⟨_, pe_callB call_isi hg hm (by decide +kernel) (pa_cons pa (pa_cons (pe_bltn (v := .ty T) hgT hmT hvT rfl hnT hdT) pa_nil hs2) hs1) (by decide) (by decide) hs1 hpl, fun ρ S r S' h L σ H Q en so po => ?_⟩
  refine s.bind h en so po fun o S1 L1 H1 v h1 st1 so1 r1 en1 po1 => ?_
  obtain ⟨d, e1, h2⟩ := opt_bind h1
  exact ⟨v, .ty T, .type (tyName d), .type T, isTy (tyName d) T, rfl, .ty T, repO_ty e1 r1 so1, kit_ty (kit_is (tyName_mem d) hT), po1.done (S0 := S1) h2 Step.refl so1 _ (.bl _)⟩
end
end Dk
set_option Elab.async false
set_option linter.all false
set_option maxRecDepth 100000
set_option maxHeartbeats 4000000
/-! Statements over data; loops; a def. -/
namespace Dk
open PySem PySem.Spec L2

inductive Fl where
  | nx | bk | ct
  | rt (o : OV)
  | er (e : Exn)
abbrev SS := Env1 → Sto → Option (Fl × Env1 × Sto)
structure PostS (K : PySem.W.Frag) (C : Str → Value) (W : WX) (L : List Addr) (H : Hp) (D : Ends) (fl : Fl) (ρ' : Env1) (S' : Sto) : Prop where
  nx : fl = .nx → ∀ L' H' σ', Step L H L' H' → StoR K L' H' S' → EnvR K L' H' σ' ρ' → D.nx σ' H'
  bk : fl = .bk → ∀ L' H' σ', Step L H L' H' → StoR K L' H' S' → EnvR K L' H' σ' ρ' → D.bk σ' H'
  ct : fl = .ct → ∀ L' H' σ', Step L H L' H' → StoR K L' H' S' → EnvR K L' H' σ' ρ' → D.ct σ' H'
  rt : ∀ o, fl = .rt o → ∀ L' H' v, Step L H L' H' → StoR K L' H' S' → RepO K L' H' v o → D.rt v H'
  er : ∀ e, fl = .er e → ∀ L' H' σ' cls d, Step L H L' H' → StoR K L' H' S' → EnvR K L' H' σ' ρ' → ExcR C K L' H' e cls d → W cls d σ' H'
def SmS (K : PySem.W.Frag) (C : Str → Value) (W : WX) (t : TS) (g : SS) : Prop := ∀ ρ S fl ρ' S', g ρ S = some (fl, ρ', S') → ∀ L σ H D, EnvR K L H σ ρ → StoR K L H S → PostS K C W L H D fl ρ' S' → t D σ H
section
variable {K : PySem.W.Frag} {C : Str → Value} {W : WX} {L L1 : List Addr} {H H1 : Hp} {D : Ends} {fl : Fl} {ρ ρ' : Env1} {S S' : Sto} {σ : L2.St}
theorem PostS.step (p : PostS K C W L H D fl ρ' S') (a : Step L H L1 H1) : PostS K C W L1 H1 D fl ρ' S' :=
  ⟨fun e L' H' σ' s => p.nx e L' H' σ' (a.trans s), fun e L' H' σ' s => p.bk e L' H' σ' (a.trans s), fun e L' H' σ' s => p.ct e L' H' σ' (a.trans s), fun o e L' H' v s => p.rt o e L' H' v (a.trans s),
    fun e he L' H' σ' cls d s => p.er e he L' H' σ' cls d (a.trans s)⟩
/-- an expression first -/
def sE (f : E1) (k : OV → SS) : SS := fun ρ S => match f ρ S with
  | none => none
  | some (.inr e, S1) => some (.er e, ρ, S1)
  | some (.inl a, S1) => k a ρ S1
def sB (f : EB) (k : Bool → SS) : SS := fun ρ S => match f ρ S with
  | none => none
  | some (.inr e, S1) => some (.er e, ρ, S1)
  | some (.inl a, S1) => k a ρ S1
theorem SmE.stm {te : TE} {f : E1} (s : SmE K C W te f) {k : OV → SS} (h : sE f k ρ S = some (fl, ρ', S')) (en : EnvR K L H σ ρ) (so : StoR K L H S) (po : PostS K C W L H D fl ρ' S') {R : VK}
    (go : ∀ a S1 L1 H1 v, k a ρ S1 = some (fl, ρ', S') → Step L H L1 H1 → StoR K L1 H1 S1 → RepO K L1 H1 v a → EnvR K L1 H1 σ ρ → PostS K C W L1 H1 D fl ρ' S' → R v H1) : te σ H R := by
  unfold sE at h
  split at h
  · cases h
  · rename_i e S1 q
    cases h
    exact s ρ S _ _ q L σ H R en so ⟨fun b z => (by cases z), fun e' he L' H' st so' cls d x => po.er e' (by cases he; rfl) L' H' σ cls d st so' (en.step st) x⟩
  · rename_i a S1 q
    refine s ρ S _ _ q L σ H R en so ⟨fun b z L' H' st so' v rv => ?_, fun e' he => by cases he⟩
    cases z
    exact go a S1 L' H' v h st so' rv (en.step st) (po.step st)
theorem SmT.stm {te : TT} {f : EB} (s : SmT K C W te f) {k : Bool → SS} (h : sB f k ρ S = some (fl, ρ', S')) (en : EnvR K L H σ ρ) (so : StoR K L H S) (po : PostS K C W L H D fl ρ' S') {R : Bool → Hp → Prop}
    (go : ∀ a S1 L1 H1, k a ρ S1 = some (fl, ρ', S') → Step L H L1 H1 → StoR K L1 H1 S1 → EnvR K L1 H1 σ ρ → PostS K C W L1 H1 D fl ρ' S' → R a H1) : te σ H R := by
  unfold sB at h
  split at h
  · cases h
  · rename_i e S1 q
    cases h
    exact s ρ S _ _ q L σ H R en so ⟨fun b z => (by cases z), fun e' he L' H' st so' cls d x => po.er e' (by cases he; rfl) L' H' σ cls d st so' (en.step st) x⟩
  · rename_i a S1 q
    refine s ρ S _ _ q L σ H R en so ⟨fun b z L' H' st so' => ?_, fun e' he => by cases he⟩
    cases z
    exact go a S1 L' H' h st so' (en.step st) (po.step st)
end
structure DS (X : Cx) (C : Str → Value) (W : WX) (st : Stmt) (g : SS) : Prop where
  ex : ∃ t, PS X st t ∧ SmS X.K C W t g
structure DSs (X : Cx) (C : Str → Value) (W : WX) (st : List Stmt) (g : SS) : Prop where
  ex : ∃ t, PSs X st t ∧ SmS X.K C W t g

/-! ### targets -/
abbrev Tg := OV → Env1 → Option Env1
def SmG (K : PySem.W.Frag) (is : List Nat) (g : TG) (t : Tg) : Prop := ∀ o ρ ρ', t o ρ = some ρ' → ∀ L σ H S v (Q : L2.St → Hp → Prop), EnvR K L H σ ρ → StoR K L H S → RepO K L H v o →
  (∀ σ', EnvR K L H σ' ρ' → (∀ vs : List Nat, (∀ i ∈ is, i ∈ vs) → wipe σ' vs = wipe σ vs) → Q σ' H) → g v σ H Q
abbrev Tgs := List OV → Env1 → Option Env1
def SmGs (K : PySem.W.Frag) (is : List Nat) (g : TGs) (t : Tgs) : Prop := ∀ os ρ ρ', t os ρ = some ρ' → ∀ L σ H S vs (Q : L2.St → Hp → Prop), EnvR K L H σ ρ → StoR K L H S → RepOs K L H vs os →
  (∀ σ', EnvR K L H σ' ρ' → (∀ vs : List Nat, (∀ i ∈ is, i ∈ vs) → wipe σ' vs = wipe σ vs) → Q σ' H) → g vs σ H Q
structure DG (X : Cx) (e : Expr) (is : List Nat) (t : Tg) : Prop where
  ex : ∃ g, PG X e g ∧ SmG X.K is g t
structure DGs (X : Cx) (es : List Expr) (is : List Nat) (t : Tgs) : Prop where
  ex : ∃ g, PGs X es g ∧ SmGs X.K is g t
theorem wipe_len (σ : L2.St) : ∀ vs : List Nat, (wipe σ vs).length = σ.length := L2.wipe_length σ
theorem wipe_at {σ : L2.St} {j : Nat} : ∀ {vs : List Nat}, j ∈ vs → j < σ.length → (wipe σ vs)[j]? = some none
  | v :: vs, h, hl => by
    show ((wipe σ vs).set v none)[j]? = _
    by_cases e : v = j
    · subst e
      exact List.getElem?_set_self (by rw [wipe_len]; exact hl)
    · rw [List.getElem?_set_ne e]
      exact wipe_at (by simpa [Ne.symm e] using h) hl
theorem wipe_off {σ : L2.St} {j : Nat} : ∀ {vs : List Nat}, j ∉ vs → (wipe σ vs)[j]? = σ[j]?
  | [], _ => rfl
  | v :: vs, h => by
    show ((wipe σ vs).set v none)[j]? = _
    rw [List.getElem?_set_ne (fun e => h (by simp [e]))]
    exact wipe_off (fun z => h (List.mem_cons_of_mem _ z))
theorem wipe_set {σ : L2.St} {i : Nat} {x : Option V} {vs : List Nat} (h : i ∈ vs) : wipe (σ.set i x) vs = wipe σ vs := by
  apply List.ext_getElem?
  intro j
  by_cases hj : j ∈ vs
  · by_cases hl : j < σ.length
    · rw [wipe_at hj hl, wipe_at hj (by rw [List.length_set]; exact hl)]
    · rw [List.getElem?_eq_none (by rw [wipe_len, List.length_set]; omega), List.getElem?_eq_none (by rw [wipe_len]; omega)]
  · have ne : i ≠ j := fun e => hj (by rw [← e]; exact h)
    rw [wipe_off hj, wipe_off hj, List.getElem?_set_ne ne]
def tgN (i : Nat) : Tg := fun o ρ => some (ρ.set i (some o))
def tgNil : Tgs := fun os ρ => match os with
  | [] => some ρ
  | _ => none
def tgCons (t : Tg) (u : Tgs) : Tgs := fun os ρ => match os with
  | o :: r => (t o ρ).bind fun ρ1 => u r ρ1
  | [] => none
def tgTup (n : Nat) (t : Tgs) : Tg := fun o ρ => match o with
  | .dat (.tuple ds) => if ds.length = n then t (ds.map .dat) ρ else none
  | _ => none
theorem reps_dat {K : PySem.W.Frag} {L : List Addr} {H : Hp} : ∀ {vs : List V} {ds : List D}, Reps K (mask L H) vs ds → RepOs K L H vs (ds.map .dat)
  | _, _, .nil => .nil
  | _, _, .cons h r => .cons h (reps_dat r)
section
variable {X : Cx} {pos : Pos} {K : PySem.W.Frag}
theorem smg_n {i : Nat} : SmG K [i] (gName i) (tgN i) := fun o ρ ρ' h L σ H S v Q en so rv q => by
  cases h
  exact q _ (en.set rv i) fun vs hv => wipe_set (hv i (by simp))
theorem dg_n (i : Nat) {x : Str} (hN : X.N.Nodup) (hi : X.N[i]? = some x) (hx : Loc X.env.scope x) (hf : X.fn x = true ∨ X.env.scope.names.lookup x = some .local := by first | exact .inl rfl | exact .inr rfl | assumption) : DG X (.Name x pos) [i] (tgN i) := ⟨_, pg_name hN hi hx hf, smg_n⟩
theorem dgs_nil : DGs X [] [] tgNil := ⟨_, pgs_nil, fun os ρ ρ' h L σ H S vs Q en so rv q => by
  cases rv with
  | nil => cases h; exact ⟨rfl, q _ en fun _ _ => rfl⟩
  | cons _ _ => cases h⟩
theorem dgs_cons {e : Expr} {es : List Expr} {t : Tg} {u : Tgs} {is js : List Nat} (h1 : DG X e is t) (h2 : DGs X es js u) (hs : (assignEach (e :: es) X.env).map (·.2) = assign e X.env :: (assignEach es X.env).map (·.2) := by rfl) : DGs X (e :: es) (is ++ js) (tgCons t u) := by
  obtain ⟨g, p, s⟩ := h1.ex
  obtain ⟨g2, p2, s2⟩ := h2.ex
  refine ⟨_, pgs_cons p p2 hs, fun os ρ ρ' h L σ H S vs Q en so rv q => ?_⟩
  cases rv with
  | nil => cases h
  | cons hv r =>
    obtain ⟨ρ1, e1, e2⟩ := opt_bind h
    exact ⟨_, _, rfl, s _ _ _ e1 L σ H S _ _ en so hv fun σ' en' k1 => s2 _ _ _ e2 L σ' H S _ _ en' so r fun σ'' en'' k2 => q σ'' en'' fun vs hv => (k2 vs fun i hi => hv i (by simp [hi])).trans (k1 vs fun i hi => hv i (by simp [hi]))⟩
theorem dg_tup {es : List Expr} {k : Nat} {t : Tgs} {n : Nat} {is : List Nat} (hc : X.calm = true) (h : DGs X es is t) (hn : (assignEach es X.env).length = n := by rfl) (hst : (assignEach es X.env).findIdx? (·.1) = none := by rfl) : DG X (.Tuple es k pos) is (tgTup n t) := by
  obtain ⟨g, p, s⟩ := h.ex
  refine ⟨_, pg_tup hc p hn hst, fun o ρ ρ' h L σ H S v Q en so rv q => ?_⟩
  unfold tgTup at h
  split at h
  · rename_i ds
    split at h
    · rename_i hl
      obtain ⟨a, vs, rfl, m, r⟩ := view_tup (S := S) (o := .dat (.tuple ds)) rfl rv so
      exact ⟨a, vs, rfl, m, by rw [r.length]; exact hl, s _ _ _ h L σ H S vs Q en so (reps_dat r) q⟩
    · cases h
  · cases h
end

/-! ### plain statements -/
def sNx : SS := fun ρ S => some (.nx, ρ, S)
def sSeq (f g : SS) : SS := fun ρ S => match f ρ S with
  | none => none
  | some (.nx, ρ1, S1) => g ρ1 S1
  | some (.bk, ρ1, S1) => some (.bk, ρ1, S1)
  | some (.ct, ρ1, S1) => some (.ct, ρ1, S1)
  | some (.rt o, ρ1, S1) => some (.rt o, ρ1, S1)
  | some (.er e, ρ1, S1) => some (.er e, ρ1, S1)
def sExpr (f : E1) : SS := sE f fun _ => sNx
def sAsg (f : E1) (t : Tg) : SS := sE f fun a ρ S => (t a ρ).bind fun ρ1 => some (.nx, ρ1, S)
def sRet (f : E1) : SS := sE f fun a ρ S => some (.rt a, ρ, S)
def sRetN : SS := fun ρ S => some (.rt (.dat .none), ρ, S)
def sIf (c : EB) (f g : SS) : SS := sB c fun k ρ S => if k = true then f ρ S else g ρ S
def sRaise (c : Str) : SS := fun ρ S => some (.er ⟨c, none⟩, ρ, S)
section
variable {X : Cx} {C : Str → Value} {W : WX} {st : Stmt} {rest : List Stmt} {f g : SS} {e : Expr} {fe : E1} {pos : Pos}
theorem dss_nil : DSs X C W [] sNx := ⟨_, pss_nil, fun ρ S fl ρ' S' h L σ H D en so po => by
  cases h
  exact po.nx rfl L H σ Step.refl so en⟩
theorem sm_seq {K : PySem.W.Frag} {t u : TS} (s : SmS K C W t f) (s2 : SmS K C W u g) : SmS K C W (tSeq t u) (sSeq f g) := fun ρ S fl ρ' S' h L σ H D en so po => by
  unfold sSeq at h
  split at h
  · cases h
  · rename_i ρ1 S1 q
    refine s ρ S _ _ _ q L σ H _ en so ⟨fun _ L' H' σ' st so' en' => ?_, fun z => (by cases z), fun z => (by cases z), fun o z => (by cases z), fun e z => (by cases z)⟩
    exact s2 ρ1 S1 _ _ _ h L' σ' H' D en' so' (po.step st)
  · rename_i ρ1 S1 q
    cases h
    exact s ρ S _ _ _ q L σ H _ en so ⟨fun z => (by cases z), po.bk, po.ct, po.rt, po.er⟩
  · rename_i ρ1 S1 q
    cases h
    exact s ρ S _ _ _ q L σ H _ en so ⟨fun z => (by cases z), po.bk, po.ct, po.rt, po.er⟩
  · rename_i ρ1 S1 q
    cases h
    exact s ρ S _ _ _ q L σ H _ en so ⟨fun z => (by cases z), po.bk, po.ct, po.rt, po.er⟩
  · rename_i ρ1 S1 q
    cases h
    exact s ρ S _ _ _ q L σ H _ en so ⟨fun z => (by cases z), po.bk, po.ct, po.rt, po.er⟩
theorem dss_cons (h1 : DS X C W st f) (h2 : DSs X C W rest g) : DSs X C W (st :: rest) (sSeq f g) := by
  obtain ⟨t, p, s⟩ := h1.ex
  obtain ⟨u, p2, s2⟩ := h2.ex
  exact ⟨_, pss_cons p p2, sm_seq s s2⟩
theorem dss_one (h1 : DS X C W st f) : DSs X C W [st] f := by
  obtain ⟨t, p, s⟩ := h1.ex
  exact ⟨_, pss_one p, s⟩
theorem ds_pass : DS X C W (.Pass pos) sNx := ⟨_, ps_pass, fun ρ S fl ρ' S' h L σ H D en so po => by
  cases h
  exact po.nx rfl L H σ Step.refl so en⟩
theorem ds_expr (he : DE X C W e fe) (hs : swapsWith e none pos.line X.env = pure false := by rfl) : DS X C W (.Expr e pos) (sExpr fe) := by
  obtain ⟨t, p, s⟩ := he.ex
  refine ⟨_, ps_expr p hs, fun ρ S fl ρ' S' h L σ H D en so po => ?_⟩
  refine s.stm h en so po fun a S1 L1 H1 v h1 st1 so1 r1 en1 po1 => ?_
  cases h1
  exact po1.nx rfl L1 H1 σ Step.refl so1 en1
theorem sm_asg {K : PySem.W.Frag} {te : TE} {gt : TG} {t : Tg} {is : List Nat} (s : SmE K C W te fe) (s2 : SmG K is gt t) : SmS K C W (tAsg te gt) (sAsg fe t) := fun ρ S fl ρ' S' h L σ H D en so po => by
  refine s.stm h en so po fun a S1 L1 H1 v h1 st1 so1 r1 en1 po1 => ?_
  obtain ⟨ρ1, e1, e2⟩ := opt_bind h1
  cases e2
  exact s2 _ _ _ e1 L1 σ H1 _ v _ en1 so1 r1 fun σ' en' _ => po1.nx rfl L1 H1 σ' Step.refl so1 en'
theorem ds_set (i : Nat) {x : Str} {pos' : Pos} (hN : X.N.Nodup) (hi : X.N[i]? = some x) (hx : Loc X.env.scope x) (he : DE X C W e fe) (hs : swapsWith e (some (.Name x pos')) pos.line X.env = pure false := by rfl)
    (hf : X.fn x = true ∨ X.env.scope.names.lookup x = some .local := by first | exact .inl rfl | exact .inr rfl | assumption) : DS X C W (.Assign [.Name x pos'] e pos) (sAsg fe (tgN i)) := by
  obtain ⟨t, p, s⟩ := he.ex
  exact ⟨_, ps_set hN hi hx p hs hf, sm_asg s smg_n⟩
theorem ds_asg {tg : Expr} {t : Tg} {is : List Nat} (he : DE X C W e fe) (hg : DG X tg is t) (hs : swapsWithSole [tg] e pos.line X.env = pure false := by rfl) (hw : swappedStores [tg] e X.env = pure none := by rfl)
    (h1 : (assignEach [tg] X.env).map (·.2) = [assign tg X.env] := by rfl) : DS X C W (.Assign [tg] e pos) (sAsg fe t) := by
  obtain ⟨te, p, s⟩ := he.ex
  obtain ⟨g, p2, s2⟩ := hg.ex
  exact ⟨_, ps_asg p p2 hs hw h1, sm_asg s s2⟩
/-- a, b = x, y -/
def sPar (i j : Nat) (fa : EL) : SS := fun ρ S => match fa ρ S with
  | none => none
  | some (.inr e, S1) => some (.er e, ρ, S1)
  | some (.inl [a, b], S1) => some (.nx, (ρ.set i (some a)).set j (some b), S1)
  | some (.inl _, _) => none
theorem ds_par {i j : Nat} {x y : Str} {a b : Expr} {fa : EL} {px py pt : Pos} {kt k2 pt2} (hc : X.calm = true) (hN : X.N.Nodup) (hi : X.N[i]? = some x) (hj : X.N[j]? = some y) (hij : i ≠ j)
    (hx : X.env.scope.names.lookup x = some .local) (hy : X.env.scope.names.lookup y = some .local) (ha : DA X C W [a, b] fa)
    (hw : swappedStores [.Tuple [.Name x px, .Name y py] kt pt] (.Tuple [a, b] k2 pt2) X.env = pure (some [x, y]) := by rfl)
    (hs : swapsWithSole [.Tuple [.Name x px, .Name y py] kt pt] (.Tuple [a, b] k2 pt2) pos.line X.env = pure false := by rfl) :
    DS X C W (.Assign [.Tuple [.Name x px, .Name y py] kt pt] (.Tuple [a, b] k2 pt2) pos) (sPar i j fa) := by
  obtain ⟨t, p, s⟩ := ha.ex
  refine ⟨_, ps_par hc hN hi hj hij hx hy p hw hs, fun ρ S fl ρ' S' h L σ H D en so po => ?_⟩
  unfold sPar at h
  split at h
  · cases h
  · rename_i e S1 q
    cases h
    exact s ρ S _ _ q L σ H _ en so ⟨fun b z => (by cases z), fun e' he L' H' st so' cls d x => po.er e' (by cases he; rfl) L' H' σ cls d st so' (en.step st) x⟩
  · rename_i o o' S1 q
    cases h
    refine s ρ S _ _ q L σ H _ en so ⟨fun b z L' H' st so' vs rv => ?_, fun e' he => by cases he⟩
    cases z
    obtain ⟨v, w, rfl, r1, r2⟩ := (show ∃ v w, vs = [v, w] ∧ RepO X.K L' H' v o ∧ RepO X.K L' H' w o' by
      cases rv with
      | cons h1 t =>
        cases t with
        | cons h2 t2 => cases t2; exact ⟨_, _, rfl, h1, h2⟩)
    exact ⟨v, w, rfl, po.nx rfl L' H' _ st so' (((en.step st).set r1 i).set r2 j)⟩
  · cases h
theorem ds_ret (he : DE X C W e fe) : DS X C W (.Return (some e) pos) (sRet fe) := by
  obtain ⟨t, p, s⟩ := he.ex
  refine ⟨_, ps_ret p, fun ρ S fl ρ' S' h L σ H D en so po => ?_⟩
  refine s.stm h en so po fun a S1 L1 H1 v h1 st1 so1 r1 en1 po1 => ?_
  cases h1
  exact po1.rt a rfl L1 H1 v Step.refl so1 r1
theorem ds_retN : DS X C W (.Return none pos) sRetN := ⟨_, ps_retN, fun ρ S fl ρ' S' h L σ H D en so po => by
  cases h
  exact po.rt _ rfl L H .non Step.refl so .non⟩
theorem ds_if {c : Expr} {a b : List Stmt} {bc : EB} (hc : DT X C W c bc) (ha : DSs X C W a f) (hb : DSs X C W b g) : DS X C W (.If c a b pos) (sIf bc f g) := by
  obtain ⟨t, p, s⟩ := hc.ex
  obtain ⟨u, p2, s2⟩ := ha.ex
  obtain ⟨v, p3, s3⟩ := hb.ex
  refine ⟨_, ps_if p p2 p3, fun ρ S fl ρ' S' h L σ H D en so po => ?_⟩
  refine s.stm h en so po fun k S1 L1 H1 h1 st1 so1 en1 po1 => ?_
  cases k with
  | true => exact iteT (s2 ρ S1 _ _ _ h1 L1 σ H1 D en1 so1 po1)
  | false => exact iteF (s3 ρ S1 _ _ _ h1 L1 σ H1 D en1 so1 po1)
theorem ds_raise {c : Str} {A : Addr} (hc : X.calm = true) (tk : Takes X W) (he : PMk X e (fun _ H Q => Q (.ref A) none H)) (hC : C c = .ref A) : DS X C W (.Raise (some e) none pos) (sRaise c) :=
  ⟨_, ps_raise hc tk he, fun ρ S fl ρ' S' h L σ H D en so po => by
    cases h
    exact po.er _ rfl L H σ _ _ Step.refl so en ⟨hC.symm, rfl⟩⟩
end

/-! ### stores into an owned list; append, pop -/
def sSetIx (fo fi fe : E1) : SS := sE fe fun v => sE fo fun o => sE fi fun i ρ S => match v, o, i with
  | .dat d, .own n, .dat (.int k) => match S[n]? with
    | some (.list ds) => (ixN ds.length k).bind fun j => some (.nx, ρ, S.set n (.list (ds.set j d)))
    | _ => none
  | _, _, _ => none
theorem own_list {K : PySem.W.Frag} {L : List Addr} {H : Hp} {S : Sto} {v : V} {n : Nat} {ds : List D} (so : StoR K L H S) (r : RepO K L H v (.own n)) (h : S[n]? = some (.list ds)) :
    ∃ a vs, v = .ref a ∧ L[n]? = some a ∧ H a = some (.lst vs) ∧ Reps K (mask L H) vs ds := by
  obtain ⟨a, h1, h2⟩ := r
  obtain ⟨vs, q1, q2⟩ := (so.obj n a _ h2 h : ObjR K (mask L H) H a (.list ds))
  exact ⟨a, vs, h1, h2, q1, q2⟩
section
variable {X : Cx} {C : Str → Value} {W : WX} {o i e : Expr} {fo fi fe : E1} {pos p2 : Pos}
theorem ds_setIx (ho : DE X C W o fo) (hi : DE X C W i fi) (he : DE X C W e fe)
    (ha : ∀ v, assign (.Subscript o i p2) X.env v = (do
      let ov ← holding [v] (eval o X.env); let iv ← holding [v, ov] (eval i X.env); standAt p2; holding [v, ov, iv] (setItem ov iv v); release [v, ov, iv] []) := by intro _; rfl)
    (hs : swapsWithSole [.Subscript o i p2] e pos.line X.env = pure false := by rfl) (hw : swappedStores [.Subscript o i p2] e X.env = pure none := by rfl)
    (h1 : (assignEach [.Subscript o i p2] X.env).map (·.2) = [assign (.Subscript o i p2) X.env] := by rfl) : DS X C W (.Assign [.Subscript o i p2] e pos) (sSetIx fo fi fe) := by
  obtain ⟨t1, p1, s1⟩ := ho.ex
  obtain ⟨t2, q2, s2⟩ := hi.ex
  obtain ⟨t3, p3, s3⟩ := he.ex
  refine ⟨_, ps_asg p3 (pg_sub p1 q2 set_list ha) hs hw h1, fun ρ S fl ρ' S' h L σ H D en so po => ?_⟩
  refine s3.stm h en so po fun x S1 L1 H1 v h1 st1 so1 r1 en1 po1 => ?_
  refine s1.stm h1 en1 so1 po1 fun y S2 L2 H2 u h2 st2 so2 r2 en2 po2 => ?_
  refine s2.stm h2 en2 so2 po2 fun z S3 L3 H3 w h3 st3 so3 r3 en3 po3 => ?_
  split at h3
  · rename_i d n k
    split at h3
    · rename_i ds hn
      obtain ⟨j, e1, e2⟩ := opt_bind h3
      cases e2
      obtain ⟨a, vs, rfl, hL, hA, rs⟩ := own_list so3 (r2.step st3) hn
      cases r3
      have hl := rs.length
      have rd := (r1.step st2).step st3
      obtain ⟨k1, k2⟩ := so3.write (o := .lst (vs.set j v)) hL (d := .list (ds.set j d)) ⟨_, upd_same, rs.set rd j⟩ (nf_of hA)
      exact ⟨a, vs, k, j, rfl, rfl, hA, by rw [hl]; exact e1, po3.nx rfl L3 _ σ k1 k2 (en3.step k1)⟩
    · cases h3
  · cases h3
def fApp (fo : E1) (fa : EL) : E1 := fun ρ S => (fo ρ S).bind fun o S1 => (viewL S1 o).bind fun _ => (fa ρ S1).bind fun as S2 => match o, as with
  | .own n, [.dat d] => match S2[n]? with
    | some (.list ds) => if ds.length < sizeLine then ret (.dat .none) (S2.set n (.list (ds ++ [d]))) else none
    | _ => none
  | _, _ => none
theorem tyV_list {K : PySem.W.Frag} {H : Hp} {a : Addr} {vs : List V} (h : SqL K H a vs) : tyV K "list" (.ref a) H := Or.inl ⟨rfl, vs, h⟩
theorem de_app {apos : Pos} (ho : DE X C W o fo) {fa : EL} (ha : DA X C W [e] fa)
    (hbase : attributeBase o "append" X.env (eval o X.env) = eval o X.env := by rfl)
    (hfew : ((backTo pos (starEach [e] X.env)).all (fun x => !x.1) && (backToKw pos (keywordEach [] X.env)).all (fun x => x.1.isSome) && decide ([e].length + ([] : List Keyword).length + (if ([] : List Keyword).isEmpty then 0 else 1) < 30)) = true := by rfl)
    (hline : (apos.endLine == pos.line) = true := by rfl) (hs : starEach [e] X.env = (false, eval e X.env) :: starEach [] X.env := by rfl) (hplain : (backTo pos (starEach [] X.env)).any (·.1) = false := by rfl) :
    DE X C W (.Call (.Attribute o "append" apos) [e] [] pos) (fApp fo fa) := by
  obtain ⟨t1, p1, s1⟩ := ho.ex
  obtain ⟨t2, q2, s2⟩ := ha.ex
  refine ⟨_, pe_bm PySem.F.plainAttrs_list PySem.F.slot_list_append PySem.F.type_list_append mt_append p1 q2 hbase hfew hline hs hplain, fun ρ S r S' h L σ H Q en so po => ?_⟩
  refine s1.bind h en so po fun y S1 L1 H1 u h1 st1 so1 r1 en1 po1 => ?_
  obtain ⟨ds0, e0, k0⟩ := opt_bind h1
  obtain ⟨a0, vs0, e00, m0, _⟩ := view_list (viewL_eq e0) r1 so1
  refine ⟨by rw [e00]; exact tyV_list m0, ?_⟩
  refine s2.bind k0 en1 so1 po1 fun as S2 L2 H2 ws h2 st2 so2 r2 en2 po2 => ?_
  split at h2
  · rename_i n d
    split at h2
    · rename_i ds hn
      split at h2
      · rename_i hz
        obtain ⟨a, vs, rfl, hL, hA, rs⟩ := own_list so2 (r1.step st2) hn
        obtain ⟨v, rfl, rv⟩ := reps_one r2
        obtain ⟨k1, k2⟩ := so2.write (o := .lst (vs ++ [v])) hL (d := .list (ds ++ [d])) ⟨_, upd_same, rs.append (.one rv)⟩ (nf_of hA)
        exact ⟨a, vs, v, rfl, rfl, hA, by rw [rs.length]; exact hz, po2.done (S0 := S2.set n (.list (ds ++ [d]))) h2 k1 k2 _ .non⟩
      · cases h2
    · cases h2
  · cases h2
end

/-! ### for -/
def srcOk (src : Option Nat) (items : List D) (S : Sto) : Prop := ∀ n, src = some n → S[n]? = some (.list items)
theorem srcOk_none {items : List D} {S : Sto} : srcOk none items S := fun n h => by cases h
abbrev EI := Env1 → Sto → Rs (List D × Option Nat)
structure Serves (K : PySem.W.Frag) (L0 : List Addr) (H0 : Hp) (J : It) (items : List D) (src : Option Nat) : Prop where
  all : ∀ L H S, Step L0 H0 L H → StoR K L H S → srcOk src items S → (∀ i, i < items.length → J.go i H) ∧ J.stop items.length H ∧
    ∀ i x H', i < items.length → J.yld i H x H' → Step L H L H' ∧ StoR K L H' S ∧ ∃ d, items[i]? = some d ∧ Rep K (mask L H') x d
def SmI (K : PySem.W.Frag) (C : Str → Value) (W : WX) (t : TI) (f : EI) : Prop := ∀ ρ S r S', f ρ S = some (r, S') → ∀ L σ H (R : It → Hp → Prop), EnvR K L H σ ρ → StoR K L H S →
  Post K C W L H σ S' r (fun L' H' p => ∀ J, Serves K L' H' J p.1 p.2 → R J H') → t σ H R
structure DI (X : Cx) (C : Str → Value) (W : WX) (tg iter : Expr) (f : EI) : Prop where
  ex : ∃ wi, PI X tg iter wi ∧ SmI X.K C W wi f
open Classical in
noncomputable def forL (src : Option Nat) (items : List D) (tg : Tg) (body : SS) : List D → SS
  | [] => fun ρ S => if srcOk src items S then some (.nx, ρ, S) else none
  | d :: r => fun ρ S => if srcOk src items S then (tg (.dat d) ρ).bind fun ρ1 => match body ρ1 S with
      | none => none
      | some (.nx, ρ2, S2) => forL src items tg body r ρ2 S2
      | some (.ct, ρ2, S2) => forL src items tg body r ρ2 S2
      | some (.bk, ρ2, S2) => some (.nx, ρ2, S2)
      | some (.rt o, ρ2, S2) => some (.rt o, ρ2, S2)
      | some (.er e, ρ2, S2) => some (.er e, ρ2, S2)
    else none
noncomputable def sFor (f : EI) (tg : Tg) (body : SS) : SS := fun ρ S => match f ρ S with
  | none => none
  | some (.inr e, S1) => some (.er e, ρ, S1)
  | some (.inl p, S1) => forL p.2 p.1 tg body p.1 ρ S1
section
variable {X : Cx} {C : Str → Value} {W : WX} {tg iter : Expr} {fi : EI} {t : Tg} {body : List Stmt} {g : SS} {pos : Pos}
theorem sm_for {K : PySem.W.Frag} {wi : TI} {gt : TG} {tb : TS} {is : List Nat} (s : SmI K C W wi fi) (s2 : SmG K is gt t) (s3 : SmS K C W tb g) : SmS K C W (tFor wi gt tb) (sFor fi t g) := fun ρ S fl ρ' S' h L σ H D en so po => by
  unfold sFor at h
  split at h
  · cases h
  · rename_i e S1 q
    cases h
    exact s ρ S _ _ q L σ H _ en so ⟨fun b z => (by cases z), fun e' he L' H' st so' cls d x => po.er e' (by cases he; rfl) L' H' σ cls d st so' (en.step st) x⟩
  · rename_i p S1 q
    refine s ρ S _ _ q L σ H _ en so ⟨fun b z L1 H1 st1 so1 J sv => ?_, fun e' he => by cases he⟩
    cases z
    obtain ⟨items, src⟩ := p
    simp only at h sv
    refine ⟨fun i m σ H => ∃ L2 ρ2 S2, m = items.length - i ∧ i ≤ items.length ∧ Step L1 H1 L2 H ∧ EnvR K L2 H σ ρ2 ∧ StoR K L2 H S2 ∧ forL src items t g (items.drop i) ρ2 S2 = some (fl, ρ', S'),
      ⟨_, L1, ρ, S1, rfl, Nat.zero_le _, Step.refl, en.step st1, so1, h⟩, ?_⟩
    rintro i m σ2 H2 ⟨L2, ρ2, S2, rfl, hi, st2, en2, so2, h2⟩
    have po2 := (po.step st1).step st2
    by_cases hlt : i < items.length
    · rw [List.drop_eq_getElem_cons hlt] at h2
      unfold forL at h2
      split at h2
      · rename_i hsrc
        obtain ⟨a1, a2, a3⟩ := sv.all L2 H2 S2 st2 so2 hsrc
        obtain ⟨ρ3, e3, h3⟩ := opt_bind h2
        refine .inr ⟨a1 i hlt, fun σ' H' => ∃ L2 ρ2 S2, Step L1 H1 L2 H' ∧ EnvR K L2 H' σ' ρ2 ∧ StoR K L2 H' S2 ∧ forL src items t g (items.drop (i + 1)) ρ2 S2 = some (fl, ρ', S'),
          fun σ' H' ⟨L3, ρ3, S3, b1, b2, b3, b4⟩ => ⟨items.length - (i + 1), by omega, L3, ρ3, S3, rfl, hlt, b1, b2, b3, b4⟩, fun x H3 hy => ?_⟩
        obtain ⟨st3, so3, d, hd, rd⟩ := a3 i x H3 hlt hy
        have ed : d = items[i] := by
          rw [List.getElem?_eq_getElem hlt] at hd
          exact (Option.some.inj hd).symm
        subst ed
        refine s2 _ _ _ e3 L2 σ2 H3 S2 x _ (en2.step st3) so3 rd fun σ4 en4 _ => ?_
        have po3 := po2.step st3
        split at h3
        · cases h3
        · rename_i ρ4 S4 q4
          exact s3 ρ3 S2 _ _ _ q4 L2 σ4 H3 _ en4 so3 ⟨fun _ L' H' σ' st so' en' => ⟨L', ρ4, S4, (st2.trans st3).trans st, en', so', h3⟩, fun z => (by cases z), fun z => (by cases z), fun o z => (by cases z), fun e z => (by cases z)⟩
        · rename_i ρ4 S4 q4
          exact s3 ρ3 S2 _ _ _ q4 L2 σ4 H3 _ en4 so3 ⟨fun z => (by cases z), fun z => (by cases z), fun _ L' H' σ' st so' en' => ⟨L', ρ4, S4, (st2.trans st3).trans st, en', so', h3⟩, fun o z => (by cases z), fun e z => (by cases z)⟩
        · rename_i ρ4 S4 q4
          cases h3
          exact s3 ρ3 S2 _ _ _ q4 L2 σ4 H3 _ en4 so3 ⟨fun z => (by cases z), fun _ L' H' σ' st so' en' => po3.nx rfl L' H' σ' st so' en', fun z => (by cases z), fun o z => (by cases z), fun e z => (by cases z)⟩
        · rename_i o ρ4 S4 q4
          cases h3
          exact s3 ρ3 S2 _ _ _ q4 L2 σ4 H3 _ en4 so3 ⟨fun z => (by cases z), fun z => (by cases z), fun z => (by cases z), po3.rt, po3.er⟩
        · rename_i e ρ4 S4 q4
          cases h3
          exact s3 ρ3 S2 _ _ _ q4 L2 σ4 H3 _ en4 so3 ⟨fun z => (by cases z), fun z => (by cases z), fun z => (by cases z), po3.rt, po3.er⟩
      · cases h2
    · have e : i = items.length := by omega
      subst e
      rw [List.drop_length] at h2
      unfold forL at h2
      split at h2
      · rename_i hsrc
        obtain ⟨a1, a2, a3⟩ := sv.all L2 H2 S2 st2 so2 hsrc
        cases h2
        exact .inl ⟨a2, po2.nx rfl L2 H2 σ2 Step.refl so2 en2⟩
      · cases h2
theorem ds_for (hp : PassesOwn (model X.prog X.w) X.A X.env X.xe) (hc : X.calm = true) {is : List Nat} (hi : DI X C W tg iter fi) (hg : DG X tg is t) (hb : DSs X C W body g) (hs : ∀ x, foldedSetIterable iter X.env x = pure x := by intro _; rfl) :
    DS X C W (.For tg iter body [] pos) (sFor fi t g) := by
  obtain ⟨wi, p, s⟩ := hi.ex
  obtain ⟨gt, p2, s2⟩ := hg.ex
  obtain ⟨tb, p3, s3⟩ := hb.ex
  exact ⟨_, ps_for hp hc p p2 p3 hs, sm_for s s2 s3⟩
end
end Dk
set_option Elab.async false
set_option linter.all false
set_option maxRecDepth 100000
set_option maxHeartbeats 4000000
/-! What is walked; comprehensions; a def; texts' methods. -/
namespace Dk
open PySem PySem.Spec L2

/-! ### what is walked -/
section
variable {K : PySem.W.Frag} {L : List Addr} {H : Hp} {items : List D} {src : Option Nat} {a : Addr} {vs : List V}
/-- a list: frozen, or owned and watched -/
theorem serves_list {o : OV} {S : Sto} (hv : view S o = some (.list items)) (r : RepO K L H (.ref a) o) (hs : src = match o with | .dat _ => none | .own n => some n) : Serves K L H (Itl K a) items src := by
  refine ⟨fun L' H' S' st so ok => ?_⟩
  obtain ⟨ws, m, rs⟩ : ∃ ws, SqL K H' a ws ∧ Reps K (mask L' H') ws items := by
    cases o with
    | dat d =>
      cases hv
      cases Rep.mono st.frz r with
      | lst h1 h2 => exact ⟨_, same_l (mask_same _ _) h1, h2⟩
    | own n =>
      subst hs
      obtain ⟨c, h1, h2⟩ := r
      cases h1
      obtain ⟨ws, q1, q2⟩ := (so.obj n a _ (st.get h2) (ok n rfl) : ObjR K (mask L' H') H' a (.list items))
      exact ⟨ws, SqL.of q1, q2⟩
  have hq : SqL K H' a ws := m
  have hl := rs.length
  refine ⟨fun i hi => ?_, ⟨ws, hq, by omega⟩, fun i x H2 hi y => ?_⟩
  · have hi' : i < ws.length := by omega
    exact ⟨ws, ws[i], hq, List.getElem?_eq_getElem hi'⟩
  · obtain ⟨rfl, y⟩ := y
    obtain ⟨d, h1, h2⟩ := rs.get (y ws hq)
    exact ⟨Step.refl, so, d, h1, h2⟩
theorem serves_tup {o : OV} {S : Sto} (hv : view S o = some (.tuple items)) (r : RepO K L H (.ref a) o) (so0 : StoR K L H S) : Serves K L H (Itt K a) items none := by
  refine ⟨fun L' H' S' st so ok => ?_⟩
  obtain ⟨ws, m, rs⟩ : ∃ ws, SqT K H' a ws ∧ Reps K (mask L' H') ws items := by
    cases o with
    | dat d =>
      cases hv
      cases Rep.mono st.frz r with
      | tup h1 h2 => exact ⟨_, SqT.of (mask_same _ _ _ _ h1), h2⟩
    | own n =>
      obtain ⟨c, h1, h2⟩ := r
      exact (so0.obj n c _ h2 hv : ObjR K (mask L H) H c (.tuple items)).elim
  have hl := rs.length
  refine ⟨fun i hi => ?_, ⟨ws, m, by omega⟩, fun i x H2 hi y => ?_⟩
  · have hi' : i < ws.length := by omega
    exact ⟨ws, ws[i], m, List.getElem?_eq_getElem hi'⟩
  · obtain ⟨rfl, y⟩ := y
    obtain ⟨d, h1, h2⟩ := rs.get (y ws m)
    exact ⟨Step.refl, so, d, h1, h2⟩
theorem serves_range {lo : Int} {n : Nat} : Serves K L H (Itr lo n) ((List.range n).map fun i : Nat => .int (lo + i)) none := by
  refine ⟨fun L' H' S' st so ok => ⟨fun i hi => ?_, by show n ≤ _; simp, fun i x H2 hi y => ?_⟩⟩
  · show i < n
    simpa using hi
  obtain ⟨rfl, rfl⟩ := y
  have hi' : i < n := by simpa using hi
  exact ⟨Step.refl, so, .int (lo + i), by simp [hi'], .int _⟩
theorem serves_str {x : Str} : Serves K L H (Its x) (x.cps.toList.map fun c => .str ⟨#[c]⟩) none := by
  refine ⟨fun L' H' S' st so ok => ⟨fun i hi => ?_, by show x.cps.size ≤ _; simp, fun i v H2 hi y => ?_⟩⟩
  · show i < x.cps.size
    simpa using hi
  obtain ⟨rfl, c, h1, rfl⟩ := y
  exact ⟨Step.refl, so, .str ⟨#[c]⟩, by simp [h1], .str _⟩
def pairUp : List D → List D → List D
  | x :: xs, y :: ys => .tuple [x, y] :: pairUp xs ys
  | _, _ => []
theorem pairUp_len : ∀ xs ys : List D, (pairUp xs ys).length = min xs.length ys.length
  | [], _ => by simp [pairUp]
  | _ :: _, [] => by simp [pairUp]
  | x :: xs, y :: ys => by simp only [pairUp, List.length_cons, pairUp_len xs ys]; omega
theorem pairUp_at : ∀ (xs ys : List D) (i : Nat) (x y : D), xs[i]? = some x → ys[i]? = some y → (pairUp xs ys)[i]? = some (.tuple [x, y])
  | [], _, _, _, _, h, _ => by simp at h
  | _ :: _, [], _, _, _, _, h => by simp at h
  | a :: xs, b :: ys, 0, x, y, h, h2 => by simp at h h2; subst h; subst h2; rfl
  | a :: xs, b :: ys, i + 1, x, y, h, h2 => by simpa [pairUp] using pairUp_at xs ys i x y (by simpa using h) (by simpa using h2)
theorem new_pair {S : Sto} {p : Addr} {x y : V} {d e : D} (so : StoR K L H S) (hp : H p = none) (hx : Rep K (mask L H) x d) (hy : Rep K (mask L H) y e) :
    Step L H L (upd H p (.tup [x, y])) ∧ StoR K L (upd H p (.tup [x, y])) S ∧ Rep K (mask L (upd H p (.tup [x, y]))) (.ref p) (.tuple [d, e]) :=
  ⟨step_new hp, so.laid hp, new_tup so hp (.cons hx (.cons hy .nil))⟩
theorem serves_zip {b : Addr} {xs ys : List V} {ds es : List D} (mx : SqL K (mask L H) a xs) (my : SqL K (mask L H) b ys) (rx : Reps K (mask L H) xs ds) (ry : Reps K (mask L H) ys es) : Serves K L H (Itz K a b) (pairUp ds es) none := by
  refine ⟨fun L' H' S' st so ok => ?_⟩
  have hx : SqL K H' a xs := same_l (st.frz.trans (mask_same _ _)) mx
  have hy : SqL K H' b ys := same_l (st.frz.trans (mask_same _ _)) my
  have rx' := rx.mono st.frz
  have ry' := ry.mono st.frz
  have h1 := rx.length
  have h2 := ry.length
  refine ⟨fun i hi => ?_, ⟨xs, ys, hx, hy, ?_⟩, fun i v H2 hi y => ?_⟩
  · rw [pairUp_len] at hi
    have k1 : i < xs.length := by omega
    have k2 : i < ys.length := by omega
    exact ⟨xs, ys, xs[i], ys[i], hx, hy, List.getElem?_eq_getElem k1, List.getElem?_eq_getElem k2⟩
  · rw [pairUp_len]
    omega
  · obtain ⟨T, x, z, rfl, hT, rfl, q1, q2⟩ := y
    obtain ⟨d, e1, e2⟩ := rx'.get (q1 xs hx)
    obtain ⟨e, e3, e4⟩ := ry'.get (q2 ys hy)
    obtain ⟨p1, p2, p3⟩ := new_pair so hT e2 e4
    exact ⟨p1, p2, _, pairUp_at _ _ _ _ _ e1 e3, p3⟩
theorem serves_zipT {b : Addr} {xs ys : List V} {ds es : List D} (mx : SqT K (mask L H) a xs) (my : SqT K (mask L H) b ys) (rx : Reps K (mask L H) xs ds) (ry : Reps K (mask L H) ys es) : Serves K L H (RZ.ItzT K a b) (pairUp ds es) none := by
  refine ⟨fun L' H' S' st so ok => ?_⟩
  have hx : SqT K H' a xs := same_t (st.frz.trans (mask_same _ _)) mx
  have hy : SqT K H' b ys := same_t (st.frz.trans (mask_same _ _)) my
  have rx' := rx.mono st.frz
  have ry' := ry.mono st.frz
  have h1 := rx.length
  have h2 := ry.length
  refine ⟨fun i hi => ?_, ⟨xs, ys, hx, hy, ?_⟩, fun i v H2 hi y => ?_⟩
  · rw [pairUp_len] at hi
    have k1 : i < xs.length := by omega
    have k2 : i < ys.length := by omega
    exact ⟨xs, ys, xs[i], ys[i], hx, hy, List.getElem?_eq_getElem k1, List.getElem?_eq_getElem k2⟩
  · rw [pairUp_len]
    omega
  · obtain ⟨T, x, z, rfl, hT, rfl, q1, q2⟩ := y
    obtain ⟨d, e1, e2⟩ := rx'.get (q1 xs hx)
    obtain ⟨e, e3, e4⟩ := ry'.get (q2 ys hy)
    obtain ⟨p1, p2, p3⟩ := new_pair so hT e2 e4
    exact ⟨p1, p2, _, pairUp_at _ _ _ _ _ e1 e3, p3⟩
end

def srcOf : OV → Option Nat
  | .dat _ => none
  | .own n => some n
/-- a list or a tuple, walked -/
def iSeq (f : E1) : EI := fun ρ S => (f ρ S).bind fun o S1 => match view S1 o with
  | some (.list ds) => ret (ds, srcOf o) S1
  | some (.tuple ds) => ret (ds, none) S1
  | some (.str x) => ret (x.cps.toList.map fun c => .str ⟨#[c]⟩, none) S1
  | _ => none
def lim62 : Int := 4611686018427387904
noncomputable def iRg1 (f : EL) : EI := fun ρ S => (f ρ S).bind fun os S1 => match os with
  | [.dat (.int j)] => @ite _ (-lim62 ≤ j ∧ j < lim62) (Classical.propDecidable _) (ret ((List.range j.toNat).map fun i : Nat => .int (0 + i), none) S1) none
  | _ => none
noncomputable def iRg2 (f : EL) : EI := fun ρ S => (f ρ S).bind fun os S1 => match os with
  | [.dat (.int i), .dat (.int j)] => @ite _ (-lim62 ≤ i ∧ i < lim62 ∧ -lim62 ≤ j ∧ j < lim62) (Classical.propDecidable _) (ret ((List.range (j - i).toNat).map fun k : Nat => .int (i + k), none) S1) none
  | _ => none
def iZp (f : EL) : EI := fun ρ S => (f ρ S).bind fun os S1 => match os with
  | [.dat (.list xs), .dat (.list ys)] => ret (pairUp xs ys, none) S1
  | [.dat (.tuple xs), .dat (.tuple ys)] => ret (pairUp xs ys, none) S1
  | _ => none
section
variable {X : Cx} {C : Str → Value} {W : WX} {tg e e2 : Expr} {es : List Expr} {fe : E1} {fa : EL} {p pos tpos : Pos}
/-- how a walk of a value begins -/
def iAny (K : PySem.W.Frag) (te : TE) : TI := fun σ H R => te σ H fun x H1 => (∃ a, x = .ref a ∧ (∃ xs, SqL K H1 a xs) ∧ R (Itl K a) H1) ∨ (∃ a, x = .ref a ∧ (∃ xs, SqT K H1 a xs) ∧ R (Itt K a) H1) ∨ ∃ z, x = .str z ∧ R (Its z) H1
theorem pi_any {te : TE} (hl : PE X e te) : PI X tg e (iAny X.K te) := by
  constructor
  intro pins s σ H R I h
  refine thn (hl.run pins s σ H _ I h) fun v s1 h1 => ?_
  obtain ⟨x, H1, I1, r1, q1⟩ := h1
  rcases q1 with ⟨a, ex, ⟨xs, hq⟩, q⟩ | ⟨a, ex, ⟨xs, hq⟩, q⟩ | ⟨z, ex, q⟩
  · subst ex; cases r1
    obtain ⟨its, _, pl, _⟩ := I1.list hq
    exact wpAny_pyIter_list pl.isList (pi_one (tk := s1.toks) I1 _ (turn_list a _) ⟨_, Heap.get?_push_size _ rfl, rfl, rfl⟩ q)
  · subst ex; cases r1
    obtain ⟨its, _, pt, _⟩ := I1.tuple hq
    exact wpAny_pyIter_tuple (show s1.heap.IsTuple a its.toArray from pt) (pi_one (tk := s1.toks) I1 _ (turn_tuple a _) ⟨_, Heap.get?_push_size _ rfl, rfl, rfl⟩ q)
  · subst ex
    obtain ⟨t, rfl⟩ := r1
    cases hz : z.cps.all (· < 128) with
    | false => exact wpAny_pyIter_wide hz (pi_one (tk := s1.toks) I1 _ (turn_str _ z t "str_iterator" (.inr rfl)) ⟨_, Heap.get?_push_size _ rfl, rfl, rfl⟩ q)
    | true => exact wpAny_pyIter_ascii hz (pi_one (tk := s1.toks) I1 _ (turn_str _ z t "str_ascii_iterator" (.inl rfl)) ⟨_, Heap.get?_push_size _ rfl, rfl, rfl⟩ q)
theorem di_any (h : DE X C W e fe) : DI X C W tg e (iSeq fe) := by
  obtain ⟨t, p, s⟩ := h.ex
  refine ⟨_, pi_any p, fun ρ S r S' h L σ H R en so po => ?_⟩
  refine s.bind h en so po fun o S1 L1 H1 v h1 st1 so1 r1 en1 po1 => ?_
  split at h1
  · rename_i ds hv
    obtain ⟨a, vs, rfl, m, rs⟩ := view_list hv r1 so1
    exact .inl ⟨a, rfl, ⟨vs, m⟩, po1.done (S0 := S1) h1 Step.refl so1 _ (serves_list hv r1 (by cases o <;> rfl))⟩
  · rename_i ds hv
    obtain ⟨a, vs, rfl, m, rs⟩ := view_tup hv r1 so1
    exact .inr (.inl ⟨a, rfl, ⟨vs, m⟩, po1.done (S0 := S1) h1 Step.refl so1 _ (serves_tup hv r1 so1)⟩)
  · rename_i z hv
    obtain rfl := view_str hv r1 so1
    exact .inr (.inr ⟨z, rfl, po1.done (S0 := S1) h1 Step.refl so1 _ serves_str⟩)
  · cases h1
theorem di_range1 (hg : Gl X "range") (hm : X.mg "range" = none) (ha : DA X C W [e] fa) (hs : starEach [e] X.env = [(false, eval e X.env)] := by rfl) : DI X C W tg (.Call (.Name "range" p) [e] [] pos) (iRg1 fa) := by
  obtain ⟨t, pa, s⟩ := ha.ex
  refine ⟨_, pi_range1 hg hm pa hs, fun ρ S r S' h L σ H R en so po => ?_⟩
  refine s.bind h en so po fun os S1 L1 H1 vs h1 st1 so1 r1 en1 po1 => ?_
  split at h1
  · rename_i j
    split at h1
    · rename_i hz
      obtain ⟨v, rfl, rv⟩ := reps_one r1
      cases (rv : Rep X.K _ v (.int j))
      unfold lim62 at hz
      exact ⟨j, rfl, by omega, by omega, po1.done (S0 := S1) h1 Step.refl so1 _ serves_range⟩
    · cases h1
  · cases h1
theorem di_range2 (hg : Gl X "range") (hm : X.mg "range" = none) (ha : DA X C W [e, e2] fa) (hs : starEach [e, e2] X.env = [(false, eval e X.env), (false, eval e2 X.env)] := by rfl) (hs2 : starEach [e2] X.env = [(false, eval e2 X.env)] := by rfl) : DI X C W tg (.Call (.Name "range" p) [e, e2] [] pos) (iRg2 fa) := by
  obtain ⟨t, pa, s⟩ := ha.ex
  refine ⟨_, pi_range2 hg hm pa hs hs2, fun ρ S r S' h L σ H R en so po => ?_⟩
  refine s.bind h en so po fun os S1 L1 H1 vs h1 st1 so1 r1 en1 po1 => ?_
  split at h1
  · rename_i i j
    split at h1
    · rename_i hz
      obtain ⟨v, w, rfl, rv, rw'⟩ := reps_two r1
      cases (rv : Rep X.K _ v (.int i))
      cases (rw' : Rep X.K _ w (.int j))
      unfold lim62 at hz
      exact ⟨i, j, rfl, ⟨by omega, by omega, by omega, by omega⟩, po1.done (S0 := S1) h1 Step.refl so1 _ serves_range⟩
    · cases h1
  · cases h1
theorem di_zip {elts : List Expr} {kk : Nat} (hg : Gl X "zip") (hm : X.mg "zip" = none) (ha : DA X C W [e, e2] fa)
    (hs : starEach [e, e2] X.env = (false, eval e X.env) :: starEach [e2] X.env := by rfl) (hpl : (backTo pos (starEach [e2] X.env)).any (·.1) = false := by rfl) : DI X C W (.Tuple elts kk tpos) (.Call (.Name "zip" p) [e, e2] [] pos) (iZp fa) := by
  obtain ⟨t, pa, s⟩ := ha.ex
  refine ⟨_, RZ.pi_zipA hg hm pa hs hpl, fun ρ S r S' h L σ H R en so po => ?_⟩
  refine s.bind h en so po fun os S1 L1 H1 vs h1 st1 so1 r1 en1 po1 => ?_
  split at h1
  · rename_i xs ys
    obtain ⟨v, w, rfl, rv, rw'⟩ := reps_two r1
    cases rv with
    | lst m1 k1 =>
      cases rw' with
      | lst m2 k2 => exact ⟨_, _, _, _, rfl, .inl ⟨same_l (mask_same _ _) m1, same_l (mask_same _ _) m2, po1.done (S0 := S1) h1 Step.refl so1 _ (serves_zip m1 m2 k1 k2)⟩⟩
  · rename_i xs ys
    obtain ⟨v, w, rfl, rv, rw'⟩ := reps_two r1
    cases rv with
    | tup m1 k1 =>
      cases rw' with
      | tup m2 k2 => exact ⟨_, _, _, _, rfl, .inr ⟨SqT.of (mask_same _ _ _ _ m1), SqT.of (mask_same _ _ _ _ m2), po1.done (S0 := S1) h1 Step.refl so1 _ (serves_zipT (SqT.of m1) (SqT.of m2) k1 k2)⟩⟩
  · cases h1
end
end Dk
set_option Elab.async false
set_option linter.all false
set_option maxRecDepth 100000
set_option maxHeartbeats 4000000
/-! Comprehensions. -/
namespace Dk
open PySem PySem.Spec L2

/-! ### a reading that is the function itself -/
section
variable (K : PySem.W.Frag) (C : Str → Value) (W : WX)
def canE (f : E1) : TE := fun σ H Q => ∃ ρ S r S' L, f ρ S = some (r, S') ∧ EnvR K L H σ ρ ∧ StoR K L H S ∧ Post K C W L H σ S' r (fun L' H' o => ∀ v, RepO K L' H' v o → Q v H')
def canT (f : EB) : TT := fun σ H Q => ∃ ρ S r S' L, f ρ S = some (r, S') ∧ EnvR K L H σ ρ ∧ StoR K L H S ∧ Post K C W L H σ S' r (fun _ H' b => Q b H')
def canI (f : EI) : TI := fun σ H R => ∃ ρ S r S' L, f ρ S = some (r, S') ∧ EnvR K L H σ ρ ∧ StoR K L H S ∧ Post K C W L H σ S' r (fun L' H' p => ∀ J, Serves K L' H' J p.1 p.2 → R J H')
def canG (is : List Nat) (t : Tg) : TG := fun v σ H Q => ∃ o ρ ρ' L S, t o ρ = some ρ' ∧ EnvR K L H σ ρ ∧ StoR K L H S ∧ RepO K L H v o ∧ ∀ σ', EnvR K L H σ' ρ' → (∀ vs : List Nat, (∀ i ∈ is, i ∈ vs) → wipe σ' vs = wipe σ vs) → Q σ' H
end
section
variable {X : Cx} {C : Str → Value} {W : WX} {e tg : Expr} {f : E1} {b : EB} {fi : EI} {t : Tg} {is : List Nat}
theorem DE.can (h : DE X C W e f) : PE X e (canE X.K C W f) := by
  obtain ⟨t, p, s⟩ := h.ex
  exact ⟨fun pins sh σ H Q I ⟨ρ, S, r, S', L, e1, en, so, po⟩ => p.run pins sh σ H Q I (s ρ S r S' e1 L σ H Q en so po)⟩
theorem DT.can (h : DT X C W e b) : PT X e (canT X.K C W b) := by
  obtain ⟨t, p, s⟩ := h.ex
  exact ⟨fun pins sh σ H Q I ⟨ρ, S, r, S', L, e1, en, so, po⟩ => p.run pins sh σ H Q I (s ρ S r S' e1 L σ H Q en so po)⟩
theorem DI.can (h : DI X C W tg e fi) : PI X tg e (canI X.K C W fi) := by
  obtain ⟨t, p, s⟩ := h.ex
  exact ⟨fun pins sh σ H Q I ⟨ρ, S, r, S', L, e1, en, so, po⟩ => p.run pins sh σ H Q I (s ρ S r S' e1 L σ H Q en so po)⟩
theorem DG.can (h : DG X tg is t) : PG X tg (canG X.K is t) := by
  obtain ⟨g, p, s⟩ := h.ex
  exact ⟨fun pins sh σ H v u Q I r ⟨o, ρ, ρ', L, S, e1, en, so, rv, q⟩ => p.run pins sh σ H v u Q I r (s o ρ ρ' e1 L σ H S v Q en so rv q)⟩
end
/-- nothing is let out -/
abbrev W0 : WX := fun _ _ _ _ => False
structure DTs (X : Cx) (C : Str → Value) (W : WX) (ifs : List Expr) (f : EB) : Prop where
  run : PTs X ifs (canT X.K C W f)
def bYes : EB := fun _ S => ret true S
theorem dts_nil {X : Cx} {C : Str → Value} {W : WX} : DTs X C W [] bYes :=
  ⟨⟨fun pins s σ H Q I ⟨ρ, S, r, S', L, e1, en, so, po⟩ => by
    cases e1
    exact pts_nil.run pins s σ H Q I (po.fine true rfl L H Step.refl so)⟩⟩
theorem dts_one {X : Cx} {C : Str → Value} {W : WX} {c : Expr} {f : EB} (h : DT X C W c f) : DTs X C W [c] f := ⟨pts_one h.can⟩

def wipeR (ρ : Env1) : List Nat → Env1
  | [] => ρ
  | v :: vs => (wipeR ρ vs).set v none
theorem EnvR.wipes {K : PySem.W.Frag} {L : List Addr} {H : Hp} {σ : L2.St} {ρ : Env1} (h : EnvR K L H σ ρ) : ∀ vs : List Nat, EnvR K L H (L2.wipe σ vs) (wipeR ρ vs)
  | [] => h
  | v :: vs => (EnvR.wipes h vs).wipe v

/-! ### [e for t in xs if c] -/
/-- one more item for the list that is filled at place n0 -/
def putAt (n0 : Nat) (S : Sto) (o : OV) : Option Sto := match o, S[n0]? with
  | .dat d, some (.list acc) => if acc.length < sizeLine then some (S.set n0 (.list (acc ++ [d]))) else none
  | _, _ => none
open Classical in
noncomputable def lcL (src : Option Nat) (items : List D) (tg : Tg) (tst : EB) (elt : E1) (n0 : Nat) (ρ : Env1) : List D → Sto → Option Sto
  | [], S => if srcOk src items S then some S else none
  | d :: r, S => if srcOk src items S then (tg (.dat d) ρ).bind fun ρ1 => match tst ρ1 S with
      | some (.inl true, S1) => match elt ρ1 S1 with
        | some (.inl o, S2) => (putAt n0 S2 o).bind fun S3 => lcL src items tg tst elt n0 ρ r S3
        | _ => none
      | some (.inl false, S1) => lcL src items tg tst elt n0 ρ r S1
      | _ => none
    else none
def popAt (n0 : Nat) (S : Sto) : Rs (List D) := match S[n0]? with
  | some (.list acc) => if S.length = n0 + 1 then ret acc (S.take n0) else none
  | _ => none
noncomputable def fLc (fi : EI) (tg : Tg) (tst : EB) (elt : E1) (vs : List Nat) : EF := fun ρ S => (fi ρ S).bind fun p S1 => (lcL p.2 p.1 tg tst elt S1.length (wipeR ρ vs) p.1 (S1 ++ [.list []])).bind fun S2 => popAt S1.length S2

section
variable {K : PySem.W.Frag} {C : Str → Value} {L L1 : List Addr} {H H1 : Hp} {S S1 S' : Sto} {D0 : Addr}
/-- the filled list's address taken away -/
def less (H : Hp) (p : Addr) : Hp := fun a => if a = p then none else H a
theorem upd_less {p : Addr} {o : HO} (h : H p = some o) : upd (less H p) p o = H := by
  funext a
  unfold upd less
  by_cases e : a = p
  · rw [if_pos e, e, h]
  · rw [if_neg e, if_neg e]
theorem less_self {p : Addr} : less H p p = none := by unfold less; rw [if_pos rfl]
theorem mask_less1 {p : Addr} : mask (L ++ [p]) H = mask L (less H p) := by
  funext a
  unfold mask less
  by_cases e : a ∈ L
  · rw [if_pos e, if_pos (by simp [e])]
  · by_cases e2 : a = p
    · rw [if_neg e, if_pos e2, if_pos (by simp [e2])]
      rfl
    · rw [if_neg e, if_neg e2, if_neg (by simp [e, e2])]
theorem StoR.pop {p : Addr} (so : StoR K (L ++ [p]) H S) : StoR K L (less H p) (S.take L.length) := by
  obtain ⟨nd, len, obj, tb⟩ := so
  rw [List.nodup_append] at nd
  obtain ⟨u, hu, n1, n2⟩ : ∃ u, H p = some u ∧ (∀ ps, u ≠ .tbl ps) ∧ ∀ c q, u ≠ LamX.CodeO c q := by
    have hl : L.length < S.length := by
      simp at len
      omega
    exact objR_kind (obj L.length p _ (by simp) (List.getElem?_eq_getElem hl))
  refine ⟨nd.1, by simp at len; simp; omega, fun n a d h1 h2 => ?_, tabs_but tb hu n1 n2 fun b v hb e => by unfold less; rw [if_neg hb]; exact e⟩
  have hn := (List.getElem?_eq_some_iff.mp h1).1
  have h1' : (L ++ [p])[n]? = some a := by rw [List.getElem?_append_left hn]; exact h1
  have h2' : S[n]? = some d := by rw [List.getElem?_take_of_lt hn] at h2; exact h2
  have q := obj n a d h1' h2'
  rw [mask_less1] at q
  refine q.mono (Same.refl _) ?_
  unfold less
  rw [if_neg]
  intro e
  exact nd.2.2 a (List.mem_of_getElem? h1) p (by simp) e
theorem lc_run {J : It} {items : List D} {src : Option Nat} {tg : Tg} {is : List Nat} {tst : EB} {elt : E1} {vs : List Nat} {ρ : Env1} {σ : L2.St} (hv : ∀ i ∈ is, i ∈ vs)
    (sv : Serves K L1 H1 J items src) (en : EnvR K L1 H1 σ ρ) (so : StoR K L1 H1 S1) (hD : H1 D0 = none) {S2 : Sto} (h : lcL src items tg tst elt S1.length (wipeR ρ vs) items (S1 ++ [.list []]) = some S2) {Qd : Hp → Prop}
    (hq : ∀ L2 H2, Step L1 H1 L2 H2 → Step (L1 ++ [D0]) (upd H1 D0 (.lst [])) L2 H2 → StoR K L2 H2 S2 → Qd H2) :
    ∃ W : Nat → Nat → Hp → Prop, (∃ m, W 0 m (upd H1 D0 (.lst []))) ∧ ∀ i m H, W i m H →
      (J.stop i H ∧ Qd H) ∨ (J.go i H ∧ ∃ Nx : Hp → Prop, (∀ H', Nx H' → ∃ m', m' < m ∧ W (i + 1) m' H') ∧ ∀ x H', J.yld i H x H' → canG K is tg x (wipe σ vs) H' fun σ2 H2 => wipe σ2 vs = wipe σ vs ∧ canT K C W0 tst σ2 H2 fun b H3 =>
        if b = true then canE K C W0 elt σ2 H3 fun y H4 => ∃ acc, H4 D0 = some (.lst acc) ∧ acc.length < sizeLine ∧ Nx (upd H4 D0 (.lst (acc ++ [y]))) else Nx H3) := by
  obtain ⟨k1, k2⟩ := so.own (o := .lst []) hD (d := .list []) ⟨[], upd_same, .nil⟩
  have hlen : L1.length = S1.length := so.len
  have hwipe : ∀ σ' : L2.St, (∀ us : List Nat, (∀ i ∈ is, i ∈ us) → wipe σ' us = wipe (wipe σ vs) us) → wipe σ' vs = wipe σ vs := fun σ' hσ => by
    rw [hσ vs hv]
    apply List.ext_getElem?
    intro j
    by_cases hj : j ∈ vs
    · by_cases hl : j < σ.length
      · rw [wipe_at hj (by rw [wipe_len]; exact hl), wipe_at hj hl]
      · rw [List.getElem?_eq_none (by rw [wipe_len, wipe_len]; omega), List.getElem?_eq_none (by rw [wipe_len]; omega)]
    · rw [wipe_off hj]
  refine ⟨fun i m H => ∃ L2 Sx, m = items.length - i ∧ i ≤ items.length ∧ Step (L1 ++ [D0]) (upd H1 D0 (.lst [])) L2 H ∧ StoR K L2 H Sx ∧ lcL src items tg tst elt S1.length (wipeR ρ vs) (items.drop i) Sx = some S2,
    ⟨_, L1 ++ [D0], S1 ++ [.list []], rfl, Nat.zero_le _, Step.refl, k2, (by rw [List.drop_zero]; exact h)⟩, ?_⟩
  rintro i m H2 ⟨L2, Sx, rfl, hi, st2, so2, h2⟩
  have st12 := k1.trans st2
  by_cases hlt : i < items.length
  · rw [List.drop_eq_getElem_cons hlt] at h2
    unfold lcL at h2
    split at h2
    · rename_i hsrc
      obtain ⟨a1, a2, a3⟩ := sv.all L2 H2 Sx st12 so2 hsrc
      obtain ⟨ρ3, e3, h3⟩ := opt_bind h2
      refine .inr ⟨a1 i hlt, fun H' => ∃ L3 Sy, Step (L1 ++ [D0]) (upd H1 D0 (.lst [])) L3 H' ∧ StoR K L3 H' Sy ∧ lcL src items tg tst elt S1.length (wipeR ρ vs) (items.drop (i + 1)) Sy = some S2,
        fun H' ⟨L3, Sy, b1, b2, b3⟩ => ⟨items.length - (i + 1), by omega, L3, Sy, rfl, hlt, b1, b2, b3⟩, fun x H3 hy => ?_⟩
      obtain ⟨st3, so3, d, hd, rd⟩ := a3 i x H3 hlt hy
      have ed : d = items[i] := by
        rw [List.getElem?_eq_getElem hlt] at hd
        exact (Option.some.inj hd).symm
      subst ed
      have en3 : EnvR K L2 H3 (wipe σ vs) (wipeR ρ vs) := (en.wipes vs).step (st12.trans st3)
      refine ⟨.dat items[i], wipeR ρ vs, ρ3, L2, Sx, e3, en3, so3, rd, fun σ4 en4 hσ => ⟨hwipe σ4 hσ, ?_⟩⟩
      have st23 := st2.trans st3
      split at h3
      · rename_i S5 q5
        refine ⟨ρ3, Sx, _, S5, L2, q5, en4, so3, ⟨fun b hb L' H' st so' => ?_, fun e he => by cases he⟩⟩
        cases hb
        refine iteT ?_
        split at h3
        · rename_i o S6 q6
          obtain ⟨S7, e7, h7⟩ := opt_bind h3
          refine ⟨ρ3, S5, _, S6, L', q6, en4.step st, so', ⟨fun b hb L'' H'' st' so'' y ry => ?_, fun e he => by cases he⟩⟩
          cases hb
          have stA := (st23.trans st).trans st'
          unfold putAt at e7
          split at e7
          · rename_i d acc hacc
            split at e7
            · rename_i hz
              cases e7
              have hL : L''[S1.length]? = some D0 := by
                refine stA.get ?_
                rw [← hlen, List.getElem?_append_right (Nat.le_refl _), Nat.sub_self]
                rfl
              obtain ⟨a, ws, ea, hL2, hA, rs⟩ := own_list (v := .ref D0) so'' ⟨D0, rfl, hL⟩ hacc
              cases ea
              obtain ⟨c1, c2⟩ := so''.write (o := .lst (ws ++ [y])) hL (d := .list (acc ++ [d])) ⟨_, upd_same, rs.append (.one ry)⟩ (nf_of hA)
              exact ⟨ws, hA, by rw [rs.length]; exact hz, L'', _, stA.trans c1, c2, h7⟩
            · cases e7
          · cases e7
        · cases h3
      · rename_i S5 q5
        refine ⟨ρ3, Sx, _, S5, L2, q5, en4, so3, ⟨fun b hb L' H' st so' => ?_, fun e he => by cases he⟩⟩
        cases hb
        exact iteF ⟨L', S5, st23.trans st, so', h3⟩
      · cases h3
    · cases h2
  · have e : i = items.length := by omega
    subst e
    rw [List.drop_length] at h2
    unfold lcL at h2
    split at h2
    · rename_i hsrc
      obtain ⟨a1, a2, a3⟩ := sv.all L2 H2 Sx st12 so2 hsrc
      cases h2
      exact .inl ⟨a2, hq L2 H2 st12 st2 so2⟩
    · cases h2
/-- the list that was filled, as a new one -/
theorem lc_done {S2 : Sto} {ds : List D} {St : Sto} {L2 : List Addr} {H2 : Hp} (so : StoR K L1 H1 S1) (hD : H1 D0 = none) (st : Step L1 H1 L2 H2) (st2 : Step (L1 ++ [D0]) (upd H1 D0 (.lst [])) L2 H2) (so2 : StoR K L2 H2 S2) (h : popAt S1.length S2 = some (.inl ds, St)) :
    ∃ vs, H2 = upd (less H2 D0) D0 (.lst vs) ∧ Step L1 H1 L1 (less H2 D0) ∧ StoR K L1 (less H2 D0) St ∧ less H2 D0 D0 = none ∧ Reps K (mask L1 (less H2 D0)) vs ds := by
  unfold popAt at h
  split at h
  · rename_i acc hacc
    split at h
    · rename_i hz
      cases h
      obtain ⟨M, hM⟩ := st2.pre
      have hl2 := so2.len
      have hl1 := so.len
      have hM0 : M = [] := by
        rw [hM] at hl2
        simp only [List.length_append, List.length_singleton] at hl2
        exact List.eq_nil_of_length_eq_zero (by omega)
      subst hM0
      rw [List.append_nil] at hM
      subst hM
      have hL : (L1 ++ [D0])[S1.length]? = some D0 := by
        rw [← hl1, List.getElem?_append_right (Nat.le_refl _), Nat.sub_self]
        rfl
      obtain ⟨ws, hA, rs⟩ := (so2.obj S1.length D0 _ hL hacc : ObjR K (mask (L1 ++ [D0]) H2) H2 D0 (.list ds))
      refine ⟨ws, (upd_less hA).symm, ⟨?_, ⟨[], by simp⟩, fun b ob u e => by unfold less; rw [if_neg (ne_of_none e hD)]; exact st.fz b ob u e⟩, ?_, less_self, ?_⟩
      · have := st.frz
        rw [mask_less1] at this
        exact this
      · have := so2.pop
        rw [hl1] at this
        exact this
      · rw [mask_less1] at rs
        exact rs
    · cases h
  · cases h
end
section
variable {X : Cx} {C : Str → Value} {W : WX} {elt tg iter : Expr} {ifs : List Expr} {scope : Scope} {own : List (Str × Nat)} {pos : Pos} {fi : EI} {t : Tg} {is : List Nat} {tst : EB} {fe : E1}
theorem sm_lc {K : PySem.W.Frag} {wi : TI} (s : SmI K C W wi fi) (hv : ∀ i ∈ is, i ∈ own.map (·.2)) : SmF K C W (tLc wi (canG K is t) (canT K C W0 tst) (canE K C W0 fe) (own.map (·.2))) (fLc fi t tst fe (own.map (·.2))) := fun ρ S r S' h L σ H Q en so po => by
  unfold fLc at h
  cases e : fi ρ S with
  | none => rw [e] at h; cases h
  | some q =>
    obtain ⟨q, S1⟩ := q
    rw [e] at h
    cases q with
    | inr x =>
      cases h
      exact s ρ S _ _ e L σ H _ en so ⟨fun b z => (by cases z), fun e' he L' H' st so' cls d x => po.bad e' (by cases he; rfl) L' H' st so' cls d x⟩
    | inl p =>
      obtain ⟨items, src⟩ := p
      obtain ⟨S2, e2, h3⟩ := opt_bind (show (lcL _ _ _ _ _ _ _ _ _).bind _ = _ from h)
      refine s ρ S _ _ e L σ H _ en so ⟨fun b z L1 H1 st1 so1 J sv D0 hD => ?_, fun e' he => by cases he⟩
      cases z
      refine lc_run hv sv (en.step st1) so1 hD e2 fun L2 H2 st2 st2' so2 => ?_
      cases r with
      | inr x =>
        unfold popAt at h3
        split at h3
        · split at h3 <;> cases h3
        · cases h3
      | inl ds =>
        obtain ⟨vs, c1, c2, c3, c4, c5⟩ := lc_done so1 hD st2 st2' so2 h3
        rw [c1]
        exact po.fine ds rfl L1 _ (st1.trans c2) c3 D0 vs c4 c5
theorem df_lc (hc : X.calm = true) (hN : X.N.Nodup) (hi : DI X C W tg iter fi) (ok : BlkOk X.N X.env.scope scope own) (hv : ∀ i ∈ is, i ∈ own.map (·.2))
    (hg : ∀ (s : Shared) (H : Hp) (D : Addr) (cl : List (Str × Addr)) (fp : List Addr), DG (X.blk s H scope (compEnvC scope cl D X.env) fp) tg is t)
    (ht : ∀ (s : Shared) (H : Hp) (D : Addr) (cl : List (Str × Addr)) (fp : List Addr), DTs (X.blk s H scope (compEnvC scope cl D X.env) fp) C W0 ifs tst)
    (he : ∀ (s : Shared) (H : Hp) (D : Addr) (cl : List (Str × Addr)) (fp : List Addr), DE (X.blk s H scope (compEnvC scope cl D X.env) fp) C W0 elt fe) (hs : ∀ x, foldedSetIterable iter X.env x = pure x := by intro _; rfl) :
    DF X C W (.ListComp elt [⟨tg, iter, ifs, 0⟩] scope pos) (fLc fi t tst fe (own.map (·.2))) := by
  obtain ⟨wi, p, s⟩ := hi.ex
  exact ⟨_, pe_lc (g := canG X.K is t) (tt := canT X.K C W0 tst) (te := canE X.K C W0 fe) hc hN p ok (fun s H D cl fp => (hg s H D cl fp).can) (fun s H D cl fp => (ht s H D cl fp).run) (fun s H D cl fp => (he s H D cl fp).can) hs, sm_lc s hv⟩
/-- y = [..] on one line, y a local -/
theorem ds_setLc (i : Nat) {y : Str} {py spos : Pos} (hc : X.calm = true) (hN : X.N.Nodup) (hy : X.N[i]? = some y) (hyl : X.env.scope.names.lookup y = some .local) (hsw : swapsWith (.ListComp elt [⟨tg, iter, ifs, 0⟩] scope pos) (some (.Name y py)) spos.line X.env = pure true)
    (hi : DI X C W tg iter fi) (ok : BlkOk X.N X.env.scope scope own) (hv : ∀ i ∈ is, i ∈ own.map (·.2))
    (hg : ∀ (s : Shared) (H : Hp) (D : Addr) (cl : List (Str × Addr)) (fp : List Addr), DG (X.blk s H scope (compEnvC scope cl D X.env) fp) tg is t)
    (ht : ∀ (s : Shared) (H : Hp) (D : Addr) (cl : List (Str × Addr)) (fp : List Addr), DTs (X.blk s H scope (compEnvC scope cl D X.env) fp) C W0 ifs tst)
    (he : ∀ (s : Shared) (H : Hp) (D : Addr) (cl : List (Str × Addr)) (fp : List Addr), DE (X.blk s H scope (compEnvC scope cl D X.env) fp) C W0 elt fe) (hs : ∀ x, foldedSetIterable iter X.env x = pure x := by intro _; rfl) :
    DS X C W (.Assign [.Name y py] (.ListComp elt [⟨tg, iter, ifs, 0⟩] scope pos) spos) (sAsg (frz (fLc fi t tst fe (own.map (·.2)))) (tgN i)) := by
  obtain ⟨wi, p, s⟩ := hi.ex
  refine ⟨_, ps_setLc (g := canG X.K is t) (tt := canT X.K C W0 tst) (te := canE X.K C W0 fe) hc hN hy hyl hsw p ok (fun s H D cl fp => (hg s H D cl fp).can) (fun s H D cl fp => (ht s H D cl fp).run) (fun s H D cl fp => (he s H D cl fp).can) hs, ?_⟩
  refine sm_asg (fun ρ S r S' h L σ H Q en so po => ?_) smg_n
  exact (sm_lc s hv).bind h en so po fun ds S1 L1 H1 q vs h1 st1 so1 hq rs en1 po1 => po1.done (S0 := S1) h1 (step_new hq) (so1.laid hq) _ (new_lst so1 hq rs)
end
end Dk
set_option Elab.async false
set_option linter.all false
set_option maxRecDepth 100000
set_option maxHeartbeats 4000000
/-! A def by its body; errors of the text's own classes; methods; sorted. -/
namespace Dk
open PySem PySem.Spec L2

/-! ### a def -/
def endF (n : Nat) (o : OV) (S' : Sto) : Rs OV := match o with
  | .dat d => ret (.dat d) (S'.take n)
  | .own k => if k < n then ret (.own k) (S'.take n) else match S'[k]? with
    | some (.list ds) => ret (.dat (.list ds)) (S'.take n)
    | some (.dict kvs) => if isLk kvs = true then none else ret (.dat (.dict kvs)) (S'.take n)
    | _ => none
def runF (n m : Nat) (g : SS) (os : List OV) (S : Sto) : Rs OV := if os.length = n then match g (os.map some ++ List.replicate (m - n) none) S with
    | some (.rt o, _, S') => endF S.length o S'
    | some (.nx, _, S') => ret (.dat .none) (S'.take S.length)
    | some (.er e, _, S') => some (.inr e, S'.take S.length)
    | _ => none
  else none
section
variable {K : PySem.W.Frag} {C : Str → Value} {L L' : List Addr} {H H' : Hp} {S S' : Sto}
theorem StoR.shrink (so : StoR K L H S) (st : Step L H L' H') (so' : StoR K L' H' S') : Step L H L H' ∧ StoR K L H' (S'.take S.length) := by
  obtain ⟨M, rfl⟩ := st.pre
  have less : Same (mask (L ++ M) H') (mask L H') := mask_less fun a h => by simp [h]
  refine ⟨⟨st.frz.trans less, ⟨[], by simp⟩, st.fz⟩, so.nd, ?_, fun n a d h1 h2 => ?_, so'.tb⟩
  · have h1 := so'.len
    have h2 := so.len
    simp at h1 ⊢
    omega
  · have hn := (List.getElem?_eq_some_iff.mp h1).1
    have h2' : S'[n]? = some d := by
      rw [← so.len, List.getElem?_take_of_lt hn] at h2
      exact h2
    exact (so'.obj n a d (by rw [List.getElem?_append_left hn]; exact h1) h2').mono less rfl
theorem start_env {N : List Str} {vs : List V} {os : List OV} (r : RepOs K L H vs os) : EnvR K L H (L2.start N vs) (os.map some ++ List.replicate (N.length - os.length) none) := by
  have hl := r.length
  unfold L2.start
  refine ⟨by simp [hl], fun i o h => ?_⟩
  rcases Nat.lt_or_ge i os.length with q | q
  · rw [List.getElem?_append_left (by simpa using q), List.getElem?_map] at h
    cases e : os[i]? with
    | none => rw [e] at h; cases h
    | some x =>
      rw [e] at h
      cases h
      have : ∀ {vs : List V} {os : List OV} {i : Nat} {x : OV}, RepOs K L H vs os → os[i]? = some x → ∃ v, vs[i]? = some v ∧ RepO K L H v x := by
        intro vs os i x r
        induction r generalizing i with
        | nil => intro h; simp at h
        | cons h t ih =>
          intro e
          cases i with
          | zero => simp at e; subst e; exact ⟨_, rfl, h⟩
          | succ i =>
            obtain ⟨v, a, b⟩ := ih (by simpa using e)
            exact ⟨v, by simpa using a, b⟩
      obtain ⟨v, a, b⟩ := this r e
      refine ⟨v, ?_, b⟩
      rw [List.getElem?_append_left (by simp; omega), List.getElem?_map, a]
      rfl
  · rw [List.getElem?_append_right (by simpa using q)] at h
    rw [List.getElem?_replicate] at h
    split at h <;> cases h
theorem ExcR.mono {e : Exn} {cls : Value} {d : Option Addr} (x : ExcR C K L' H' e cls d) (less : Same (mask L' H') (mask L H')) : ExcR C K L H' e cls d := by
  obtain ⟨h1, h2⟩ := x
  refine ⟨h1, ?_⟩
  cases e with
  | mk c a =>
    cases a with
    | none => exact h2
    | some p =>
      obtain ⟨da, v, a1, a2, a3⟩ := h2
      exact ⟨da, v, a1, a2, a3.mono less⟩
end
section
variable {P : Program} {w : World} {K : PySem.W.Frag} {mg : Str → Option Value} {base : Heap} {C : Str → Value}
theorem fn_okL {x qual : Str} {st : Stmt} {f : Addr} {fd : FuncData} {N ps : List Str} {k : Nat} {g : SS} (F : Fun K x qual st f fd) (S : FnScope N ps (defScope st))
    (body : ∀ (cdv : Value), fd.code = cdv → ∀ (A : Around) (outer : List Env) (s : Shared) (H : Hp) (E : XK), Room k (A.deeper (PyProof.Rows.envOfC qual (defScope st) s.heap.objs.size f cdv)) →
      DSs (cxOf (L2.CX P w) P w K mg base N qual (defScope st) f cdv A outer s H E) C (fun cls d _ H => E cls d H) (defBody st) g) :
    FnOk P w K mg base (L2.CX P w) (k + 1) f fd ps (spD K C ps.length (runF ps.length N.length g)) := by
  obtain ⟨oc, od, kV, doc, pm, an, cdv, ct, osl, rfl, lk, hcd⟩ := F.ex
  refine fn_of lk hcd S (fun vs H Q E h => ?_) fun A outer s H vs Q E hr h => ?_
  · obtain ⟨os, L, S0, r, S', h1, h2, _⟩ := h
    rw [h2.length, h1]
  · obtain ⟨t, pt, sm⟩ := (body cdv rfl A outer s H E hr).ex
    refine ⟨t, pt, ?_⟩
    obtain ⟨os, L, S0, r, S', h1, h2, so, h3, q⟩ := h
    unfold runF at h3
    rw [if_pos h1] at h3
    have en : EnvR K L H (L2.start N vs) (os.map some ++ List.replicate (N.length - ps.length) none) := by
      rw [← h1]
      exact start_env h2
    cases e : g (os.map some ++ List.replicate (N.length - ps.length) none) S0 with
    | none => rw [e] at h3; cases h3
    | some z =>
      obtain ⟨fl, ρ', S1⟩ := z
      rw [e] at h3
      refine sm _ S0 fl ρ' S1 e L (L2.start N vs) H _ en so ⟨fun hf L' H' σ' st so' en' => ?_, fun hf => ?_, fun hf => ?_, fun o hf L' H' v st so' rv => ?_, fun e' hf L' H' σ' cls d st so' en' xr => ?_⟩
      · subst hf
        cases h3
        obtain ⟨c1, c2⟩ := so.shrink st so'
        exact (q L H' c1 c2).1 _ rfl .non .non
      · subst hf; cases h3
      · subst hf; cases h3
      · subst hf
        obtain ⟨c1, c2⟩ := so.shrink st so'
        have less : Same (mask L' H') (mask L H') := by
          obtain ⟨M, rfl⟩ := st.pre
          exact mask_less fun a h => by simp [h]
        change endF S0.length o S1 = some (r, S') at h3
        unfold endF at h3
        split at h3
        · cases h3
          exact (q L H' c1 c2).1 _ rfl v (Rep.mono less rv)
        · rename_i n
          split at h3
          · rename_i hn
            cases h3
            refine (q L H' c1 c2).1 _ rfl v ?_
            obtain ⟨a, e1, e2⟩ := rv
            obtain ⟨M, rfl⟩ := st.pre
            exact ⟨a, e1, by rw [List.getElem?_append_left (by rw [so.len]; exact hn)] at e2; exact e2⟩
          · rename_i hn
            obtain ⟨a, e1, e2⟩ := rv
            subst e1
            have out : a ∉ L := fun ha => by
              obtain ⟨M, rfl⟩ := st.pre
              have nd := so'.nd
              obtain ⟨j, hj, ej⟩ := List.mem_iff_getElem.mp ha
              have q1 : (L ++ M)[j]? = some a := by rw [List.getElem?_append_left hj, List.getElem?_eq_getElem hj, ej]
              have z1 := List.getElem?_eq_some_iff.mp q1
              have z2 := List.getElem?_eq_some_iff.mp e2
              have := (List.getElem_inj nd).mp (z1.2.trans z2.2.symm)
              rw [so.len] at hj
              omega
            split at h3
            · rename_i ds hds
              cases h3
              refine (q L H' c1 c2).1 _ rfl _ ?_
              obtain ⟨ws, k1, k2⟩ := (so'.obj n a _ e2 hds : ObjR K (mask L' H') H' a (.list ds))
              exact Rep.lst (SqL.of (mask_of out k1)) (k2.mono less)
            · rename_i kvs hds
              split at h3
              · cases h3
              rename_i hlk
              cases h3
              refine (q L H' c1 c2).1 _ rfl _ ?_
              rcases (so'.obj n a _ e2 hds : ObjR K (mask L' H') H' a (.dict kvs)) with ⟨ks, vs, ds, k1, k2, k3, rfl, _⟩ | ⟨ks, vs, ds, k1, k2, k3, rfl⟩ | ⟨ob, ks, vs, ds, k1, k2, k3, rfl, _⟩ | ⟨ob, ks, vs, ds, k1, k2, k3, rfl⟩
              · exact Rep.dk k1 (mask_of out k2) (k3.mono less)
              · exact Rep.dt k1 (mask_of out k2) (k3.mono less)
              · exact absurd rfl hlk
              · exact absurd rfl hlk
            · cases h3
      · subst hf
        cases h3
        obtain ⟨c1, c2⟩ := so.shrink st so'
        have less : Same (mask L' H') (mask L H') := by
          obtain ⟨M, rfl⟩ := st.pre
          exact mask_less fun a h => by simp [h]
        exact (q L H' c1 c2).2 _ rfl cls d (xr.mono less)
theorem fn_ok {x qual : Str} {st : Stmt} {f : Addr} {fd : FuncData} {N ps : List Str} {k : Nat} {g : SS} (F : Fun K x qual st f fd) (S : FnScope N ps (defScope st))
    (body : ∀ (cdv : Value) (A : Around) (outer : List Env) (s : Shared) (H : Hp) (E : XK), Room k (A.deeper (PyProof.Rows.envOfC qual (defScope st) s.heap.objs.size f cdv)) →
      DSs (cxOf (L2.CX P w) P w K mg base N qual (defScope st) f cdv A outer s H E) C (fun cls d _ H => E cls d H) (defBody st) g) :
    FnOk P w K mg base (L2.CX P w) (k + 1) f fd ps (spD K C ps.length (runF ps.length N.length g)) := fn_okL F S fun cdv _ => body cdv
theorem fn_mkL {x qual : Str} {st : Stmt} {f : Addr} {fd : FuncData} {N ps : List Str} {k : Nat} {g : SS} (F : Fun K x qual st f fd) (hm : mg x = some (.ref f)) (hb : Binds K fd ps []) (S : FnScope N ps (defScope st))
    (body : ∀ (cdv : Value), fd.code = cdv → ∀ (A : Around) (outer : List Env) (s : Shared) (H : Hp) (E : XK), Room k (A.deeper (PyProof.Rows.envOfC qual (defScope st) s.heap.objs.size f cdv)) →
      DSs (cxOf (L2.CX P w) P w K mg base N qual (defScope st) f cdv A outer s H E) C (fun cls d _ H => E cls d H) (defBody st) g) :
    FnD P w K mg base C (k + 1) x ps.length (runF ps.length N.length g) := ⟨f, fd, ps, rfl, hm, F.kp, hb, fn_okL F S body⟩
theorem fn_mk {x qual : Str} {st : Stmt} {f : Addr} {fd : FuncData} {N ps : List Str} {k : Nat} {g : SS} (F : Fun K x qual st f fd) (hm : mg x = some (.ref f)) (hb : Binds K fd ps []) (S : FnScope N ps (defScope st))
    (body : ∀ (cdv : Value) (A : Around) (outer : List Env) (s : Shared) (H : Hp) (E : XK), Room k (A.deeper (PyProof.Rows.envOfC qual (defScope st) s.heap.objs.size f cdv)) →
      DSs (cxOf (L2.CX P w) P w K mg base N qual (defScope st) f cdv A outer s H E) C (fun cls d _ H => E cls d H) (defBody st) g) :
    FnD P w K mg base C (k + 1) x ps.length (runF ps.length N.length g) := ⟨f, fd, ps, rfl, hm, F.kp, hb, fn_ok F S body⟩
end
/-! in the body of a def: what an error meets, what the frame of a loop asks -/
section
variable {P : Program} {w : World} {K : PySem.W.Frag} {mg : Str → Option Value} {base : Heap} {N : List Str} {qual : Str} {scope : Scope} {f : Addr} {cd : Value} {A : Around} {outer : List Env} {s : Shared} {H : Hp} {E : XK}
theorem takes_body : Takes (cxOf (L2.CX P w) P w K mg base N qual scope f cd A outer s H E) (fun cls d _ H => E cls d H) := takes_of rfl rfl rfl rfl
theorem passes_body : PassesOwn (model P w) (cxOf (L2.CX P w) P w K mg base N qual scope f cd A outer s H E).A (cxOf (L2.CX P w) P w K mg base N qual scope f cd A outer s H E).env (cxOf (L2.CX P w) P w K mg base N qual scope f cd A outer s H E).xe := passes_of rfl
end

/-! ### own classes of errors, without fields -/
structure ExcT (K : PySem.W.Frag) (mg : Str → Option Value) (C : Str → Value) (x : Str) (A : Addr) : Prop where
  c : C x = .ref A
  g : mg x = some (.ref A)
  k : PySem.W.keepIn K (.ref A) = true
  q : PySem.W.excIn K A [.type "ValueError", .type "Exception", .type "BaseException", .type "object"] "ValueError.__new__" = true
  b : PySem.W.subIn K (.ref A) (.type "BaseException") = some true
  t : PySem.W.typeIn K (.ref A) = some (.type "type")
theorem ds_raiseX {X : Cx} {C : Str → Value} {W : WX} {x m : Str} {A : Addr} {j : Nat} {p p2 p3 pos : Pos} (T : ExcT X.K X.mg C x A) (hc : X.calm = true) (tk : Takes X W) (hg : Gl X x) (hdb : (x == ("__debug__" : Str)) = false := by decide) :
    DS X C W (.Raise (some (.Call (.Name x p) [.Constant (.str m) j p2] [] p3)) none pos) (sRaise x) :=
  ds_raise hc tk (pmk_own PySem.F.excBase_ValueError T.q T.g T.k (raises_own T.b T.t) hg hdb) T.c

/-! ### methods of texts and lists -/
def joinS (S : Sto) (a b : OV) : Option D := match view S a with
  | some (.str x) => (viewSeq S b).bind fun ds => (asStrs ds).bind fun ys => if (ys.map (·.length)).sum + ys.length * x.length ≤ 16777216 then some (.str (Txt.join x ys)) else none
  | _ => none
def splitS (S : Sto) (a b : OV) : Option (List D) := match view S a, view S b with
  | some (.str x), some (.str y) => if (y.length == 0) = false ∧ x.length + 2 ≤ sizeLine then some ((Txt.split x y).map .str) else none
  | _, _ => none
def isStrO (S : Sto) (a : OV) : Bool := match view S a with
  | some (.str _) => true
  | _ => false
def fJoin (fo fe : E1) : E1 := fun ρ S => (fo ρ S).bind fun a S1 => if isStrO S1 a = true then (fe ρ S1).bind fun b S2 => (joinS S2 a b).bind fun d => ret (.dat d) S2 else none
def fSplit (fo fe : E1) : EF := fun ρ S => (fo ρ S).bind fun a S1 => if isStrO S1 a = true then (fe ρ S1).bind fun b S2 => (splitS S2 a b).bind fun d => ret d S2 else none
theorem isStrO_rep {K : PySem.W.Frag} {L : List Addr} {H : Hp} {S : Sto} {v : V} {o : OV} (h : isStrO S o = true) (r : RepO K L H v o) (so : StoR K L H S) : ∃ x, v = .str x := by
  unfold isStrO at h
  split at h
  · rename_i x q
    exact ⟨x, view_str q r so⟩
  · cases h
section
variable {X : Cx} {C : Str → Value} {W : WX} {o e : Expr} {fo fe : E1} {apos pos : Pos}
theorem de_join (ho : DE X C W o fo) (he : DE X C W e fe) (hs : starEach [e] X.env = [(false, eval e X.env)] := by rfl) (hbase : attributeBase o "join" X.env (eval o X.env) = eval o X.env := by rfl) (hline : (apos.endLine == pos.line) = true := by rfl) :
    DE X C W (.Call (.Attribute o "join" apos) [e] [] pos) (fJoin fo fe) := by
  obtain ⟨t1, p1, s1⟩ := ho.ex
  obtain ⟨t2, p2, s2⟩ := he.ex
  refine ⟨_, pe_join p1 p2 hs hbase hline, fun ρ S r S' h L σ H Q en so po => ?_⟩
  refine s1.bind h en so po fun a S1 L1 H1 v h1 st1 so1 r1 en1 po1 => ?_
  split at h1
  · rename_i hi
    refine ⟨isStrO_rep hi r1 so1, ?_⟩
    refine s2.bind h1 en1 so1 po1 fun b S2 L2 H2 u h2 st2 so2 r2 en2 po2 => ?_
    obtain ⟨d, e1, h3⟩ := opt_bind h2
    unfold joinS at e1
    split at e1
    · rename_i x hx
      obtain ⟨ds, e2, e3⟩ := opt_bind e1
      obtain ⟨ys, e4, e5⟩ := opt_bind e3
      split at e5
      · rename_i hz
        cases e5
        obtain ⟨a', vs, rfl, rs, m⟩ := viewSeq_ok e2 r2 so2
        rw [asStrs_eq e4] at rs
        obtain rfl := rs.strs
        refine ⟨x, a', ys, view_str hx (r1.step st2) so2, rfl, ?_, hz, po2.done (S0 := S2) h3 Step.refl so2 _ (.str _)⟩
        rcases m with ⟨_, m⟩ | ⟨_, m, _⟩
        · exact .inl m
        · exact .inr m
      · cases e5
    · cases e1
  · cases h1
theorem df_split (ho : DE X C W o fo) (he : DE X C W e fe) (hs : starEach [e] X.env = [(false, eval e X.env)] := by rfl) (hbase : attributeBase o "split" X.env (eval o X.env) = eval o X.env := by rfl) (hline : (apos.endLine == pos.line) = true := by rfl) :
    DF X C W (.Call (.Attribute o "split" apos) [e] [] pos) (fSplit fo fe) := by
  obtain ⟨t1, p1, s1⟩ := ho.ex
  obtain ⟨t2, p2, s2⟩ := he.ex
  refine ⟨_, pe_split p1 p2 hs hbase hline, fun ρ S r S' h L σ H Q en so po => ?_⟩
  refine s1.bind h en so po fun a S1 L1 H1 v h1 st1 so1 r1 en1 po1 => ?_
  split at h1
  · rename_i hi
    refine ⟨isStrO_rep hi r1 so1, ?_⟩
    refine s2.bind h1 en1 so1 po1 fun b S2 L2 H2 u h2 st2 so2 r2 en2 po2 => ?_
    obtain ⟨d, e1, h3⟩ := opt_bind h2
    unfold splitS at e1
    split at e1
    · rename_i x y hx hy
      split at e1
      · rename_i hz
        cases e1
        exact ⟨x, y, view_str hx (r1.step st2) so2, by rw [view_str hy r2 so2], hz.1, hz.2, fun p hp => po2.done (S0 := S2) h3 Step.refl so2 p _ hp (Reps.of_strs _)⟩
      · cases e1
    · cases e1
  · cases h1
def indexS (S : Sto) (a b : OV) : Option D := match view S a, view S b with
  | some (.list ds), some d => if SeqAt.shaped (.list ds) = true ∧ SeqAt.shaped d = true then (ds.findIdx? fun z => PyData.eqv z d).map fun j => .int (j : Nat) else none
  | _, _ => none
def fIndex (fo : E1) (fa : EL) : E1 := fun ρ S => (fo ρ S).bind fun o S1 => (viewL S1 o).bind fun _ => (fa ρ S1).bind fun as S2 => match as with
  | [b] => (indexS S2 o b).bind fun d => ret (.dat d) S2
  | _ => none
theorem de_index {k : Nat} (hr : Room k X.A) (ho : DE X C W o fo) {fa : EL} (ha : DA X C W [e] fa)
    (hbase : attributeBase o "index" X.env (eval o X.env) = eval o X.env := by rfl)
    (hfew : ((backTo pos (starEach [e] X.env)).all (fun x => !x.1) && (backToKw pos (keywordEach [] X.env)).all (fun x => x.1.isSome) && decide ([e].length + ([] : List Keyword).length + (if ([] : List Keyword).isEmpty then 0 else 1) < 30)) = true := by rfl)
    (hline : (apos.endLine == pos.line) = true := by rfl) (hs : starEach [e] X.env = (false, eval e X.env) :: starEach [] X.env := by rfl) (hplain : (backTo pos (starEach [] X.env)).any (·.1) = false := by rfl) :
    DE X C W (.Call (.Attribute o "index" apos) [e] [] pos) (fIndex fo fa) := by
  obtain ⟨t1, p1, s1⟩ := ho.ex
  obtain ⟨t2, q2, s2⟩ := ha.ex
  refine ⟨_, pe_bm PySem.F.plainAttrs_list PySem.F.slot_list_index PySem.F.type_list_index (mt_indexD (room65 hr)) p1 q2 hbase hfew hline hs hplain, fun ρ S r S' h L σ H Q en so po => ?_⟩
  refine s1.bind h en so po fun y S1 L1 H1 u h1 st1 so1 r1 en1 po1 => ?_
  obtain ⟨ds0, e0, k0⟩ := opt_bind h1
  obtain ⟨a0, vs0, e00, m0, _⟩ := view_list (viewL_eq e0) r1 so1
  refine ⟨by rw [e00]; exact tyV_list m0, ?_⟩
  refine s2.bind k0 en1 so1 po1 fun as S2 L2 H2 ws h2 st2 so2 r2 en2 po2 => ?_
  split at h2
  · rename_i b
    obtain ⟨d, e1, h3⟩ := opt_bind h2
    obtain ⟨v, rfl, rv⟩ := reps_one r2
    unfold indexS at e1
    split at e1
    · rename_i ds d' hx hy
      split at e1
      · rename_i hz
        obtain ⟨j, e2, rfl⟩ := opt_map e1
        have dx := view_rep hx (r1.step st2) so2 (shaped_lay hz.1)
        have dy := view_rep hy rv so2 (shaped_lay hz.2)
        obtain ⟨hj, c1, c2⟩ := List.findIdx?_eq_some_iff_getElem.mp e2
        subst e00
        exact ⟨a0, v, d', ds, j, ds[j], rfl, rfl, dx, dy, hz.1, hz.2, List.getElem?_eq_getElem hj, c1, fun m z' hm hz' => by
          have hm' : m < ds.length := by omega
          rw [List.getElem?_eq_getElem hm'] at hz'
          cases hz'
          simpa using c2 m hm, po2.done (S0 := S2) h3 Step.refl so2 _ (.int _)⟩
      · cases e1
    · cases e1
  · cases h2
end

/-! ### sorted, any data -/
def alikeB (ds : List D) : Bool := ds.all fun d => ds.all fun e => PySem.W.alike d e
def tupB : D → Bool
  | .tuple (_ :: _) => true
  | _ => false
def plainB : D → Bool
  | .none => false
  | .tuple _ => false
  | _ => true
def sortS (S : Sto) (os : List OV) : Option (List D) := match os with
  | [o] => (viewL S o).bind fun ds => if PyData.canLayAll0 ds = true ∧ alikeB ds = true ∧ (ds.all tupB = true ∨ ds.all plainB = true) ∧ (∀ d ∈ ds, d.depth ≤ 64) then some (ds.mergeSort (PySem.W.dataLe false id)) else none
  | _ => none
theorem alikeB_ok {ds : List D} (h : alikeB ds = true) : PySem.W.AllAlike ds := fun d hd e he => by
  unfold alikeB at h
  rw [List.all_eq_true] at h
  have q := h d hd
  rw [List.all_eq_true] at q
  exact q e he
theorem sortable_ok {ds : List D} (h : ds.all tupB = true ∨ ds.all plainB = true) : PySem.W.Sortable ds := by
  rcases h with h | h
  · refine .inl fun d hd => ?_
    have q := List.all_eq_true.mp h d hd
    cases d <;> try (cases q; done)
    rename_i xs
    cases xs with
    | nil => cases q
    | cons x r => exact ⟨x, r, rfl⟩
  · refine .inr fun d hd => ?_
    have q := List.all_eq_true.mp h d hd
    cases d <;> first | (cases q; done) | exact ⟨(fun z => by cases z), fun xs z => by cases z⟩
theorem reps_zip {K : PySem.W.Frag} {G : Hp} : ∀ {vs : List V} {ds : List D}, Reps K G vs ds → (∀ p ∈ vs.zip ds, Rep K G p.1 p.2) ∧ (vs.zip ds).map Prod.snd = ds ∧ (vs.zip ds).length = ds.length
  | _, _, .nil => ⟨fun p h => by simp at h, rfl, rfl⟩
  | v :: vs, d :: ds, .cons h r => by
    obtain ⟨a, b, c⟩ := reps_zip r
    refine ⟨fun p hp => ?_, by simpa using b, by simpa using c⟩
    rcases List.mem_cons.mp hp with rfl | hp
    · exact h
    · exact a p hp
theorem zip_reps {K : PySem.W.Frag} {G : Hp} : ∀ {l : List (V × D)}, (∀ p ∈ l, Rep K G p.1 p.2) → Reps K G (l.map Prod.fst) (l.map Prod.snd)
  | [], _ => .nil
  | p :: l, h => .cons (h p (by simp)) (zip_reps fun q hq => h q (by simp [hq]))
theorem each_vals : ∀ {us : List Value} {l : List (V × D)}, PySem.W.EachIs (fun u (p : V × D) => RelV p.1 u) us l → Vals (l.map Prod.fst) us
  | _, _, .nil => .nil
  | _, _, .cons h t => .cons h (each_vals t)
theorem vals_each {K : PySem.W.Frag} {G : Hp} : ∀ {vs : List V} {ds : List D} {us : List Value}, Reps K G vs ds → Vals vs us → PySem.W.EachIs (fun u (p : V × D) => RelV p.1 u) us (vs.zip ds)
  | _, _, _, .nil, .nil => .nil
  | _, _, _, .cons _ r, .cons h t => .cons h (vals_each r t)
theorem reads_each {h : Heap} : ∀ {vs : List V} {ds : List D} {us : List Value} {as : List Addr}, vs.length = ds.length → ReadsAll h us ds as → PySem.W.EachIs (fun u (p : V × D) => ∃ as, Reads h u p.2 as) us (vs.zip ds)
  | [], [], _, _, _, r => by
    cases (show ReadsAll h _ [] _ from r)
    exact .nil
  | v :: vs, d :: ds, _, _, hl, r => by
    cases (show ReadsAll h _ (d :: ds) _ from r) with
    | cons h1 h2 => exact .cons ⟨_, h1⟩ (reads_each (by simpa using hl) h2)
  | [], _ :: _, _, _, hl, _ => by simp at hl
  | _ :: _, [], _, _, hl, _ => by simp at hl
theorem rc_sorted {X : Cx} {k : Nat} (hr : Room k X.A) : CallR X (.builtin "sorted") (rOfF X.K sortS) := by
  intro pins s σ H xs us Q I r h
  obtain ⟨L, S, os, ds', so, ro, e, q⟩ := h
  unfold sortS at e
  split at e
  · obtain ⟨v, rfl, rv⟩ := reps_one ro
    obtain ⟨ds, e1, e2⟩ := opt_bind e
    split at e2
    · rename_i hz
      obtain ⟨hlay, hal, hso, hdp⟩ := hz
      cases e2
      obtain ⟨a, vs, rfl, m, rs⟩ := view_list (viewL_eq e1) rv so
      obtain ⟨u, rfl, ru⟩ := Vals.one r
      cases ru
      obtain ⟨its, vr, pl, hlen⟩ := I.list m
      have dp : DpAll X.K H vs ds := Reps.dp (rs.mono (mask_same L H)) hlay
      obtain ⟨as, rd⟩ := Dp.readsAll I ds vs its dp vr
      obtain ⟨z1, z2, z3⟩ := reps_zip rs
      have hl := rs.length
      have hdp' : ∀ p ∈ vs.zip ds, p.2.depth ≤ 64 := fun p hp => hdp _ (z2 ▸ List.mem_map_of_mem hp)
      refine PySem.W.sorted_data (bs := vs.zip ds) (enc := Prod.snd) (R := fun u (p : V × D) => RelV p.1 u) pl.isList (vals_each rs vr) (reads_each hl rd) (by rw [z2]; exact alikeB_ok hal) (by rw [z2]; exact sortable_ok hso) (by rw [z3, ← hl]; exact hlen)
        (fun p hp => by have := hdp' p hp; have := hr.un; omega) fun out ho er => ?_
      have hperm := List.mergeSort_perm (vs.zip ds) (PySem.W.dataLe false Prod.snd)
      have rs2 := zip_reps (l := (vs.zip ds).mergeSort (PySem.W.dataLe false Prod.snd)) fun p hp => z1 p (hperm.mem_iff.mp hp)
      have hmap : ((vs.zip ds).mergeSort (PySem.W.dataLe false Prod.snd)).map Prod.snd = ds.mergeSort (PySem.W.dataLe false id) := by
        exact (PySem.W.sort_maps (r := PySem.W.dataLe false Prod.snd) (s := PySem.W.dataLe false id) (l := vs.zip ds) Prod.snd (fun a _ b _ => rfl)).trans (by rw [z2])
      rw [hmap] at rs2
      have vals2 := each_vals er
      obtain ⟨c, hc⟩ := PyProof.Rows.sortedAll_at s.heap its out.toArray
      have hf : H (s.heap.objs.size + 1) = none := I.hok.fresh (Nat.le_succ _)
      have J := I.laid (a := s.heap.objs.size + 1) (o := .lst (((vs.zip ds).mergeSort (PySem.W.dataLe false Prod.snd)).map Prod.fst)) (h' := PyProof.Rows.sortedAll s.heap its out.toArray) (t' := s.toks) (fun b u e => PyProof.Rows.sortedAll_old e) (Nat.le_succ _)
        ⟨by rw [rs2.length, List.length_mergeSort, ← hl]; exact hlen, out, c, vals2, hc⟩
      exact ⟨.ref (s.heap.objs.size + 1), _, J, rfl, q _ _ hf rs2⟩
    · cases e2
  · cases e
end Dk
set_option Elab.async false
set_option linter.all false
set_option maxRecDepth 100000
set_option maxHeartbeats 4000000
/-! sorted(set(xs)) of ints. -/
namespace Dk
open PySem PySem.Spec PyProof.Rows L2
section
variable {P : Program} {w : World} {A : Around} {E : Value → Shared → Prop} {s : Shared}
/-- a set as it is made, still empty -/
abbrev set0 (w : World) : Obj := { cls := .type "set", dict := none, data := .set #[] 0 (.fresh 0 0 (!w.params.followText "set-order")) }
/-- what the set holds once it is filled from the list -/
def SetFull (w : World) (hp : Heap) (zs : List Int) (s : Shared) (s' : Shared) : Prop :=
  ∃ h' tk c, s' = { s with heap := h', toks := tk } ∧ SetR w h' hp.objs.size (fun j => decide (j ∈ zs)) c ∧ c ≤ zs.length ∧ ∀ b o, hp.get? b = some o → h'.get? b = some o
theorem fill_set {l : Addr} {its : Array Value} {zs : List Int} (hh : A.handled = none) (hl : s.heap.IsList l its) (hi : IntsAre its.toList zs) (hb : zs.length + 1 < scanBound)
    {Q : Fin → Shared → Prop} (q : ∀ s', SetFull w s.heap zs s s' → Q (.done (.ret .none)) s') :
    wpAny (model P w) A (Builtin.«set.__init__» ⟨[.ref s.heap.objs.size, .ref l], []⟩) Q E { s with heap := s.heap.push (set0 w) } := by
  have top : (s.heap.push (set0 w)).get? s.heap.objs.size = some (set0 w) := Heap.get?_push_size _ rfl
  obtain ⟨⟨cl, dc, dt, sl⟩, at_l, c1, n, d1⟩ := id hl
  simp only at c1 d1
  subst c1 d1
  have lsz : l < s.heap.objs.size := Heap.lt_size at_l
  have at_l' : (s.heap.push (set0 w)).get? l = some { cls := .type "list", dict := dc, data := .seq its n, slots := sl } := Heap.get?_push_of_some _ at_l
  have l1 : (s.heap.push (set0 w)).IsList l its := ⟨_, at_l', rfl, n, rfl⟩
  have ns1 := F.sub_list_set
  have ns2 := F.sub_list_frozenset
  have nd : (Value.type "list" == Value.type "dict") = false := by decide
  have hT : Shared.TypeIs { s with heap := s.heap.push (set0 w) } (.ref s.heap.objs.size) "set" := ⟨_, top, rfl⟩
  unfold Builtin.«set.__init__» noKeywords Builtin.Frozenset.updateFrom
  generalize hI : pyIter = I
  wp_walk
  subst hI
  refine wpAny_pyIter_list l1 (wpAny_bind (wpAny_runValue ?_))
  have hA : A.in1.handled = none := hh
  have iter_ne : l ≠ (s.heap.push (set0 w)).objs.size := by
    rw [Heap.size_push]
    exact Nat.ne_of_lt (Nat.lt_succ_of_lt lsz)
  have size : its.size = zs.length := by
    have e := IntsAre.length hi
    rwa [Array.length_toList] at e
  have apart : s.heap.objs.size ∉ [(s.heap.push (set0 w)).objs.size, l] := by
    intro m
    rw [Heap.size_push] at m
    simp only [List.mem_cons, List.not_mem_nil, or_false] at m
    rcases m with m | m
    · exact absurd m (Nat.ne_of_lt (Nat.lt_succ_self _))
    · exact absurd m (Nat.ne_of_gt lsz)
  have values : ∀ (i : Nat) (v : Value), its[i]? = some v → ∃ k t, zs[i]? = some k ∧ v = .int k t := fun i v hv => by
    have lt : i < its.size := (Array.getElem?_eq_some_iff.mp hv).1
    obtain ⟨t, e⟩ := IntsAre.int_at hi i v (by rw [Array.getElem?_toList]; exact hv)
    rw [size] at lt
    exact ⟨zs[i], t, List.getElem?_eq_getElem lt, by rw [e, List.getD_eq_getElem?_getD, List.getElem?_eq_getElem lt]; rfl⟩
  refine set_update_ints (Walks.list hA _ l iter_ne its).toS s.heap.objs.size apart zs size hb values its.size 0 _ (by omega) (Nat.zero_le _) ⟨⟨_, Heap.get?_push_size _ rfl, rfl, rfl⟩, l1.push _⟩ ⟨0, Nat.le_refl 0, ?_⟩ ?_
  · exact setR_new_at (Heap.get?_push_of_some _ top)
  · rintro ⟨h', g', d', tk', os'⟩ c moved hc full
    obtain rfl : g' = s.gens := moved.gens
    obtain rfl : d' = s.drawn := moved.drawn
    obtain rfl : os' = s.os := moved.os
    rw [size] at hc
    refine wpAny_pure (wpAny_pure (q _ ⟨h', tk', c, rfl, full, hc, fun b o e => ?_⟩))
    have lb : b < s.heap.objs.size := Heap.lt_size e
    refine moved.heap b o (fun m => ?_) (Heap.get?_push_of_some _ (Heap.get?_push_of_some _ e))
    have hs : (s.heap.push (set0 w)).objs.size = s.heap.objs.size + 1 := Heap.size_push ..
    simp only [List.mem_cons, List.not_mem_nil, or_false] at m
    rcases m with m | m
    · exact Nat.ne_of_lt lb m
    · rw [show b = s.heap.objs.size + 1 from m.trans hs] at lb
      exact Nat.not_succ_lt_self lb
/-- set(xs) -/
theorem set_of_ints {l : Addr} {its : Array Value} {zs : List Int} (hh : A.handled = none) (hl : s.heap.IsList l its) (hi : IntsAre its.toList zs) (hb : zs.length + 1 < scanBound)
    {Q : Value → Shared → Prop} (q : ∀ s', SetFull w s.heap zs s s' → Q (.ref s.heap.objs.size) s') : wpAny (model P w) A (call (.type "set") [.ref l]) Q E s := by
  obtain ⟨c, tl, mro⟩ := F.called_set.mro
  have made := F.called_set.made
  have sub := F.called_set.sub
  have n1 := F.called_set.notType
  have n2 := F.called_set.canCreate
  have asks := F.typeCall_set_1 (.ref l)
  refine wpAny_call (codeAny_of_tree ?_)
  refine wpAny_pure (show _ ∧ _ from ⟨Code.quiet_builtin _ (by decide +kernel), codeAny_builtin F.entry_type_call ?_⟩)
  rw [Around.under_plain (weight_type_call_type "set" [.ref l] []) rfl]
  repeat (any_goals (first | assumption | wp_step))
  refine codeAny_mono (code_set_led1 (.ref l) (E := E) (Q₁ := fun ob t => ob = .ref s.heap.objs.size ∧ t = { s with heap := s.heap.push (set0 w) }) ⟨rfl, rfl⟩) ?_
  intro r t hr
  match r, hr with
  | .error e, hr => exact hr
  | .ok (.ret ob), hr =>
    obtain ⟨rfl, rfl⟩ := hr
    have hT : Shared.TypeIs { s with heap := s.heap.push (set0 w) } (.ref s.heap.objs.size) "set" := ⟨_, Heap.get?_push_size _ rfl, rfl⟩
    have look := F.called_set.init.lookup
    have bound := F.called_set.init.bind (.ref s.heap.objs.size)
    repeat (any_goals (first | assumption | wp_step))
    refine codeAny_mono (codeAny_call_builtin (R := wants (fun r t => r = .none ∧ SetFull w s.heap zs s t) E) F.called_set.init.plain F.entry_set_init (check_set_init_1 hT ?_)) ?_
    · exact fill_set (by simp [hh]) hl hi hb fun t full => ⟨rfl, full⟩
    · intro r t hr
      match r, hr with
      | .error e, hr => exact hr
      | .ok (.ret v), hr =>
        obtain ⟨rfl, full⟩ := hr
        repeat (any_goals (first | assumption | wp_step))
        exact q _ full
end
section
variable {X : Cx}
def rSetI (K : PySem.W.Frag) (w : World) : List V → Hp → VK → Prop := fun xs H Q => ∃ (a : Addr) (ns : List Int), xs = [V.ref a] ∧ SqL K H a (ns.map V.int) ∧ ns.length ≤ 1000 ∧
  ∀ p c, H p = none → c ≤ ns.length → Q (.ref p) (upd H p (SetO w p (fun j => decide (j ∈ ns)) c))
theorem cr_setI (hc : X.calm = true) : CallR X (.type "set") (rSetI X.K X.w) := by
  intro pins s σ H xs us Q I r h
  obtain ⟨a, ns, rfl, hl, hz, q⟩ := h
  rw [Vals.ref1 r]
  obtain ⟨its, rv, pl, _⟩ := I.list hl
  refine set_of_ints (I.ok.hd hc) pl.isList (by simpa using Vals.ints rv) (by unfold scanBound; omega) fun s' full => ?_
  obtain ⟨h', tk, c, rfl, sr, hc', keep⟩ := full
  have hn := I.hok.fresh (Nat.le_refl s.heap.objs.size)
  exact ⟨.ref s.heap.objs.size, _, I.laid (t' := tk) keep (Nat.le_refl _) (setO_new sr), rfl, q _ c hn hc'⟩
end
/-! ascending, each once -/
def insU (x : Int) : List Int → List Int
  | [] => [x]
  | y :: r => if x < y then x :: y :: r else if x = y then y :: r else y :: insU x r
def sortU (ns : List Int) : List Int := ns.foldr insU []
theorem insU_mem {x k : Int} : ∀ {l : List Int}, k ∈ insU x l ↔ k = x ∨ k ∈ l
  | [] => by simp [insU]
  | y :: r => by
    unfold insU
    split
    · simp
    · split
      · rename_i h
        subst h
        simp
      · simp only [List.mem_cons, insU_mem (l := r)]
        constructor
        · rintro (h | h | h)
          · exact .inr (.inl h)
          · exact .inl h
          · exact .inr (.inr h)
        · rintro (h | h | h)
          · exact .inr (.inl h)
          · exact .inl h
          · exact .inr (.inr h)
theorem insU_up {x : Int} : ∀ {l : List Int}, l.Pairwise (· < ·) → (insU x l).Pairwise (· < ·)
  | [], _ => by simp [insU]
  | y :: r, h => by
    obtain ⟨h1, h2⟩ := List.pairwise_cons.mp h
    unfold insU
    split
    · rename_i hx
      refine List.pairwise_cons.mpr ⟨fun z hz => ?_, h⟩
      rcases List.mem_cons.mp hz with rfl | hz
      · exact hx
      · have := h1 z hz
        omega
    · split
      · exact h
      · refine List.pairwise_cons.mpr ⟨fun z hz => ?_, insU_up h2⟩
        rcases insU_mem.mp hz with rfl | hz
        · omega
        · exact h1 z hz
theorem sortU_mem {k : Int} : ∀ {l : List Int}, k ∈ sortU l ↔ k ∈ l
  | [] => by simp [sortU]
  | y :: r => by
    show k ∈ insU y (sortU r) ↔ _
    rw [insU_mem, sortU_mem]
    simp
theorem sortU_up : ∀ l : List Int, (sortU l).Pairwise (· < ·)
  | [] => by simp [sortU]
  | y :: r => insU_up (sortU_up r)
theorem up_unique : ∀ {l m : List Int}, l.Pairwise (· < ·) → m.Pairwise (· < ·) → (∀ k, k ∈ l ↔ k ∈ m) → l = m
  | [], [], _, _, _ => rfl
  | [], y :: _, _, _, h => by have := (h y).mpr (by simp); simp at this
  | x :: _, [], _, _, h => by have := (h x).mp (by simp); simp at this
  | x :: r, y :: t, h1, h2, h => by
    obtain ⟨a1, a2⟩ := List.pairwise_cons.mp h1
    obtain ⟨b1, b2⟩ := List.pairwise_cons.mp h2
    have hxy : x = y := by
      rcases List.mem_cons.mp ((h x).mp (by simp)) with e | e
      · exact e
      · rcases List.mem_cons.mp ((h y).mpr (by simp)) with e' | e'
        · exact e'.symm
        · have := b1 x e
          have := a1 y e'
          omega
    subst hxy
    rw [up_unique a2 b2 fun k => ?_]
    constructor
    · intro hk
      rcases List.mem_cons.mp ((h k).mp (List.mem_cons_of_mem _ hk)) with e | e
      · subst e
        have := a1 k hk
        omega
      · exact e
    · intro hk
      rcases List.mem_cons.mp ((h k).mpr (List.mem_cons_of_mem _ hk)) with e | e
      · subst e
        have := b1 k hk
        omega
      · exact e
def fSortSet (fe : E1) : EF := fun ρ S => (fe ρ S).bind fun o S1 => (viewL S1 o).bind fun ds => (asInts ds).bind fun ns => if ns.length < 64 then ret ((sortU ns).map .int) S1 else none
section
variable {X : Cx} {C : Str → Value} {W : WX} {e : Expr} {fe : E1} {p p2 pos pos2 : Pos}
theorem df_sortSet (hc : X.calm = true) (hg : Gl X "sorted") (hm : X.mg "sorted" = none) (hg2 : Gl X "set") (hm2 : X.mg "set" = none) (h : DE X C W e fe)
    (k1 : starEach [e] X.env = (false, eval e X.env) :: starEach [] X.env := by rfl) (k2 : (backTo pos2 (starEach [] X.env)).any (·.1) = false := by rfl)
    (k3 : starEach [.Call (.Name "set" p2) [e] [] pos2] X.env = (false, eval (.Call (.Name "set" p2) [e] [] pos2) X.env) :: starEach [] X.env := by rfl) (k4 : (backTo pos (starEach [] X.env)).any (·.1) = false := by rfl) :
    DF X C W (.Call (.Name "sorted" p) [.Call (.Name "set" p2) [e] [] pos2] [] pos) (fSortSet fe) := by
  obtain ⟨t, pe, s⟩ := h.ex
  have inner := pe_callTy (pos := pos2) (p := p2) (cr_setI hc) hg2 hm2 (by decide +kernel) (pa_cons pe pa_nil k1) (by decide) (by decide) k1 k2
  refine ⟨_, pe_callB (pos := pos) (p := p) (cr_sortedSet hc) hg hm (by decide +kernel) (pa_cons inner pa_nil k3) (by decide) (by decide) k3 k4, fun ρ S r S' h L σ H Q en so po => ?_⟩
  refine s.bind h en so po fun o S1 L1 H1 v h1 st1 so1 r1 en1 po1 => ?_
  obtain ⟨ds, e1, h2⟩ := opt_bind h1
  obtain ⟨ns, e2, h3⟩ := opt_bind h2
  split at h3
  · rename_i hz
    obtain ⟨a, vs, rfl, m, rs⟩ := view_list (viewL_eq e1) r1 so1
    rw [asInts_eq e2] at rs
    rw [rs.ints] at m
    refine ⟨a, ns, rfl, m, by omega, fun q c hq hcn => ?_⟩
    refine ⟨q, _, c, rfl, upd_same, by omega, fun ns' q2 up mem len hq2 => ?_⟩
    obtain rfl : ns' = sortU ns := up_unique up (sortU_up ns) fun k => by rw [mem, sortU_mem]; simp
    exact (po1.step (step_new hq)).done (S0 := S1) h3 Step.refl (so1.laid hq) q2 _ hq2 (Reps.of_ints _)
  · cases h3
end
end Dk
set_option Elab.async false
set_option linter.all false
set_option maxRecDepth 100000
set_option maxHeartbeats 4000000
/-! What the top leaves: built-ins' names. -/
namespace Dk
open PySem PySem.Spec L2
structure Bt (mg : Str → Option Value) : Prop where
  len : mg "len" = none
  int : mg "int" = none
  str : mg "str" = none
  bool : mg "bool" = none
  tuple : mg "tuple" = none
  list : mg "list" = none
  dict : mg "dict" = none
  set : mg "set" = none
  isinstance : mg "isinstance" = none
  range : mg "range" = none
  zip : mg "zip" = none
  enumerate : mg "enumerate" = none
  all : mg "all" = none
  any : mg "any" = none
  sum : mg "sum" = none
  max : mg "max" = none
  min : mg "min" = none
  sorted : mg "sorted" = none
theorem bt_len : bootBuiltins "len" = some (.builtin "len") := by decide +kernel
theorem bt_int : bootBuiltins "int" = some (.type "int") := by decide +kernel
theorem bt_str : bootBuiltins "str" = some (.type "str") := by decide +kernel
theorem bt_bool : bootBuiltins "bool" = some (.type "bool") := by decide +kernel
theorem bt_tuple : bootBuiltins "tuple" = some (.type "tuple") := by decide +kernel
theorem bt_list : bootBuiltins "list" = some (.type "list") := by decide +kernel
theorem bt_dict : bootBuiltins "dict" = some (.type "dict") := by decide +kernel
theorem bt_set : bootBuiltins "set" = some (.type "set") := by decide +kernel
theorem bt_all : bootBuiltins "all" = some (.builtin "all") := by decide +kernel
theorem bt_any : bootBuiltins "any" = some (.builtin "any") := by decide +kernel
theorem bt_sum : bootBuiltins "sum" = some (.builtin "sum") := by decide +kernel
theorem bt_max : bootBuiltins "max" = some (.builtin "max") := by decide +kernel
theorem bt_min : bootBuiltins "min" = some (.builtin "min") := by decide +kernel
theorem bt_sorted : bootBuiltins "sorted" = some (.builtin "sorted") := by decide +kernel

/-! ### a statement that is never reached; one written dict of ints by texts -/
def sNone : SS := fun _ _ => none
theorem ds_none {X : Cx} {C : Str → Value} {W : WX} {st : Stmt} : DS X C W st sNone := ⟨_, ps_never, fun ρ S fl ρ' S' h => by cases h⟩
structure WDict (K : PySem.W.Frag) (w : World) (mg : Str → Option Value) (x : Str) (kvs : List (Str × Int)) : Prop where
  ex : ∃ d es n, mg x = some (.ref d) ∧ KDict K w d es n ∧ (∀ z, kvs.lookup z = none → PySem.W.nsIn K d z = some none) ∧ ∀ z i, kvs.lookup z = some i → ∃ t, PySem.W.nsIn K d z = some (some (.int i t))
def inWD (kvs : List (Str × Int)) (fa : E1) : E1 := fun ρ S => (fa ρ S).bind fun a S1 => match view S1 a with
  | some (.str z) => ret (.dat (.bool (kvs.lookup z).isSome)) S1
  | _ => none
def notInWD (kvs : List (Str × Int)) (fa : E1) : E1 := fun ρ S => (fa ρ S).bind fun a S1 => match view S1 a with
  | some (.str z) => ret (.dat (.bool (!(kvs.lookup z).isSome))) S1
  | _ => none
def ixWD (kvs : List (Str × Int)) (fa : E1) : E1 := fun ρ S => (fa ρ S).bind fun a S1 => match view S1 a with
  | some (.str z) => (kvs.lookup z).bind fun i => ret (.dat (.int i)) S1
  | _ => none
section
variable {X : Cx} {C : Str → Value} {W : WX} {a : Expr} {fa : E1} {x : Str} {kvs : List (Str × Int)} {p pos : Pos}
theorem sm_inWD {K : PySem.W.Frag} {w : World} {mg : Str → Option Value} (D : WDict K w mg x kvs) : ∃ d es n, mg x = some (.ref d) ∧ KDict K w d es n ∧ ∀ z, ∃ r, PySem.W.nsIn K d z = some r ∧ r.isSome = (kvs.lookup z).isSome := by
  obtain ⟨d, es, n, h1, h2, h3, h4⟩ := D.ex
  refine ⟨d, es, n, h1, h2, fun z => ?_⟩
  cases e : kvs.lookup z with
  | none => exact ⟨none, h3 z e, rfl⟩
  | some i =>
    obtain ⟨t, q⟩ := h4 z i e
    exact ⟨_, q, rfl⟩
theorem de_inWD (D : WDict X.K X.w X.mg x kvs) (hg : Gl X x) (ha : DE X C W a fa) (hm : behindInMarks .In (.Name x p) = false := by rfl) (hd : (x == ("__debug__" : Str)) = false := by decide) : DE X C W (.Compare a [.In] [.Name x p] pos) (inWD kvs fa) := by
  obtain ⟨d, es, n, h1, h2, h3⟩ := sm_inWD D
  obtain ⟨t, pa, s⟩ := ha.ex
  refine ⟨_, pe_cmpR (op_in_kd h2) pa (pe_glob (v := .ref d) hg h1 rfl hd) hm, fun ρ S r S' h L σ H Q en so po => ?_⟩
  refine s.bind h en so po fun y S1 L1 H1 v h1 st1 so1 r1 en1 po1 => ?_
  split at h1
  · rename_i z hz
    obtain ⟨r, e1, e2⟩ := h3 z
    refine ⟨z, r, view_str hz r1 so1, rfl, e1, ?_⟩
    rw [e2]
    exact po1.done (S0 := S1) h1 Step.refl so1 _ (.bl _)
  · cases h1
theorem de_notInWD (D : WDict X.K X.w X.mg x kvs) (hg : Gl X x) (ha : DE X C W a fa) (hm : behindInMarks .NotIn (.Name x p) = false := by rfl) (hd : (x == ("__debug__" : Str)) = false := by decide) : DE X C W (.Compare a [.NotIn] [.Name x p] pos) (notInWD kvs fa) := by
  obtain ⟨d, es, n, h1, h2, h3⟩ := sm_inWD D
  obtain ⟨t, pa, s⟩ := ha.ex
  refine ⟨_, pe_cmpR (op_notIn_kd h2) pa (pe_glob (v := .ref d) hg h1 rfl hd) hm, fun ρ S r S' h L σ H Q en so po => ?_⟩
  refine s.bind h en so po fun y S1 L1 H1 v h1 st1 so1 r1 en1 po1 => ?_
  split at h1
  · rename_i z hz
    obtain ⟨r, e1, e2⟩ := h3 z
    refine ⟨z, r, view_str hz r1 so1, rfl, e1, ?_⟩
    rw [e2]
    exact po1.done (S0 := S1) h1 Step.refl so1 _ (.bl _)
  · cases h1
theorem dt_inWD (D : WDict X.K X.w X.mg x kvs) (hg : Gl X x) (ha : DE X C W a fa) (hm : behindInMarks .In (.Name x p) = false := by rfl) (hd : (x == ("__debug__" : Str)) = false := by decide) : DT X C W (.Compare a [.In] [.Name x p] pos) (bOf (inWD kvs fa)) := by
  obtain ⟨d, es, n, h1, h2, h3⟩ := sm_inWD D
  obtain ⟨t, pa, s⟩ := ha.ex
  refine ⟨_, pt_cmpR (op_in_kd h2) pa (pe_glob (v := .ref d) hg h1 rfl hd) hm, sm_test fun ρ S r S' h L σ H Q en so po => ?_⟩
  refine s.bind h en so po fun y S1 L1 H1 v h1 st1 so1 r1 en1 po1 => ?_
  split at h1
  · rename_i z hz
    obtain ⟨r, e1, e2⟩ := h3 z
    refine ⟨z, r, view_str hz r1 so1, rfl, e1, ?_⟩
    rw [e2]
    exact po1.done (S0 := S1) h1 Step.refl so1 _ (.bl _)
  · cases h1
theorem dt_notInWD (D : WDict X.K X.w X.mg x kvs) (hg : Gl X x) (ha : DE X C W a fa) (hm : behindInMarks .NotIn (.Name x p) = false := by rfl) (hd : (x == ("__debug__" : Str)) = false := by decide) : DT X C W (.Compare a [.NotIn] [.Name x p] pos) (bOf (notInWD kvs fa)) := by
  obtain ⟨d, es, n, h1, h2, h3⟩ := sm_inWD D
  obtain ⟨t, pa, s⟩ := ha.ex
  refine ⟨_, pt_cmpR (op_notIn_kd h2) pa (pe_glob (v := .ref d) hg h1 rfl hd) hm, sm_test fun ρ S r S' h L σ H Q en so po => ?_⟩
  refine s.bind h en so po fun y S1 L1 H1 v h1 st1 so1 r1 en1 po1 => ?_
  split at h1
  · rename_i z hz
    obtain ⟨r, e1, e2⟩ := h3 z
    refine ⟨z, r, view_str hz r1 so1, rfl, e1, ?_⟩
    rw [e2]
    exact po1.done (S0 := S1) h1 Step.refl so1 _ (.bl _)
  · cases h1
theorem de_ixWD (D : WDict X.K X.w X.mg x kvs) (hg : Gl X x) (ha : DE X C W a fa) (hs : PlainIx a) (hd : (x == ("__debug__" : Str)) = false := by decide) : DE X C W (.Subscript (.Name x p) a pos) (ixWD kvs fa) := by
  obtain ⟨d, es, n, h1, h2, h3, h4⟩ := D.ex
  obtain ⟨t, pa, s⟩ := ha.ex
  refine ⟨_, pe_ix ix_kdict (pe_glob (v := .ref d) hg h1 rfl hd) pa hs, fun ρ S r S' h L σ H Q en so po => ?_⟩
  refine s.bind h en so po fun y S1 L1 H1 v h1 st1 so1 r1 en1 po1 => ?_
  split at h1
  · rename_i z hz
    obtain ⟨i, e1, e2⟩ := opt_bind h1
    obtain ⟨tk, e3⟩ := h4 z i e1
    exact ⟨d, z, .int i, rfl, view_str hz r1 so1, ⟨es, n, _, h2.at_, h2.lit, e3, ⟨tk, rfl⟩⟩, po1.done (S0 := S1) e2 Step.refl so1 _ (.int i)⟩
  · cases h1
end

/-! ### a def whose answer is a new list that its caller goes on to change -/
def runO (n m : Nat) (g : SS) (os : List OV) (S : Sto) : Rs OV := if os.length = n then match g (os.map some ++ List.replicate (m - n) none) S with
    | some (.rt (.own k), _, S') => if k = S.length ∧ S'.length = S.length + 1 then some (.inl (.own k), S') else none
    | some (.er e, _, S') => some (.inr e, S'.take S.length)
    | _ => none
  else none
theorem fn_mkO {P : Program} {w : World} {K : PySem.W.Frag} {mg : Str → Option Value} {base : Heap} {C : Str → Value} {x qual : Str} {st : Stmt} {f : Addr} {fd : FuncData} {N ps : List Str} {k : Nat} {g : SS} (F : Fun K x qual st f fd) (hm : mg x = some (.ref f)) (hb : Binds K fd ps []) (S : FnScope N ps (defScope st))
    (body : ∀ (cdv : Value) (A : Around) (outer : List Env) (s : Shared) (H : Hp) (E : XK), Room k (A.deeper (PyProof.Rows.envOfC qual (defScope st) s.heap.objs.size f cdv)) →
      DSs (cxOf (L2.CX P w) P w K mg base N qual (defScope st) f cdv A outer s H E) C (fun cls d _ H => E cls d H) (defBody st) g) :
    FnD P w K mg base C (k + 1) x ps.length (runO ps.length N.length g) := by
  refine ⟨f, fd, ps, rfl, hm, F.kp, hb, F.okX S (fun vs H Q E h => ?_) fun cdv A outer s H vs Q E hr h => ?_⟩
  · obtain ⟨os, L, S0, r, S', h1, h2, _⟩ := h
    rw [h2.length, h1]
  · obtain ⟨t, pt, sm⟩ := (body cdv A outer s H E hr).ex
    refine ⟨t, pt, ?_⟩
    obtain ⟨os, L, S0, r, S', h1, h2, so, h3, q⟩ := h
    unfold runO at h3
    rw [if_pos h1] at h3
    have en : EnvR K L H (L2.start N vs) (os.map some ++ List.replicate (N.length - ps.length) none) := by
      rw [← h1]
      exact start_env h2
    cases e : g (os.map some ++ List.replicate (N.length - ps.length) none) S0 with
    | none => rw [e] at h3; cases h3
    | some z =>
      obtain ⟨fl, ρ', S1⟩ := z
      rw [e] at h3
      refine sm _ S0 fl ρ' S1 e L (L2.start N vs) H _ en so ⟨fun hf => ?_, fun hf => ?_, fun hf => ?_, fun o hf L' H' v st so' rv => ?_, fun e' hf L' H' σ' cls d st so' en' xr => ?_⟩
      · subst hf; cases h3
      · subst hf; cases h3
      · subst hf; cases h3
      · subst hf
        cases o with
        | dat d => cases h3
        | own n =>
          change (if n = S0.length ∧ S1.length = S0.length + 1 then some (Sum.inl (OV.own n), S1) else none) = some (r, S') at h3
          split at h3
          · cases h3
            exact (q L' H' st so').1 _ rfl v rv
          · cases h3
      · subst hf
        cases h3
        obtain ⟨c1, c2⟩ := so.shrink st so'
        have less : Same (mask L' H') (mask L H') := by
          obtain ⟨M, rfl⟩ := st.pre
          exact mask_less fun a h => by simp [h]
        exact (q L H' c1 c2).2 _ rfl cls d (xr.mono less)
end Dk
set_option Elab.async false
set_option linter.all false
set_option maxRecDepth 100000
set_option maxHeartbeats 4000000
/-! From what the top leaves to the laws' ends. -/
namespace Dk
open PySem PySem.Spec PyProof.Rows L2
/-- one def of the top: it stands there, it binds its parameters -/
structure FunT (K : PySem.W.Frag) (mg : Str → Option Value) (x : Str) (st : Stmt) (ps : List Str) : Prop where
  ex : ∃ f fd, Fun K x x st f fd ∧ mg x = some (.ref f) ∧ Binds K fd ps [] ∧ ∀ (s : Shared) (us : List Value), us.length = ps.length → BindsTo s fd ⟨us, []⟩ (ps.zip us)
section
variable {K : PySem.W.Frag} {w : World} {h : Heap} {mg : Str → Option Value} {fa : List He.Fa} {fn : List He.FnD}
theorem funT_mk (X : K.In h) (G : h.Ns mainGlobals mg) (c : He.SaysE fa fn K) (i j k : Nat) {x : Str} {st : Stmt} {ps : List Str} (h1 : fn[i]? = some ⟨(x, none), x, x, defArgs st, defBody st, defScope st⟩ := by rfl)
    (h2 : fa[j]? = some (.glo x) := by rfl) (h3 : fa[k]? = some (.keep x) := by rfl)
    (hb : ∀ (kV doc pm : Value) (an : Option Addr) (cdv ct : Value) (us : List Value), us.length = ps.length → bindArgs (PySem.W.fnOf x x (defArgs st) (defBody st) (defScope st) .none kV doc pm an cdv ct) ⟨us, []⟩ = pure (ps.zip us)) : FunT K mg x st ps := by
  obtain ⟨oc, od, osl, kV, doc, pm, an, cdv, ct, l, cc⟩ := c.def_ i h1
  exact ⟨_, _, ⟨⟨oc, od, kV, doc, pm, an, cdv, ct, osl, rfl, l, cc⟩, He.keep_ok (c.fact k h3)⟩, He.glo_ok X G (c.fact j h2), .all (hb kV doc pm an cdv ct), fun s us hu => .of_eq (hb kV doc pm an cdv ct us hu)⟩
def cOf (mg : Str → Option Value) (x : Str) : Value := (mg x).getD .none
theorem excT_mk (X : K.In h) (G : h.Ns mainGlobals mg) (c : He.SaysE fa fn K) (j k : Nat) {x : Str} (h2 : fa[j]? = some (.glo x) := by rfl) (h3 : fa[k]? = some (.exc x) := by rfl) : ExcT K mg (cOf mg) x (He.ga K x) := by
  obtain ⟨q1, q2, q3, q4⟩ := He.exc_ok (c.fact k h3)
  have g := He.glo_ok X G (c.fact j h2)
  exact ⟨by unfold cOf; rw [g] <;> rfl, g, q2, q1, q3, q4⟩
theorem bt_mk (X : K.In h) (G : h.Ns mainGlobals mg) (c : ([.free "len", .free "int", .free "str", .free "bool", .free "tuple", .free "list", .free "dict", .free "set", .free "isinstance", .free "range", .free "zip", .free "enumerate", .free "all", .free "any", .free "sum", .free "max", .free "min", .free "sorted"] : List He.Fa).all (fun f => f.ok K) = true) : Bt mg := by
  simp only [List.all_cons, Bool.and_eq_true] at c
  obtain ⟨c1, c2, c3, c4, c5, c6, c7, c8, c9, c10, c11, c12, c13, c14, c15, c16, c17, c18, _⟩ := c
  have f := fun {x : Str} (z : (He.Fa.free x).ok K = true) => He.free_ok X G z
  exact ⟨f c1, f c2, f c3, f c4, f c5, f c6, f c7, f c8, f c9, f c10, f c11, f c12, f c13, f c14, f c15, f c16, f c17, f c18⟩
theorem int_mk (X : K.In h) (G : h.Ns mainGlobals mg) (c : He.SaysE fa fn K) (j : Nat) {x : Str} {i : Int} (h2 : fa[j]? = some (.int x i) := by rfl) : ∃ u, mg x = some (.int i u) := He.int_ok X G (c.fact j h2)
theorem loose_int {q : Program} {lv : List (Str × PySem.W.WData)} {x : Str} {i : Int} (X : PySem.W.XL q lv mg h) (hm : (x, PySem.W.WData.int i) ∈ lv) : ∃ u, mg x = some (.int i u) := by
  obtain ⟨v, e, r⟩ := X.2.val _ hm
  cases r
  exact ⟨_, e⟩
theorem find_keys {P : Params} (z : Str) : ∀ {l : List DictEntry} {ks : List Str}, l.map He.keyOf = He.keysIn P ks → z ∉ ks → l.find? (·.key.isStr z) = none ∧ l.any (·.refKey) = false
  | [], _, _, _ => ⟨rfl, rfl⟩
  | e :: r, [], h, _ => by cases h
  | e :: r, k :: ks, h, hz => by
    have h1 : He.keyOf e :: r.map He.keyOf = some (k, PyData.keyHash P k) :: He.keysIn P ks := h
    injection h1 with h2 h3
    obtain ⟨i1, i2⟩ := find_keys z h3 (fun q => hz (List.mem_cons_of_mem _ q))
    unfold He.keyOf at h2
    split at h2
    · rename_i x t q
      obtain ⟨h5, h6⟩ := Prod.mk.inj (Option.some.inj h2)
      have n1 : (x == z) = false := by
        rw [h5]
        exact beq_false_of_ne fun q => hz (q ▸ List.mem_cons_self)
      refine ⟨?_, ?_⟩
      · rw [List.find?_cons_of_neg]
        · exact i1
        · rw [q]
          show ¬ (x == z) = true
          rw [n1]
          decide
      · rw [List.any_cons, i2]
        unfold DictEntry.refKey
        rw [q] <;> rfl
    · cases h2
def vOk (K : PySem.W.Frag) (d : Addr) (q : Str × Int) : Bool := match PySem.W.nsIn K d q.1 with
  | some (some (.int i _)) => decide (i = q.2)
  | _ => false
theorem wd_mk {x : Str} {kvs : List (Str × Int)} (X : K.In h) (G : h.Ns mainGlobals mg) (c : (He.Fa.glo x).ok K = true) (c2 : He.dicW K (He.ga K x) = some (He.keysIn w.params (kvs.map (·.1)))) (c3 : (kvs.all fun q => vOk K (He.ga K x) q) = true) :
    WDict K w mg x kvs := by
  obtain ⟨es, n, kd⟩ := He.dicW_ok c2
  refine ⟨He.ga K x, es, n, He.glo_ok X G c, kd, fun z hz => ?_, fun z i hz => ?_⟩
  · have c4 : es.toList.map He.keyOf = He.keysIn w.params (kvs.map (·.1)) := by
      unfold He.dicW at c2
      rw [kd.at_] at c2
      change (match decide ("dict" = "dict") && ((#[] : Array (Option Value)).isEmpty && !(He.ga K x == sysModules)) with
        | true => some (es.toList.map He.keyOf)
        | false => none) = _ at c2
      rw [kd.low] at c2
      exact Option.some.inj c2
    have nk : z ∉ kvs.map (·.1) := fun q => by
      obtain ⟨⟨a, b⟩, m, e⟩ := List.mem_map.mp q
      have e : a = z := e
      subst e
      have z2 := List.lookup_eq_none_iff.mp hz _ m
      simp at z2
    obtain ⟨i1, i2⟩ := find_keys z c4 nk
    unfold PySem.W.nsIn
    rw [kd.at_]
    show (match es.toList.find? (·.key.isStr z) with
      | some e => some (some e.val)
      | none => if es.toList.any (·.refKey) then none else some none) = _
    rw [i1, i2] <;> rfl
  · obtain ⟨l1, l2, e, _⟩ := List.lookup_eq_some_iff.mp hz
    have c4 := List.all_eq_true.mp c3 (z, i) (by rw [e]; simp)
    have c5 : (match PySem.W.nsIn K (He.ga K x) z with
      | some (some (.int j _)) => decide (j = i)
      | _ => false) = true := c4
    split at c5
    · rename_i j t q
      have := of_decide_eq_true c5
      subst this
      exact ⟨t, q⟩
    · cases c5
end
end Dk
set_option Elab.async false
set_option linter.all false
set_option maxRecDepth 100000
set_option maxHeartbeats 4000000
/-! try .. except A: .. except B: .. (no names). -/
namespace Dk
open PySem PySem.Spec L2
/-- which own classes a clause takes -/
abbrev Mt := Str → Option Bool
def catchL : List (Mt × SS) → Exn → SS
  | [], e => fun ρ S => some (.er e, ρ, S)
  | (m, h) :: r, e => fun ρ S => match m e.cls with
    | some true => h ρ S
    | some false => catchL r e ρ S
    | none => none
def sTry (g : SS) (l : List (Mt × SS)) : SS := fun ρ S => match g ρ S with
  | some (.er e, ρ1, S1) => catchL l e ρ1 S1
  | r => r
def canS (K : PySem.W.Frag) (C : Str → Value) (W : WX) (g : SS) : TS := fun D σ H => ∃ ρ S fl ρ' S' L, g ρ S = some (fl, ρ', S') ∧ EnvR K L H σ ρ ∧ StoR K L H S ∧ PostS K C W L H D fl ρ' S'
section
variable {X : Cx} {C : Str → Value} {W : WX} {st : List Stmt} {g : SS}
theorem DSs.can (h : DSs X C W st g) : PSs X st (canS X.K C W g) := by
  obtain ⟨t, p, s⟩ := h.ex
  exact ⟨fun pins sh σ H D I ⟨ρ, S, fl, ρ', S', L, e1, en, so, po⟩ => p.run pins sh σ H D I (s ρ S fl ρ' S' e1 L σ H D en so po)⟩
end
inductive DHs (X : Cx) (C : Str → Value) (W : WX) : List ExceptHandler → List (Mt × SS) → Prop
  | nil : DHs X C W [] []
  | cons {x : Str} {c : Value} {m : Mt} {g : SS} {b₀ : Stmt} {suite : List Stmt} {np pos' : Pos} {hds : List ExceptHandler} {l : List (Mt × SS)} (hc : Names X x c) (hm : ∀ z b, m z = some b → PySem.W.exmOne X.K (C z) c = some b)
      (hsu : ∀ (a : Addr) (oe : Obj) (pn : List (Addr × Obj)), DSs (X.suite a ((a, oe) :: pn)) C W (b₀ :: suite) g) (r : DHs X C W hds l) : DHs X C W (.ExceptHandler (some (.Name x np)) none (b₀ :: suite) pos' :: hds) ((m, g) :: l)
section
variable {X : Cx} {C : Str → Value} {W : WX} {body : List Stmt} {h₀ : ExceptHandler} {hds : List ExceptHandler} {l : List (Mt × SS)} {pos : Pos} {g : SS}
theorem dhs_ok (h : DHs X C W hds l) : ∃ l', HdsOk X hds l' ∧ ∀ e ρ1 S1 fl ρ' S', catchL l e ρ1 S1 = some (fl, ρ', S') → ∀ L H σ D cls d, EnvR X.K L H σ ρ1 → StoR X.K L H S1 → ExcR C X.K L H e cls d → PostS X.K C W L H D fl ρ' S' → wMany X.K W D l' cls d σ H := by
  induction h with
  | nil =>
    refine ⟨[], .nil, fun e ρ1 S1 fl ρ' S' h L H σ D cls d en so x po => ?_⟩
    cases h
    exact po.er e rfl L H σ cls d Step.refl so en x
  | @cons x c m g b₀ suite np pos' hds l hc hm hsu r ih =>
    obtain ⟨l', h1, h2⟩ := ih
    refine ⟨(c, fun _ _ _ => canS X.K C W g) :: l', .cons hc (fun a oe cls d pn _ _ => (hsu a oe pn).can) h1, fun e ρ1 S1 fl ρ' S' h L H σ D cls d en so x po => ?_⟩
    have ec : cls = C e.cls := x.1
    unfold catchL at h
    cases q : m e.cls with
    | none => rw [q] at h; cases h
    | some b =>
      rw [q] at h
      refine ⟨b, by rw [ec]; exact hm _ _ q, fun hb a _ => ?_, fun hb => ?_⟩
      · subst hb
        exact ⟨ρ1, S1, fl, ρ', S', L, h, en, so, po⟩
      · subst hb
        exact h2 e ρ1 S1 fl ρ' S' h L H σ D cls d en so x po
theorem ds_try (hs : X.stack = X.env :: X.outer) (hf : X.env.frame = some X.env.locals) (tk : Takes X W)
    (hb : ∀ (W' : WX) (pn : List (Addr × Obj)) (xe : Value → Shared → Prop), Takes (X.tr pn xe) W' → PassesOwn (model X.prog X.w) X.A X.env xe → DSs (X.tr pn xe) C W' body g)
    (hh : DHs X C W (h₀ :: hds) l) : DS X C W (.Try body (h₀ :: hds) [] [] pos) (sTry g l) := by
  obtain ⟨l', h1, h2⟩ := dhs_ok hh
  refine ⟨_, ps_try_many (tb := fun W' => canS X.K C W' g) hs hf tk (fun W' pn xe t p => (hb W' pn xe t p).can) h1, fun ρ S fl ρ' S' h L σ H D en so po => ?_⟩
  unfold sTry at h
  cases q : g ρ S with
  | none => rw [q] at h; cases h
  | some z =>
    obtain ⟨fl0, ρ0, S0⟩ := z
    rw [q] at h
    refine ⟨ρ, S, fl0, ρ0, S0, L, q, en, so, ?_⟩
    cases fl0 with
    | er e =>
      refine ⟨fun z => (nomatch z), fun z => (nomatch z), fun z => (nomatch z), fun o z => (nomatch z), fun e' z L' H' σ' cls d st so' en' x => ?_⟩
      cases z
      exact h2 e ρ0 S0 fl ρ' S' h L' H' σ' D cls d en' so' x (po.step st)
    | nx =>
      cases h
      exact ⟨po.nx, po.bk, po.ct, po.rt, fun e z => (nomatch z)⟩
    | bk =>
      cases h
      exact ⟨po.nx, po.bk, po.ct, po.rt, fun e z => (nomatch z)⟩
    | ct =>
      cases h
      exact ⟨po.nx, po.bk, po.ct, po.rt, fun e z => (nomatch z)⟩
    | rt o =>
      cases h
      exact ⟨po.nx, po.bk, po.ct, po.rt, fun e z => (nomatch z)⟩
end
/-! clauses by tables: which own classes a named class takes -/
structure CatT (K : PySem.W.Frag) (mg : Str → Option Value) (C : Str → Value) (y : Str) (tab : List (Str × Bool)) : Prop where
  ex : ∃ A, mg y = some (.ref A) ∧ ∀ z b, tab.lookup z = some b → PySem.W.exmOne K (C z) (.ref A) = some b
def mtOf (tab : List (Str × Bool)) : Mt := fun z => tab.lookup z
theorem dhs_c {X : Cx} {C : Str → Value} {W : WX} {y : Str} {tab : List (Str × Bool)} {g : SS} {b₀ : Stmt} {suite : List Stmt} {np pos' : Pos} {hds : List ExceptHandler} {l : List (Mt × SS)} (T : CatT X.K X.mg C y tab) (hg : Gl X y)
    (hsu : ∀ (a : Addr) (oe : Obj) (pn : List (Addr × Obj)), DSs (X.suite a ((a, oe) :: pn)) C W (b₀ :: suite) g) (r : DHs X C W hds l) (hd : (y == ("__debug__" : Str)) = false := by decide) :
    DHs X C W (.ExceptHandler (some (.Name y np)) none (b₀ :: suite) pos' :: hds) ((mtOf tab, g) :: l) := by
  obtain ⟨A, h1, h2⟩ := T.ex
  exact .cons (c := .ref A) ⟨hg, hd, .inl h1⟩ h2 hsu r
theorem catT_mk {K : PySem.W.Frag} {h : Heap} {mg : Str → Option Value} {y : Str} {tab : List (Str × Bool)} (X : K.In h) (G : h.Ns mainGlobals mg) (hy : (He.Fa.glo y).ok K = true) (hz : (tab.all fun q => (He.Fa.glo q.1).ok K && (He.Fa.exm q.1 y q.2).ok K) = true) : CatT K mg (cOf mg) y tab := by
  refine ⟨_, He.glo_ok X G hy, fun z b e => ?_⟩
  obtain ⟨l1, l2, e2, _⟩ := List.lookup_eq_some_iff.mp e
  have h1 := List.all_eq_true.mp hz (z, b) (by rw [e2]; simp)
  obtain ⟨h2, h3⟩ := He.ba h1
  have e3 : cOf mg z = .ref (He.ga K z) := by
    unfold cOf
    rw [He.glo_ok X G h2]
    rfl
  rw [e3]
  exact He.exm_ok h3
end Dk
set_option Elab.async false
set_option linter.all false
set_option maxRecDepth 100000
set_option maxHeartbeats 4000000
/-! {"a": e, ..}[x] with whole numbers that change nothing. -/
namespace Dk
open PySem PySem.Spec L2
/-! ### a whole number made of locals, the heap untouched -/
abbrev FI := Env1 → Option Int
structure DV (X : Cx) (e : Expr) (f : FI) : Prop where
  ex : ∃ t, PE X e t ∧ ∀ ρ i, f ρ = some i → ∀ L σ H (Q : VK), EnvR X.K L H σ ρ → Q (.int i) H → t σ H Q
def iC (i : Int) : FI := fun _ => some i
def iVar (j : Nat) : FI := fun ρ => match ρ[j]?.join with
  | some (.dat (.int i)) => some i
  | _ => none
def iNeg (f : FI) : FI := fun ρ => (f ρ).map fun i => -i
def iSub (f g : FI) : FI := fun ρ => (f ρ).bind fun i => (g ρ).map fun j => i - j
def iIx (j : Nat) (k : Int) : FI := fun ρ => match ρ[j]?.join with
  | some (.dat (.tuple ds)) => match atI ds k with
    | some (.int i) => some i
    | _ => none
  | _ => none
theorem join_at {ρ : Env1} {j : Nat} {o : OV} (h : ρ[j]?.join = some o) : ρ[j]? = some (some o) := by
  cases e : ρ[j]? with
  | none => rw [e] at h; cases h
  | some z => rw [e] at h; exact congrArg some h
section
variable {X : Cx} {a b : Expr} {f g : FI} {pos : Pos}
theorem dv_int {i j} : DV X (.Constant (.int i) j pos) (iC i) := ⟨_, pe_int, fun ρ k h L σ H Q en q => by
  cases h
  exact q⟩
theorem dv_var (j : Nat) {x : Str} (hN : X.N[j]? = some x := by rfl) (hv : Vis X.env.scope x := by first | exact Or.inl rfl | exact Or.inr (Or.inl rfl) | exact Or.inr (Or.inr rfl)) (hd : (x == ("__debug__" : Str)) = false := by decide)
    (hcd : (x == ("__classdict__" : Str)) = false := by decide) : DV X (.Name x pos) (iVar j) := ⟨_, pe_var hN hv hd hcd, fun ρ i h L σ H Q en q => by
  unfold iVar at h
  split at h
  · rename_i k e
    cases h
    obtain ⟨v, e1, e2⟩ := en.2 j _ (join_at e)
    cases e2
    exact ⟨_, e1, q⟩
  · cases h⟩
theorem dv_neg (ha : DV X a f) : DV X (.UnaryOp .USub a pos) (iNeg f) := by
  obtain ⟨t, p, s⟩ := ha.ex
  refine ⟨_, pe_un un_neg p, fun ρ i h L σ H Q en q => ?_⟩
  unfold iNeg at h
  cases e : f ρ with
  | none => rw [e] at h; cases h
  | some k =>
    rw [e] at h
    cases h
    exact s ρ k e L σ H _ en ⟨k, rfl, q⟩
theorem dv_sub (ha : DV X a f) (hb : DV X b g) : DV X (.BinOp a .Sub b pos) (iSub f g) := by
  obtain ⟨t, p, s⟩ := ha.ex
  obtain ⟨u, p2, s2⟩ := hb.ex
  refine ⟨_, pe_op op_sub p p2, fun ρ i h L σ H Q en q => ?_⟩
  obtain ⟨k, e1, h1⟩ := opt_bind (show (f ρ).bind (fun i => (g ρ).map fun j => i - j) = some i from h)
  cases e : g ρ with
  | none => rw [e] at h1; cases h1
  | some m =>
    rw [e] at h1
    cases h1
    exact s ρ k e1 L σ H _ en (s2 ρ m e L σ H _ en ⟨k, m, rfl, rfl, q⟩)
theorem dv_ix (j : Nat) (k : Int) {x : Str} {c pos2 pos3} (hN : X.N[j]? = some x := by rfl) (hv : Vis X.env.scope x := by first | exact Or.inl rfl | exact Or.inr (Or.inl rfl) | exact Or.inr (Or.inr rfl)) (hd : (x == ("__debug__" : Str)) = false := by decide)
    (hcd : (x == ("__classdict__" : Str)) = false := by decide) : DV X (.Subscript (.Name x pos) (.Constant (.int k) c pos2) pos3) (iIx j k) := ⟨_, pe_ix ix_tup (pe_var hN hv hd hcd) pe_int (fun _ _ => rfl), fun ρ i h L σ H Q en q => by
  unfold iIx at h
  split at h
  · rename_i ds e
    split at h
    · rename_i m e3
      cases h
      obtain ⟨v, e1, e2⟩ := en.2 j _ (join_at e)
      cases e2 with
      | tup h1 h2 =>
        obtain ⟨u, e4, e5⟩ := h2.atI e3
        cases e5
        exact ⟨_, e1, _, _, k, _, rfl, rfl, SqT.of (mask_same L H _ _ h1), e4, q⟩
    · cases h
  · cases h⟩
end
/-! ### the display, and its index -/
structure DVs (X : Cx) (pos : Pos) (ks : List (Option Expr)) (vs : List Expr) (zs : List Str) (fs : List FI) : Prop where
  ex : ∃ trs, PPs X pos ks vs trs ∧ ∀ ρ is, fs.mapM (fun f => f ρ) = some is → ∀ L σ H (Q : List (V × V) → Hp → Prop), EnvR X.K L H σ ρ → Q (zs.zipWith (fun z i => (.str z, .int i)) is) H → tPairs trs σ H Q
theorem dvs_nil {X : Cx} {pos : Pos} : DVs X pos [] [] [] [] := ⟨[], pps_nil, fun ρ is h L σ H Q en q => by
  cases h
  exact q⟩
theorem dvs_cons {X : Cx} {pos p2 : Pos} {z : Str} {c : Nat} {v : Expr} {ks : List (Option Expr)} {vs : List Expr} {zs : List Str} {f : FI} {fs : List FI} (hv : DV X v f) (hr : DVs X pos ks vs zs fs) : DVs X pos (some (.Constant (.str z) c p2) :: ks) (v :: vs) (z :: zs) (f :: fs) := by
  obtain ⟨t, p, s⟩ := hv.ex
  obtain ⟨trs, q, s2⟩ := hr.ex
  refine ⟨_, pps_cons pe_str p q, fun ρ is h L σ H Q en hq => ?_⟩
  rw [List.mapM_cons] at h
  obtain ⟨i, e1, h1⟩ := opt_bind h
  obtain ⟨r, e2, h2⟩ := opt_bind h1
  cases h2
  exact s ρ i e1 L σ H _ en (s2 ρ r e2 L σ H _ en hq)
def fDictIx (zs : List Str) (fs : List FI) (j : Nat) : E1 := fun ρ S => match ρ[j]?.join with
  | some (.dat (.str z)) => (fs.mapM (fun f : FI => f ρ)).bind fun is => ((zs.zip is).lookup z).bind fun i => ret (.dat (.int i)) S
  | _ => none
def kvI (zs : List Str) (is : List Int) : List (L2.Key × V) := zs.zipWith (fun z i => (.inr z, .int i)) is
theorem kvI_pairs : ∀ (zs : List Str) (is : List Int), zs.zipWith (fun z i => (V.str z, V.int i)) is = (kvI zs is).map fun kv => (kV kv.1, kv.2)
  | [], _ => rfl
  | _ :: _, [] => rfl
  | z :: zs, i :: is => by
    have := kvI_pairs zs is
    unfold kvI at this ⊢
    simp only [List.zipWith_cons_cons, List.map_cons, this]
    rfl
theorem kvI_keys : ∀ (zs : List Str) (is : List Int), ∀ q ∈ kvI zs is, ∃ z ∈ zs, q.1 = .inr z
  | [], _, q, h => by simp [kvI] at h
  | _ :: _, [], q, h => by simp [kvI] at h
  | z :: zs, i :: is, q, h => by
    have h' : q ∈ ((.inr z, .int i) : L2.Key × V) :: kvI zs is := h
    rcases List.mem_cons.mp h' with rfl | h'
    · exact ⟨z, by simp, rfl⟩
    · obtain ⟨y, h1, h2⟩ := kvI_keys zs is q h'
      exact ⟨y, by simp [h1], h2⟩
theorem merge_app : ∀ (zs : List Str) (is : List Int) (acc : List (L2.Key × V)), (∀ a ∈ acc, ∀ z ∈ zs, a.1 ≠ .inr z) → zs.Nodup → mergeK acc (kvI zs is) = acc ++ kvI zs is
  | [], _, acc, _, _ => by simp [kvI, mergeK]
  | _ :: _, [], acc, _, _ => by simp [kvI, mergeK]
  | z :: zs, i :: is, acc, h, nd => by
    obtain ⟨n1, n2⟩ := List.nodup_cons.mp nd
    have e1 : putK acc (.inr z : L2.Key) (V.int i) = acc ++ [(.inr z, .int i)] := by
      unfold putK
      rw [if_neg]
      intro q
      obtain ⟨a, ha, hb⟩ := List.any_eq_true.mp q
      exact h a ha z (by simp) (of_decide_eq_true hb)
    show mergeK (putK acc (.inr z) (.int i)) (kvI zs is) = acc ++ ((.inr z, .int i) :: kvI zs is)
    rw [e1, merge_app zs is _ ?_ n2]
    · simp
    · intro a ha y hy e
      rcases List.mem_append.mp ha with ha | ha
      · exact h a ha y (by simp [hy]) e
      · rw [List.mem_singleton.mp ha] at e
        cases e
        exact n1 hy
theorem val_kvI {z : Str} : ∀ {zs : List Str} {is : List Int} {i : Int}, (zs.zip is).lookup z = some i → valV (kvI zs is) (.inr z) = some (.int i)
  | [], _, _, h => by simp at h
  | _ :: _, [], _, h => by simp at h
  | y :: zs, k :: is, i, h => by
    show ((((.inr y, .int k) : L2.Key × V) :: kvI zs is).find? fun kv => decide (kv.1 = .inr z)).map (·.2) = _
    by_cases c : y = z
    · subst c
      simp at h
      simp [h]
    · have c2 : (z == y) = false := beq_false_of_ne fun e => c e.symm
      have h2 : (zs.zip is).lookup z = some i := by
        rw [List.zip_cons_cons, List.lookup_cons, c2] at h
        exact h
      rw [List.find?_cons_of_neg (by simpa using c)]
      exact val_kvI h2
theorem upd_upd {H : Hp} {p : Addr} {o o' : HO} : upd (upd H p o) p o' = upd H p o' := by
  funext a
  unfold upd
  split <;> rfl
theorem de_dictIx {X : Cx} {C : Str → Value} {W : WX} {pos p2 p3 : Pos} {ks : List (Option Expr)} {vs : List Expr} {zs : List Str} {fs : List FI} (h : DVs X pos ks vs zs fs) (hu : X.A.units + 1 < cLine) (j : Nat) {x : Str} (hN : X.N[j]? = some x := by rfl) (hnd : zs.Nodup := by decide +kernel)
    (hlen : zs.length ≤ 15 := by decide) (hall : ks.all (·.isSome) = true := by rfl) (hl : ks.length = vs.length := by rfl) (h0 : ks ≠ [] := by exact List.cons_ne_nil _ _) (h15 : ks.length ≤ 15 := by decide)
    (hv : Vis X.env.scope x := by first | exact Or.inl rfl | exact Or.inr (Or.inl rfl) | exact Or.inr (Or.inr rfl)) (hd : (x == ("__debug__" : Str)) = false := by decide) (hcd : (x == ("__classdict__" : Str)) = false := by decide) :
    DE X C W (.Subscript (.Dict ks vs pos) (.Name x p2) p3) (fDictIx zs fs j) := by
  obtain ⟨trs, pp, s⟩ := h.ex
  refine ⟨_, pe_dget hu (pe_disp pp hall hl h0 h15) (pe_var hN hv hd hcd) (fun _ _ => rfl), fun ρ S r S' h L σ H Q en so po => ?_⟩
  unfold fDictIx at h
  split at h
  · rename_i z e
    obtain ⟨is, e1, h1⟩ := opt_bind h
    obtain ⟨i, e2, h2⟩ := opt_bind h1
    intro p hp
    refine s ρ is e1 L σ (upd H p (.dK [])) _ (en.step (step_new hp)) ⟨upd_same, kvI zs is, kvI_pairs zs is, ?_, ?_⟩
    · have : (kvI zs is).length ≤ zs.length := by
        unfold kvI
        rw [List.length_zipWith]
        exact Nat.min_le_left _ _
      omega
    · obtain ⟨v, e3, e4⟩ := en.2 j _ (join_at e)
      cases e4
      refine ⟨_, e3, p, .int i, rfl, .inl ⟨_, .inr z, .inl upd_same, rfl, ?_⟩, ?_⟩
      · rw [merge_app zs is [] (by simp) hnd]
        exact (val_kvI e2).symm
      · rw [upd_upd]
        exact po.done (S0 := S) h2 (step_new hp) (so.laid hp) _ (.int i)
  · cases h
end Dk
set_option Elab.async false
set_option linter.all false
set_option maxRecDepth 100000
set_option maxHeartbeats 4000000
/-! Constants of the module that are tuples of texts; enumerate of a list, of a tuple. -/
namespace Dk
open PySem PySem.Spec L2
/-! ### constants -/
structure GlobD (K : PySem.W.Frag) (mg : Str → Option Value) (x : Str) (d : D) : Prop where
  ex : ∃ (a : Addr) (zs : List Str), mg x = some (.ref a) ∧ d = .tuple (zs.map .str) ∧ ∀ H : Hp, SqT K H a (zs.map V.str)
theorem globD_strs {K : PySem.W.Frag} {h : Heap} {mg : Str → Option Value} {x : Str} (zs : List Str) (X : K.In h) (G : h.Ns mainGlobals mg) (c1 : (He.Fa.glo x).ok K = true) (c2 : He.tupB K x (zs.map He.Dv.str) = true) : GlobD K mg x (.tuple (zs.map .str)) := by
  refine ⟨_, zs, He.glo_ok X G c1, rfl, fun H => ?_⟩
  have e : (zs.map He.Dv.str).map (He.Dv.v K) = zs.map V.str := by rw [List.map_map]; rfl
  rw [← e]
  exact He.tupB_ok c2 H
/-- a value, not in a constant tuple of texts -/
theorem sm_notInG {X : Cx} {C : Str → Value} {W : WX} {fe : E1} {a : Addr} {zs : List Str} {t : TE} (m : ∀ H : Hp, SqT X.K H a (zs.map V.str)) (s : SmE X.K C W t fe) : SmE X.K C W (tOp (rIn X.K true) t (tC (.ref a))) (op2 notInS fe (fC (.tuple (zs.map .str)))) := by
  intro ρ S r S' h L σ H Q en so po
  refine s.bind h en so po fun y S1 L1 H1 v h1 st1 so1 r1 en1 po1 => ?_
  obtain ⟨d2, e2, h2⟩ := opt_bind (show (notInS S1 y (.dat (.tuple (zs.map .str)))).bind (fun d => ret (.dat d) S1) = some (r, S') from h1)
  unfold notInS at e2
  split at e2
  · rename_i d1 d3 k1 k2
    cases k2
    cases e3 : inD d1 (.tuple (zs.map .str)) with
    | none => rw [e3] at e2; cases e2
    | some b =>
      rw [e3] at e2
      cases e2
      have e4 : (if flatD d1 = true ∧ (zs.map PyData.str).all flatD = true then some ((zs.map PyData.str).any fun z => PyData.eqv z d1) else none) = some b := e3
      split at e4
      · rename_i hz
        cases e4
        have rx' := view_flat hz.1 k1 r1 so1
        obtain ⟨k3, k4⟩ := inV_rep rx' hz.1 (Reps.of_strs (K := X.K) (G := mask L1 H1) zs) hz.2
        refine ⟨a, zs.map V.str, rfl, .inr (m H1), by rw [flat_rep rx']; exact hz.1, k3, ?_⟩
        rw [k4]
        exact po1.done (S0 := S1) h2 Step.refl so1 _ (.bl _)
      · cases e4
  · cases e2
theorem de_notInG {X : Cx} {C : Str → Value} {W : WX} {k : Nat} (hr : Room k X.A) {e : Expr} {fe : E1} {x : Str} {d : D} {p pos : Pos} (hg : Gl X x) (T : GlobD X.K X.mg x d) (he : DE X C W e fe) (hm : behindInMarks .NotIn (.Name x p) = false := by rfl)
    (hd : (x == ("__debug__" : Str)) = false := by decide) : DE X C W (.Compare e [.NotIn] [.Name x p] pos) (op2 notInS fe (fC d)) := by
  obtain ⟨a, zs, h1, rfl, m⟩ := T.ex
  obtain ⟨t, pa, s⟩ := he.ex
  exact ⟨_, pe_cmpR op_notIn_seq pa (pe_glob (v := .ref a) hg h1 rfl hd) hm, sm_notInG m s⟩
theorem dt_notInG {X : Cx} {C : Str → Value} {W : WX} {k : Nat} (hr : Room k X.A) {e : Expr} {fe : E1} {x : Str} {d : D} {p pos : Pos} (hg : Gl X x) (T : GlobD X.K X.mg x d) (he : DE X C W e fe) (hm : behindInMarks .NotIn (.Name x p) = false := by rfl)
    (hd : (x == ("__debug__" : Str)) = false := by decide) : DT X C W (.Compare e [.NotIn] [.Name x p] pos) (bOf (op2 notInS fe (fC d))) := by
  obtain ⟨a, zs, h1, rfl, m⟩ := T.ex
  obtain ⟨t, pa, s⟩ := he.ex
  exact ⟨_, pt_cmpR op_notIn_seq pa (pe_glob (v := .ref a) hg h1 rfl hd) hm, sm_test (sm_notInG m s)⟩
end Dk
namespace Dk
open PySem PySem.Spec PyProof.Rows
/-- enumerate over whatever iter(v) begins: the cell behind the new iterator -/
abbrev enumO (it : Addr) : Obj := { cls := .type "enumerate", data := .fields #[.none, .bool false, .ref it, rawInt 0, .none, .none] }
theorem enum_new {v : Value} {o : Obj} {Hs : Heap → Prop} (B : Begins v o Hs) :
    Meets (Builtin.«enumerate.__new__» ⟨[.type "enumerate", v], []⟩) (fun _ R s => Hs s.heap ∧ R (.ok (.ret (.ref (s.heap.push o).objs.size))) { s with heap := (s.heap.push o).push (enumO s.heap.objs.size) }) := by
  refine Meets.of_wp fun prog w A R s hs => ?_
  obtain ⟨here, done⟩ := hs
  obtain ⟨hp, gs, dr, tk, os⟩ := s
  have sub := sub_enumerate
  have begins : ∀ {A' : Around} {E' : Value → Shared → Prop} {Q' : Value → Shared → Prop}, Q' (.ref hp.objs.size) ⟨hp.push o, gs, dr, tk, os⟩ → wpAny (model prog w) A' (pyIter v) Q' E' ⟨hp, gs, dr, tk, os⟩ := fun q => B.iter prog w _ _ ⟨hp, gs, dr, tk, os⟩ _ here q
  wp_walk using begins
  refine wpAny_stack_any fun st => wpAny_pure ?_
  split
  · rename_i c _ _ _ _ _
    cases c == Value.type "enumerate" <;> (wp_walk using begins; exact ⟨_, rfl, done⟩)
  · wp_walk using begins
    exact ⟨_, rfl, done⟩
section
variable {prog : Program} {w : World} {A : Around} {E : Value → Shared → Prop} {s : Shared}
theorem call_enum {v : Value} {o : Obj} {Hs : Heap → Prop} (B : Begins v o Hs) (here : Hs s.heap) {Q : Value → Shared → Prop} (q : Q (.ref (s.heap.objs.size + 1)) { s with heap := (s.heap.push o).push (enumO s.heap.objs.size) }) :
    wpAny (model prog w) A (call (.type "enumerate") [v]) Q E s := by
  have size : (s.heap.push o).objs.size = s.heap.objs.size + 1 := Heap.size_push ..
  have at1 : ((s.heap.push o).push (enumO s.heap.objs.size)).get? (s.heap.objs.size + 1) = some (enumO s.heap.objs.size) := by
    rw [← size]
    exact Heap.get?_push_size _ rfl
  refine callType_new F.called_enumerate (by decide) (F.typeCall_enumerate_1 v) (F.newCall_enumerate_1 v) (fun obj => F.args_object_init_2 obj v) F.entry_enumerate_new (enum_new B) ⟨here, ?_⟩
  refine ⟨⟨enumO s.heap.objs.size, ?_, rfl⟩, ?_⟩
  · rw [size]
    exact at1
  · rw [size]
    exact q
end
end Dk
namespace Dk
open PySem PySem.Spec PyProof.Rows L2
/-! ### for i, x in enumerate(a tuple) -/
/-- the tuple at a, a new pair at each turn -/
def ItT (K : PySem.W.Frag) (a : Addr) : It where
  go := fun i H => ∃ (xs : List V) (x : V), SqT K H a xs ∧ xs[i]? = some x
  yld := fun i H v H' => ∃ T x, v = .ref T ∧ H T = none ∧ H' = upd H T (.tup [.int (i : Nat), x]) ∧ ∀ xs, SqT K H a xs → xs[i]? = some x
  stop := fun i H => ∃ xs : List V, SqT K H a xs ∧ xs.length = i
/-- how the three objects stand at a turn -/
structure TnT (a e it : Addr) (i : Nat) (h : Heap) : Prop where
  en : ∃ old, IsEnum h e it ((i : Nat) : Int) old
  ti : h.IsTupleIter it a i
  n1 : e ≠ it
  n2 : e ≠ a
  n3 : a ≠ it
theorem turn_enumT {P : Program} {w : World} {K : PySem.W.Frag} {elts : List Expr} {kk : Nat} {tpos : Pos} (a e it : Addr) : Turn P w K (.Tuple elts kk tpos) (ItT K a) [e, it] e (TnT a e it) where
  mem := List.mem_cons_self
  obj := fun i h st b hb => by
    obtain ⟨old, he⟩ := st.en
    obtain ⟨o, ho, _, hd⟩ := st.ti
    simp only [List.mem_cons, List.not_mem_nil, or_false] at hb
    rcases hb with rfl | rfl
    · exact ⟨_, he, fun v q => nomatch q⟩
    · exact ⟨o, ho, fun v q => by rw [hd] at q; exact nomatch q⟩
  keep := fun i h h' st k => by
    obtain ⟨old, he⟩ := st.en
    exact ⟨⟨old, k e List.mem_cons_self _ he⟩, st.ti.at fun o q => k it (by simp) o q, st.n1, st.n2, st.n3⟩
  item := by
    intro X hP hw hK hc i pins s σ H E I hf st hg
    subst hP hw hK
    obtain ⟨old, he⟩ := st.en
    obtain ⟨xs, x, hq, hx⟩ := hg
    obtain ⟨its, rv, p, hz⟩ := I.tuple hq
    obtain ⟨u, hu, ru⟩ := rv.get hx
    have p' : s.heap.IsTuple a its.toArray := p
    have hi : i < its.toArray.size := by
      have := (List.getElem?_eq_some_iff.mp hu).1
      simpa using this
    have el : e < s.heap.objs.size := Heap.lt_size he
    have il : it < s.heap.objs.size := by
      obtain ⟨o, q, _⟩ := st.ti
      exact Heap.lt_size q
    refine wpAny_pyNext_enum_itemD (Draws.tuple (A := X.A.in1) (show X.A.in1.handled = none from I.ok.hd hc) it a st.n3 its.toArray) he ⟨st.ti, p'⟩ hi st.n1 (by simp [st.n1, st.n2]) fun y h' tk hy out st' hT hsz hk => ?_
    have ey : y = u := by
      have hu' : its.toArray[i]? = some u := by simpa using hu
      exact Option.some.inj ((show its.toArray[i]? = some y from hy).symm.trans hu')
    subst ey
    refine ⟨_, rfl, wpAny_letOwnedTupleGo_enum (s := { s with heap := h', toks := tk + 1 }) out fun h'' he' sb => ?_⟩
    have hT2 : h''.get? s.heap.objs.size = some { cls := .type "tuple", data := .seq #[.int i tk, y] } := (sb.2 _ (Nat.ne_of_gt el)).trans hT
    have new : ObjOk X.prog X.w (upd H s.heap.objs.size (.tup [.int (i : Nat), x])) h'' s.heap.objs.size (.tup [.int (i : Nat), x]) :=
      ⟨by show 2 ≤ sizeLine; decide, [.int i tk, y], .cons ⟨_, rfl⟩ (.cons ru .nil), ⟨_, hT2, rfl, _, rfl⟩⟩
    have J := I.turnedNew (h' := h'') (t' := tk + 1) (ch := [e, it]) (fun b o hb q => by
      simp only [List.mem_cons, List.not_mem_nil, or_false, not_or] at hb
      exact (sb.2 b hb.1).trans (hk b o hb.1 hb.2 q)) hf (Nat.le_refl _) new
    refine ⟨.ref s.heap.objs.size, _, J, rfl, ⟨_, x, rfl, I.hok.fresh (Nat.le_refl _), rfl, fun ys hy => by rw [I.tuple_inj hy hq]; exact hx⟩, ⟨⟨y, ?_⟩, st'.1.at fun o q => (sb.2 it (Ne.symm st.n1)).trans q, st.n1, st.n2, st.n3⟩, fun b hb => ?_⟩
    · rw [show ((i + 1 : Nat) : Int) = (i : Int) + 1 by omega]
      exact he'
    · rw [upd_ne]
      · exact (hf b hb).1
      · simp only [List.mem_cons, List.not_mem_nil, or_false] at hb
        rcases hb with z | z
        · rw [z]
          exact Nat.ne_of_lt el
        · rw [z]
          exact Nat.ne_of_lt il
  done := by
    intro X hP hw hK hc i pins s σ H E I hf st hg
    subst hP hw hK
    obtain ⟨old, he⟩ := st.en
    obtain ⟨xs, hq, hx⟩ := hg
    obtain ⟨its, rv, p, hz⟩ := I.tuple hq
    have p' : s.heap.IsTuple a its.toArray := p
    obtain ⟨f0, f1, f2, f3, f4, f5⟩ := hf it (by simp)
    have hn : its.toArray.size = i := by
      have := rv.length
      simp
      omega
    subst hn
    exact wpAny_pyNext_enum_endD (Draws.tuple (A := X.A.in1) (show X.A.in1.handled = none from I.ok.hd hc) it a st.n3 its.toArray) he ⟨st.ti, p'⟩ fun h' eb => ⟨rfl, I.turned (t' := s.toks) (fun b o hb q => eb b o hb q) f0 f1 f3 f4 f5⟩
  self := fun A i s Q E st h => by
    obtain ⟨old, he⟩ := st.en
    exact wpAny_pyIter_enum he h
/-- enumerate of a list or a tuple -/
def iEnA (K : PySem.W.Frag) (ta : TA) : TI := fun σ H R => ta σ H fun vs H1 => ∃ a xs, vs = [.ref a] ∧ ((SqL K H1 a xs ∧ R (Ite K a) H1) ∨ (SqT K H1 a xs ∧ R (ItT K a) H1))
theorem pi_enumA {X : Cx} {e : Expr} {ta : TA} {p pos tpos : Pos} {elts : List Expr} {kk : Nat} (hg : Gl X "enumerate") (hm : X.mg "enumerate" = none) (ha : PA X [e] ta) (hs : starEach [e] X.env = [(false, eval e X.env)] := by rfl) :
    PI X (.Tuple elts kk tpos) (.Call (.Name "enumerate" p) [e] [] pos) (iEnA X.K ta) := by
  refine ⟨fun pins s σ H R I h => ?_⟩
  refine Call_ (ld_blt I hg hm boot_enumerate (PyProof.Rows.callWith_type1 (thn (ha.run pos pins s σ H _ I h) fun us s1 ⟨vs, H1, I1, r1, a, xs, ex, q⟩ => ?_) hs rfl))
  subst ex
  cases r1 with
  | cons r rr =>
    cases rr
    cases r
    have two : ∀ o : Obj, o.isFreed = false → ∀ b o', s1.heap.get? b = some o' → ((s1.heap.push o).push (enumO s1.heap.objs.size)).get? b = some o' := fun o _ b o' q => Heap.get?_push_of_some _ (Heap.get?_push_of_some _ q)
    have size : ∀ o : Obj, (s1.heap.push o).objs.size = s1.heap.objs.size + 1 := fun o => Heap.size_push ..
    have ate : ∀ o : Obj, ((s1.heap.push o).push (enumO s1.heap.objs.size)).get? (s1.heap.objs.size + 1) = some (enumO s1.heap.objs.size) := fun o => by
      rw [← size o]
      exact Heap.get?_push_size _ rfl
    have ati : ∀ o : Obj, o.isFreed = false → ((s1.heap.push o).push (enumO s1.heap.objs.size)).get? s1.heap.objs.size = some o := fun o ho => Heap.get?_push_of_some _ (Heap.get?_push_size _ ho)
    have fresh : ∀ b ∈ [s1.heap.objs.size + 1, s1.heap.objs.size], FpOk X pins H1 b := fun b hb => by
      have le : s1.heap.objs.size ≤ b := by
        simp only [List.mem_cons, List.not_mem_nil, or_false] at hb
        rcases hb with z | z
        · rw [z]
          exact Nat.le_succ _
        · rw [z]
          exact Nat.le_refl _
      exact I1.fpOk le (I1.hok.fresh le)
    rcases q with ⟨hq, q⟩ | ⟨hq, q⟩
    · obtain ⟨its, rv, pl, hz⟩ := I1.list hq
      refine call_enum (begins_list a its.toArray) pl.isList (wpAny_pyIter_enum (i := 0) (old := .none) (ate _) ?_)
      exact ⟨_, _, _, _, H1, rfl, I1.kept (t' := s1.toks) (two _ rfl), turn_enum a (s1.heap.objs.size + 1) s1.heap.objs.size, ⟨⟨.none, ate _⟩, ⟨_, ati _ rfl, rfl, rfl⟩, Nat.succ_ne_self _⟩, fresh, q⟩
    · obtain ⟨its, rv, pl, hz⟩ := I1.tuple hq
      have la : a < s1.heap.objs.size := by
        obtain ⟨o, ho, _⟩ := pl
        exact Heap.lt_size ho
      refine call_enum (begins_tuple a its.toArray) pl (wpAny_pyIter_enum (i := 0) (old := .none) (ate _) ?_)
      exact ⟨_, _, _, _, H1, rfl, I1.kept (t' := s1.toks) (two _ rfl), turn_enumT a (s1.heap.objs.size + 1) s1.heap.objs.size, ⟨⟨.none, ate _⟩, ⟨_, ati _ rfl, rfl, rfl⟩, Nat.succ_ne_self _, Ne.symm (Nat.ne_of_lt (Nat.lt_succ_of_lt la)), Nat.ne_of_lt la⟩, fresh, q⟩
/-! over data -/
def enumD (n : Nat) : List D → List D
  | [] => []
  | d :: r => .tuple [.int (n : Nat), d] :: enumD (n + 1) r
theorem enumD_len : ∀ (ds : List D) (n : Nat), (enumD n ds).length = ds.length
  | [], _ => rfl
  | _ :: r, n => by simp [enumD, enumD_len r]
theorem enumD_at : ∀ (ds : List D) (n i : Nat) (d : D), ds[i]? = some d → (enumD n ds)[i]? = some (.tuple [.int ((n + i : Nat) : Int), d])
  | [], _, _, _, h => by simp at h
  | x :: r, n, 0, d, h => by
    simp at h
    subst h
    rfl
  | x :: r, n, i + 1, d, h => by
    have := enumD_at r (n + 1) i d (by simpa using h)
    rw [show n + 1 + i = n + (i + 1) by omega] at this
    simpa [enumD] using this
def iEn (f : EL) : EI := fun ρ S => (f ρ S).bind fun os S1 => match os with
  | [.dat (.list ds)] => ret (enumD 0 ds, none) S1
  | [.dat (.tuple ds)] => ret (enumD 0 ds, none) S1
  | _ => none
section
variable {K : PySem.W.Frag} {L : List Addr} {H : Hp} {a : Addr} {xs : List V} {ds : List D}
theorem serves_enumL (m : SqL K (mask L H) a xs) (r : Reps K (mask L H) xs ds) : Serves K L H (Ite K a) (enumD 0 ds) none := by
  refine ⟨fun L' H' S' st so ok => ?_⟩
  have hx : SqL K H' a xs := same_l (st.frz.trans (mask_same _ _)) m
  have rx := r.mono st.frz
  have hl := r.length
  refine ⟨fun i hi => ?_, ⟨xs, hx, by rw [enumD_len]; omega⟩, fun i v H2 hi y => ?_⟩
  · rw [enumD_len] at hi
    have k : i < xs.length := by omega
    exact ⟨xs, xs[i], hx, List.getElem?_eq_getElem k⟩
  · obtain ⟨T, x, rfl, hT, rfl, q⟩ := y
    obtain ⟨d, e1, e2⟩ := rx.get (q xs hx)
    obtain ⟨p1, p2, p3⟩ := new_pair so hT (.int (i : Nat)) e2
    exact ⟨p1, p2, _, by have := enumD_at ds 0 i d e1; rw [Nat.zero_add] at this; exact this, p3⟩
theorem serves_enumT (m : SqT K (mask L H) a xs) (r : Reps K (mask L H) xs ds) : Serves K L H (ItT K a) (enumD 0 ds) none := by
  refine ⟨fun L' H' S' st so ok => ?_⟩
  have hx : SqT K H' a xs := same_t (st.frz.trans (mask_same _ _)) m
  have rx := r.mono st.frz
  have hl := r.length
  refine ⟨fun i hi => ?_, ⟨xs, hx, by rw [enumD_len]; omega⟩, fun i v H2 hi y => ?_⟩
  · rw [enumD_len] at hi
    have k : i < xs.length := by omega
    exact ⟨xs, xs[i], hx, List.getElem?_eq_getElem k⟩
  · obtain ⟨T, x, rfl, hT, rfl, q⟩ := y
    obtain ⟨d, e1, e2⟩ := rx.get (q xs hx)
    obtain ⟨p1, p2, p3⟩ := new_pair so hT (.int (i : Nat)) e2
    exact ⟨p1, p2, _, by have := enumD_at ds 0 i d e1; rw [Nat.zero_add] at this; exact this, p3⟩
end
theorem di_enum {X : Cx} {C : Str → Value} {W : WX} {e : Expr} {fa : EL} {p pos tpos : Pos} {elts : List Expr} {kk : Nat} (hg : Gl X "enumerate") (hm : X.mg "enumerate" = none) (ha : DA X C W [e] fa) (hs : starEach [e] X.env = [(false, eval e X.env)] := by rfl) :
    DI X C W (.Tuple elts kk tpos) (.Call (.Name "enumerate" p) [e] [] pos) (iEn fa) := by
  obtain ⟨t, pa, s⟩ := ha.ex
  refine ⟨_, pi_enumA hg hm pa hs, fun ρ S r S' h L σ H R en so po => ?_⟩
  refine s.bind h en so po fun os S1 L1 H1 vs h1 st1 so1 r1 en1 po1 => ?_
  split at h1
  · rename_i ds
    cases r1 with
    | cons rv rn =>
      cases rn
      cases rv with
      | lst m k => exact ⟨_, _, rfl, .inl ⟨same_l (mask_same _ _) m, po1.done (S0 := S1) h1 Step.refl so1 _ (serves_enumL m k)⟩⟩
  · rename_i ds
    cases r1 with
    | cons rv rn =>
      cases rn
      cases rv with
      | tup m k => exact ⟨_, _, rfl, .inr ⟨SqT.of (mask_same _ _ _ _ m), po1.done (S0 := S1) h1 Step.refl so1 _ (serves_enumT (SqT.of m) k)⟩⟩
  · cases h1
end Dk
set_option Elab.async false
set_option linter.all false
set_option maxRecDepth 100000
set_option maxHeartbeats 4000000
/-! [e for t in xs for u in ys if c] -/
namespace Dk
open PySem PySem.Spec L2
section
variable {K : PySem.W.Frag} {C : Str → Value} {L1 Lb : List Addr} {H1 Hb : Hp} {Sb S2 : Sto} {D0 : Addr} {n0 : Nat}
/-- the turns of a loop that fills the list at place n0, from any state -/
theorem lc_turns {J : It} {items : List D} {src : Option Nat} {tg : Tg} {is : List Nat} {tst : EB} {elt : E1} {vs : List Nat} {ρ : Env1} {σ : L2.St} (hv : ∀ i ∈ is, i ∈ vs)
    (sv : Serves K L1 H1 J items src) (en : EnvR K L1 H1 σ ρ) (st0 : Step L1 H1 Lb Hb) (sob : StoR K Lb Hb Sb) (hD : Lb[n0]? = some D0) (h : lcL src items tg tst elt n0 (wipeR ρ vs) items Sb = some S2) {Qd : Hp → Prop}
    (hq : ∀ L2 H2, Step Lb Hb L2 H2 → StoR K L2 H2 S2 → Qd H2) :
    ∃ W : Nat → Nat → Hp → Prop, (∃ m, W 0 m Hb) ∧ ∀ i m H, W i m H →
      (J.stop i H ∧ Qd H) ∨ (J.go i H ∧ ∃ Nx : Hp → Prop, (∀ H', Nx H' → ∃ m', m' < m ∧ W (i + 1) m' H') ∧ ∀ x H', J.yld i H x H' → canG K is tg x (wipe σ vs) H' fun σ2 H2 => wipe σ2 vs = wipe σ vs ∧ canT K C W0 tst σ2 H2 fun b H3 =>
        if b = true then canE K C W0 elt σ2 H3 fun y H4 => ∃ acc, H4 D0 = some (.lst acc) ∧ acc.length < sizeLine ∧ Nx (upd H4 D0 (.lst (acc ++ [y]))) else Nx H3) := by
  have hwipe : ∀ σ' : L2.St, (∀ us : List Nat, (∀ i ∈ is, i ∈ us) → wipe σ' us = wipe (wipe σ vs) us) → wipe σ' vs = wipe σ vs := fun σ' hσ => by
    rw [hσ vs hv]
    apply List.ext_getElem?
    intro j
    by_cases hj : j ∈ vs
    · by_cases hl : j < σ.length
      · rw [wipe_at hj (by rw [wipe_len]; exact hl), wipe_at hj hl]
      · rw [List.getElem?_eq_none (by rw [wipe_len, wipe_len]; omega), List.getElem?_eq_none (by rw [wipe_len]; omega)]
    · rw [wipe_off hj]
  refine ⟨fun i m H => ∃ L2 Sx, m = items.length - i ∧ i ≤ items.length ∧ Step Lb Hb L2 H ∧ StoR K L2 H Sx ∧ lcL src items tg tst elt n0 (wipeR ρ vs) (items.drop i) Sx = some S2,
    ⟨_, Lb, Sb, rfl, Nat.zero_le _, Step.refl, sob, (by rw [List.drop_zero]; exact h)⟩, ?_⟩
  rintro i m H2 ⟨L2, Sx, rfl, hi, st2, so2, h2⟩
  have st12 := st0.trans st2
  by_cases hlt : i < items.length
  · rw [List.drop_eq_getElem_cons hlt] at h2
    unfold lcL at h2
    split at h2
    · rename_i hsrc
      obtain ⟨a1, a2, a3⟩ := sv.all L2 H2 Sx st12 so2 hsrc
      obtain ⟨ρ3, e3, h3⟩ := opt_bind h2
      refine .inr ⟨a1 i hlt, fun H' => ∃ L3 Sy, Step Lb Hb L3 H' ∧ StoR K L3 H' Sy ∧ lcL src items tg tst elt n0 (wipeR ρ vs) (items.drop (i + 1)) Sy = some S2,
        fun H' ⟨L3, Sy, b1, b2, b3⟩ => ⟨items.length - (i + 1), by omega, L3, Sy, rfl, hlt, b1, b2, b3⟩, fun x H3 hy => ?_⟩
      obtain ⟨st3, so3, d, hd, rd⟩ := a3 i x H3 hlt hy
      have ed : d = items[i] := by
        rw [List.getElem?_eq_getElem hlt] at hd
        exact (Option.some.inj hd).symm
      subst ed
      have en3 : EnvR K L2 H3 (wipe σ vs) (wipeR ρ vs) := (en.wipes vs).step (st12.trans st3)
      refine ⟨.dat items[i], wipeR ρ vs, ρ3, L2, Sx, e3, en3, so3, rd, fun σ4 en4 hσ => ⟨hwipe σ4 hσ, ?_⟩⟩
      have st23 := st2.trans st3
      split at h3
      · rename_i S5 q5
        refine ⟨ρ3, Sx, _, S5, L2, q5, en4, so3, ⟨fun b hb L' H' st so' => ?_, fun e he => by cases he⟩⟩
        cases hb
        refine iteT ?_
        split at h3
        · rename_i o S6 q6
          obtain ⟨S7, e7, h7⟩ := opt_bind h3
          refine ⟨ρ3, S5, _, S6, L', q6, en4.step st, so', ⟨fun b hb L'' H'' st' so'' y ry => ?_, fun e he => by cases he⟩⟩
          cases hb
          have stA := (st23.trans st).trans st'
          unfold putAt at e7
          split at e7
          · rename_i d acc hacc
            split at e7
            · rename_i hz
              cases e7
              have hL : L''[n0]? = some D0 := stA.get hD
              obtain ⟨a, ws, ea, hL2, hA, rs⟩ := own_list (v := .ref D0) so'' ⟨D0, rfl, hL⟩ hacc
              cases ea
              obtain ⟨c1, c2⟩ := so''.write (o := .lst (ws ++ [y])) hL (d := .list (acc ++ [d])) ⟨_, upd_same, rs.append (.one ry)⟩ (nf_of hA)
              exact ⟨ws, hA, by rw [rs.length]; exact hz, L'', _, stA.trans c1, c2, h7⟩
            · cases e7
          · cases e7
        · cases h3
      · rename_i S5 q5
        refine ⟨ρ3, Sx, _, S5, L2, q5, en4, so3, ⟨fun b hb L' H' st so' => ?_, fun e he => by cases he⟩⟩
        cases hb
        exact iteF ⟨L', S5, st23.trans st, so', h3⟩
      · cases h3
    · cases h2
  · have e : i = items.length := by omega
    subst e
    rw [List.drop_length] at h2
    unfold lcL at h2
    split at h2
    · rename_i hsrc
      obtain ⟨a1, a2, a3⟩ := sv.all L2 H2 Sx st12 so2 hsrc
      cases h2
      exact .inl ⟨a2, hq L2 H2 st2 so2⟩
    · cases h2
end
open Classical in
noncomputable def lc2L (src : Option Nat) (items : List D) (tg : Tg) (fi1 : EI) (tg1 : Tg) (tst1 : EB) (elt : E1) (n0 : Nat) (vs1 : List Nat) (ρ : Env1) : List D → Sto → Option Sto
  | [], S => if srcOk src items S then some S else none
  | d :: r, S => if srcOk src items S then (tg (.dat d) ρ).bind fun ρ1 => match fi1 ρ1 S with
      | some (.inl p, S1) => (lcL p.2 p.1 tg1 tst1 elt n0 (wipeR ρ1 vs1) p.1 S1).bind fun S2 => lc2L src items tg fi1 tg1 tst1 elt n0 vs1 ρ r S2
      | _ => none
    else none
noncomputable def fLc2 (fi : EI) (tg : Tg) (fi1 : EI) (tg1 : Tg) (tst1 : EB) (elt : E1) (vs vs1 : List Nat) : EF := fun ρ S => (fi ρ S).bind fun p S1 => (lc2L p.2 p.1 tg fi1 tg1 tst1 elt S1.length vs1 (wipeR ρ vs) p.1 (S1 ++ [.list []])).bind fun S2 => popAt S1.length S2
section
variable {K : PySem.W.Frag} {C : Str → Value} {L1 : List Addr} {H1 : Hp} {S1 S2 : Sto} {D0 : Addr}
theorem lc2_run {J : It} {items : List D} {src : Option Nat} {tg tg1 : Tg} {is is1 : List Nat} {fi1 : EI} {tst1 : EB} {elt : E1} {vs vs1 : List Nat} {ρ : Env1} {σ : L2.St} (hv : ∀ i ∈ is, i ∈ vs) (hv1 : ∀ i ∈ is1, i ∈ vs1)
    (sv : Serves K L1 H1 J items src) (en : EnvR K L1 H1 σ ρ) (so : StoR K L1 H1 S1) (hD : H1 D0 = none) (h : lc2L src items tg fi1 tg1 tst1 elt S1.length vs1 (wipeR ρ vs) items (S1 ++ [.list []]) = some S2) {Qd : Hp → Prop}
    (hq : ∀ L2 H2, Step L1 H1 L2 H2 → Step (L1 ++ [D0]) (upd H1 D0 (.lst [])) L2 H2 → StoR K L2 H2 S2 → Qd H2) :
    ∃ W : Nat → Nat → Hp → Prop, (∃ m, W 0 m (upd H1 D0 (.lst []))) ∧ ∀ i m H, W i m H →
      (J.stop i H ∧ Qd H) ∨ (J.go i H ∧ ∃ Nx : Hp → Prop, (∀ H', Nx H' → ∃ m', m' < m ∧ W (i + 1) m' H') ∧ ∀ x H', J.yld i H x H' → canG K is tg x (wipe σ vs) H' fun σ2 H2 => wipe σ2 vs = wipe σ vs ∧ canT K C W0 bYes σ2 H2 fun b H3 =>
        if b = true then canI K C W0 fi1 σ2 H3 fun J1 H4 => ∃ W1 : Nat → Nat → Hp → Prop, (∃ m, W1 0 m H4) ∧ ∀ j k H, W1 j k H →
          (J1.stop j H ∧ Nx H) ∨ (J1.go j H ∧ ∃ Nx1 : Hp → Prop, (∀ H', Nx1 H' → ∃ k', k' < k ∧ W1 (j + 1) k' H') ∧ ∀ x H', J1.yld j H x H' → canG K is1 tg1 x (wipe σ2 vs1) H' fun σ3 H5 => wipe σ3 vs1 = wipe σ2 vs1 ∧ canT K C W0 tst1 σ3 H5 fun b H6 =>
            if b = true then canE K C W0 elt σ3 H6 fun y H7 => ∃ acc, H7 D0 = some (.lst acc) ∧ acc.length < sizeLine ∧ Nx1 (upd H7 D0 (.lst (acc ++ [y]))) else Nx1 H6)
        else Nx H3) := by
  obtain ⟨k1, k2⟩ := so.own (o := .lst []) hD (d := .list []) ⟨[], upd_same, .nil⟩
  have hlen : L1.length = S1.length := so.len
  have hwipe : ∀ σ' : L2.St, (∀ us : List Nat, (∀ i ∈ is, i ∈ us) → wipe σ' us = wipe (wipe σ vs) us) → wipe σ' vs = wipe σ vs := fun σ' hσ => by
    rw [hσ vs hv]
    apply List.ext_getElem?
    intro j
    by_cases hj : j ∈ vs
    · by_cases hl : j < σ.length
      · rw [wipe_at hj (by rw [wipe_len]; exact hl), wipe_at hj hl]
      · rw [List.getElem?_eq_none (by rw [wipe_len, wipe_len]; omega), List.getElem?_eq_none (by rw [wipe_len]; omega)]
    · rw [wipe_off hj]
  refine ⟨fun i m H => ∃ L2 Sx, m = items.length - i ∧ i ≤ items.length ∧ Step (L1 ++ [D0]) (upd H1 D0 (.lst [])) L2 H ∧ StoR K L2 H Sx ∧ lc2L src items tg fi1 tg1 tst1 elt S1.length vs1 (wipeR ρ vs) (items.drop i) Sx = some S2,
    ⟨_, L1 ++ [D0], S1 ++ [.list []], rfl, Nat.zero_le _, Step.refl, k2, (by rw [List.drop_zero]; exact h)⟩, ?_⟩
  rintro i m H2 ⟨L2, Sx, rfl, hi, st2, so2, h2⟩
  have st12 := k1.trans st2
  by_cases hlt : i < items.length
  · rw [List.drop_eq_getElem_cons hlt] at h2
    unfold lc2L at h2
    split at h2
    · rename_i hsrc
      obtain ⟨a1, a2, a3⟩ := sv.all L2 H2 Sx st12 so2 hsrc
      obtain ⟨ρ3, e3, h3⟩ := opt_bind h2
      refine .inr ⟨a1 i hlt, fun H' => ∃ L3 Sy, Step (L1 ++ [D0]) (upd H1 D0 (.lst [])) L3 H' ∧ StoR K L3 H' Sy ∧ lc2L src items tg fi1 tg1 tst1 elt S1.length vs1 (wipeR ρ vs) (items.drop (i + 1)) Sy = some S2,
        fun H' ⟨L3, Sy, b1, b2, b3⟩ => ⟨items.length - (i + 1), by omega, L3, Sy, rfl, hlt, b1, b2, b3⟩, fun x H3 hy => ?_⟩
      obtain ⟨st3, so3, d, hd, rd⟩ := a3 i x H3 hlt hy
      have ed : d = items[i] := by
        rw [List.getElem?_eq_getElem hlt] at hd
        exact (Option.some.inj hd).symm
      subst ed
      have en3 : EnvR K L2 H3 (wipe σ vs) (wipeR ρ vs) := (en.wipes vs).step (st12.trans st3)
      refine ⟨.dat items[i], wipeR ρ vs, ρ3, L2, Sx, e3, en3, so3, rd, fun σ4 en4 hσ => ⟨hwipe σ4 hσ, ?_⟩⟩
      have st23 := st2.trans st3
      split at h3
      · rename_i p S5 q5
        obtain ⟨S7, e7, h7⟩ := opt_bind h3
        refine ⟨ρ3, Sx, _, Sx, L2, rfl, en4, so3, ⟨fun b hb L' H' st so' => ?_, fun e he => by cases he⟩⟩
        cases hb
        refine iteT ?_
        refine ⟨ρ3, Sx, _, S5, L', q5, en4.step st, so', ⟨fun b hb L'' H'' st' so'' J1 sv1 => ?_, fun e he => by cases he⟩⟩
        cases hb
        have stA := (st23.trans st).trans st'
        have hL : L''[S1.length]? = some D0 := by
          refine stA.get ?_
          rw [← hlen, List.getElem?_append_right (Nat.le_refl _), Nat.sub_self]
          rfl
        exact lc_turns hv1 sv1 ((en4.step st).step st') Step.refl so'' hL e7 fun L8 H8 st8 so8 => ⟨L8, S7, stA.trans st8, so8, h7⟩
      · cases h3
    · cases h2
  · have e : i = items.length := by omega
    subst e
    rw [List.drop_length] at h2
    unfold lc2L at h2
    split at h2
    · rename_i hsrc
      obtain ⟨a1, a2, a3⟩ := sv.all L2 H2 Sx st12 so2 hsrc
      cases h2
      exact .inl ⟨a2, hq L2 H2 st12 st2 so2⟩
    · cases h2
end
section
variable {X : Cx} {C : Str → Value} {W : WX} {elt tg iter tg1 iter1 : Expr} {ifs1 : List Expr} {scope : Scope} {own : List (Str × Nat)} {pos : Pos} {fi fi1 : EI} {t t1 : Tg} {is is1 vs1 : List Nat} {tst1 : EB} {fe : E1}
theorem sm_lc2 {K : PySem.W.Frag} {wi : TI} (s : SmI K C W wi fi) (hv : ∀ i ∈ is, i ∈ own.map (·.2)) (hv1 : ∀ i ∈ is1, i ∈ vs1) :
    SmF K C W (tLc2 wi (canG K is t) (canT K C W0 bYes) (canI K C W0 fi1) (canG K is1 t1) (canT K C W0 tst1) (canE K C W0 fe) (own.map (·.2)) vs1) (fLc2 fi t fi1 t1 tst1 fe (own.map (·.2)) vs1) := fun ρ S r S' h L σ H Q en so po => by
  unfold fLc2 at h
  cases e : fi ρ S with
  | none => rw [e] at h; cases h
  | some q =>
    obtain ⟨q, S1⟩ := q
    rw [e] at h
    cases q with
    | inr x =>
      cases h
      exact s ρ S _ _ e L σ H _ en so ⟨fun b z => (by cases z), fun e' he L' H' st so' cls d x => po.bad e' (by cases he; rfl) L' H' st so' cls d x⟩
    | inl p =>
      obtain ⟨items, src⟩ := p
      obtain ⟨S2, e2, h3⟩ := opt_bind (show (lc2L _ _ _ _ _ _ _ _ _ _ _ _).bind _ = _ from h)
      refine s ρ S _ _ e L σ H _ en so ⟨fun b z L1 H1 st1 so1 J sv D0 hD => ?_, fun e' he => by cases he⟩
      cases z
      refine lc2_run hv hv1 sv (en.step st1) so1 hD e2 fun L2 H2 st2 st2' so2 => ?_
      cases r with
      | inr x =>
        unfold popAt at h3
        split at h3
        · split at h3 <;> cases h3
        · cases h3
      | inl ds =>
        obtain ⟨vs, c1, c2, c3, c4, c5⟩ := lc_done so1 hD st2 st2' so2 h3
        rw [c1]
        exact po.fine ds rfl L1 _ (st1.trans c2) c3 D0 vs c4 c5
theorem df_lc2 (hc : X.calm = true) (hN : X.N.Nodup) (hi : DI X C W tg iter fi) (ok : BlkOk X.N X.env.scope scope own) (hv : ∀ i ∈ is, i ∈ own.map (·.2)) (hv1 : ∀ i ∈ is1, i ∈ vs1) (hvo : ∀ i ∈ vs1, i ∈ own.map (·.2))
    (hg : ∀ (s : Shared) (H : Hp) (D : Addr) (cl : List (Str × Addr)) (fp : List Addr), DG (X.blk s H scope (compEnvC scope cl D X.env) fp) tg is t)
    (hi1 : ∀ (s : Shared) (H : Hp) (D : Addr) (cl : List (Str × Addr)) (fp : List Addr), DI (X.blk s H scope (compEnvC scope cl D X.env) fp) C W0 tg1 iter1 fi1)
    (hg1 : ∀ (s : Shared) (H : Hp) (D : Addr) (cl : List (Str × Addr)) (fp : List Addr), DG (X.blk s H scope (compEnvC scope cl D X.env) fp) tg1 is1 t1)
    (ht1 : ∀ (s : Shared) (H : Hp) (D : Addr) (cl : List (Str × Addr)) (fp : List Addr), DTs (X.blk s H scope (compEnvC scope cl D X.env) fp) C W0 ifs1 tst1)
    (he : ∀ (s : Shared) (H : Hp) (D : Addr) (cl : List (Str × Addr)) (fp : List Addr), DE (X.blk s H scope (compEnvC scope cl D X.env) fp) C W0 elt fe) (hs : ∀ x, foldedSetIterable iter X.env x = pure x := by intro _; rfl) (hs1 : ∀ env x, foldedSetIterable iter1 env x = pure x := by intro _ _; rfl) :
    DF X C W (.ListComp elt [⟨tg, iter, [], 0⟩, ⟨tg1, iter1, ifs1, 0⟩] scope pos) (fLc2 fi t fi1 t1 tst1 fe (own.map (·.2)) vs1) := by
  obtain ⟨wi, p, s⟩ := hi.ex
  exact ⟨_, pe_lc2 (g := canG X.K is t) (tt := canT X.K C W0 bYes) (wi1 := canI X.K C W0 fi1) (g1 := canG X.K is1 t1) (tt1 := canT X.K C W0 tst1) (te := canE X.K C W0 fe) hc hN p ok hvo (fun s H D cl fp => (hg s H D cl fp).can) (fun s H D cl fp => dts_nil.run)
    (fun s H D cl fp => (hi1 s H D cl fp).can) (fun s H D cl fp => (hg1 s H D cl fp).can) (fun s H D cl fp => (ht1 s H D cl fp).run) (fun s H D cl fp => (he s H D cl fp).can) hs hs1, sm_lc2 s hv hv1⟩
theorem ds_setLc2 (i : Nat) {y : Str} {py spos : Pos} (hc : X.calm = true) (hN : X.N.Nodup) (hy : X.N[i]? = some y) (hyl : X.env.scope.names.lookup y = some .local) (hsw : swapsWith (.ListComp elt [⟨tg, iter, [], 0⟩, ⟨tg1, iter1, ifs1, 0⟩] scope pos) (some (.Name y py)) spos.line X.env = pure true)
    (hi : DI X C W tg iter fi) (ok : BlkOk X.N X.env.scope scope own) (hv : ∀ i ∈ is, i ∈ own.map (·.2)) (hv1 : ∀ i ∈ is1, i ∈ vs1) (hvo : ∀ i ∈ vs1, i ∈ own.map (·.2))
    (hg : ∀ (s : Shared) (H : Hp) (D : Addr) (cl : List (Str × Addr)) (fp : List Addr), DG (X.blk s H scope (compEnvC scope cl D X.env) fp) tg is t)
    (hi1 : ∀ (s : Shared) (H : Hp) (D : Addr) (cl : List (Str × Addr)) (fp : List Addr), DI (X.blk s H scope (compEnvC scope cl D X.env) fp) C W0 tg1 iter1 fi1)
    (hg1 : ∀ (s : Shared) (H : Hp) (D : Addr) (cl : List (Str × Addr)) (fp : List Addr), DG (X.blk s H scope (compEnvC scope cl D X.env) fp) tg1 is1 t1)
    (ht1 : ∀ (s : Shared) (H : Hp) (D : Addr) (cl : List (Str × Addr)) (fp : List Addr), DTs (X.blk s H scope (compEnvC scope cl D X.env) fp) C W0 ifs1 tst1)
    (he : ∀ (s : Shared) (H : Hp) (D : Addr) (cl : List (Str × Addr)) (fp : List Addr), DE (X.blk s H scope (compEnvC scope cl D X.env) fp) C W0 elt fe) (hs : ∀ x, foldedSetIterable iter X.env x = pure x := by intro _; rfl) (hs1 : ∀ env x, foldedSetIterable iter1 env x = pure x := by intro _ _; rfl) :
    DS X C W (.Assign [.Name y py] (.ListComp elt [⟨tg, iter, [], 0⟩, ⟨tg1, iter1, ifs1, 0⟩] scope pos) spos) (sAsg (frz (fLc2 fi t fi1 t1 tst1 fe (own.map (·.2)) vs1)) (tgN i)) := by
  obtain ⟨wi, p, s⟩ := hi.ex
  refine ⟨_, ps_setLc2 (g := canG X.K is t) (tt := canT X.K C W0 bYes) (wi1 := canI X.K C W0 fi1) (g1 := canG X.K is1 t1) (tt1 := canT X.K C W0 tst1) (te := canE X.K C W0 fe) hc hN hy hyl hsw p ok hvo (fun s H D cl fp => (hg s H D cl fp).can) (fun s H D cl fp => dts_nil.run)
    (fun s H D cl fp => (hi1 s H D cl fp).can) (fun s H D cl fp => (hg1 s H D cl fp).can) (fun s H D cl fp => (ht1 s H D cl fp).run) (fun s H D cl fp => (he s H D cl fp).can) hs hs1, ?_⟩
  refine sm_asg (fun ρ S r S' h L σ H Q en so po => ?_) smg_n
  exact (sm_lc2 s hv hv1).bind h en so po fun ds S1 L1 H1 q vs h1 st1 so1 hq rs en1 po1 => po1.done (S0 := S1) h1 (step_new hq) (so1.laid hq) _ (new_lst so1 hq rs)
end
end Dk
set_option Elab.async false
set_option linter.all false
set_option maxRecDepth 100000
set_option maxHeartbeats 4000000
/-! while c: .. (no else); at most so many turns. -/
namespace Dk
open PySem PySem.Spec L2
def afterW (r : Option (Fl × Env1 × Sto)) (k : SS) : Option (Fl × Env1 × Sto) := match r with
  | none => none
  | some (.nx, ρ2, S2) => k ρ2 S2
  | some (.ct, ρ2, S2) => k ρ2 S2
  | some (.bk, ρ2, S2) => some (.nx, ρ2, S2)
  | some (.rt o, ρ2, S2) => some (.rt o, ρ2, S2)
  | some (.er e, ρ2, S2) => some (.er e, ρ2, S2)
def whileN (c : EB) (g : SS) : Nat → SS
  | 0 => fun _ _ => none
  | n + 1 => sB c fun b ρ S => if b = true then afterW (g ρ S) (whileN c g n) else some (.nx, ρ, S)
section
variable {K : PySem.W.Frag} {C : Str → Value} {W : WX} {tc : TT} {tb : TS} {c : EB} {g : SS}
theorem sm_while (n : Nat) (s : SmT K C W tc c) (s2 : SmS K C W tb g) : SmS K C W (tWhile tc tb) (whileN c g n) := fun ρ S fl ρ' S' h L σ H D en so po => by
  refine ⟨fun m σ2 H2 => ∃ L2 ρ2 S2, Step L H L2 H2 ∧ EnvR K L2 H2 σ2 ρ2 ∧ StoR K L2 H2 S2 ∧ whileN c g m ρ2 S2 = some (fl, ρ', S'), ⟨n, L, ρ, S, Step.refl, en, so, h⟩, ?_⟩
  rintro m σ2 H2 ⟨L2, ρ2, S2, st2, en2, so2, h2⟩
  cases m with
  | zero => cases h2
  | succ m =>
    unfold whileN at h2
    refine s.stm h2 en2 so2 (po.step st2) fun b S3 L3 H3 h3 st3 so3 en3 po3 => ?_
    cases b with
    | false =>
      simp only [Bool.false_eq_true, if_false] at h3
      cases h3
      show D.nx σ2 H3
      exact po3.nx rfl L3 H3 σ2 Step.refl so3 en3
    | true =>
      simp only [if_true] at h3
      show ∃ N : St → Hp → Prop, _ ∧ _
      refine ⟨fun σ' H' => ∃ L2 ρ2 S2, Step L H L2 H' ∧ EnvR K L2 H' σ' ρ2 ∧ StoR K L2 H' S2 ∧ whileN c g m ρ2 S2 = some (fl, ρ', S'), fun σ' H' ⟨L4, ρ4, S4, b1, b2, b3, b4⟩ => ⟨m, Nat.lt_succ_self m, L4, ρ4, S4, b1, b2, b3, b4⟩, ?_⟩
      have st23 := st2.trans st3
      unfold afterW at h3
      split at h3
      · cases h3
      · rename_i ρ4 S4 q4
        exact s2 ρ2 S3 _ _ _ q4 L3 σ2 H3 _ en3 so3 ⟨fun _ L' H' σ' st so' en' => ⟨L', ρ4, S4, st23.trans st, en', so', h3⟩, fun z => (nomatch z), fun z => (nomatch z), fun o z => (nomatch z), fun e z => (nomatch z)⟩
      · rename_i ρ4 S4 q4
        exact s2 ρ2 S3 _ _ _ q4 L3 σ2 H3 _ en3 so3 ⟨fun z => (nomatch z), fun z => (nomatch z), fun _ L' H' σ' st so' en' => ⟨L', ρ4, S4, st23.trans st, en', so', h3⟩, fun o z => (nomatch z), fun e z => (nomatch z)⟩
      · rename_i ρ4 S4 q4
        cases h3
        exact s2 ρ2 S3 _ _ _ q4 L3 σ2 H3 _ en3 so3 ⟨fun z => (nomatch z), fun _ L' H' σ' st so' en' => po3.nx rfl L' H' σ' st so' en', fun z => (nomatch z), fun o z => (nomatch z), fun e z => (nomatch z)⟩
      · rename_i o ρ4 S4 q4
        cases h3
        exact s2 ρ2 S3 _ _ _ q4 L3 σ2 H3 _ en3 so3 ⟨fun z => (nomatch z), fun z => (nomatch z), fun z => (nomatch z), fun o' z L' H' v st so' rv => po3.rt o' z L' H' v st so' rv, fun e z => (nomatch z)⟩
      · rename_i e ρ4 S4 q4
        cases h3
        exact s2 ρ2 S3 _ _ _ q4 L3 σ2 H3 _ en3 so3 ⟨fun z => (nomatch z), fun z => (nomatch z), fun z => (nomatch z), fun o' z => (nomatch z), fun e' z L' H' σ' cls d st so' en' x => po3.er e' z L' H' σ' cls d st so' en' x⟩
end
theorem ds_while {X : Cx} {C : Str → Value} {W : WX} {c : Expr} {body : List Stmt} {fc : EB} {g : SS} {pos : Pos} (n : Nat) (hp : PassesOwn (model X.prog X.w) X.A X.env X.xe) (hc : DT X C W c fc) (hb : DSs X C W body g) : DS X C W (.While c body [] pos) (whileN fc g n) := by
  obtain ⟨t, p, s⟩ := hc.ex
  obtain ⟨u, q, s2⟩ := hb.ex
  exact ⟨_, ps_while hp p q, sm_while n s s2⟩
/-! l.pop(i) of an owned list -/
theorem reps_erase {K : PySem.W.Frag} {G : Hp} : ∀ {vs : List V} {ds : List D} (k : Nat), Reps K G vs ds → Reps K G (vs.eraseIdx k) (ds.eraseIdx k)
  | _, _, _, .nil => .nil
  | _, _, 0, .cons h r => r
  | _, _, k + 1, .cons h r => .cons h (reps_erase k r)
def fPopAt (fo : E1) (fa : EL) : E1 := fun ρ S => (fo ρ S).bind fun o S1 => (viewL S1 o).bind fun _ => (fa ρ S1).bind fun as S2 => match o, as with
  | .own n, [.dat (.int i)] => match S2[n]? with
    | some (.list ds) => if ds.length ≤ 16777216 then (ixN ds.length i).bind fun j => (ds[j]?).bind fun d => ret (.dat d) (S2.set n (.list (ds.eraseIdx j))) else none
    | _ => none
  | _, _ => none
theorem de_popAt {X : Cx} {C : Str → Value} {W : WX} {o e : Expr} {fo : E1} {pos apos : Pos} (ho : DE X C W o fo) {fa : EL} (ha : DA X C W [e] fa)
    (hbase : attributeBase o "pop" X.env (eval o X.env) = eval o X.env := by rfl)
    (hfew : ((backTo pos (starEach [e] X.env)).all (fun x => !x.1) && (backToKw pos (keywordEach [] X.env)).all (fun x => x.1.isSome) && decide ([e].length + ([] : List Keyword).length + (if ([] : List Keyword).isEmpty then 0 else 1) < 30)) = true := by rfl)
    (hline : (apos.endLine == pos.line) = true := by rfl) (hs : starEach [e] X.env = (false, eval e X.env) :: starEach [] X.env := by rfl) (hplain : (backTo pos (starEach [] X.env)).any (·.1) = false := by rfl) :
    DE X C W (.Call (.Attribute o "pop" apos) [e] [] pos) (fPopAt fo fa) := by
  obtain ⟨t1, p1, s1⟩ := ho.ex
  obtain ⟨t2, q2, s2⟩ := ha.ex
  refine ⟨_, pe_bm PySem.F.plainAttrs_list PySem.F.slot_list_pop PySem.F.type_list_pop mt_popAt p1 q2 hbase hfew hline hs hplain, fun ρ S r S' h L σ H Q en so po => ?_⟩
  refine s1.bind h en so po fun y S1 L1 H1 u h1 st1 so1 r1 en1 po1 => ?_
  obtain ⟨ds0, e0, k0⟩ := opt_bind h1
  obtain ⟨a0, vs0, e00, m0, _⟩ := view_list (viewL_eq e0) r1 so1
  refine ⟨by rw [e00]; exact tyV_list m0, ?_⟩
  refine s2.bind k0 en1 so1 po1 fun as S2 L2 H2 ws h2 st2 so2 r2 en2 po2 => ?_
  split at h2
  · rename_i n i
    split at h2
    · rename_i ds hn
      split at h2
      · rename_i hz
        obtain ⟨j, e1, h3⟩ := opt_bind h2
        obtain ⟨d, e2, h4⟩ := opt_bind h3
        obtain ⟨a, vs, rfl, hL, hA, rs⟩ := own_list so2 (r1.step st2) hn
        obtain ⟨v, rfl, rv⟩ := reps_one r2
        cases rv
        obtain ⟨x1, x2, x3, x4⟩ := ixN_seq e1
        have hl := rs.length
        obtain ⟨w, e3, rw'⟩ := rs.at_ e2
        obtain ⟨k1, k2⟩ := so2.write (o := .lst (vs.eraseIdx j)) hL (d := .list (ds.eraseIdx j)) ⟨_, upd_same, reps_erase j rs⟩ (nf_of hA)
        exact ⟨a, vs, i, j, w, rfl, rfl, hA, by omega, by omega, by rw [hl]; exact x1, e3, po2.done (S0 := S2.set n (.list (ds.eraseIdx j))) h4 k1 k2 _ (rw'.mono k1.frz)⟩
      · cases h2
    · cases h2
  · cases h2
end Dk
set_option Elab.async false
set_option linter.all false
set_option maxRecDepth 100000
set_option maxHeartbeats 4000000
/-! tuple(range(n)), list(range(n)). -/
namespace Dk
open PySem PySem.Spec L2
def rgD (n : Int) : List D := (List.range n.toNat).map fun i : Nat => .int (i : Int)
def fTupRg (fa : E1) : E1 := fun ρ S => (fa ρ S).bind fun a S1 => match a with
  | .dat (.int n) => if 0 ≤ n ∧ n ≤ 1000 then ret (.dat (.tuple (rgD n))) S1 else none
  | _ => none
def fLstRg (fa : E1) : EF := fun ρ S => (fa ρ S).bind fun a S1 => match a with
  | .dat (.int n) => if 0 ≤ n ∧ n ≤ 1000 then ret (rgD n) S1 else none
  | _ => none
theorem rg_reps {K : PySem.W.Frag} {G : Hp} (n : Int) : Reps K G (rgV 0 n) (rgD n) := by
  have e : ∀ l : List Nat, Reps K G (l.map fun k : Nat => V.int (0 + (k : Int))) (l.map fun i : Nat => .int (i : Int)) := fun l => by
    induction l with
    | nil => exact .nil
    | cons k r ih =>
      refine .cons ?_ ih
      show Rep K G (.int (0 + (k : Int))) (.int (k : Int))
      rw [Int.zero_add]
      exact .int _
  have := e (List.range n.toNat)
  unfold rgV rgD
  simpa using this
section
variable {X : Cx} {C : Str → Value} {W : WX} {e : Expr} {fe : E1} {p p2 pos pos2 : Pos}
theorem de_tupRg (hc : X.calm = true) (hg : Gl X "tuple") (hm : X.mg "tuple" = none) (hg2 : Gl X "range") (hm2 : X.mg "range" = none) (ha : DE X C W e fe) (na : starEach [e] X.env = (false, eval e X.env) :: starEach [] X.env := by rfl)
    (na2 : starEach [.Call (.Name "range" p2) [e] [] pos2] X.env = (false, eval (.Call (.Name "range" p2) [e] [] pos2) X.env) :: starEach [] X.env := by rfl) : DE X C W (.Call (.Name "tuple" p) [.Call (.Name "range" p2) [e] [] pos2] [] pos) (fTupRg fe) := by
  obtain ⟨t, pa, s⟩ := ha.ex
  refine ⟨_, pe_tupRg hc hg hm (prg_1 hg2 hm2 pa na) na2, fun ρ S r S' h L σ H Q en so po => ?_⟩
  refine s.bind h en so po fun a S1 L1 H1 v h1 st1 so1 r1 en1 po1 => ?_
  split at h1
  · rename_i n
    split at h1
    · rename_i hz
      cases r1
      refine ⟨n, rfl, ?_, fun q hq => po1.done (S0 := S1) h1 (step_new hq) (so1.laid hq) _ (new_tup so1 hq (rg_reps n))⟩
      exact RgOk.of_le (Int.le_refl 0) (by omega) (by decide) hz.1
    · cases h1
  · cases h1
theorem df_lstRg (hc : X.calm = true) (hg : Gl X "list") (hm : X.mg "list" = none) (hg2 : Gl X "range") (hm2 : X.mg "range" = none) (ha : DE X C W e fe) (na : starEach [e] X.env = (false, eval e X.env) :: starEach [] X.env := by rfl)
    (na2 : starEach [.Call (.Name "range" p2) [e] [] pos2] X.env = (false, eval (.Call (.Name "range" p2) [e] [] pos2) X.env) :: starEach [] X.env := by rfl) : DF X C W (.Call (.Name "list" p) [.Call (.Name "range" p2) [e] [] pos2] [] pos) (fLstRg fe) := by
  obtain ⟨t, pa, s⟩ := ha.ex
  refine ⟨_, pe_listRg hc hg hm (prg_1 hg2 hm2 pa na) na2, fun ρ S r S' h L σ H Q en so po => ?_⟩
  refine s.bind h en so po fun a S1 L1 H1 v h1 st1 so1 r1 en1 po1 => ?_
  split at h1
  · rename_i n
    split at h1
    · rename_i hz
      cases r1
      refine ⟨n, rfl, ?_, fun q hq => po1.done (S0 := S1) h1 Step.refl so1 q _ hq (rg_reps n)⟩
      exact RgOk.of_le (Int.le_refl 0) (by omega) (by decide) hz.1
    · cases h1
  · cases h1
end
/-- a def of which nothing is told: the ground of a recursion -/
theorem fn_void {P : Program} {w : World} {K : PySem.W.Frag} {mg : Str → Option Value} {base : Heap} {C : Str → Value} {x qual : Str} {st : Stmt} {f : Addr} {fd : FuncData} {ps : List Str} {k : Nat} (F : Fun K x qual st f fd) (hm : mg x = some (.ref f)) (hb : Binds K fd ps []) :
    FnD P w K mg base C k x ps.length (fun _ _ => none) := by
  refine ⟨f, fd, ps, rfl, hm, F.kp, hb, fun vs H Q E h => ?_, fun A outer s H args us vs Q E hr e0 hbd hv h => ?_⟩
  · obtain ⟨os, L, S, r, S', _, _, _, z, _⟩ := h
    cases z
  · obtain ⟨os, L, S, r, S', _, _, _, z, _⟩ := h
    cases z
end Dk
set_option Elab.async false
set_option linter.all false
set_option maxRecDepth 100000
set_option maxHeartbeats 4000000
/-! sorted of at most one item (any data but None). -/
namespace Dk
open PySem PySem.Spec PySem.W PyProof.Rows
theorem sortsAt_few {prog : Program} {w : World} {A : Around} {s : Shared} {vs : List Value} {ds : List PyData} (e : EachIs (fun v d => ∃ as, Reads s.heap v d as) vs ds) (hal : AllAlike ds) (few : ds.length ≤ 1) (nn : ∀ d ∈ ds, d ≠ .none)
    (hu : ∀ d, d ∈ ds → A.units + d.depth < cLine) : SortsAt prog w A s (dataKind s.heap ds) vs := by
  refine ⟨fun v hv => ?_, general', fun E x y a b Q ha hb hq => ?_, fun h2 => absurd h2 ?_⟩
  · obtain ⟨d, hd, as, r⟩ := e.left v hv
    exact ⟨_, dataKind_some hal hd r⟩
  · obtain ⟨d, as, hd, ra, rfl⟩ := dataKind_inv ha
    obtain ⟨d', as', hd', rb, rfl⟩ := dataKind_inv hb
    exact oneLt_alike (f := false) (fun z => (nomatch z)) ra rb (hal d hd d' hd') (nn d hd) (Nat.lt_of_le_of_lt (Nat.add_le_add_left (Nat.min_le_left _ _) _) (hu d hd)) hq
  · have := e.length
    omega
end Dk
namespace Dk
open PySem PySem.Spec L2
def sort1S (S : Sto) (os : List OV) : Option (List D) := match os with
  | [o] => (viewL S o).bind fun ds => if PyData.canLayAll0 ds = true ∧ alikeB ds = true ∧ ds.length ≤ 1 ∧ (ds.all fun d => !isNoneD d) = true ∧ (∀ d ∈ ds, d.depth ≤ 64) then some ds else none
  | _ => none
theorem rc_sorted1 {X : Cx} {k : Nat} (hr : Room k X.A) : CallR X (.builtin "sorted") (rOfF X.K sort1S) := by
  intro pins s σ H xs us Q I r h
  obtain ⟨L, S, os, ds', so, ro, e, q⟩ := h
  unfold sort1S at e
  split at e
  · obtain ⟨v, rfl, rv⟩ := reps_one ro
    obtain ⟨ds, e1, e2⟩ := opt_bind e
    split at e2
    · rename_i hz
      obtain ⟨hlay, hal, few, nn, hdp⟩ := hz
      obtain rfl := Option.some.inj e2
      obtain ⟨a, vs, rfl, m, rs⟩ := view_list (viewL_eq e1) rv so
      obtain ⟨u, rfl, ru⟩ := Vals.one r
      cases ru
      obtain ⟨its, vr, pl, hlen⟩ := I.list m
      have dp : DpAll X.K H vs ds := Reps.dp (rs.mono (mask_same L H)) hlay
      obtain ⟨as, rd⟩ := Dp.readsAll I ds vs its dp vr
      obtain ⟨z1, z2, z3⟩ := reps_zip rs
      have hl := rs.length
      have er0 := reads_each (vs := vs) hl rd
      have er1 : PySem.W.EachIs (fun v (b : V × D) => ∃ as, Reads (PySem.W.sortingHeap (PySem.W.copyHeap s.heap its) (s.heap.objs.size + 1) its) v b.2 as) its (vs.zip ds) := er0.mono fun _ _ ⟨as, r⟩ => ⟨as, PyProof.Rows.Reads.keeps (fun _ _ => PySem.W.sorting_copy_old) r⟩
      have er2 := PySem.W.each_map (R := fun v d => ∃ as, Reads (PySem.W.sortingHeap (PySem.W.copyHeap s.heap its) (s.heap.objs.size + 1) its) v d as) (Prod.snd : V × D → D) er1
      have hal' : PySem.W.AllAlike ((vs.zip ds).map Prod.snd) := by rw [z2]; exact alikeB_ok hal
      have key := sortsAt_few (prog := X.prog) (w := X.w) (A := X.A.in1.in1) (s := { s with heap := PySem.W.sortingHeap (PySem.W.copyHeap s.heap its) (s.heap.objs.size + 1) its }) er2 hal' (by rw [z2]; exact few)
        (fun d hd z => by rw [z2] at hd; have := List.all_eq_true.mp nn d hd; rw [z] at this; cases this)
        (fun d hd => by rw [z2] at hd; have := hdp d hd; have := hr.un; show X.A.units + 2 + d.depth < cLine; omega)
      refine PySem.W.sorted_vals pl.isList key (by rw [← vr.length]; exact hlen) ?_
      have er := PySem.W.sortVals_data (R := fun u (p : V × D) => RelV p.1 u) (enc := Prod.snd) false (vals_each rs vr) er1 hal'
      have one : (vs.zip ds).mergeSort (PySem.W.dataLe false Prod.snd) = vs.zip ds := by
        have l1 : (vs.zip ds).length ≤ 1 := by rw [z3]; exact few
        match vs.zip ds, l1 with
        | [], _ => simp
        | [x], _ => simp
      rw [one] at er
      have vals2 := each_vals er
      have rs2 := zip_reps (l := vs.zip ds) z1
      rw [z2] at rs2
      generalize PySem.W.sortVals _ false its its = out at vals2 ⊢
      obtain ⟨c, hc⟩ := PyProof.Rows.sortedAll_at s.heap its out.toArray
      have hf : H (s.heap.objs.size + 1) = none := I.hok.fresh (Nat.le_succ _)
      have J := I.laid (a := s.heap.objs.size + 1) (o := .lst ((vs.zip ds).map Prod.fst)) (h' := PyProof.Rows.sortedAll s.heap its out.toArray) (t' := s.toks) (fun b u e => PyProof.Rows.sortedAll_old e) (Nat.le_succ _)
        ⟨by rw [rs2.length, ← hl]; exact hlen, out, c, vals2, hc⟩
      exact ⟨.ref (s.heap.objs.size + 1), _, J, rfl, q _ _ hf rs2⟩
    · cases e2
  · cases e
/-- sorted: at most one item, or more -/
def sortA (S : Sto) (os : List OV) : Option (List D) := match sort1S S os with
  | some ds => some ds
  | none => sortS S os
theorem rc_sortedA {X : Cx} {k : Nat} (hr : Room k X.A) : CallR X (.builtin "sorted") (rOfF X.K sortA) := by
  intro pins s σ H xs us Q I r h
  obtain ⟨L, S, os, ds, so, ro, e, q⟩ := h
  unfold sortA at e
  cases e1 : sort1S S os with
  | some d1 =>
    rw [e1] at e
    exact rc_sorted1 hr pins s σ H xs us Q I r ⟨L, S, os, ds, so, ro, e1.trans e, q⟩
  | none =>
    rw [e1] at e
    exact rc_sorted hr pins s σ H xs us Q I r ⟨L, S, os, ds, so, ro, e, q⟩
end Dk
set_option Elab.async false
set_option linter.all false
set_option maxRecDepth 100000
set_option maxHeartbeats 4000000
/-! Dicts: asked, written, made of pairs. -/
namespace Dk
open PySem PySem.Spec L2 PyProof.Rows
section
variable {K : PySem.W.Frag} {G H : Hp} {L : List Addr} {S : Sto}
theorem rep_kV {v : V} {k : L2.Key} (r : Rep K G v (keyD k)) : v = kV k := by
  cases k with
  | inl i => cases (show Rep K G v (.int i) from r); rfl
  | inr x => cases (show Rep K G v (.str x) from r); rfl
theorem reps_kVs : ∀ {ks : List L2.Key} {vs : List V}, Reps K G vs (ks.map keyD) → vs = ks.map kV
  | [], vs, r => by cases (show Reps K G vs [] from r); rfl
  | k :: ks, vs, r => by
    cases (show Reps K G vs (keyD k :: ks.map keyD) from r) with
    | cons h t => rw [rep_kV h, reps_kVs t]; rfl
theorem view_key {v : V} {k : L2.Key} {o : OV} (e : view S o = some (keyD k)) (r : RepO K L H v o) (s : StoR K L H S) : v = kV k := by
  cases k with
  | inl i => exact view_int e r s
  | inr x => exact view_str e r s
theorem view_tupH {v : V} {ds : List D} : ∀ {o : OV}, view S o = some (.tuple ds) → RepO K L H v o → StoR K L H S → ∃ a vs, v = .ref a ∧ H a = some (.tup vs) ∧ Reps K (mask L H) vs ds
  | .dat d, e, r, s => by
    cases e
    cases r with
    | tup h1 h2 => exact ⟨_, _, rfl, mask_same L H _ _ h1, h2⟩
  | .own n, e, ⟨a, h1, h2⟩, s => (s.obj n a _ h2 e : ObjR K (mask L H) H a (.tuple ds)).elim
def DictAt (K : PySem.W.Frag) (G H : Hp) (p : Addr) (kvs : List (D × D)) : Prop :=
  (∃ (ks : List L2.Key) (vs : List V) (ds : List D), ks.length = vs.length ∧ H p = some (.dK (ks.zip vs)) ∧ Reps K G vs ds ∧ kvs = (ks.map keyD).zip ds) ∨
  (∃ (ks : List (List L2.Key)) (vs : List V) (ds : List D), ks.length = vs.length ∧ H p = some (.dT (ks.zip vs)) ∧ Reps K G vs ds ∧ kvs = (ks.map keysD).zip ds) ∨
  (∃ (ob : Obj) (ks : List L2.Key) (vs : List V) (ds : List D), ks.length = vs.length ∧ H p = some (.frz ob (.dK (ks.zip vs))) ∧ Reps K G vs ds ∧ kvs = lockD :: (ks.map keyD).zip ds) ∨
  ∃ (ob : Obj) (ks : List (List L2.Key)) (vs : List V) (ds : List D), ks.length = vs.length ∧ H p = some (.frz ob (.dT (ks.zip vs))) ∧ Reps K G vs ds ∧ kvs = lockD :: (ks.map keysD).zip ds
theorem lock_no {r : List (D × D)} {k : D} (c : (isK1 k = true ∧ (lockD :: r).all fun p => isK1 p.1) ∨ (isKT k = true ∧ (lockD :: r).all fun p => isKT p.1)) : False := by
  rcases c with ⟨_, c⟩ | ⟨_, c⟩ <;> simp [lockD, isK1, isKT] at c
theorem dict_at {v : V} {kvs : List (D × D)} : ∀ {o : OV}, view S o = some (.dict kvs) → RepO K L H v o → StoR K L H S → ∃ p, v = .ref p ∧ DictAt K (mask L H) H p kvs
  | .dat d, e, r, s => by
    cases e
    cases r with
    | dk hl h r => exact ⟨_, rfl, .inl ⟨_, _, _, hl, mask_same L H _ _ h, r, rfl⟩⟩
    | dt hl h r => exact ⟨_, rfl, .inr (.inl ⟨_, _, _, hl, mask_same L H _ _ h, r, rfl⟩)⟩
  | .own n, e, ⟨a, h1, h2⟩, s => ⟨a, h1, by
    rcases (s.obj n a _ h2 e : ObjR K (mask L H) H a (.dict kvs)) with ⟨ks, vs, ds, k1, k2, k3, k4, _⟩ | h | ⟨ob, ks, vs, ds, k1, k2, k3, k4, _⟩ | h
    · exact .inl ⟨ks, vs, ds, k1, k2, k3, k4⟩
    · exact .inr (.inl h)
    · exact .inr (.inr (.inl ⟨ob, ks, vs, ds, k1, k2, k3, k4⟩))
    · exact .inr (.inr (.inr h))⟩
theorem isK1_ex {d : D} (h : isK1 d = true) : ∃ k, d = keyD k := by
  cases d with
  | int i => exact ⟨.inl i, rfl⟩
  | str x => exact ⟨.inr x, rfl⟩
  | _ => cases h
theorem isKT_ex {d : D} (h : isKT d = true) : ∃ ks, d = keysD ks := by
  cases d with
  | tuple ds =>
    obtain ⟨ks, e⟩ := Option.isSome_iff_exists.mp (show (keysOf ds).isSome = true from h)
    exact ⟨ks, by rw [keysOf_eq e]; rfl⟩
  | _ => cases h
theorem keysOf_map : ∀ ks : List L2.Key, keysOf (ks.map keyD) = some ks
  | [] => rfl
  | k :: ks => by
    have h1 : keyOf1 (keyD k) = some k := by cases k <;> rfl
    show (keyOf1 (keyD k)).bind (fun k => (keysOf (ks.map keyD)).map (k :: ·)) = _
    rw [h1, keysOf_map ks]
    rfl
theorem isKT_keys (ks : List L2.Key) : isKT (keysD ks) = true := by
  show (keysOf (ks.map keyD)).isSome = true
  rw [keysOf_map]
  rfl
theorem isKT_key (k : L2.Key) : isKT (keyD k) = false := by cases k <;> rfl
theorem isK1_key (k : L2.Key) : isK1 (keyD k) = true := by cases k <;> rfl
theorem zip_fst {κ : Type} {f : κ → D} {ks : List κ} {ds : List D} {q : D × D} (h : q ∈ (ks.map f).zip ds) : ∃ k, q.1 = f k := by
  obtain ⟨a, b⟩ := q
  obtain ⟨k, _, e⟩ := List.mem_map.mp (List.of_mem_zip h).1
  exact ⟨k, e.symm⟩
theorem valD_mem {kvs : List (D × D)} {k d : D} (h : valD kvs k = some d) : ∃ q, q ∈ kvs := by
  unfold valD at h
  cases e : kvs.find? fun p => PyData.eqv p.1 k with
  | none => rw [e] at h; cases h
  | some q => exact ⟨q, List.mem_of_find?_eq_some e⟩
/-- which kind of dict it is -/
theorem kind1 {kvs : List (D × D)} {k : D} {κ : Type} {f : κ → D} {ks : List κ} {ds : List D} (e : kvs = (ks.map f).zip ds) (hne : ∃ q, q ∈ kvs) (hf : ∀ a, isK1 (f a) = false) (c : (isK1 k = true ∧ kvs.all fun p => isK1 p.1) ∨ (isKT k = true ∧ kvs.all fun p => isKT p.1)) : isKT k = true := by
  rcases c with ⟨_, c⟩ | ⟨c, _⟩
  · obtain ⟨q, hq⟩ := hne
    have h1 := List.all_eq_true.mp c q hq
    rw [e] at hq
    obtain ⟨a, ha⟩ := zip_fst hq
    rw [ha, hf] at h1
    cases h1
  · exact c
theorem kind2 {kvs : List (D × D)} {k : D} {κ : Type} {f : κ → D} {ks : List κ} {ds : List D} (e : kvs = (ks.map f).zip ds) (hne : ∃ q, q ∈ kvs) (hf : ∀ a, isKT (f a) = false) (c : (isK1 k = true ∧ kvs.all fun p => isK1 p.1) ∨ (isKT k = true ∧ kvs.all fun p => isKT p.1)) : isK1 k = true := by
  rcases c with ⟨c, _⟩ | ⟨_, c⟩
  · exact c
  · obtain ⟨q, hq⟩ := hne
    have h1 := List.all_eq_true.mp c q hq
    rw [e] at hq
    obtain ⟨a, ha⟩ := zip_fst hq
    rw [ha, hf] at h1
    cases h1
theorem isK1_keys (ks : List L2.Key) : isK1 (keysD ks) = false := rfl
/-- a key that is held, as the dict has it -/
theorem key_tup {y : V} {o : OV} {k : List L2.Key} (e : view S o = some (keysD k)) (r : RepO K L H y o) (s : StoR K L H S) : ∃ b, y = .ref b ∧ H b = some (.tup (k.map kV)) := by
  obtain ⟨a, vs, rfl, h1, h2⟩ := view_tupH (show view S o = some (.tuple (k.map keyD)) from e) r s
  rw [reps_kVs h2] at h1
  exact ⟨a, rfl, h1⟩
theorem dget_ok {kvs : List (D × D)} {kd d : D} {p : Addr} {y : V} {o : OV} (h : dgetD kvs kd = some d) (D0 : DictAt K (mask L H) H p kvs) (e : view S o = some kd) (r : RepO K L H y o) (s : StoR K L H S) : ∃ v, DGet H p y (some v) ∧ Rep K (mask L H) v d := by
  unfold dgetD at h
  split at h
  · rename_i c
    have hne := valD_mem h
    rcases D0 with ⟨ks, vs, ds, hl, hp, rs, e2⟩ | ⟨ks, vs, ds, hl, hp, rs, e2⟩ | ⟨ob, ks, vs, ds, hl, hp, rs, e2⟩ | ⟨ob, ks, vs, ds, hl, hp, rs, e2⟩
    rotate_left 2
    · rw [e2] at c; exact (lock_no c).elim
    · rw [e2] at c; exact (lock_no c).elim
    · obtain ⟨k, rfl⟩ := isK1_ex (kind2 e2 hne isKT_key c)
      rw [e2] at h
      obtain ⟨v, h1, h2⟩ := (valD_rep keyD eqv_key k hl rs).1 d h
      refine ⟨v, ?_, h2⟩
      rw [view_key e r s, ← h1]
      exact DGet.k hp
    · obtain ⟨k, rfl⟩ := isKT_ex (kind1 e2 hne isK1_keys c)
      rw [e2] at h
      obtain ⟨v, h1, h2⟩ := (valD_rep keysD eqv_keys k hl rs).1 d h
      obtain ⟨b, rfl, hb⟩ := key_tup e r s
      refine ⟨v, ?_, h2⟩
      rw [← h1]
      exact DGet.t hp hb
  · cases h
end
section
variable {X : Cx} {C : Str → Value} {W : WX} {a b : Expr} {pos : Pos} {fa fb : E1}
theorem ri_ixA (hu : X.A.units + 1 < cLine) : IxR X (rOf X.K ixA) := by
  intro value slice pins s σ H x y v u Q I rx ry h hs
  obtain ⟨L, S, a, b, d, so, ra, rb, e, q⟩ := h
  unfold ixA at e
  split at e
  · rename_i kvs h1
    obtain ⟨p, rfl, D0⟩ := dict_at h1 ra so
    obtain ⟨kd, e1, e2⟩ := opt_bind e
    obtain ⟨w, g, rw'⟩ := dget_ok e2 D0 e1 rb so
    obtain rfl : v = Value.ref p := rx
    refine tail_any (dict_typeIs I g) PySem.F.slot_dict_getitem.lookup (d_getItem hu I g ry fun w' s' I' r' => ⟨w, H, I', r', q _ _ Step.refl so rw'⟩) hs
  · exact ri_ix value slice pins s σ H x y v u Q I rx ry ⟨L, S, a, b, d, so, ra, rb, e, q⟩ hs
theorem de_ixA (hu : X.A.units + 1 < cLine) (ha : DE X C W a fa) (hb : DE X C W b fb) (hs : PlainIx b) : DE X C W (.Subscript a b pos) (op2 ixA fa fb) := by
  obtain ⟨ta, p1, s1⟩ := ha.ex
  obtain ⟨tb, p2, s2⟩ := hb.ex
  exact ⟨_, pe_ix (ri_ixA hu) p1 p2 hs, sm_op s1 s2⟩
end
theorem hu2_of {A : Around} {k : Nat} (hr : Room k A) : A.units + 2 < cLine := Nat.lt_of_le_of_lt (Nat.add_le_add_left (by decide : 2 ≤ 64) _) hr.units
/-! ### stores -/
inductive RepKv {κ : Type} (K : PySem.W.Frag) (G : Hp) (f : κ → D) : List (κ × V) → List (D × D) → Prop
  | nil : RepKv K G f [] []
  | cons {k : κ} {v : V} {d : D} {xs : List (κ × V)} {ys : List (D × D)} : Rep K G v d → RepKv K G f xs ys → RepKv K G f ((k, v) :: xs) ((f k, d) :: ys)
def putD (kvs : List (D × D)) (k v : D) : List (D × D) := if (kvs.any fun p => PyData.eqv p.1 k) = true then kvs.map (fun p => if PyData.eqv p.1 k = true then (p.1, v) else p) else kvs ++ [(k, v)]
section
variable {κ : Type} {K : PySem.W.Frag} {G G' H : Hp} {f : κ → D}
theorem RepKv.of : ∀ {ks : List κ} {vs : List V} {ds : List D}, ks.length = vs.length → Reps K G vs ds → RepKv K G f (ks.zip vs) ((ks.map f).zip ds)
  | [], [], _, _, .nil => .nil
  | [], _ :: _, _, hl, _ => (by simp at hl)
  | _ :: _, [], _, hl, _ => (by simp at hl)
  | k :: ks, v :: vs, _, hl, r => by
    cases r with
    | cons h t => exact .cons h (RepKv.of (by simpa using hl) t)
theorem RepKv.out {xs : List (κ × V)} {ys : List (D × D)} (r : RepKv K G f xs ys) : ∃ (ks : List κ) (vs : List V) (ds : List D), ks.length = vs.length ∧ xs = ks.zip vs ∧ Reps K G vs ds ∧ ys = (ks.map f).zip ds := by
  induction r with
  | nil => exact ⟨[], [], [], rfl, rfl, .nil, rfl⟩
  | cons h t ih =>
    obtain ⟨ks, vs, ds, h1, rfl, h3, rfl⟩ := ih
    exact ⟨_ :: ks, _ :: vs, _ :: ds, by simp [h1], rfl, .cons h h3, rfl⟩
theorem RepKv.mono (e : Same G G') {xs : List (κ × V)} {ys : List (D × D)} (r : RepKv K G f xs ys) : RepKv K G' f xs ys := by
  induction r with
  | nil => exact .nil
  | cons h t ih => exact .cons (h.mono e) ih
theorem RepKv.length {xs : List (κ × V)} {ys : List (D × D)} (r : RepKv K G f xs ys) : xs.length = ys.length := by
  induction r with
  | nil => rfl
  | cons h t ih => simp [ih]
theorem RepKv.put [DecidableEq κ] (hf : ∀ a b, PyData.eqv (f a) (f b) = decide (a = b)) {xs : List (κ × V)} {ys : List (D × D)} (r : RepKv K G f xs ys) (k : κ) {v : V} {d : D} (rv : Rep K G v d) : RepKv K G f (putK xs k v) (putD ys (f k) d) := by
  have e1 : (xs.any fun kv => decide (kv.1 = k)) = (ys.any fun p => PyData.eqv p.1 (f k)) := by
    induction r with
    | nil => rfl
    | cons h t ih => simp [hf, ih]
  have e2 : RepKv K G f (xs.map fun kv => if kv.1 = k then (kv.1, v) else kv) (ys.map fun p => if PyData.eqv p.1 (f k) = true then (p.1, d) else p) := by
    clear e1
    induction r with
    | nil => exact .nil
    | @cons k' v' d' xs ys h t ih =>
      rw [List.map_cons, List.map_cons]
      by_cases c : k' = k
      · have c2 : PyData.eqv (f k') (f k) = true := by rw [hf]; simpa using c
        simp only [if_pos c, if_pos c2]
        exact .cons rv ih
      · have c2 : ¬ PyData.eqv (f k') (f k) = true := by rw [hf]; simpa using c
        simp only [if_neg c, if_neg c2]
        exact .cons h ih
  have e3 : RepKv K G f (xs ++ [(k, v)]) (ys ++ [(f k, d)]) := by
    clear e1 e2
    induction r with
    | nil => exact .cons rv .nil
    | cons h t ih => exact .cons h ih
  unfold putK putD
  rw [e1]
  split
  · exact e2
  · exact e3
end
def dputD (kvs : List (D × D)) (k v : D) : Option (List (D × D)) := if kvs.length < sizeLine ∧ kvs ≠ [] ∧ ((isK1 k = true ∧ kvs.all fun p => isK1 p.1) ∨ (isKT k = true ∧ kvs.all fun p => isKT p.1)) then some (putD kvs k v) else none
theorem ne_mem {α : Type} {l : List α} (h : l ≠ []) : ∃ q, q ∈ l := by
  cases l with
  | nil => exact absurd rfl h
  | cons a r => exact ⟨a, by simp⟩
section
variable {K : PySem.W.Frag} {H : Hp} {L : List Addr} {S : Sto}
/-- a store into an owned dict -/
theorem dput_ok {kvs kvs' : List (D × D)} {kd d : D} {p : Addr} {y v : V} {o : OV} {n : Nat} (h : dputD kvs kd d = some kvs') (so : StoR K L H S) (hL : L[n]? = some p) (hS : S[n]? = some (.dict kvs)) (e : view S o = some kd) (r : RepO K L H y o) (rv : Rep K (mask L H) v d) :
    ∃ H', DPut H p y v H' ∧ Step L H L H' ∧ StoR K L H' (S.set n (.dict kvs')) := by
  have D0 : ObjR K (mask L H) H p (.dict kvs) := so.obj n p _ hL hS
  unfold dputD at h
  split at h
  · rename_i c
    obtain ⟨c1, c2, c3⟩ := c
    cases h
    have hne := ne_mem c2
    rcases D0 with ⟨ks, vs, ds, hl, hp, rs, e2, _⟩ | ⟨ks, vs, ds, hl, hp, rs, e2⟩ | ⟨ob, ks, vs, ds, hl, hp, rs, e2, _⟩ | ⟨ob, ks, vs, ds, hl, hp, rs, e2⟩
    rotate_left 2
    · rw [e2] at c3; exact (lock_no c3).elim
    · rw [e2] at c3; exact (lock_no c3).elim
    · obtain ⟨k, rfl⟩ := isK1_ex (kind2 e2 hne isKT_key c3)
      have rk : RepKv K (mask L H) keyD (ks.zip vs) kvs := by rw [e2]; exact RepKv.of hl rs
      obtain ⟨ks', vs', ds', h1, h2, h3, h4⟩ := (rk.put eqv_key k rv).out
      have hz : (ks.zip vs).length < sizeLine := by rw [rk.length]; exact c1
      have hk' : ks' ≠ [] := by
        rintro rfl
        have h5 : putD kvs (keyD k) d = [] := h4
        unfold putD at h5
        split at h5
        · rename_i c5
          cases kvs with
          | nil => cases c5
          | cons x r => cases h5
        · simp at h5
      obtain ⟨w1, w2⟩ := so.write (o := .dK (putK (ks.zip vs) k v)) hL (d := .dict (putD kvs (keyD k) d)) (.inl ⟨ks', vs', ds', h1, by rw [upd_same, h2], h3, h4, hk'⟩) (nf_of hp)
      refine ⟨_, ?_, w1, w2⟩
      rw [view_key e r so]
      exact DPut.k hp hz
    · obtain ⟨k, rfl⟩ := isKT_ex (kind1 e2 hne isK1_keys c3)
      have rk : RepKv K (mask L H) keysD (ks.zip vs) kvs := by rw [e2]; exact RepKv.of hl rs
      obtain ⟨ks', vs', ds', h1, h2, h3, h4⟩ := (rk.put eqv_keys k rv).out
      have hz : (ks.zip vs).length < sizeLine := by rw [rk.length]; exact c1
      obtain ⟨w1, w2⟩ := so.write (o := .dT (putK (ks.zip vs) k v)) hL (d := .dict (putD kvs (keysD k) d)) (.inr (.inl ⟨ks', vs', ds', h1, by rw [upd_same, h2], h3, h4⟩)) (nf_of hp)
      obtain ⟨b, rfl, hb⟩ := key_tup e r so
      exact ⟨_, DPut.t hp hb hz, w1, w2⟩
  · cases h
end
def sPutA (fo fi fe : E1) : SS := sE fe fun v => sE fo fun o => sE fi fun i ρ S => match v, o with
  | .dat d, .own n => match S[n]? with
    | some (.dict kvs) => (view S i).bind fun k => (dputD kvs k d).bind fun kvs' => some (.nx, ρ, S.set n (.dict kvs'))
    | _ => none
  | _, _ => none
section
variable {X : Cx} {C : Str → Value} {W : WX} {o i e : Expr} {fo fi fe : E1} {pos p2 : Pos}
theorem ds_putA (hu : X.A.units + 1 < cLine) (ho : DE X C W o fo) (hi : DE X C W i fi) (he : DE X C W e fe) (hs : swapsWith e (some (.Subscript o i p2)) pos.line X.env = pure false := by rfl) : DS X C W (.Assign [.Subscript o i p2] e pos) (sPutA fo fi fe) := by
  obtain ⟨t1, p1, s1⟩ := ho.ex
  obtain ⟨t2, q2, s2⟩ := hi.ex
  obtain ⟨t3, p3, s3⟩ := he.ex
  refine ⟨_, ps_dput hu p1 q2 p3 hs, fun ρ S fl ρ' S' h L σ H D en so po => ?_⟩
  refine s3.stm h en so po fun x S1 L1 H1 v h1 st1 so1 r1 en1 po1 => ?_
  refine s1.stm h1 en1 so1 po1 fun y S2 L2 H2 u h2 st2 so2 r2 en2 po2 => ?_
  refine s2.stm h2 en2 so2 po2 fun z S3 L3 H3 w h3 st3 so3 r3 en3 po3 => ?_
  split at h3
  · rename_i d n
    split at h3
    · rename_i kvs hn
      obtain ⟨k, e1, h4⟩ := opt_bind h3
      obtain ⟨kvs', e2, h5⟩ := opt_bind h4
      cases h5
      obtain ⟨a, ea, hL⟩ := r2.step st3
      have rd := (r1.step st2).step st3
      obtain ⟨H4, g, k1, k2⟩ := dput_ok e2 so3 hL hn e1 r3 rd
      exact ⟨a, H4, ea, g, po3.nx rfl L3 _ σ k1 k2 (en3.step k1)⟩
    · cases h3
  · cases h3
end
/-! ### dict(a list of pairs whose keys are tuples) -/
def pairsT : List D → Option (List (D × D))
  | [] => some []
  | .tuple [k, v] :: r => if isKT k = true then (pairsT r).map ((k, v) :: ·) else none
  | _ => none
def mergeD (kvs : List (D × D)) : List (D × D) := kvs.foldl (fun acc p => putD acc p.1 p.2) []
/-- a pair of the list: its tuple, its key's tuple, the key, the value -/
abbrev Ent := Addr × Addr × List L2.Key × V
section
variable {K : PySem.W.Frag} {G H : Hp} {L : List Addr} {S : Sto}
theorem pairs_ents : ∀ {vs : List V} {ds : List D} {kvs : List (D × D)}, Reps K (mask L H) vs ds → pairsT ds = some kvs → ∃ es : List Ent, vs = es.map (fun e => .ref e.1) ∧ (∀ e ∈ es, H e.1 = some (.tup [.ref e.2.1, e.2.2.2]) ∧ H e.2.1 = some (.tup (e.2.2.1.map kV))) ∧ RepKv K (mask L H) keysD (es.map fun e => (e.2.2.1, e.2.2.2)) kvs
  | _, _, _, .nil, h => by
    cases h
    exact ⟨[], rfl, fun _ h => (by cases h), .nil⟩
  | _, _, kvs, .cons (v := v) (d := d) (ds := ds) h t, e => by
    cases d with
    | tuple l =>
      match l, h, e with
      | [k, w], h, e =>
        have e : (if isKT k = true then (pairsT ds).map ((k, w) :: ·) else none) = some kvs := e
        split at e
        · rename_i hk
          cases q : pairsT ds with
          | none => rw [q] at e; cases e
          | some kvs' =>
            rw [q] at e
            cases e
            obtain ⟨es, h1, h2, h3⟩ := pairs_ents t q
            obtain ⟨ks, rfl⟩ := isKT_ex hk
            cases h with
            | tup m1 m2 =>
              cases m2 with
              | cons n1 n2 =>
                cases n2 with
                | cons n3 n4 =>
                  cases n4
                  rename_i p vk vw
                  cases (show Rep K (mask L H) vk (.tuple (ks.map keyD)) from n1) with
                  | tup m3 m4 =>
                    rename_i b us
                    rw [reps_kVs m4] at m3
                    refine ⟨(p, b, ks, vw) :: es, by rw [h1]; rfl, fun e he => ?_, .cons n3 h3⟩
                    rcases List.mem_cons.mp he with rfl | he
                    · exact ⟨mask_same L H _ _ m1, mask_same L H _ _ m3⟩
                    · exact h2 e he
        · cases e
      | [], _, e => cases e
      | [_], _, e => cases e
      | _ :: _ :: _ :: _, _, e => cases e
    | _ => cases e
theorem foldKv {f : List L2.Key → D} (hf : ∀ a b, PyData.eqv (f a) (f b) = decide (a = b)) {xs : List (List L2.Key × V)} {ys : List (D × D)} (z : RepKv K G f xs ys) : ∀ {acc : List (List L2.Key × V)} {accD : List (D × D)}, RepKv K G f acc accD →
    RepKv K G f (xs.foldl (fun a p => putK a p.1 p.2) acc) (ys.foldl (fun a p => putD a p.1 p.2) accD) := by
  induction z with
  | nil => exact fun r => r
  | cons h t ih => exact fun r => ih (r.put hf _ h)
end
def dictS (S : Sto) (os : List OV) : Option (List (D × D)) := match os with
  | [o] => (viewL S o).bind fun ds => (pairsT ds).map mergeD
  | _ => none
/-- what makes a new dict, owned from here on -/
def rOfDT (K : PySem.W.Frag) (g : Sto → List OV → Option (List (D × D))) : List V → Hp → VK → Prop := fun xs H Q => ∃ L S os kvs, StoR K L H S ∧ RepOs K L H xs os ∧ g S os = some kvs ∧
  ∀ p kv, H p = none → RepKv K (mask L H) keysD kv kvs → Q (.ref p) (upd H p (.dT kv))
section
variable {X : Cx}
theorem ents_heap {pins : List (Addr × Obj)} {σ : L2.St} {H : Hp} {s : Shared} (I : Inv X pins σ H s) : ∀ {es : List Ent}, (∀ e ∈ es, H e.1 = some (.tup [.ref e.2.1, e.2.2.2]) ∧ H e.2.1 = some (.tup (e.2.2.1.map kV))) →
    ∃ ws : List Value, ws.length = es.length ∧ Vals (es.map fun e => e.2.2.2) ws ∧ ∀ (j : Nat) (e : Ent) (w : Value), es[j]? = some e → ws[j]? = some w → IsTup s.heap e.1 #[.ref e.2.1, w]
  | [], _ => ⟨[], rfl, .nil, fun j e w h => by simp at h⟩
  | e :: es, h => by
    obtain ⟨ws, h1, h2, h3⟩ := ents_heap I (es := es) fun e he => h e (by simp [he])
    obtain ⟨its, rv, ht, _⟩ := I.tuple (SqT.of (h e (by simp)).1)
    cases rv with
    | cons r1 r2 =>
      cases r2 with
      | cons r3 r4 =>
        cases r4
        cases r1
        rename_i w
        refine ⟨w :: ws, by simp [h1], .cons r3 h2, fun j e' w' k1 k2 => ?_⟩
        cases j with
        | zero =>
          simp at k1 k2
          subst k1
          subst k2
          exact ht
        | succ j => exact h3 j e' w' (by simpa using k1) (by simpa using k2)
theorem kt_fold {H : Hp} {d : Addr} : ∀ {es : List Ent} {ws : List Value} {acc : List (List L2.Key × V)} {xs : List (List L2.Key × Addr × Value)}, (∀ e ∈ es, H e.2.1 = some (.tup (e.2.2.1.map kV))) → Vals (es.map fun e => e.2.2.2) ws → KT H acc xs →
    KT H ((es.map fun e => (e.2.2.1, e.2.2.2)).foldl (fun a p => putK a p.1 p.2) acc) (storedAllH xs ((es.zip ws).map fun p => (p.1.2.2.1, p.1.2.1, p.2)))
  | [], ws, acc, xs, _, r, k => by
    cases r
    exact k
  | e :: es, ws, acc, xs, h, r, k => by
    cases (show Vals (e.2.2.2 :: es.map fun e => e.2.2.2) ws from r) with
    | cons r1 r2 =>
      exact kt_fold (d := d) (es := es) (fun e he => h e (by simp [he])) r2 (k.put e.2.2.1 (h e (by simp)) r1)
theorem len_fold {κ : Type} [DecidableEq κ] : ∀ (ps acc : List (κ × V)), (ps.foldl (fun a p => putK a p.1 p.2) acc).length ≤ acc.length + ps.length
  | [], acc => by simp
  | p :: r, acc => by
    have h1 := len_fold r (putK acc p.1 p.2)
    have h2 := length_putK acc p.1 p.2
    simp only [List.foldl_cons, List.length_cons]
    omega
theorem rc_dictT (hcalm : X.calm = true) (hu : X.A.units + 2 < cLine) : CallR X (.type "dict") (rOfDT X.K dictS) := by
  intro pins s σ H xs us Q I r h
  obtain ⟨L, S, os, kvs, so, ro, e, q⟩ := h
  unfold dictS at e
  split at e
  · obtain ⟨v, rfl, rv⟩ := reps_one ro
    obtain ⟨ds, e1, e2⟩ := opt_bind e
    cases e3 : pairsT ds with
    | none => rw [e3] at e2; cases e2
    | some kv0 =>
      rw [e3] at e2
      cases e2
      obtain ⟨a, vs, rfl, m, rs⟩ := view_list (viewL_eq e1) rv so
      obtain ⟨u, rfl, ru⟩ := Vals.one r
      cases ru
      obtain ⟨es, rfl, he, rk⟩ := pairs_ents rs e3
      obtain ⟨its, vr, pl, hz⟩ := I.list m
      obtain ⟨ws, w1, w2, w3⟩ := ents_heap I he
      have hlen : es.length ≤ sizeLine := by simpa using hz
      obtain ⟨o, n, ho, hc, hd, hdat⟩ := pl
      have hits : its = es.map fun e => Value.ref e.1 := by
        clear hdat ho hz w3 w2 w1 rk e3 he rs m rv r e e1 hlen
        induction es generalizing its with
        | nil => cases vr; rfl
        | cons x t ih =>
          cases (show Vals (V.ref x.1 :: t.map fun e => V.ref e.1) its from vr) with
          | cons r1 r2 =>
            cases r1
            rw [ih _ r2]
            rfl
      subst hits
      have PI : PairItems s.heap (es.map fun e => Value.ref e.1).toArray (fun j => (es.map (·.1)).getD j 0) ((es.zip ws).map fun p => (Value.ref p.1.2.1, p.2)) := by
        refine ⟨by simp [w1], fun j k v hj => ?_⟩
        rw [List.getElem?_map] at hj
        cases c : (es.zip ws)[j]? with
        | none => rw [c] at hj; cases hj
        | some p =>
          rw [c] at hj
          obtain ⟨p1, p2⟩ := p
          simp at hj
          obtain ⟨rfl, rfl⟩ := hj
          obtain ⟨c1, c2⟩ := List.getElem?_zip_eq_some.mp c
          refine ⟨by simp [c1], ?_⟩
          have := w3 j p1 p2 c1 c2
          have eT : (es.map (·.1)).getD j 0 = p1.1 := by simp [c1]
          show PairAt s.heap ((es.map (·.1)).getD j 0) _ _
          rw [eT]
          exact .inl this
      have lz : (es.zip ws).length = es.length := by simp [w1]
      refine call_dict_pairsH (knd := tupleKind (mixKind X.prog X.w)) (ps := (es.zip ws).map fun p => (p.1.2.2.1, p.1.2.1, p.2)) (PairArg.list a _ _ _) (I.ok.hd hcalm) (tupleKind_room_in1 (show X.A.in1.units + 1 < cLine from hu)) ⟨⟨o, n, ho, hc, hd, hdat⟩, PI⟩
        ⟨by simp, fun i key v hi => ?_⟩ (fun h' hk x hx => ?_) (by simp [w1]; exact hlen) fun h' tk hd' hk => ?_
      · have hi : ((es.zip ws).map fun p => (Value.ref p.1.2.1, p.2))[i]? = some (key, v) := hi
        rw [List.getElem?_map] at hi
        cases c : (es.zip ws)[i]? with
        | none => rw [c] at hi; cases hi
        | some p =>
          rw [c] at hi
          simp at hi
          obtain ⟨rfl, rfl⟩ := hi
          exact ⟨p.1.2.2.1, p.1.2.1, by rw [List.getElem?_map, c]; rfl, rfl⟩
      · obtain ⟨p, hp, rfl⟩ := List.mem_map.mp hx
        obtain ⟨p1, p2⟩ := p
        have h1 := (he p1 (List.of_mem_zip hp).1).2
        obtain ⟨o', arr, m', k1, k2, k3, k4⟩ := key_of I.hok h1
        exact ⟨o', arr, m', hk _ _ (Nat.ne_of_lt (Heap.lt_size k1)) (fun z => nomatch z) k1, k2, k3, k4⟩
      · have hm : (s.heap.objs.size == sysModules) = false := beq_eq_false_iff_ne.mpr (Nat.ne_of_gt I.big)
        have keep : ∀ b o, s.heap.get? b = some o → h'.get? b = some o := fun b o e => hk b o (fun z => nomatch z) e
        have hf : H s.heap.objs.size = none := I.hok.fresh (Nat.le_refl _)
        have kt := kt_fold (H := H) (d := 0) (acc := []) (xs := []) (fun e hm => (he e hm).2) w2 .nil
        have rk2 := foldKv eqv_keys rk .nil
        obtain ⟨o2, es2, ep2, g1, g2, g3, g4, _, g5⟩ := hd'
        have hlen2 := len_fold (es.map fun e => (e.2.2.1, e.2.2.2)) []
        refine ⟨.ref s.heap.objs.size, _, I.laid (t' := tk) (o := .dT ((es.map fun e => (e.2.2.1, e.2.2.2)).foldl (fun a p => putK a p.1 p.2) [])) keep (Nat.le_refl _) ?_, rfl, q _ _ hf rk2⟩
        refine ⟨by simp at hlen2; omega, hm, _, kt.keeps fun b ys hb => ?_, o2, es2, ep2, g1, g2, g3, g4, g5⟩
        rw [upd_ne (ne_of_none hb hf)]
        exact hb
  · cases e
end
def ownD (g : Sto → List OV → Option (List (D × D))) (fs : EL) : E1 := fun ρ S => (fs ρ S).bind fun os S1 => (g S1 os).bind fun kvs => ret (.own S1.length) (S1 ++ [.dict kvs])
section
variable {X : Cx} {C : Str → Value} {W : WX} {e : Expr} {es : List Expr} {fs : EL} {p pos : Pos} {x : Str} {K : PySem.W.Frag}
theorem own_dT {L : List Addr} {H : Hp} {S : Sto} (so : StoR K L H S) {p : Addr} (hp : H p = none) {kv : List (List L2.Key × V)} {kvs : List (D × D)} (rk : RepKv K (mask L H) keysD kv kvs) :
    Step L H (L ++ [p]) (upd H p (.dT kv)) ∧ StoR K (L ++ [p]) (upd H p (.dT kv)) (S ++ [.dict kvs]) ∧ RepO K (L ++ [p]) (upd H p (.dT kv)) (.ref p) (.own S.length) := by
  obtain ⟨ks, vs, ds, h1, h2, h3, h4⟩ := rk.out
  obtain ⟨k1, k2⟩ := so.own (o := .dT kv) hp (d := .dict kvs) (.inr (.inl ⟨ks, vs, ds, h1, by rw [upd_same, h2], h3, h4⟩))
  exact ⟨k1, k2, p, rfl, by rw [← so.len, List.getElem?_append_right (Nat.le_refl _), Nat.sub_self]; rfl⟩
theorem de_dictT (hcalm : X.calm = true) (hu : X.A.units + 2 < cLine) (hg : Gl X "dict") (hm : X.mg "dict" = none) (ha : DA X C W [e] fs)
    (he : starEach [e] X.env = (false, eval e X.env) :: starEach [] X.env := by rfl) (hpl : (backTo pos (starEach [] X.env)).any (·.1) = false := by rfl) : DE X C W (.Call (.Name "dict" p) [e] [] pos) (ownD dictS fs) := by
  obtain ⟨t, pa, s⟩ := ha.ex
  refine ⟨_, pe_callTy (rc_dictT hcalm hu) hg hm (by decide +kernel) pa (by decide) (by decide) he hpl, fun ρ S r S' h L σ H Q en so po => ?_⟩
  refine s.bind h en so po fun os S1 L1 H1 vs h1 st1 so1 r1 en1 po1 => ?_
  obtain ⟨kvs, e1, h2⟩ := opt_bind h1
  refine ⟨L1, S1, os, kvs, so1, r1, e1, fun q kv hq rk => ?_⟩
  obtain ⟨k1, k2, k3⟩ := own_dT so1 hq rk
  exact po1.done (S0 := S1 ++ [.dict kvs]) h2 k1 k2 _ k3
end
section
variable {X : Cx} {C : Str → Value} {W : WX} {elt tg iter : Expr} {ifs : List Expr} {scope : Scope} {pos : Pos} {fi : EI} {t : Tg} {is : List Nat} {tst : EB} {fe : E1} {own : List (Str × Nat)}
/-- y = [..] on one line, y a local; the list is owned from here on -/
theorem ds_setLcO (i : Nat) {y : Str} {py spos : Pos} (hc : X.calm = true) (hN : X.N.Nodup) (hy : X.N[i]? = some y) (hyl : X.env.scope.names.lookup y = some .local) (hsw : swapsWith (.ListComp elt [⟨tg, iter, ifs, 0⟩] scope pos) (some (.Name y py)) spos.line X.env = pure true)
    (hi : DI X C W tg iter fi) (ok : BlkOk X.N X.env.scope scope own) (hv : ∀ i ∈ is, i ∈ own.map (·.2))
    (hg : ∀ (s : Shared) (H : Hp) (D : Addr) (cl : List (Str × Addr)) (fp : List Addr), DG (X.blk s H scope (compEnvC scope cl D X.env) fp) tg is t)
    (ht : ∀ (s : Shared) (H : Hp) (D : Addr) (cl : List (Str × Addr)) (fp : List Addr), DTs (X.blk s H scope (compEnvC scope cl D X.env) fp) C W0 ifs tst)
    (he : ∀ (s : Shared) (H : Hp) (D : Addr) (cl : List (Str × Addr)) (fp : List Addr), DE (X.blk s H scope (compEnvC scope cl D X.env) fp) C W0 elt fe) (hs : ∀ x, foldedSetIterable iter X.env x = pure x := by intro _; rfl) :
    DS X C W (.Assign [.Name y py] (.ListComp elt [⟨tg, iter, ifs, 0⟩] scope pos) spos) (sAsg (ownL (fLc fi t tst fe (own.map (·.2)))) (tgN i)) := by
  obtain ⟨wi, p, s⟩ := hi.ex
  refine ⟨_, ps_setLc (g := canG X.K is t) (tt := canT X.K C W0 tst) (te := canE X.K C W0 fe) hc hN hy hyl hsw p ok (fun s H D cl fp => (hg s H D cl fp).can) (fun s H D cl fp => (ht s H D cl fp).run) (fun s H D cl fp => (he s H D cl fp).can) hs, ?_⟩
  refine sm_asg (fun ρ S r S' h L σ H Q en so po => ?_) smg_n
  refine (sm_lc s hv).bind h en so po fun ds S1 L1 H1 q vs h1 st1 so1 hq rs en1 po1 => ?_
  obtain ⟨k1, k2, k3⟩ := own_lst so1 hq rs
  exact po1.done (S0 := S1 ++ [.list ds]) h1 k1 k2 _ k3
end
end Dk
set_option Elab.async false
set_option linter.all false
set_option maxRecDepth 100000
set_option maxHeartbeats 4000000
/-! sorted(set(xs)) of up to a thousand ints, fewer than 64 of which differ. -/
namespace Dk
open PySem PySem.Spec PyProof.Rows L2
section
variable {X : Cx}
theorem set_size {w : World} {h : Heap} {a : Addr} {zs : List Int} {c : Nat} (r : SetR w h a (fun j => decide (j ∈ zs)) c) : c = (sortU zs).length := by
  obtain ⟨o, es, ep, t, _, _, _, _, nd, mem, _, _, e, _⟩ := r
  have nd2 : (sortU zs).Nodup := by
    rw [List.nodup_iff_pairwise_ne]
    exact (sortU_up zs).imp fun h => Int.ne_of_lt h
  have p := (List.perm_ext_iff_of_nodup nd nd2).mpr fun k => by rw [← mem, sortU_mem]; simp
  rw [← p.length_eq, List.length_map, Array.length_toList]
  exact e.symm
def rSetE (K : PySem.W.Frag) (w : World) : List V → Hp → VK → Prop := fun xs H Q => ∃ (a : Addr) (ns : List Int), xs = [V.ref a] ∧ SqL K H a (ns.map V.int) ∧ ns.length ≤ 1000 ∧
  ∀ p, H p = none → Q (.ref p) (upd H p (SetO w p (fun j => decide (j ∈ ns)) (sortU ns).length))
theorem cr_setE (hc : X.calm = true) : CallR X (.type "set") (rSetE X.K X.w) := by
  intro pins s σ H xs us Q I r h
  obtain ⟨a, ns, rfl, hl, hz, q⟩ := h
  obtain ⟨its, rv, pl, _⟩ := I.list hl
  rw [Vals.ref1 r]
  refine set_of_ints (I.ok.hd hc) pl.isList (by simpa using Vals.ints rv) (by unfold scanBound; omega) fun s' full => ?_
  obtain ⟨h', tk, c, rfl, sr, hc', keep⟩ := full
  have ec := set_size sr
  subst ec
  have hn := I.hok.fresh (Nat.le_refl s.heap.objs.size)
  exact ⟨.ref s.heap.objs.size, _, I.laid (t' := tk) keep (Nat.le_refl _) (setO_new sr), rfl, q _ hn⟩
end
def fSortSetB (fe : E1) : EF := fun ρ S => (fe ρ S).bind fun o S1 => (viewL S1 o).bind fun ds => (asInts ds).bind fun ns => if ns.length ≤ 1000 ∧ (sortU ns).length < 64 then ret ((sortU ns).map .int) S1 else none
section
variable {X : Cx} {C : Str → Value} {W : WX} {e : Expr} {fe : E1} {p p2 pos pos2 : Pos}
theorem df_sortSetB (hc : X.calm = true) (hg : Gl X "sorted") (hm : X.mg "sorted" = none) (hg2 : Gl X "set") (hm2 : X.mg "set" = none) (h : DE X C W e fe)
    (k1 : starEach [e] X.env = (false, eval e X.env) :: starEach [] X.env := by rfl) (k2 : (backTo pos2 (starEach [] X.env)).any (·.1) = false := by rfl)
    (k3 : starEach [.Call (.Name "set" p2) [e] [] pos2] X.env = (false, eval (.Call (.Name "set" p2) [e] [] pos2) X.env) :: starEach [] X.env := by rfl) (k4 : (backTo pos (starEach [] X.env)).any (·.1) = false := by rfl) :
    DF X C W (.Call (.Name "sorted" p) [.Call (.Name "set" p2) [e] [] pos2] [] pos) (fSortSetB fe) := by
  obtain ⟨t, pe, s⟩ := h.ex
  have inner := pe_callTy (pos := pos2) (p := p2) (cr_setE hc) hg2 hm2 (by decide +kernel) (pa_cons pe pa_nil k1) (by decide) (by decide) k1 k2
  refine ⟨_, pe_callB (pos := pos) (p := p) (cr_sortedSet hc) hg hm (by decide +kernel) (pa_cons inner pa_nil k3) (by decide) (by decide) k3 k4, fun ρ S r S' h L σ H Q en so po => ?_⟩
  refine s.bind h en so po fun o S1 L1 H1 v h1 st1 so1 r1 en1 po1 => ?_
  obtain ⟨ds, e1, h2⟩ := opt_bind h1
  obtain ⟨ns, e2, h3⟩ := opt_bind h2
  split at h3
  · rename_i hz
    obtain ⟨a, vs, rfl, m, rs⟩ := view_list (viewL_eq e1) r1 so1
    rw [asInts_eq e2] at rs
    rw [rs.ints] at m
    refine ⟨a, ns, rfl, m, hz.1, fun q hq => ?_⟩
    refine ⟨q, _, _, rfl, upd_same, hz.2, fun ns' q2 up mem len hq2 => ?_⟩
    obtain rfl : ns' = sortU ns := up_unique up (sortU_up ns) fun k => by rw [mem, sortU_mem]; simp
    exact (po1.step (step_new hq)).done (S0 := S1) h3 Step.refl (so1.laid hq) q2 _ hq2 (Reps.of_ints _)
  · cases h3
end
end Dk
set_option Elab.async false
set_option linter.all false
set_option maxRecDepth 100000
set_option maxHeartbeats 4000000
/-! More of dicts: {i: j}, asked with in and get; d[k], x = a, b; three names at once. -/
namespace Dk
open PySem PySem.Spec L2 PyProof.Rows
/-- what a dict has under a key, perhaps nothing -/
def dfindD (kvs : List (D × D)) (k : D) : Option (Option D) := if kvs ≠ [] ∧ ((isK1 k = true ∧ kvs.all fun p => isK1 p.1) ∨ (isKT k = true ∧ kvs.all fun p => isKT p.1)) then some (valD kvs k) else none
section
variable {K : PySem.W.Frag} {L : List Addr} {H : Hp} {S : Sto}
theorem dfind_ok {kvs : List (D × D)} {kd : D} {r0 : Option D} {p : Addr} {y : V} {o : OV} (h : dfindD kvs kd = some r0) (D0 : DictAt K (mask L H) H p kvs) (e : view S o = some kd) (r : RepO K L H y o) (s : StoR K L H S) :
    ∃ v : Option V, DGet H p y v ∧ v.isSome = r0.isSome ∧ ∀ d, r0 = some d → ∃ w, v = some w ∧ Rep K (mask L H) w d := by
  unfold dfindD at h
  split at h
  · rename_i c
    obtain ⟨c1, c⟩ := c
    cases h
    have hne := ne_mem c1
    rcases D0 with ⟨ks, vs, ds, hl, hp, rs, e2⟩ | ⟨ks, vs, ds, hl, hp, rs, e2⟩ | ⟨ob, ks, vs, ds, hl, hp, rs, e2⟩ | ⟨ob, ks, vs, ds, hl, hp, rs, e2⟩
    rotate_left 2
    · rw [e2] at c; exact (lock_no c).elim
    · rw [e2] at c; exact (lock_no c).elim
    · obtain ⟨k, rfl⟩ := isK1_ex (kind2 e2 hne isKT_key c)
      rw [e2]
      obtain ⟨h1, h2⟩ := valD_rep keyD eqv_key k hl rs
      refine ⟨_, ?_, h2.symm, fun d hd => h1 d hd⟩
      rw [view_key e r s]
      exact DGet.k hp
    · obtain ⟨k, rfl⟩ := isKT_ex (kind1 e2 hne isK1_keys c)
      rw [e2]
      obtain ⟨h1, h2⟩ := valD_rep keysD eqv_keys k hl rs
      obtain ⟨b, rfl, hb⟩ := key_tup e r s
      exact ⟨_, DGet.t hp hb, h2.symm, fun d hd => h1 d hd⟩
  · cases h
end
def inA (S : Sto) (a b : OV) : Option D := match view S b with
  | some (.dict kvs) => (view S a).bind fun k => (dfindD kvs k).map fun o => .bool o.isSome
  | _ => none
def notInA (S : Sto) (a b : OV) : Option D := match view S b with
  | some (.dict kvs) => (view S a).bind fun k => (dfindD kvs k).map fun o => .bool (!o.isSome)
  | _ => none
section
variable {X : Cx}
theorem ro_inA (hu : X.A.units + 1 < cLine) : OpR X (compareOp .In) (rOf X.K inA) := by
  intro pins s σ H x y v u Q I rx ry h
  obtain ⟨L, S, a, b, d, so, ra, rb, e, q⟩ := h
  unfold inA at e
  split at e
  · rename_i kvs h1
    obtain ⟨p, rfl, D0⟩ := dict_at h1 rb so
    obtain ⟨kd, e1, e2⟩ := opt_bind e
    cases e3 : dfindD kvs kd with
    | none => rw [e3] at e2; cases e2
    | some r0 =>
      rw [e3] at e2
      cases e2
      obtain ⟨w, g, gs, _⟩ := dfind_ok e3 D0 e1 ra so
      obtain rfl : u = Value.ref p := ry
      exact d_in hu I g rx fun s' I' => ⟨.bl r0.isSome, H, I', by rw [gs]; rfl, q _ _ Step.refl so (.bl _)⟩
  · cases e
theorem ro_notInA (hu : X.A.units + 1 < cLine) : OpR X (compareOp .NotIn) (rOf X.K notInA) := by
  intro pins s σ H x y v u Q I rx ry h
  obtain ⟨L, S, a, b, d, so, ra, rb, e, q⟩ := h
  unfold notInA at e
  split at e
  · rename_i kvs h1
    obtain ⟨p, rfl, D0⟩ := dict_at h1 rb so
    obtain ⟨kd, e1, e2⟩ := opt_bind e
    cases e3 : dfindD kvs kd with
    | none => rw [e3] at e2; cases e2
    | some r0 =>
      rw [e3] at e2
      cases e2
      obtain ⟨w, g, gs, _⟩ := dfind_ok e3 D0 e1 ra so
      obtain rfl : u = Value.ref p := ry
      exact d_notIn hu I g rx fun s' I' => ⟨.bl (!r0.isSome), H, I', by rw [gs]; rfl, q _ _ Step.refl so (.bl _)⟩
  · cases e
end
/-! ### d.get(k, x) -/
def fGetA (fo fk fd : E1) : E1 := fun ρ S => (fo ρ S).bind fun o S1 => match view S1 o with
  | some (.dict _) => (fk ρ S1).bind fun k S2 => (fd ρ S2).bind fun d S3 => match view S3 o, d with
    | some (.dict kvs), .dat x => (view S3 k).bind fun kd => (dfindD kvs kd).bind fun r => ret (.dat (r.getD x)) S3
    | _, _ => none
  | _ => none
section
variable {X : Cx} {C : Str → Value} {W : WX} {o e f : Expr} {fo fk fd : E1} {apos cpos : Pos}
theorem dict_isD {K : PySem.W.Frag} {G H : Hp} {p : Addr} {kvs : List (D × D)} (h : DictAt K G H p kvs) : IsD H p := by
  rcases h with ⟨ks, vs, ds, _, h, _⟩ | ⟨ks, vs, ds, _, h, _⟩ | ⟨ob, ks, vs, ds, _, h, _⟩ | ⟨ob, ks, vs, ds, _, h, _⟩
  · exact .inl ⟨_, .inl h⟩
  · exact .inr ⟨_, .inl h⟩
  · exact .inl ⟨_, .inr ⟨_, h⟩⟩
  · exact .inr ⟨_, .inr ⟨_, h⟩⟩
theorem de_getA (hu : X.A.units + 1 < cLine) (ho : DE X C W o fo) (hk : DE X C W e fk) (hd : DE X C W f fd) (m : M2 X o "get" apos e f cpos) : DE X C W (.Call (.Attribute o "get" apos) [e, f] [] cpos) (fGetA fo fk fd) := by
  obtain ⟨t1, p1, s1⟩ := ho.ex
  obtain ⟨t2, p2, s2⟩ := hk.ex
  obtain ⟨t3, p3, s3⟩ := hd.ex
  refine ⟨_, pe_dget2 hu p1 p2 p3 m, fun ρ S r S' h L σ H Q en so po => ?_⟩
  refine s1.bind h en so po fun a S1 L1 H1 v h1 st1 so1 r1 en1 po1 => ?_
  split at h1
  · rename_i kv0 q0
    obtain ⟨p, rfl, D0⟩ := dict_at q0 r1 so1
    refine ⟨p, rfl, dict_isD D0, ?_⟩
    refine s2.bind h1 en1 so1 po1 fun k S2 L2 H2 u h2 st2 so2 r2 en2 po2 => ?_
    refine s3.bind h2 en2 so2 po2 fun d S3 L3 H3 w h3 st3 so3 r3 en3 po3 => ?_
    split at h3
    · rename_i kvs x q1
      obtain ⟨kd, e1, h4⟩ := opt_bind h3
      obtain ⟨r0, e2, h5⟩ := opt_bind h4
      obtain ⟨p', e3, D1⟩ := dict_at q1 ((r1.step st2).step st3) so3
      cases e3
      obtain ⟨w0, g, gs, gv⟩ := dfind_ok e2 D1 e1 (r2.step st3) so3
      refine ⟨w0, g, ?_⟩
      cases r0 with
      | none =>
        cases w0 with
        | some z => cases gs
        | none => exact po3.done (S0 := S3) h5 Step.refl so3 _ r3
      | some d0 =>
        obtain ⟨z, rfl, rz⟩ := gv d0 rfl
        exact po3.done (S0 := S3) h5 Step.refl so3 _ rz
    · cases h3
  · cases h1
end
/-! ### {i: j}, whole numbers made of locals -/
def fDisp1 (f g : FI) : E1 := fun ρ S => match f ρ, g ρ with
  | some i, some j => ret (.own S.length) (S ++ [.dict [(.int i, .int j)]])
  | _, _ => none
section
variable {X : Cx} {C : Str → Value} {W : WX} {a b : Expr} {f g : FI} {pos : Pos} {K : PySem.W.Frag}
theorem own_dK1 {L : List Addr} {H : Hp} {S : Sto} (so : StoR K L H S) {p : Addr} (hp : H p = none) (i j : Int) :
    Step L H (L ++ [p]) (upd H p (.dK [(.inl i, .int j)])) ∧ StoR K (L ++ [p]) (upd H p (.dK [(.inl i, .int j)])) (S ++ [.dict [(.int i, .int j)]]) ∧ RepO K (L ++ [p]) (upd H p (.dK [(.inl i, .int j)])) (.ref p) (.own S.length) := by
  obtain ⟨k1, k2⟩ := so.own (o := .dK [(.inl i, .int j)]) hp (d := .dict [(.int i, .int j)]) (.inl ⟨[.inl i], [.int j], [.int j], rfl, by rw [upd_same]; rfl, .cons (.int _) .nil, rfl, by simp⟩)
  exact ⟨k1, k2, p, rfl, by rw [← so.len, List.getElem?_append_right (Nat.le_refl _), Nat.sub_self]; rfl⟩
theorem de_disp1 (ha : DV X a f) (hb : DV X b g) : DE X C W (.Dict [some a] [b] pos) (fDisp1 f g) := by
  obtain ⟨t1, p1, s1⟩ := ha.ex
  obtain ⟨t2, p2, s2⟩ := hb.ex
  refine ⟨_, pe_disp (pps_cons p1 p2 pps_nil) rfl rfl (by simp) (show 1 ≤ 15 by decide), fun ρ S r S' h L σ H Q en so po => ?_⟩
  unfold fDisp1 at h
  split at h
  · rename_i i j e1 e2
    intro p hp
    have en1 := en.step (step_new (L := L) (o := .dK []) hp)
    refine s1 ρ i e1 L σ _ _ en1 (s2 ρ j e2 L σ _ _ en1 ?_)
    refine ⟨upd_same, [(.inl i, .int j)], rfl, show 1 ≤ 15 by decide, ?_⟩
    rw [upd_upd]
    obtain ⟨k1, k2, k3⟩ := own_dK1 so hp i j
    exact po.done (S0 := S ++ [.dict [(.int i, .int j)]]) h k1 k2 _ k3
  · cases h
end
/-! ### a, b, c = x, y, z -/
def sPar3 (i j l : Nat) (fa : EL) : SS := fun ρ S => match fa ρ S with
  | none => none
  | some (.inr e, S1) => some (.er e, ρ, S1)
  | some (.inl [a, b, c], S1) => some (.nx, ((ρ.set i (some a)).set j (some b)).set l (some c), S1)
  | some (.inl _, _) => none
section
variable {X : Cx} {C : Str → Value} {W : WX}
theorem ds_par3 {i j l : Nat} {x y z : Str} {a b c : Expr} {fa : EL} {px py pz pt pos : Pos} {kt k2 pt2} (hc : X.calm = true) (hN : X.N.Nodup) (hi : X.N[i]? = some x) (hj : X.N[j]? = some y) (hl : X.N[l]? = some z) (hij : i ≠ j) (hil : i ≠ l) (hjl : j ≠ l)
    (hx : X.env.scope.names.lookup x = some .local) (hy : X.env.scope.names.lookup y = some .local) (hz : X.env.scope.names.lookup z = some .local) (ha : DA X C W [a, b, c] fa)
    (hw : swappedStores [.Tuple [.Name x px, .Name y py, .Name z pz] kt pt] (.Tuple [a, b, c] k2 pt2) X.env = pure (some [x, y, z]) := by rfl)
    (hs : swapsWithSole [.Tuple [.Name x px, .Name y py, .Name z pz] kt pt] (.Tuple [a, b, c] k2 pt2) pos.line X.env = pure false := by rfl) :
    DS X C W (.Assign [.Tuple [.Name x px, .Name y py, .Name z pz] kt pt] (.Tuple [a, b, c] k2 pt2) pos) (sPar3 i j l fa) := by
  obtain ⟨t, p, s⟩ := ha.ex
  refine ⟨_, ps_par3 hc hN hi hj hl hij hil hjl hx hy hz p hw hs, fun ρ S fl ρ' S' h L σ H D en so po => ?_⟩
  unfold sPar3 at h
  split at h
  · cases h
  · rename_i e S1 q
    cases h
    exact s ρ S _ _ q L σ H _ en so ⟨fun b z => (by cases z), fun e' he L' H' st so' cls d x => po.er e' (by cases he; rfl) L' H' σ cls d st so' (en.step st) x⟩
  · rename_i o o' o'' S1 q
    cases h
    refine s ρ S _ _ q L σ H _ en so ⟨fun b z L' H' st so' vs rv => ?_, fun e' he => by cases he⟩
    cases z
    obtain ⟨v, w, u, rfl, r1, r2, r3⟩ := (show ∃ v w u, vs = [v, w, u] ∧ RepO X.K L' H' v o ∧ RepO X.K L' H' w o' ∧ RepO X.K L' H' u o'' by
      cases rv with
      | cons h1 t =>
        cases t with
        | cons h2 t2 =>
          cases t2 with
          | cons h3 t3 => cases t3; exact ⟨_, _, _, rfl, h1, h2, h3⟩)
    exact ⟨v, w, u, rfl, po.nx rfl L' H' _ st so' ((((en.step st).set r1 i).set r2 j).set r3 l)⟩
  · cases h
end
/-! ### d[k], x = a, b -/
def sPutPar (fo fi : E1) (j : Nat) (fs : EL) : SS := sE (fTup fs) fun v => match v with
  | .dat (.tuple [a, b]) => sE fo fun o => sE fi fun i ρ S => match o with
    | .own n => match S[n]? with
      | some (.dict kvs) => (view S i).bind fun k => (dputD kvs k a).bind fun kvs' => some (.nx, ρ.set j (some (.dat b)), S.set n (.dict kvs'))
      | _ => none
    | _ => none
  | _ => fun _ _ => none
section
variable {X : Cx} {C : Str → Value} {W : WX} {o i a b : Expr} {fo fi : E1} {fs : EL} {pos p2 px pt : Pos} {x : Str} {kt k2 pt2}
theorem ds_putPar (j : Nat) (hc : X.calm = true) (hu : X.A.units + 1 < cLine) (hN : X.N.Nodup) (hj : X.N[j]? = some x) (hx : X.env.scope.names.lookup x = some .local) (ho : DE X C W o fo) (hi : DE X C W i fi) (ha : DA X C W [a, b] fs)
    (hs : swapsWithSole [.Tuple [.Subscript o i p2, .Name x px] kt pt] (.Tuple [a, b] k2 pt2) pos.line X.env = pure false := by rfl)
    (hw : swappedStores [.Tuple [.Subscript o i p2, .Name x px] kt pt] (.Tuple [a, b] k2 pt2) X.env = pure none := by rfl)
    (hA : ∀ v, assign (.Subscript o i p2) X.env v = (do
      let ov ← holding [v] (eval o X.env)
      let iv ← holding [v, ov] (eval i X.env)
      standAt p2
      holding [v, ov, iv] (setItem ov iv v)
      release [v, ov, iv] []) := by intro _; rfl)
    (h1 : (assignEach [.Tuple [.Subscript o i p2, .Name x px] kt pt] X.env).map (·.2) = [assign (.Tuple [.Subscript o i p2, .Name x px] kt pt) X.env] := by rfl) :
    DS X C W (.Assign [.Tuple [.Subscript o i p2, .Name x px] kt pt] (.Tuple [a, b] k2 pt2) pos) (sPutPar fo fi j fs) := by
  obtain ⟨t1, q1, s1⟩ := ho.ex
  obtain ⟨t2, q2, s2⟩ := hi.ex
  obtain ⟨t3, q3, s3⟩ := (de_tup (x1 := k2) (pos := pt2) ha).ex
  refine ⟨_, ps_asg q3 (pg_tup (n := 2) hc (pgs_cons (pg_sub q1 q2 (set_dict hu) hA) (pgs_cons (pg_name hN hj (.inl hx) (.inr hx)) pgs_nil))) hs hw h1, fun ρ S fl ρ' S' h L σ H D en so po => ?_⟩
  refine s3.stm h en so po fun y S1 L1 H1 v h1 st1 so1 r1 en1 po1 => ?_
  split at h1
  · rename_i d1 d2
    obtain ⟨pa, vs, rfl, m, rv⟩ := view_tup (S := S1) (o := .dat (.tuple [d1, d2])) rfl r1 so1
    obtain ⟨x1, x2, rfl, rx1, rx2⟩ := (show ∃ x1 x2, vs = [x1, x2] ∧ Rep X.K (mask L1 H1) x1 d1 ∧ Rep X.K (mask L1 H1) x2 d2 by
      cases rv with
      | cons h1 t =>
        cases t with
        | cons h2 t2 => cases t2; exact ⟨_, _, rfl, h1, h2⟩)
    refine ⟨pa, [x1, x2], rfl, m, rfl, x1, [x2], rfl, ?_⟩
    refine s1.stm h1 en1 so1 po1 fun y2 S2 L2 H2 u h2 st2 so2 r2 en2 po2 => ?_
    refine s2.stm h2 en2 so2 po2 fun z S3 L3 H3 w h3 st3 so3 r3 en3 po3 => ?_
    split at h3
    · rename_i n
      split at h3
      · rename_i kvs hn
        obtain ⟨k, e1, h4⟩ := opt_bind h3
        obtain ⟨kvs', e2, h5⟩ := opt_bind h4
        cases h5
        obtain ⟨a, ea, hL⟩ := r2.step st3
        have st := st2.trans st3
        obtain ⟨H4, g, k1, k2⟩ := dput_ok e2 so3 hL hn e1 r3 (rx1.mono st.frz)
        refine ⟨a, H4, ea, g, x2, [], rfl, rfl, ?_⟩
        exact po3.nx rfl L3 _ _ k1 k2 ((en3.step k1).set (o := .dat d2) (rx2.mono (st.trans k1).frz) j)
      · cases h3
    · cases h3
  · cases h1
end
end Dk
set_option Elab.async false
set_option linter.all false
set_option maxRecDepth 100000
set_option maxHeartbeats 4000000
/-! x(lambda: ..) where x is a def that calls what it gets and gives a word; the laws' ends with tables. -/
namespace Dk
open PySem PySem.Spec PyProof.Rows L2
/-- the table of a def that makes lambdas -/
structure TabD (K : PySem.W.Frag) (base : Heap) (mg : Str → Option Value) (x : Str) : Prop where
  ex : ∃ c P, PySem.W.tabIn K x = some (c, P) ∧ LamX.TabB base mg c P ∧ (P, lamQ x) ∈ tabsOf K ∧ ∀ p ∈ tabsOf K, p.1 = P → p.2 = lamQ x
  kin : K.In base
  ns : base.Ns mainGlobals mg
theorem tab_code {K : PySem.W.Frag} {base : Heap} {mg : Str → Option Value} {x y qual : Str} {st : Stmt} {f : Addr} {fd : FuncData} (T : TabD K base mg y) (F : Fun K x qual st f fd) (hm : mg y = some (.ref f)) {c P : Addr} (h : PySem.W.tabIn K y = some (c, P)) : fd.code = .ref c := by
  obtain ⟨oc, od, kV, doc, pm, an, cdv, ct, osl, e, lk, hcd⟩ := F.ex
  exact PySem.W.law_code T.kin T.ns h hm (T.kin _ _ lk) rfl

/-! ### what such a def makes of a call -/
abbrev Cb := Sto → Rs OV
def catchD : List (Mt × D) → Str → Option D
  | [], _ => none
  | (m, d) :: r, z => match m z with
    | some true => some d
    | some false => catchD r z
    | none => none
/-- try: a() / except x: return d / .. / return d0 -/
def hiE (l : List (Mt × D)) (d0 : D) (cb : Cb) : Cb := fun S => match cb S with
  | none => none
  | some (.inl _, S1) => ret (.dat d0) S1
  | some (.inr e, S1) => (catchD l e.cls).bind fun d => ret (.dat d) S1
def fLam (G : Cb → Cb) (fb : E1) : E1 := fun ρ S => match G (fun T => fb ρ T) S with
  | some (.inl o, S') => ret o S'
  | _ => none
def TTw (K : PySem.W.Frag) (C : Str → Value) (G : Cb → Cb) : (XK → Hp → VK → Prop) → Hp → VK → Prop := fun tl H Q => ∃ L S S' o cb, StoR K L H S ∧ G cb S = some (.inl o, S') ∧
  (∀ L1 H1 S1 r1 S2 (E : XK) (Q1 : VK), Step L H L1 H1 → StoR K L1 H1 S1 → cb S1 = some (r1, S2) →
    (∀ L2 H2, Step L1 H1 L2 H2 → StoR K L2 H2 S2 → (∀ o, r1 = .inl o → ∀ v, RepO K L2 H2 v o → Q1 v H2) ∧ ∀ e, r1 = .inr e → ∀ cls d, ExcR C K L2 H2 e cls d → E cls d H2) → tl E H1 Q1) ∧
  ∀ L' H', Step L H L' H' → StoR K L' H' S' → ∀ v, RepO K L' H' v o → Q v H'
def GivesP (P : Program) (w : World) (K : PySem.W.Frag) (mg : Str → Option Value) (base : Heap) (A : Around) (stack : List Env) (Ng : List Str) (x : Str) (sg : Scope) (g : Addr) (cdg : Value) (bg : List Stmt) (a : Str) (q : Str) (TT : (XK → Hp → VK → Prop) → Hp → VK → Prop) : Prop :=
  ∀ (f c' : Addr) (s : Shared) (H : Hp) (Q : VK) (tl : XK → Hp → VK → Prop),
    (∀ (W : WX) (pn : List (Addr × Obj)) (xe : Value → Shared → Prop) (E : XK) (p1 p2 : Pos), Takes ((cxOf C8.CX0 P w K mg base Ng x sg g cdg A stack s H C8.E0).tr pn xe) W → (∀ cls d σ' H', E cls d H' → W cls d σ' H') →
      PE ((cxOf C8.CX0 P w K mg base Ng x sg g cdg A stack s H C8.E0).tr pn xe) (.Call (.Name a p1) [] [] p2) (fun σZ HZ Q => σZ[0]? = some (some (.ref f)) ∧ HZ c' = some (LamX.CodeO c' q) ∧ tl E HZ Q)) →
    H c' = some (LamX.CodeO c' q) → TT tl H Q →
    ∃ t, PSs (cxOf C8.CX0 P w K mg base Ng x sg g cdg A stack s H C8.E0).nox bg t ∧ t { nx := fun _ H' => Q .non H', rt := Q } (L2.start Ng [.ref f]) H
/-- a def that calls what it gets -/
structure HiD (P : Program) (w : World) (K : PySem.W.Frag) (mg : Str → Option Value) (base : Heap) (C : Str → Value) (x : Str) (G : Cb → Cb) : Prop where
  ex : ∃ (g : Addr) (pg : Arguments) (bg : List Stmt) (sg : Scope) (dV kV doc pm cdv ct oc : Value) (an od : Option Addr) (osl : Array (Option Value)) (Ng : List Str) (a : Str),
    mg x = some (.ref g) ∧ PySem.W.keepIn K (.ref g) = true ∧ K.lookup g = some ⟨oc, od, .func (PySem.W.fnOf x x pg bg sg dV kV doc pm an cdv ct), osl⟩ ∧ PySem.W.codeIn K cdv x = true ∧ Binds K (PySem.W.fnOf x x pg bg sg dV kV doc pm an cdv ct) [a] [] ∧
    FnScope Ng [a] sg ∧ Ng[0]? = some a ∧ Vis sg a ∧ (a == ("__debug__" : Str)) = false ∧ (a == ("__classdict__" : Str)) = false ∧ ∀ (A : Around) (stack : List Env) (q : Str), GivesP P w K mg base A stack Ng x sg g cdv bg a q (TTw K C G)
section
variable {X : Cx} {C : Str → Value} {W : WX} {x y : Str} {G : Cb → Cb} {k : Nat} {params : Arguments} {body : Expr} {scope : Scope} {lpos p pos : Pos} {fb : E1}
theorem step_ext {L : List Addr} {H H1 : Hp} (e : LamX.ExtN H H1) : Step L H L H1 := ⟨fun a o h => by
  obtain ⟨h1, h2⟩ := mask_some h
  exact mask_of h1 (e _ _ h2 (mask_nt h)) (mask_nt h), ⟨[], by simp⟩, fun b ob u h => e _ _ h (by intro _ z; cases z)⟩
theorem StoR.ext {K : PySem.W.Frag} {L : List Addr} {H H1 : Hp} {S : Sto} (so : StoR K L H S) (e : LamX.ExtN H H1) (t : LamX.Tabs (tabsOf K) H1) : StoR K L H1 S :=
  ⟨so.nd, so.len, fun n a d h1 h2 => by
    have q := so.obj n a d h1 h2
    obtain ⟨o, e1, n1, _⟩ := objR_kind q
    exact q.mono (step_ext (L := L) e).frz ((e _ _ e1 n1).trans e1.symm), t⟩
theorem de_lam (hi : HiD X.prog X.w X.K X.mg X.base C x G) (hg : Gl X x) (T : TabD X.K X.base X.mg y) (hq : X.env.qual = y ++ ".<locals>.") (hcode : ∀ c P, PySem.W.tabIn X.K y = some (c, P) → X.env.code = .ref c) (hr : Room (k + 2) X.A)
    (hs : LamX.lamSB X.env.scope scope = true) (hbody : ∀ (A : Around) (outer : List Env) (s : Shared) (H : Hp) (E : XK) (f c' : Addr), Room k (A.deeper (LamX.lamEnv X scope s.heap.objs.size f c')) → DE (LamX.lamCx X A outer s H E scope f c') C (fun cls d _ H => E cls d H) body fb)
    (hdef : defaultsOf params X.env = ([], []) := by rfl) (hbind : ∀ (q : Str) (cl : List (Str × Addr)) (pm cv ctv : Value), bindArgs (PySem.W.kla_fn "<lambda>" q params body scope cl pm cv ctv) ⟨[], []⟩ = pure [] := by intros; rfl)
    (hdb : (x == ("__debug__" : Str)) = false := by decide) : DE X C W (.Call (.Name x p) [.Lambda params body scope lpos] [] pos) (fLam G fb) := by
  obtain ⟨c, P, ht, TB, hmT, hu⟩ := T.ex
  obtain ⟨g, pg, bg, sg, dV, kV, doc, pm, cdv, ct, oc, an, od, osl, Ng, a, hm, hk, lk, hcg, hb, Sg, hNg, hva, hd, hcd, gives⟩ := hi.ex
  have eq : X.env.qual ++ "<lambda>" = lamQ y := by rw [hq]; rfl
  refine ⟨_, LamX.pe_lamcall (T := tabsOf X.K) (TT := TTw X.K C G) (t := fun E => canE X.K C (fun cls d _ H => E cls d H) fb) hg hm hk lk hcg hb Sg hNg hva (gives X.A X.stack _) TB (hcode c P ht) (by rw [eq]; exact hmT) (fun p hp e => by rw [eq]; exact hu p hp e) hr (LamX.lamS_by hs) hdef hbind
    (fun A outer s H E f c' hr' => (hbody A outer s H E f c' hr').can) hdb hd hcd, fun ρ S r S' h L σ H Q en so po => ?_⟩
  unfold fLam at h
  split at h
  · rename_i o S1 hG
    refine ⟨so.tb, fun H1 eN T1 => ?_⟩
    have st1 : Step L H L H1 := step_ext eN
    have so1 := so.ext eN T1
    refine ⟨L, S, S1, o, fun T => fb ρ T, so1, hG, fun L1 H1' S2 r1 S3 E Q1 st so2 hcb hq' => ?_, fun L' H' st so' v rv => ?_⟩
    · refine ⟨ρ, S2, r1, S3, L1, hcb, en.step (st1.trans st), so2, fun b e L2 H2 st2 so3 v rv => ?_, fun e he L2 H2 st2 so3 cls d xr => ?_⟩
      · exact (hq' L2 H2 st2 so3).1 b e v rv
      · exact (hq' L2 H2 st2 so3).2 e he cls d xr
    · exact po.done (S0 := S1) h (st1.trans st) so' v rv
  · cases h
end
/-! ### the def with constant words -/
section
variable {P : Program} {w : World} {K : PySem.W.Frag} {mg : Str → Option Value} {base : Heap} {C : Str → Value}
theorem catch_const {l : List (Mt × D)} {e : Exn} {d : D} (h : catchD l e.cls = some d) (ρ : Env1) (S : Sto) : catchL (l.map fun p => (p.1, sRet (fC p.2))) e ρ S = some (.rt (.dat d), ρ, S) := by
  induction l with
  | nil => cases h
  | cons p r ih =>
    obtain ⟨m, d1⟩ := p
    unfold catchD at h
    simp only [List.map_cons]
    unfold catchL
    cases q : m e.cls with
    | none => rw [q] at h; cases h
    | some b =>
      rw [q] at h
      cases b with
      | true => cases h; rfl
      | false => exact ih h
theorem env_none {L : List Addr} {H : Hp} (σ : L2.St) : EnvR K L H σ (List.replicate σ.length none) := ⟨by simp, fun i o e => by
  rw [List.getElem?_replicate] at e
  split at e <;> cases e⟩
theorem hi_mk {x a : Str} {st : Stmt} {g : Addr} {fd : FuncData} {N : List Str} {l : List (Mt × D)} {d0 : D} {p1 p2 p3 p4 p5 : Pos} {h₀ : ExceptHandler} {hds : List ExceptHandler} {e0 : Expr} (F : Fun K x x st g fd) (hm : mg x = some (.ref g)) (hb : Binds K fd [a] []) (S : FnScope N [a] (defScope st))
    (hbd : defBody st = [.Try [.Expr (.Call (.Name a p1) [] [] p2) p3] (h₀ :: hds) [] [] p4, .Return (some e0) p5])
    (hh : ∀ (cdv : Value) (A : Around) (stack : List Env) (s : Shared) (H : Hp), DHs (cxOf C8.CX0 P w K mg base N x (defScope st) g cdv A stack s H C8.E0).nox C W0 (h₀ :: hds) (l.map fun p => (p.1, sRet (fC p.2))))
    (hr : ∀ (cdv : Value) (A : Around) (stack : List Env) (s : Shared) (H : Hp), DE (cxOf C8.CX0 P w K mg base N x (defScope st) g cdv A stack s H C8.E0).nox C W0 e0 (fC d0))
    (hN : N[0]? = some a := by rfl) (hv : Vis (defScope st) a := by first | exact Or.inl rfl | exact Or.inr (Or.inl rfl) | exact Or.inr (Or.inr rfl)) (hd : (a == ("__debug__" : Str)) = false := by decide) (hcd : (a == ("__classdict__" : Str)) = false := by decide)
    (h0 : ∀ f : Addr, (L2.start N [V.ref f])[0]? = some (some (V.ref f)) := by intro _; rfl) : HiD P w K mg base C x (hiE l d0) := by
  obtain ⟨oc, od, kV, doc, pm, an, cdv, ct, osl, rfl, lk, hcc⟩ := F.ex
  refine ⟨g, _, _, _, _, kV, doc, pm, cdv, ct, oc, an, od, osl, N, a, hm, F.kp, lk, hcc, hb, S, hN, hv, hd, hcd, fun A stack q => ?_⟩
  intro f c' s H Q tl act hc ⟨L, S0, S', o, cb, so, hG, hcb, fin⟩
  rw [hbd]
  obtain ⟨l', k1, k2⟩ := dhs_ok (hh cdv A stack s H)
  obtain ⟨te, pe, se⟩ := (hr cdv A stack s H).ex
  refine ⟨_, pss_cons (ps_try_many (X := (cxOf C8.CX0 P w K mg base N x (defScope st) g cdv A stack s H C8.E0).nox)
      (tb := fun W D σ H => ∃ Ech : XK, (∀ cls d σ' H', Ech cls d H' → W cls d σ' H') ∧ σ[0]? = some (some (.ref f)) ∧ H c' = some (LamX.CodeO c' q) ∧ tl Ech H fun _ H' => D.nx σ H')
      rfl rfl takes0 (fun W pn xe tk _ => ?_) k1) (pss_one (ps_ret pe)), ?_⟩
  · refine ⟨fun pins s' σ H' D I h' => ?_⟩
    obtain ⟨Ech, hW, h1, h2, h3⟩ := h'
    exact (pss_one (ps_expr (act W pn xe Ech p1 p2 tk hW))).run pins s' σ H' D I ⟨h1, h2, h3⟩
  · refine ⟨fun cls d H' => ∀ σ', wMany K W0 _ l' cls d σ' H', fun cls d σ' H' z => z σ', h0 f, hc, ?_⟩
    unfold hiE at hG
    split at hG
    · cases hG
    · rename_i o1 S1 hq
      cases hG
      refine hcb L H S0 (.inl o1) _ _ _ Step.refl so hq fun L3 H2 st2 so2 => ⟨fun o2 e2 v rv => ?_, fun e he => by cases he⟩
      have := se (List.replicate (L2.start N [V.ref f]).length none) S' (.inl (.dat d0)) S' rfl L3 (L2.start N [V.ref f]) H2 Q (env_none _) so2 ⟨fun b e L' H' st3 so3 v rv => ?_, fun e he => by cases he⟩
      · exact this
      · cases e
        exact fin L' H' (st2.trans st3) so3 v rv
    · rename_i e1 S1 hq
      obtain ⟨d, hd1, hd2⟩ := opt_bind hG
      cases hd2
      refine hcb L H S0 (.inr e1) _ _ _ Step.refl so hq fun L2 H2 st2 so2 => ⟨fun o2 e2 => (nomatch e2), fun e he cls dd xr σ' => ?_⟩
      cases he
      refine k2 e1 (List.replicate σ'.length none) S' _ _ _ (catch_const hd1 _ _) L2 H2 σ' _ cls dd (env_none σ') so2 xr ⟨fun z => (nomatch z), fun z => (nomatch z), fun z => (nomatch z), fun o3 z L3 H3 v st3 so3 rv => ?_, fun e z => (nomatch z)⟩
      cases z
      exact fin L3 H3 (st2.trans st3) so3 v rv
end
end Dk
namespace Dk
open PySem PySem.Spec PyProof.Rows L2
/-! ### the laws' end, with the tables -/
def tabFine (K : PySem.W.Frag) (q : Program) (ts : List Addr) : Bool := (tabCs K).all fun p => (((recsOf q).find? fun e => e.name == p.1).isSome || (ts.contains p.2.2 && PySem.W.codeHdIn K p.2.1 p.2.2)) && (K.lookup p.2.2).isNone && (tabCs K).all fun r => r.2.2 != p.2.2 || r.1 == p.1
theorem tabCs_mem {K : PySem.W.Frag} {p : Str × Addr × Addr} (h : p ∈ tabCs K) : PySem.W.tabIn K p.1 = some p.2 := by
  obtain ⟨x, hx, e⟩ := List.mem_filterMap.mp h
  cases q : PySem.W.tabIn K x with
  | none => rw [q] at e; cases e
  | some cp =>
    rw [q] at e
    cases e
    exact q
theorem walk_ofL {l : PySem.W.OpenLaw} {n k : Nat} {q : Program} {loose : List Str} {XP : (Str → Option Value) → Heap → Prop} {YP : World → Heap → Prop} {d : DefRec} {K : Params → PySem.W.Frag} {x : Str} {C : (Str → Option Value) → Str → Value} {F : List OV → Sto → Rs OV}
    (hn : l.most = some n) (hn2 : n ≤ sizeLine) (hdf : d.params.defaults = []) (hr : Room k callerA)
    (ts : List Addr) (hY : ∀ (w : World) (h : Heap), YP w h → (K w.params).In h ∧ ∀ P ∈ ts, h.get? P = some (PySem.W.tabObj #[])) (hT : ∀ w : World, tabFine (K w.params) q ts = true)
    (H : ∀ (w : World) (mg : Str → Option Value) (fa : Addr) (h : Heap), (K w.params).In h → h.Ns mainGlobals mg → XP mg h → mg d.name = some (.ref fa) →
      ∃ fd : FuncData, (∀ (s : Shared) (u : Value), BindsTo s fd ⟨[u], []⟩ [(x, u)]) ∧
        ∀ base : Heap, (∀ y ∈ (tabCs (K w.params)).map (·.1), TabD (K w.params) base mg y) → FnOk l.prog w (K w.params) mg base (L2.CX l.prog w) k fa fd [x] (spD (K w.params) (C mg) 1 F))
    (law : ∀ ns : List Int, ns.length ≤ n → F [.dat (.list (ns.map .int))] [] = some (.inl (.dat (.bool true)), [])) :
    PySem.W.WalkO q loose XP YP l.row.toRowW d [] (fun f vs => PySem.call f vs) := by
  refine Att.attach_call hn hdf fun w s₀ s₁ mg mb fa o pm cd doc a vs ns G Y ho hd hcd hmg hobj hints hlen hg => ?_
  obtain ⟨KX, TX⟩ := hY w _ Y
  obtain ⟨fd, hb, hF⟩ := H w mg fa _ KX G.T.g G.X hmg
  have fine := List.all_eq_true.mp (hT w)
  have at_ : ∀ p ∈ (tabCs (K w.params)).map (·.2), ∃ r ∈ tabCs (K w.params), r.2 = p := fun p hp => List.mem_map.mp hp
  have inf : ∀ r ∈ tabCs (K w.params), PySem.W.CodeHd _ r.2.1 r.2.2 ∧ _ := fun r hr => by
    have h1 := fine r hr
    simp only [Bool.and_eq_true, Bool.or_eq_true] at h1
    rcases h1.1.1 with h2 | h2
    · obtain ⟨dr, hdr⟩ := Option.isSome_iff_exists.mp h2
      exact PySem.W.tab_of (x := r.1) G.T KX hdr (tabCs_mem hr)
    · exact ⟨PySem.W.codeHd_of_K KX h2.2, TX _ (List.contains_iff_mem.mp h2.1)⟩
  refine LamX.law_callTs (cs := (tabCs (K w.params)).map (·.2)) KX G.T.g G.T.b G.T.builtins G.T.nolimit hg (fun p hp => ?_) (fun p hp => ?_) (fun p hp => ?_) G.T.bmain hobj hints (Nat.le_trans hlen hn2) hr (fun base kin ns tb => hF base fun y hy => ?_) hb (fun H hH hS => ?_) fun H e s' z => ?_
  · obtain ⟨r, hr, rfl⟩ := at_ p hp
    exact (inf r hr).2
  · obtain ⟨r, hr, rfl⟩ := at_ p hp
    have h1 := fine r hr
    simp only [Bool.and_eq_true] at h1
    exact Option.isNone_iff_eq_none.mp h1.1.2
  · obtain ⟨r, hr, rfl⟩ := at_ p hp
    exact (inf r hr).1
  · obtain ⟨r, hr, rfl⟩ := List.mem_map.mp hy
    refine ⟨⟨r.2.1, r.2.2, tabCs_mem hr, tb r.2 (List.mem_map.mpr ⟨r, hr, rfl⟩), List.mem_map.mpr ⟨r, hr, rfl⟩, fun p hp e => ?_⟩, kin, ns⟩
    obtain ⟨r2, hr2, rfl⟩ := List.mem_map.mp hp
    have h1 := fine r hr
    simp only [Bool.and_eq_true] at h1
    have h2 := List.all_eq_true.mp h1.2 r2 hr2
    simp only [Bool.or_eq_true, bne_iff_ne, ne_eq, beq_iff_eq] at h2
    rcases h2 with h2 | h2
    · exact absurd e h2
    · show lamQ r2.1 = lamQ r.1
      rw [h2]
  · refine ⟨[.dat (.list (ns.map .int))], [], [], _, [], rfl, ?_, ?_, law ns hlen, fun L' H' st so' => ⟨fun o ho v rv => ?_, fun e he => by cases he⟩⟩
    · refine .cons ?_ .nil
      refine Rep.lst (ds := ns.map .int) ?_ (Reps.of_ints ns)
      rcases hS with (h | ⟨u, h⟩) | h
      · exact .inl (.inl (mask_of (by simp) h))
      · exact .inl (.inr ⟨u, mask_of (by simp) h⟩)
      · exact .inr h
    · refine ⟨List.nodup_nil, rfl, fun n a d e => by simp at e, fun p hp => ?_⟩
      obtain ⟨r, hr, rfl⟩ := List.mem_map.mp hp
      exact LamX.TabS.nil (hH r.2 (List.mem_map.mpr ⟨r, hr, rfl⟩))
    · cases ho
      cases rv
      rfl
  · obtain ⟨_, _, _, _, _, _, _, _, _, _, _, _, z⟩ := z
    exact z
end Dk
namespace Dk
open PySem PySem.Spec PyProof.Rows L2
theorem takes_lam {X : Cx} {A : Around} {outer : List Env} {s : Shared} {H : Hp} {E : XK} {scope : Scope} {f c' : Addr} : Takes (LamX.lamCx X A outer s H E scope f c') (fun cls d _ H => E cls d H) := takes_of rfl rfl rfl rfl
theorem mem_elem {x : Str} {l : List Str} (h : l.elem x = true) : x ∈ l := List.mem_of_elem_eq_true h
end Dk
set_option Elab.async false
set_option linter.all false
set_option maxRecDepth 100000
set_option maxHeartbeats 4000000
/-! A list display so many times. -/
namespace Dk
open PySem PySem.Spec PyProof.Rows L2
def fRep (fa : EF) (fb : E1) : EF := fun ρ S => (fa ρ S).bind fun ds S1 => (fb ρ S1).bind fun b S2 => match b with
  | .dat (.int k) => if -(2 ^ 63) ≤ k ∧ k < 2 ^ 63 ∧ ds.length * k.toNat ≤ sizeLine then ret (List.replicate k.toNat ds).flatten S2 else none
  | _ => none
section
variable {X : Cx} {C : Str → Value} {W : WX} {a b : Expr} {pos : Pos} {fa : EF} {fb : E1}
theorem Reps.rep {K : PySem.W.Frag} {G : Hp} {vs : List V} {ds : List D} (r : Reps K G vs ds) : ∀ m : Nat, Reps K G (List.replicate m vs).flatten (List.replicate m ds).flatten
  | 0 => .nil
  | m + 1 => r.append (Reps.rep r m)
theorem df_rep (ha : DF X C W a fa) (hb : DE X C W b fb) : DF X C W (.BinOp a .Mult b pos) (fRep fa fb) := by
  obtain ⟨ta, p1, s1⟩ := ha.ex
  obtain ⟨tb, p2, s2⟩ := hb.ex
  refine ⟨_, pe_op op_rep p1 p2, fun ρ S r S' h L σ H Q en so po => ?_⟩
  refine s1.bind h en so po fun ds S1 L1 H1 p vs h1 st1 so1 hp rs en1 po1 => ?_
  have st2 := step_new (L := L1) (o := .lst vs) hp
  refine s2.bind h1 (en1.step st2) (so1.laid hp) (po1.step st2) fun o S2 L2 H2 u h2 st3 so2 r2 en2 po2 => ?_
  have hp1 : mask L1 (upd H1 p (.lst vs)) p = some (.lst vs) := mask_of (so1.new hp) upd_same
  have hp2 := st3.frz _ _ hp1
  split at h2
  · rename_i k
    split at h2
    · rename_i hz
      cases (r2 : Rep X.K _ u (.int k))
      have rs2 : Reps X.K (mask L2 H2) vs ds := (rs.mono st2.frz).mono st3.frz
      exact ⟨p, k, vs, rfl, rfl, (mask_some hp2).2, hz.1, hz.2.1, by rw [rs2.length]; exact hz.2.2, fun q hq => po2.done (S0 := S2) h2 Step.refl so2 q _ hq (rs2.rep _)⟩
    · cases h2
  · cases h2
end
end Dk
namespace Dk
open PySem PySem.Spec PyProof.Rows L2
/-! list + list, as a new list of one's own -/
def catS (S : Sto) (a b : OV) : Option (List D) := match view S a, view S b with
  | some (.list xs), some (.list ys) => if xs.length + ys.length ≤ sizeLine then some (xs ++ ys) else none
  | _, _ => none
def rCat (K : PySem.W.Frag) : R2 := fun x y H Q => ∃ L S a b ds, StoR K L H S ∧ RepO K L H x a ∧ RepO K L H y b ∧ catS S a b = some ds ∧
  ∀ p vs, H p = none → Reps K (mask L H) vs ds → Q (.ref p) (upd H p (.lst vs))
def fCat (fa fb : E1) : EF := fun ρ S => (fa ρ S).bind fun a S1 => (fb ρ S1).bind fun b S2 => (catS S2 a b).bind fun ds => ret ds S2
section
variable {X : Cx} {C : Str → Value} {W : WX} {a b : Expr} {pos : Pos} {fa fb : E1}
theorem ro_cat : OpR X (binaryOp .Add) (rCat X.K) := by
  intro pins s σ H x y v u Q I rx ry h
  obtain ⟨L, S, a, b, ds, so, ra, rb, e, q⟩ := h
  unfold catS at e
  split at e
  · rename_i i j h1 h2
    split at e
    · rename_i hz
      cases e
      obtain ⟨p1, vs, rfl, m1, r1⟩ := view_list h1 ra so
      obtain ⟨p2, ws, rfl, m2, r2⟩ := view_list h2 rb so
      cases rx
      cases ry
      obtain ⟨its, k1, ⟨⟨cl1, od1, dt1, sl1⟩, n1, e1, c1, d1, q1⟩, z1⟩ := I.list m1
      obtain ⟨its2, k2, ⟨⟨cl2, od2, dt2, sl2⟩, n2, e2, c2, d2, q2⟩, z2⟩ := I.list m2
      simp only at c1 d1 q1 c2 d2 q2
      subst c1 d1 q1 c2 d2 q2
      have hl1 := k1.length
      have hl2 := k2.length
      have hz' : vs.length + ws.length ≤ sizeLine := by rw [r1.length, r2.length]; exact hz
      have road := PyProof.Rows.list_addW p1 p2 its.toArray its2.toArray n1 n2 none none sl1 sl2 (by rw [List.size_toArray, List.size_toArray]; omega)
      refine concat_meets ⟨_, e1, rfl⟩ ⟨_, e2, rfl⟩ noFill_list_add seq_list_add F.slot_list_add F.entry_list_add (F.args_list_add_2 _ _) road ⟨e1, e2, ?_⟩
      rw [show its.toArray ++ its2.toArray = (its ++ its2).toArray by simp]
      exact ⟨.ref _, _, I.lnew (t' := s.toks) (k1.append k2) (by rw [List.length_append]; exact hz'), rfl, q _ _ I.fresh (r1.append r2)⟩
    · cases e
  · cases e
theorem df_cat (ha : DE X C W a fa) (hb : DE X C W b fb) : DF X C W (.BinOp a .Add b pos) (fCat fa fb) := by
  obtain ⟨ta, p1, s1⟩ := ha.ex
  obtain ⟨tb, p2, s2⟩ := hb.ex
  refine ⟨_, pe_op ro_cat p1 p2, fun ρ S r S' h L σ H Q en so po => ?_⟩
  refine s1.bind h en so po fun x S1 L1 H1 v h1 st1 so1 r1 en1 po1 => ?_
  refine s2.bind h1 en1 so1 po1 fun y S2 L2 H2 u h2 st2 so2 r2 en2 po2 => ?_
  obtain ⟨ds, e, h3⟩ := opt_bind h2
  exact ⟨L2, S2, x, y, ds, so2, r1.step st2, r2, e, fun q ws hq rs => po2.done (S0 := S2) h3 Step.refl so2 q ws hq rs⟩
end
end Dk
set_option Elab.async false
set_option linter.all false
set_option maxRecDepth 100000
set_option maxHeartbeats 4000000
/-! Dicts that are walked: locked for that time. -/
namespace Dk
open PySem PySem.Spec PyProof.Rows L2
section
variable {K : PySem.W.Frag} {L L' : List Addr} {H H' : Hp} {S S' : Sto}
theorem repO_cong (e : mask L H = mask L H') {v : V} : ∀ {o : OV}, RepO K L H v o → RepO K L H' v o
  | .dat _, r => by
    show Rep K (mask L H') _ _
    rw [← e]
    exact r
  | .own _, ⟨a, h1, h2⟩ => ⟨a, h1, h2⟩
theorem EnvR.cong {σ : L2.St} {ρ : Env1} (en : EnvR K L H σ ρ) (e : mask L H = mask L H') : EnvR K L H' σ ρ :=
  ⟨en.1, fun i o h => by
    obtain ⟨v, h1, h2⟩ := en.2 i o h
    exact ⟨v, h1, repO_cong e h2⟩⟩
theorem zip_none {κ : Type} {f : κ → D} (hf : ∀ k, f k ≠ .none) {ks : List κ} {ds : List D} {x : D} {r : List (D × D)} (e : (PyData.none, x) :: r = (ks.map f).zip ds) : False := by
  have hm : ((PyData.none, x) : D × D) ∈ (ks.map f).zip ds := by rw [← e]; simp
  obtain ⟨k, hk⟩ := zip_fst hm
  exact hf k hk.symm
theorem keyD_ne (k : L2.Key) : keyD k ≠ .none := by cases k <;> intro z <;> cases z
theorem keysD_ne (k : List L2.Key) : keysD k ≠ .none := by intro z; cases z
theorem zip_unlk {κ : Type} {f : κ → D} (hf : ∀ k, f k ≠ .none) {ks : List κ} {ds : List D} (h : isLk ((ks.map f).zip ds) = true) : False := by
  cases ks with
  | nil => cases h
  | cons k r =>
    cases ds with
    | nil => cases h
    | cons d t =>
      have h : isLk ((f k, d) :: (r.map f).zip t) = true := h
      have := hf k
      cases e : f k <;> rw [e] at h <;> first | exact absurd e this | cases h
/-- what stands at the place of an owned dict while it is walked -/
structure LockD (K : PySem.W.Frag) (L : List Addr) (H : Hp) (S : Sto) (n : Nat) (p : Addr) (u : HO) (kvs : List (D × D)) : Prop where
  at_ : H p = some u
  mu : Mut (some u)
  own : p ∈ L
  step1 : ∀ ob, mask L H = mask L (upd H p (.frz ob u)) ∧ StoR K L (upd H p (.frz ob u)) (S.set n (.dict (lockD :: kvs)))
  back : ∀ ob L' H' S' x kvs', Step L (upd H p (.frz ob u)) L' H' → StoR K L' H' S' → S'[n]? = some (.dict ((.none, x) :: kvs')) →
    H' p = some (.frz ob u) ∧ Step L H L' (upd H' p u) ∧ StoR K L' (upd H' p u) (S'.set n (.dict kvs')) ∧ mask L' H' = mask L' (upd H' p u)
theorem lock_ok (so : StoR K L H S) {n : Nat} {p : Addr} (hL : L[n]? = some p) {kvs : List (D × D)} (hS : S[n]? = some (.dict kvs)) (hk : isLk kvs = false) : ∃ u, LockD K L H S n p u kvs := by
  have hm := List.mem_of_getElem? hL
  have D0 : ObjR K (mask L H) H p (.dict kvs) := so.obj n p _ hL hS
  have main : ∀ u, H p = some u → Mut (some u) → (∀ ob, ObjR K (mask L H) (upd H p (.frz ob u)) p (.dict (lockD :: kvs))) → (∀ ob u', u ≠ .frz ob u') → (∃ b : Bool, ∀ ob, if b then ∃ z, HO.frz ob u = .frz ob (.dK z) else ∃ z, HO.frz ob u = .frz ob (.dT z)) → LockD K L H S n p u kvs := by
    intro u hu mu od nf _
    refine ⟨hu, mu, hm, fun ob => ⟨(mask_upd_own hm).symm, so.wr hL (od ob)⟩, fun ob L' H' S' x kvs' st so' hS' => ?_⟩
    have hp' : H' p = some (.frz ob u) := st.fz p ob u upd_same
    have hL' := st.get hL
    have hm' := List.mem_of_getElem? hL'
    have od' : ObjR K (mask L' H') (upd H' p u) p (.dict kvs') := by
      rcases (so'.obj n p _ hL' hS' : ObjR K (mask L' H') H' p (.dict ((.none, x) :: kvs'))) with ⟨ks, vs, ds, k1, k2, k3, k4, _⟩ | ⟨ks, vs, ds, k1, k2, k3, k4⟩ | ⟨ob', ks, vs, ds, k1, k2, k3, k4, k5⟩ | ⟨ob', ks, vs, ds, k1, k2, k3, k4⟩
      · exact (zip_none keyD_ne k4).elim
      · exact (zip_none keysD_ne k4).elim
      · rw [hp'] at k2
        cases k2
        cases k4
        exact .inl ⟨ks, vs, ds, k1, upd_same, k3, rfl, k5⟩
      · rw [hp'] at k2
        cases k2
        cases k4
        exact .inr (.inl ⟨ks, vs, ds, k1, upd_same, k3, rfl⟩)
    refine ⟨hp', ⟨?_, st.pre, fun b ob2 u2 e => ?_⟩, so'.wr hL' od', (mask_upd_own hm').symm⟩
    · have h1 := st.frz
      rw [mask_upd_own hm] at h1
      rw [mask_upd_own hm']
      exact h1
    · have hb : b ≠ p := fun z => by
        rw [z, hu] at e
        exact nf _ _ (Option.some.inj e)
      rw [upd_ne hb]
      exact st.fz b ob2 u2 (by rw [upd_ne hb]; exact e)
  rcases D0 with ⟨ks, vs, ds, k1, k2, k3, rfl, k5⟩ | ⟨ks, vs, ds, k1, k2, k3, rfl⟩ | ⟨ob', ks, vs, ds, k1, k2, k3, rfl, k5⟩ | ⟨ob', ks, vs, ds, k1, k2, k3, rfl⟩
  · exact ⟨_, main _ k2 trivial (fun ob => .inr (.inr (.inl ⟨ob, ks, vs, ds, k1, upd_same, k3, rfl, k5⟩))) (by intro _ _ z; cases z) ⟨true, fun ob => ⟨_, rfl⟩⟩⟩
  · exact ⟨_, main _ k2 trivial (fun ob => .inr (.inr (.inr ⟨ob, ks, vs, ds, k1, upd_same, k3, rfl⟩))) (by intro _ _ z; cases z) ⟨false, fun ob => ⟨_, rfl⟩⟩⟩
  · cases hk
  · cases hk
theorem upd_swap {p d : Addr} {x u : HO} (h : p ≠ d) : upd (upd H p x) d u = upd (upd H d u) p x := by
  funext b
  unfold upd
  by_cases e1 : b = d
  · by_cases e2 : b = p
    · exact absurd (e2.symm.trans e1) h
    · rw [if_pos e1, if_neg e2, if_pos e1]
  · by_cases e2 : b = p
    · rw [if_neg e1, if_pos e2, if_pos e2]
    · rw [if_neg e1, if_neg e2, if_neg e2, if_neg e1]
end
/-- the dict that local i holds is locked while a list is made -/
def lockF (i : Nat) (f : EF) : EF := fun ρ S => match ρ[i]?.join with
  | some (.own n) => match S[n]? with
    | some (.dict kvs) => if isLk kvs = false then match f ρ (S.set n (.dict (lockD :: kvs))) with
        | some (.inl ds, S') => match S'[n]? with
          | some (.dict ((.none, _) :: kvs')) => ret ds (S'.set n (.dict kvs'))
          | _ => none
        | _ => none
      else none
    | _ => none
  | _ => none
def lockS (i : Nat) (g : SS) : SS := fun ρ S => match ρ[i]?.join with
  | some (.own n) => match S[n]? with
    | some (.dict kvs) => if isLk kvs = false then match g ρ (S.set n (.dict (lockD :: kvs))) with
        | some (.nx, ρ', S') => match S'[n]? with
          | some (.dict ((.none, _) :: kvs')) => some (.nx, ρ', S'.set n (.dict kvs'))
          | _ => none
        | _ => none
      else none
    | _ => none
  | _ => none
section
variable {X : Cx} {C : Str → Value} {W : WX} {e : Expr} {f : EF} {g : SS} {st : Stmt}
theorem join_var {ρ : Env1} {i : Nat} {o : OV} (h : ρ[i]?.join = some o) : ρ[i]? = some (some o) := by
  cases e : ρ[i]? with
  | none => rw [e] at h; cases h
  | some x => rw [e] at h; cases x with
    | none => cases h
    | some y => cases h; rfl
theorem df_lock (i : Nat) (h : DF X C W e f) : DF X C W e (lockF i f) := by
  obtain ⟨t, p, s⟩ := h.ex
  refine ⟨_, pe_lock p, fun ρ S r S' h L σ H Q en so po => ?_⟩
  unfold lockF at h
  split at h
  · rename_i n hj
    split at h
    · rename_i kvs hS
      split at h
      · rename_i hk
        split at h
        · rename_i ds S1 hf
          split at h
          · rename_i x kvs' hS1
            cases h
            obtain ⟨v, _, a, _, hL⟩ := en.get (join_var hj)
            obtain ⟨u, lk⟩ := lock_ok so hL hS hk
            refine ⟨a, u, lk.at_, lk.mu, fun ob => ?_⟩
            obtain ⟨m1, so1⟩ := lk.step1 ob
            refine s ρ _ _ _ hf L σ _ _ (en.cong m1) so1 ⟨fun b hb L' H' st so' q vs hq rs => ?_, fun e he => by cases he⟩
            cases hb
            obtain ⟨b1, b2, b3, b4⟩ := lk.back ob L' H' S1 x kvs' st so' hS1
            have hqa : q ≠ a := fun z => by rw [z, b1] at hq; cases hq
            refine ⟨by rw [upd_ne (Ne.symm hqa)]; exact b1, ?_⟩
            rw [upd_swap hqa]
            exact po.fine _ rfl L' (upd H' a u) b2 b3 q vs (by rw [upd_ne hqa]; exact hq) (by rw [← b4]; exact rs)
          · cases h
        · cases h
      · cases h
    · cases h
  · cases h
theorem ds_lock (i : Nat) (h : DS X C W st g) : DS X C W st (lockS i g) := by
  obtain ⟨t, p, s⟩ := h.ex
  refine ⟨_, ps_lock p, fun ρ S fl ρ' S' h L σ H D en so po => ?_⟩
  unfold lockS at h
  split at h
  · rename_i n hj
    split at h
    · rename_i kvs hS
      split at h
      · rename_i hk
        split at h
        · rename_i ρ1 S1 hf
          split at h
          · rename_i x kvs' hS1
            cases h
            obtain ⟨v, _, a, _, hL⟩ := en.get (join_var hj)
            obtain ⟨u, lk⟩ := lock_ok so hL hS hk
            refine ⟨a, u, lk.at_, lk.mu, fun ob => ?_⟩
            obtain ⟨m1, so1⟩ := lk.step1 ob
            refine s ρ _ _ _ _ hf L σ _ _ (en.cong m1) so1 ⟨fun _ L' H' σ' st so' en' => ?_, fun z => (by cases z), fun z => (by cases z), fun o z => (by cases z), fun e z => (by cases z)⟩
            obtain ⟨b1, b2, b3, b4⟩ := lk.back ob L' H' S1 x kvs' st so' hS1
            exact ⟨b1, po.nx rfl L' (upd H' a u) σ' b2 b3 (en'.cong b4)⟩
          · cases h
        · cases h
      · cases h
    · cases h
  · cases h
end
/-! ### the keys of a locked dict -/
def iKeysS (f : E1) : EI := fun ρ S => (f ρ S).bind fun o S1 => match o with
  | .own n => match S1[n]? with
    | some (.dict ((.none, _) :: kvs)) => ret (kvs.map (·.1), none) S1
    | _ => none
  | _ => none
section
variable {K : PySem.W.Frag} {L L' : List Addr} {H H' : Hp} {S S' : Sto}
theorem rep_key {G : Hp} (k : L2.Key) : Rep K G (kV k) (keyD k) := by
  cases k with
  | inl i => exact .int i
  | inr x => exact .str x
theorem reps_keys {G : Hp} : ∀ ks : List L2.Key, Reps K G (ks.map kV) (ks.map keyD)
  | [] => .nil
  | k :: ks => .cons (rep_key k) (reps_keys ks)
theorem not_own_tup (so : StoR K L H S) {q : Addr} {vs : List V} (h : H q = some (.tup vs)) : q ∉ L := fun hm => by
  obtain ⟨n, hn, e⟩ := List.mem_iff_getElem.mp hm
  have h1 : L[n]? = some q := by rw [List.getElem?_eq_getElem hn, e]
  have h2 : S[n]? = some (S[n]'(by rw [← so.len]; exact hn)) := List.getElem?_eq_getElem _
  have od := so.obj n q _ h1 h2
  generalize S[n]'(by rw [← so.len]; exact hn) = d at od
  cases d with
  | list ds => obtain ⟨vs', k, _⟩ := (od : ObjR K (mask L H) H q (.list ds)); rw [h] at k; cases k
  | dict kvs =>
    rcases (od : ObjR K (mask L H) H q (.dict kvs)) with ⟨_, _, _, _, k, _⟩ | ⟨_, _, _, _, k, _⟩ | ⟨_, _, _, _, _, k, _⟩ | ⟨_, _, _, _, _, k, _⟩ <;> rw [h] at k <;> cases k
  | none => exact od
  | bool _ => exact od
  | int _ => exact od
  | str _ => exact od
  | tuple _ => exact od
theorem zip_at {α β : Type} {xs : List α} {ys : List β} (hl : xs.length = ys.length) {i : Nat} {a : α} {b : β} (h : (xs.zip ys)[i]? = some (a, b)) : xs[i]? = some a := (List.getElem?_zip_eq_some.mp h).1
theorem keys_of_zip {κ : Type} {f : κ → D} {ks : List κ} {ds : List D} (hl : ks.length = ds.length) : ((ks.map f).zip ds).map (·.1) = ks.map f := by
  rw [List.map_fst_zip (by simp; omega)]
theorem serves_keys {p : Addr} {ob : Obj} {ks : List L2.Key} {vs : List V} {items : List D} (hl : ks.length = vs.length) (hp : H p = some (.frz ob (.dK (ks.zip vs)))) (hi : items = ks.map keyD) : Serves K L H (Itk p ob (ks.zip vs)) items none := by
  subst hi
  refine ⟨fun L' H' S' st so ok => ?_⟩
  have hp' := st.fz _ _ _ hp
  have e : (ks.zip vs).length = ks.length := by simp; omega
  refine ⟨fun i hi => ⟨hp', by rw [e]; simpa using hi⟩, ⟨hp', by rw [e]; simp⟩, fun i x H2 hi y => ?_⟩
  obtain ⟨rfl, k, v, h1, rfl⟩ := y
  exact ⟨Step.refl, so, keyD k, by rw [List.getElem?_map, zip_at hl h1]; rfl, rep_key k⟩
theorem serves_keysT {p : Addr} {ob : Obj} {ks : List (List L2.Key)} {vs : List V} {items : List D} (hl : ks.length = vs.length) (hp : H p = some (.frz ob (.dT (ks.zip vs)))) (hi : items = ks.map keysD) : Serves K L H (Itkt p ob (ks.zip vs)) items none := by
  subst hi
  refine ⟨fun L' H' S' st so ok => ?_⟩
  have hp' := st.fz _ _ _ hp
  have e : (ks.zip vs).length = ks.length := by simp; omega
  refine ⟨fun i hi => ⟨hp', by rw [e]; simpa using hi⟩, ⟨hp', by rw [e]; simp⟩, fun i x H2 hi y => ?_⟩
  obtain ⟨rfl, k, v, q, h1, rfl, h2⟩ := y
  exact ⟨Step.refl, so, keysD k, by rw [List.getElem?_map, zip_at hl h1]; rfl, .tup (mask_of (not_own_tup so h2) h2) (reps_keys k)⟩
/-- a read of a locked dict -/
theorem dget_lk {kvs : List (D × D)} {z kd d : D} {p : Addr} {y : V} {o : OV} (h : dgetD kvs kd = some d) (D0 : DictAt K (mask L H) H p ((.none, z) :: kvs)) (e : view S o = some kd) (r : RepO K L H y o) (s : StoR K L H S) : ∃ v, DGet H p y (some v) ∧ Rep K (mask L H) v d := by
  unfold dgetD at h
  split at h
  · rename_i c
    have hne := valD_mem h
    rcases D0 with ⟨ks, vs, ds, hl, hp, rs, e2⟩ | ⟨ks, vs, ds, hl, hp, rs, e2⟩ | ⟨ob, ks, vs, ds, hl, hp, rs, e2⟩ | ⟨ob, ks, vs, ds, hl, hp, rs, e2⟩
    · exact (zip_none keyD_ne e2).elim
    · exact (zip_none keysD_ne e2).elim
    · have e2 : kvs = (ks.map keyD).zip ds := (List.cons.inj e2).2
      obtain ⟨k, rfl⟩ := isK1_ex (kind2 e2 hne isKT_key c)
      rw [e2] at h
      obtain ⟨v, h1, h2⟩ := (valD_rep keyD eqv_key k hl rs).1 d h
      refine ⟨v, ?_, h2⟩
      rw [view_key e r s, ← h1]
      exact .inl ⟨_, _, .inr ⟨ob, hp⟩, rfl, rfl⟩
    · have e2 : kvs = (ks.map keysD).zip ds := (List.cons.inj e2).2
      obtain ⟨k, rfl⟩ := isKT_ex (kind1 e2 hne isK1_keys c)
      rw [e2] at h
      obtain ⟨v, h1, h2⟩ := (valD_rep keysD eqv_keys k hl rs).1 d h
      obtain ⟨b, rfl, hb⟩ := key_tup e r s
      refine ⟨v, ?_, h2⟩
      rw [← h1]
      exact .inr ⟨_, _, b, .inr ⟨ob, hp⟩, rfl, hb, rfl⟩
  · cases h
end
def ixW (S : Sto) (a b : OV) : Option D := match view S a with
  | some (.dict ((.none, _) :: kvs)) => (view S b).bind fun k => dgetD kvs k
  | _ => none
section
variable {X : Cx} {C : Str → Value} {W : WX} {a b tg e : Expr} {pos : Pos} {fa fb fe : E1}
theorem di_keys (h : DE X C W e fe) : DI X C W tg e (iKeysS fe) := by
  obtain ⟨t, p, s⟩ := h.ex
  refine ⟨_, pi_keys p, fun ρ S r S' h L σ H R en so po => ?_⟩
  refine s.bind h en so po fun o S1 L1 H1 v h1 st1 so1 r1 en1 po1 => ?_
  split at h1
  · rename_i n
    split at h1
    · rename_i z kvs hS
      obtain ⟨a, rfl, hL⟩ := r1
      rcases (so1.obj n a _ hL hS : ObjR X.K (mask L1 H1) H1 a (.dict ((.none, z) :: kvs))) with ⟨ks, vs, ds, k1, k2, k3, k4, _⟩ | ⟨ks, vs, ds, k1, k2, k3, k4⟩ | ⟨ob, ks, vs, ds, k1, k2, k3, k4, _⟩ | ⟨ob, ks, vs, ds, k1, k2, k3, k4⟩
      · exact (zip_none keyD_ne k4).elim
      · exact (zip_none keysD_ne k4).elim
      · have e2 : kvs = (ks.map keyD).zip ds := (List.cons.inj k4).2
        refine ⟨a, ob, rfl, .inl ⟨_, k2, po1.done (S0 := S1) h1 Step.refl so1 _ (serves_keys k1 k2 ?_)⟩⟩
        rw [e2]
        exact keys_of_zip (k1.trans k3.length)
      · have e2 : kvs = (ks.map keysD).zip ds := (List.cons.inj k4).2
        refine ⟨a, ob, rfl, .inr ⟨_, k2, po1.done (S0 := S1) h1 Step.refl so1 _ (serves_keysT k1 k2 ?_)⟩⟩
        rw [e2]
        exact keys_of_zip (k1.trans k3.length)
    · cases h1
  · cases h1
theorem ri_ixW (hu : X.A.units + 1 < cLine) : IxR X (rOf X.K ixW) := by
  intro value slice pins s σ H x y v u Q I rx ry h hs
  obtain ⟨L, S, a, b, d, so, ra, rb, e, q⟩ := h
  unfold ixW at e
  split at e
  · rename_i z kvs h1
    obtain ⟨p, rfl, D0⟩ := dict_at h1 ra so
    obtain ⟨kd, e1, e2⟩ := opt_bind e
    obtain ⟨w, g, rw'⟩ := dget_lk e2 D0 e1 rb so
    obtain rfl : v = Value.ref p := rx
    refine tail_any (dict_typeIs I g) PySem.F.slot_dict_getitem.lookup (d_getItem hu I g ry fun w' s' I' r' => ⟨w, H, I', r', q _ _ Step.refl so rw'⟩) hs
  · cases e
theorem de_ixW (hu : X.A.units + 1 < cLine) (ha : DE X C W a fa) (hb : DE X C W b fb) (hs : PlainIx b) : DE X C W (.Subscript a b pos) (op2 ixW fa fb) := by
  obtain ⟨ta, p1, s1⟩ := ha.ex
  obtain ⟨tb, p2, s2⟩ := hb.ex
  exact ⟨_, pe_ix (ri_ixW hu) p1 p2 hs, sm_op s1 s2⟩
end
/-! ### an empty dict, and stores with tuple keys -/
def fDNewT : E1 := fun _ S => ret (.own S.length) (S ++ [.dict []])
def dputT (kvs : List (D × D)) (k v : D) : Option (List (D × D)) := if kvs.length < sizeLine ∧ isKT k = true ∧ (kvs.all fun p => isKT p.1) then some (putD kvs k v) else none
def sPutT (fo fi fe : E1) : SS := sE fe fun v => sE fo fun o => sE fi fun i ρ S => match v, o with
  | .dat d, .own n => match S[n]? with
    | some (.dict kvs) => (view S i).bind fun k => (dputT kvs k d).bind fun kvs' => some (.nx, ρ, S.set n (.dict kvs'))
    | _ => none
  | _, _ => none
section
variable {K : PySem.W.Frag} {H : Hp} {L : List Addr} {S : Sto}
theorem dputT_ok {kvs kvs' : List (D × D)} {kd d : D} {p : Addr} {y v : V} {o : OV} {n : Nat} (h : dputT kvs kd d = some kvs') (so : StoR K L H S) (hL : L[n]? = some p) (hS : S[n]? = some (.dict kvs)) (e : view S o = some kd) (r : RepO K L H y o) (rv : Rep K (mask L H) v d) :
    ∃ H', DPut H p y v H' ∧ Step L H L H' ∧ StoR K L H' (S.set n (.dict kvs')) := by
  have D0 : ObjR K (mask L H) H p (.dict kvs) := so.obj n p _ hL hS
  unfold dputT at h
  split at h
  · rename_i c
    obtain ⟨c1, c2, c3⟩ := c
    cases h
    rcases D0 with ⟨ks, vs, ds, hl, hp, rs, e2, hne⟩ | ⟨ks, vs, ds, hl, hp, rs, e2⟩ | ⟨ob, ks, vs, ds, hl, hp, rs, e2, _⟩ | ⟨ob, ks, vs, ds, hl, hp, rs, e2⟩
    · cases ks with
      | nil => exact absurd rfl hne
      | cons k ks =>
        cases rs with
        | nil => simp at hl
        | cons h1 h2 =>
          rw [e2] at c3
          simp [isKT_key] at c3
    · obtain ⟨k, rfl⟩ := isKT_ex c2
      have rk : RepKv K (mask L H) keysD (ks.zip vs) kvs := by rw [e2]; exact RepKv.of hl rs
      obtain ⟨ks', vs', ds', h1, h2, h3, h4⟩ := (rk.put eqv_keys k rv).out
      have hz : (ks.zip vs).length < sizeLine := by rw [rk.length]; exact c1
      obtain ⟨w1, w2⟩ := so.write (o := .dT (putK (ks.zip vs) k v)) hL (d := .dict (putD kvs (keysD k) d)) (.inr (.inl ⟨ks', vs', ds', h1, by rw [upd_same, h2], h3, h4⟩)) (nf_of hp)
      obtain ⟨b, rfl, hb⟩ := key_tup e r so
      exact ⟨_, DPut.t hp hb hz, w1, w2⟩
    · rw [e2] at c3; exact (lock_no (.inr ⟨c2, c3⟩)).elim
    · rw [e2] at c3; exact (lock_no (.inr ⟨c2, c3⟩)).elim
  · cases h
end
section
variable {X : Cx} {C : Str → Value} {W : WX} {o i e : Expr} {fo fi fe : E1} {pos p2 : Pos}
theorem de_dnewT : DE X C W (.Dict [] [] pos) fDNewT := by
  refine ⟨_, pe_dnewT, fun ρ S r S' h L σ H Q en so po => ?_⟩
  intro p hp
  obtain ⟨k1, k2, k3⟩ := own_dT so hp (kv := []) (kvs := []) .nil
  exact po.done (S0 := S ++ [.dict []]) (show ret (.own S.length) (S ++ [.dict []]) = some (r, S') from h) k1 k2 _ k3
theorem ds_putT (hu : X.A.units + 1 < cLine) (ho : DE X C W o fo) (hi : DE X C W i fi) (he : DE X C W e fe) (hs : swapsWith e (some (.Subscript o i p2)) pos.line X.env = pure false := by rfl) : DS X C W (.Assign [.Subscript o i p2] e pos) (sPutT fo fi fe) := by
  obtain ⟨t1, p1, s1⟩ := ho.ex
  obtain ⟨t2, q2, s2⟩ := hi.ex
  obtain ⟨t3, p3, s3⟩ := he.ex
  refine ⟨_, ps_dput hu p1 q2 p3 hs, fun ρ S fl ρ' S' h L σ H D en so po => ?_⟩
  refine s3.stm h en so po fun x S1 L1 H1 v h1 st1 so1 r1 en1 po1 => ?_
  refine s1.stm h1 en1 so1 po1 fun y S2 L2 H2 u h2 st2 so2 r2 en2 po2 => ?_
  refine s2.stm h2 en2 so2 po2 fun z S3 L3 H3 w h3 st3 so3 r3 en3 po3 => ?_
  split at h3
  · rename_i d n
    split at h3
    · rename_i kvs hn
      obtain ⟨k, e1, h4⟩ := opt_bind h3
      obtain ⟨kvs', e2, h5⟩ := opt_bind h4
      cases h5
      obtain ⟨a, ea, hL⟩ := r2.step st3
      have rd := (r1.step st2).step st3
      obtain ⟨H4, g, k1, k2⟩ := dputT_ok e2 so3 hL hn e1 r3 rd
      exact ⟨a, H4, ea, g, po3.nx rfl L3 _ σ k1 k2 (en3.step k1)⟩
    · cases h3
  · cases h3
end
/-! ### a, b = x, y by way of a pair, owned things too -/
def sAsgO (n : Nat) (fa : EL) (t : Tgs) : SS := fun ρ S => match fa ρ S with
  | none => none
  | some (.inr e, S1) => some (.er e, ρ, S1)
  | some (.inl os, S1) => if os.length = n then (t os ρ).bind fun ρ1 => some (.nx, ρ1, S1) else none
section
variable {X : Cx} {C : Str → Value} {W : WX}
theorem ds_asgO {es xs : List Expr} {fa : EL} {is : List Nat} {t : Tgs} {k k2 : Nat} {n : Nat} {pt p2 pos : Pos} (hc : X.calm = true) (hg : DGs X es is t) (ha : DA X C W xs fa) (hz : n ≤ sizeLine := by decide) (hn : (assignEach es X.env).length = n := by rfl) (hst : (assignEach es X.env).findIdx? (·.1) = none := by rfl)
    (hs : swapsWithSole [.Tuple es k pt] (.Tuple xs k2 p2) pos.line X.env = pure false := by rfl) (hw : swappedStores [.Tuple es k pt] (.Tuple xs k2 p2) X.env = pure none := by rfl)
    (h1 : (assignEach [.Tuple es k pt] X.env).map (·.2) = [assign (.Tuple es k pt) X.env] := by rfl) :
    DS X C W (.Assign [.Tuple es k pt] (.Tuple xs k2 p2) pos) (sAsgO n fa t) := by
  obtain ⟨ta, pa, s⟩ := ha.ex
  obtain ⟨g, pg, sg⟩ := hg.ex
  refine ⟨_, ps_asg (pe_tup pa) (pg_tup hc pg hn hst) hs hw h1, fun ρ S fl ρ' S' h L σ H D en so po => ?_⟩
  unfold sAsgO at h
  split at h
  · cases h
  · rename_i e S1 q
    cases h
    exact s ρ S _ _ q L σ H _ en so ⟨fun b z => (by cases z), fun e' he L' H' st so' cls d x => po.er e' (by cases he; rfl) L' H' σ cls d st so' (en.step st) x⟩
  · rename_i os S1 q
    split at h
    · rename_i hl
      obtain ⟨ρ1, e1, e2⟩ := opt_bind h
      cases e2
      refine s ρ S _ _ q L σ H _ en so ⟨fun b z L' H' st so' vs rv => ?_, fun e' he => by cases he⟩
      cases z
      refine ⟨by rw [rv.length, hl]; exact hz, fun p hp => ⟨p, vs, rfl, SqT.of upd_same, by rw [rv.length, hl], ?_⟩⟩
      have sn := step_new (L := L') (o := .tup vs) hp
      exact sg _ _ _ e1 L' σ (upd H' p (.tup vs)) _ vs _ ((en.step st).step sn) (so'.laid hp) (rv.step sn) fun σ' en' _ => po.nx rfl L' _ σ' (st.trans sn) (so'.laid hp) en'
    · cases h
end
end Dk
set_option Elab.async false
set_option linter.all false
set_option maxRecDepth 100000
set_option maxHeartbeats 4000000
/-! sorted(tuples), the first of which is empty. -/
namespace Dk
open PySem PySem.Spec PySem.Calls PyProof.Rows L2 PySem.SeqAt PySem.W
section
variable {prog : Program} {w : World} {A : Around} {E : Value → Shared → Prop} {s : Shared}
theorem call_tuple_lt {Q : Value → Shared → Prop} {l b : Addr} {items items2 : Array Value} {e r : Nat → Bool} (hl : s.heap.IsTuple l items) (hb : s.heap.IsTuple b items2)
    (he : ∀ j (h1 : j < items.size) (h2 : j < items2.size), EqAt A.in1 s items[j] items2[j] (e j)) (hr : ∀ j (h1 : j < items.size) (h2 : j < items2.size), e j = false → RcLt A.in1 s items[j] items2[j] (r j))
    (h : Q (.bool (firstLt e r (decide (items.size < items2.size)) (List.range (min items.size items2.size)))) s) : wpAny (model prog w) A (call (.builtin "tuple.__lt__") [.ref l, .ref b]) Q E s := by
  obtain ⟨⟨cls, dd, data, sl⟩, ho, hc, n, hd⟩ := id hl
  obtain ⟨⟨cls2, dd2, data2, sl2⟩, ho2, hc2, n2, hd2⟩ := id hb
  simp only at hc hd hc2 hd2
  subst hc hd hc2 hd2
  exact call_meets PySem.F.slot_tuple_lt ⟨_, ho, rfl⟩ PySem.F.entry_tuple_lt (PySem.F.args_tuple_lt_2 _ _) (tuple_ltAt l b items items2 n n2 dd dd2 sl sl2 e r) ⟨ho, ho2, he, hr, h⟩
theorem oneLt_tup {xs : List PyData} {db : PyData} {a b : Value} {as bs : List Addr} {Q : Bool → Shared → Prop} (ra : Reads s.heap a (.tuple xs) as) (rb : Reads s.heap b db bs) (h : alike (.tuple xs) db = true)
    (hu : A.units + min (PyData.depth (.tuple xs)) db.depth < cLine) (hq : Q (dataLt (.tuple xs) db) s) : wpAny (model prog w) A (oneLt' true a b) Q E s := by
  cases db with
  | tuple ys =>
    have hal : alikeAll xs ys = true := by simpa [alike] using h
    cases ra with
    | @tuple l o vs n _ as₁ h1 h2 h3 h4 =>
      cases rb with
      | @tuple l' o' vs' n' _ bs₁ k1 k2 k3 k4 =>
        have n1 : vs.size = xs.length := by simpa using ReadsAll.length _ _ _ h4
        have n2 : vs'.size = ys.length := by simpa using ReadsAll.length _ _ _ k4
        rw [dataLt_tuple, ← firstLt_toks xs ys hal, ← n1, ← n2] at hq
        rw [oneLt'_eq]
        simp only [if_true]
        refine wpAny_bind (wpAny_cRoomFor (room_here hu) ?_)
        refine wpAny_bind (wpAny_callSpecialIfBound?_slot (T := "tuple") ⟨_, h1, h2⟩ PySem.F.slot_tuple_lt (call_tuple_lt (e := pairEq xs ys) (r := fun j => dataLt (xs.getD j .none) (ys.getD j .none)) ⟨_, h1, h2, _, h3⟩ ⟨_, k1, k2, _, k3⟩ (fun j j1 j2 => ?_) (fun j j1 j2 hj => ?_) ?_))
        · have := eqAt_alikeAll xs ys A.in1 s vs.toList vs'.toList _ _ h4 k4 hal (room_in hu) j (by simpa using j1) (by simpa using j2)
          simpa using this
        · have := rcLt_alikeAll xs ys A.in1 s vs.toList vs'.toList _ _ h4 k4 hal (room_in hu) j (by simpa using j1) (by simpa using j2) hj
          simpa using this
        · exact wpAny_truthy_bool hq
  | _ => exact absurd h (by simp [alike])
theorem firsts_any {M : Model} : ∀ (vs : List Value) {Q : List (Option Value) → Shared → Prop}, (∀ v ∈ vs, ∃ a o xs n, v = .ref a ∧ s.heap.get? a = some o ∧ o.cls = .type "tuple" ∧ o.data = .seq xs n) → (∀ os, Q os s) → wpAny M A (vs.mapM firstOfTuple') Q E s
  | [], _, _, h => by rw [List.mapM_nil]; exact wpAny_pure (h [])
  | v :: vs, Q, t, h => by
    obtain ⟨a, o, xs, n, rfl, ho, hc, hd⟩ := t v (by simp)
    rw [List.mapM_cons]
    refine wpAny_bind ?_
    rw [kas_first_eq]
    refine wpAny_bind (Looks.here (show Looks M s.heap (typeOf (.ref a)) o.cls from (Looks.ld ho).andThen .now) ?_)
    rw [hc, if_neg (by first | decide | simp)]
    refine wpAny_bind (listItems_at ho hd (wpAny_pure ?_))
    exact wpAny_bind (firsts_any vs (Q := fun bs s' => wpAny M A (pure (xs[0]? :: bs)) Q E s') (fun v hv => t v (by simp [hv])) fun os => wpAny_pure (h _))
theorem kind_tup {M : Model} {v₁ : Value} {vs : List Value} {Q : SortKind → Shared → Prop} (h1 : ∃ a o n, v₁ = .ref a ∧ s.heap.get? a = some o ∧ o.cls = .type "tuple" ∧ o.data = .seq #[] n) (ht : ∀ v ∈ vs, ∃ a o xs n, v = .ref a ∧ s.heap.get? a = some o ∧ o.cls = .type "tuple" ∧ o.data = .seq xs n) (h : Q oneType' s) :
    wpAny M A (keyKind' (v₁ :: vs).toArray) Q E s := by
  have hT : ∀ v ∈ v₁ :: vs, Looks M s.heap (typeOf v) (.type "tuple") := fun v hv => by
    obtain ⟨a, o, n, rfl, ho, hc, hd⟩ := h1
    rcases List.mem_cons.mp hv with rfl | hv
    · exact hc ▸ (show Looks M s.heap (typeOf (.ref a)) o.cls from (Looks.ld ho).andThen .now)
    · obtain ⟨a, o, xs, n, rfl, ho, hc, hd⟩ := ht v hv
      exact hc ▸ (show Looks M s.heap (typeOf (.ref a)) o.cls from (Looks.ld ho).andThen .now)
  rw [keyKind'_eq, List.mapM_toArray, map_eq_pure_bind]
  refine wpAny_bind (wpAny_bind ?_)
  obtain ⟨a, o, n, e1, ho, hc, hd⟩ := h1
  rw [List.mapM_cons]
  refine wpAny_bind ?_
  rw [kas_first_eq, e1]
  refine wpAny_bind (Looks.here (show Looks M s.heap (typeOf (.ref a)) o.cls from (Looks.ld ho).andThen .now) ?_)
  rw [hc, if_neg (by first | decide | simp)]
  refine wpAny_bind (listItems_at ho hd (wpAny_pure ?_))
  refine wpAny_bind (firsts_any vs ht fun os => wpAny_pure (wpAny_pure ?_))
  rw [if_neg (by simp), if_neg (by simp)]
  rw [oneTypeOnly'_eq, List.mapM_toArray, map_eq_pure_bind]
  rw [← e1]
  refine wpAny_bind (wpAny_bind (wpAny_bind (kas_mapM (r := Value.type "tuple") _ (fun v hv Q' hq => (hT v hv).here hq) (wpAny_pure ?_))))
  have hall : ((List.map (fun _ => Value.type "tuple") (v₁ :: vs)).toArray.all fun x => x == Value.type "tuple") = true := by
    simp only [List.all_toArray, List.all_map, List.all_eq_true]
    intro _ _
    rfl
  have h0 : (List.map (fun _ => Value.type "tuple") (v₁ :: vs)).toArray[0]? = some (Value.type "tuple") := by simp
  rw [h0]
  simp only [hall, if_true]
  exact wpAny_pure (wpAny_pure h)
theorem reads_tup {h : Heap} {v : Value} {xs : List PyData} {as : List Addr} (r : Reads h v (.tuple xs) as) : ∃ a o ys n, v = .ref a ∧ h.get? a = some o ∧ o.cls = .type "tuple" ∧ o.data = .seq ys n ∧ ys.size = xs.length := by
  cases r with
  | @tuple l o vs n _ _ h1 h2 h3 h4 => exact ⟨l, o, vs, n, rfl, h1, h2, h3, by simpa using ReadsAll.length _ _ _ h4⟩
theorem sortsAt_tup {vs : List Value} {ds : List PyData} (e : EachIs (fun v d => ∃ as, Reads s.heap v d as) vs (.tuple [] :: ds)) (hal : AllAlike (.tuple [] :: ds)) (ht : ∀ d ∈ ds, ∃ xs, d = .tuple xs) (hu : ∀ d, d ∈ PyData.tuple [] :: ds → A.units + d.depth < cLine) : SortsAt prog w A s (dataKind s.heap (.tuple [] :: ds)) vs := by
  have room : ∀ {d d' : PyData}, d ∈ PyData.tuple [] :: ds → A.units + min d.depth d'.depth < cLine := fun {d d'} hd => Nat.lt_of_le_of_lt (Nat.add_le_add_left (Nat.min_le_left _ _) _) (hu d hd)
  have ht' : ∀ d ∈ PyData.tuple [] :: ds, ∃ xs, d = .tuple xs := fun d hd => by
    rcases List.mem_cons.mp hd with rfl | hd
    · exact ⟨[], rfl⟩
    · exact ht d hd
  refine ⟨fun v hv => ?_, oneType', ?_, fun h2 E Q hq => ?_⟩
  · obtain ⟨d, hd, as, r⟩ := e.left v hv
    exact ⟨_, dataKind_some hal hd r⟩
  · intro E x y a b Q ha hb hq
    obtain ⟨d, as, hd, ra, rfl⟩ := dataKind_inv ha
    obtain ⟨d', as', hd', rb, rfl⟩ := dataKind_inv hb
    rw [keyLt'_oneType]
    obtain ⟨xs, rfl⟩ := ht' d hd
    exact oneLt_tup ra rb (hal _ hd d' hd') (room hd) hq
  · cases e with
    | cons h1 t =>
      obtain ⟨as, r⟩ := h1
      refine kind_tup ?_ (fun v hv => ?_) hq
      · obtain ⟨a, o, ys, n, k1, k2, k3, k4, k5⟩ := reads_tup r
        have : ys = #[] := by simpa using k5
        subst this
        exact ⟨a, o, n, k1, k2, k3, k4⟩
      · obtain ⟨d, hd, as, r⟩ := t.left v hv
        obtain ⟨xs, rfl⟩ := ht d hd
        obtain ⟨a, o, ys, n, k1, k2, k3, k4, _⟩ := reads_tup r
        exact ⟨a, o, ys, n, k1, k2, k3, k4⟩
end
section
variable {prog : Program} {w : World} {A : Around} {E : Value → Shared → Prop} {s : Shared} {β : Type} {vs : List Value} {bs : List β} {enc : β → PyData} {R : Value → β → Prop}
theorem sorted_dataT {l : Addr} {Q : Value → Shared → Prop} (hl : s.heap.IsList l vs.toArray) (e : EachIs R vs bs) (er : EachIs (fun v b => ∃ as, Reads s.heap v (enc b) as) vs bs) (hal : AllAlike (bs.map enc)) (hk : ∃ ds, bs.map enc = .tuple [] :: ds ∧ ∀ d ∈ ds, ∃ xs, d = .tuple xs) (hL : bs.length ≤ sizeLine)
    (hu : ∀ b, b ∈ bs → A.units + 2 + (enc b).depth < cLine) (h : ∀ out, out.length = bs.length → EachIs R out (bs.mergeSort (dataLe false enc)) → Q (.ref (s.heap.objs.size + 1)) { s with heap := sortedAll s.heap vs (List.toArray out) }) :
    wpAny (model prog w) A (call (.builtin "sorted") [.ref l]) Q E s := by
  have er' : EachIs (fun v b => ∃ as, Reads (sortingHeap (copyHeap s.heap vs) (s.heap.objs.size + 1) vs) v (enc b) as) vs bs := er.mono fun _ _ ⟨as, r⟩ => ⟨as, PyProof.Rows.Reads.keeps (fun _ _ => sorting_copy_old) r⟩
  have em := each_map (R := fun v d => ∃ as, Reads (sortingHeap (copyHeap s.heap vs) (s.heap.objs.size + 1) vs) v d as) enc er'
  have hb := bound_map (A := A.in1.in1) (enc := enc) (bs := bs) (fun b hb => hu b hb)
  refine sorted_vals (κ := dataKind (sortingHeap (copyHeap s.heap vs) (s.heap.objs.size + 1) vs) (bs.map enc)) hl ?_ (by rw [e.length]; exact hL)
    (h _ (by rw [sortVals_length false rfl]; exact e.length) (sortVals_data false e er' hal))
  obtain ⟨ds, e1, e2⟩ := hk
  rw [e1] at em hal hb ⊢
  exact sortsAt_tup (s := { s with heap := sortingHeap (copyHeap s.heap vs) (s.heap.objs.size + 1) vs }) em hal e2 hb
end
def tup1B : List D → Bool
  | .tuple [] :: r => r.all fun d => match d with
    | .tuple _ => true
    | _ => false
  | _ => false
theorem tup1B_ok {ds : List D} (h : tup1B ds = true) : ∃ r, ds = .tuple [] :: r ∧ ∀ d ∈ r, ∃ xs, d = .tuple xs := by
  unfold tup1B at h
  split at h
  · rename_i r
    refine ⟨r, rfl, fun d hd => ?_⟩
    have := List.all_eq_true.mp h d hd
    cases d <;> first | exact ⟨_, rfl⟩ | cases this
  · cases h
def sortT (S : Sto) (os : List OV) : Option (List D) := match os with
  | [o] => (viewL S o).bind fun ds => if PyData.canLayAll0 ds = true ∧ alikeB ds = true ∧ tup1B ds = true ∧ (∀ d ∈ ds, d.depth ≤ 64) then some (ds.mergeSort (PySem.W.dataLe false id)) else none
  | _ => none
theorem rc_sortedT {X : Cx} {k : Nat} (hr : Room k X.A) : CallR X (.builtin "sorted") (rOfF X.K sortT) := by
  intro pins s σ H xs us Q I r h
  obtain ⟨L, S, os, ds', so, ro, e, q⟩ := h
  unfold sortT at e
  split at e
  · obtain ⟨v, rfl, rv⟩ := reps_one ro
    obtain ⟨ds, e1, e2⟩ := opt_bind e
    split at e2
    · rename_i hz
      obtain ⟨hlay, hal, hso, hdp⟩ := hz
      cases e2
      obtain ⟨a, vs, rfl, m, rs⟩ := view_list (viewL_eq e1) rv so
      obtain ⟨u, rfl, ru⟩ := Vals.one r
      cases ru
      obtain ⟨its, vr, pl, hlen⟩ := I.list m
      have dp : DpAll X.K H vs ds := Reps.dp (rs.mono (mask_same L H)) hlay
      obtain ⟨as, rd⟩ := Dp.readsAll I ds vs its dp vr
      obtain ⟨z1, z2, z3⟩ := reps_zip rs
      have hl := rs.length
      have hdp' : ∀ p ∈ vs.zip ds, p.2.depth ≤ 64 := fun p hp => hdp _ (z2 ▸ List.mem_map_of_mem hp)
      refine sorted_dataT (bs := vs.zip ds) (enc := Prod.snd) (R := fun u (p : V × D) => RelV p.1 u) pl.isList (vals_each rs vr) (reads_each hl rd) (by rw [z2]; exact alikeB_ok hal) (by rw [z2]; exact tup1B_ok hso) (by rw [z3, ← hl]; exact hlen)
        (fun p hp => by have := hdp' p hp; have := hr.un; omega) fun out ho er => ?_
      have hperm := List.mergeSort_perm (vs.zip ds) (PySem.W.dataLe false Prod.snd)
      have rs2 := zip_reps (l := (vs.zip ds).mergeSort (PySem.W.dataLe false Prod.snd)) fun p hp => z1 p (hperm.mem_iff.mp hp)
      have hmap : ((vs.zip ds).mergeSort (PySem.W.dataLe false Prod.snd)).map Prod.snd = ds.mergeSort (PySem.W.dataLe false id) := by
        exact (PySem.W.sort_maps (r := PySem.W.dataLe false Prod.snd) (s := PySem.W.dataLe false id) (l := vs.zip ds) Prod.snd (fun a _ b _ => rfl)).trans (by rw [z2])
      rw [hmap] at rs2
      have vals2 := each_vals er
      obtain ⟨c, hc⟩ := PyProof.Rows.sortedAll_at s.heap its out.toArray
      have hf : H (s.heap.objs.size + 1) = none := I.hok.fresh (Nat.le_succ _)
      have J := I.laid (a := s.heap.objs.size + 1) (o := .lst (((vs.zip ds).mergeSort (PySem.W.dataLe false Prod.snd)).map Prod.fst)) (h' := PyProof.Rows.sortedAll s.heap its out.toArray) (t' := s.toks) (fun b u e => PyProof.Rows.sortedAll_old e) (Nat.le_succ _)
        ⟨by rw [rs2.length, List.length_mergeSort, ← hl]; exact hlen, out, c, vals2, hc⟩
      exact ⟨.ref (s.heap.objs.size + 1), _, J, rfl, q _ _ hf rs2⟩
    · cases e2
  · cases e
end Dk
set_option Elab.async false
set_option linter.all false
set_option maxRecDepth 100000
set_option maxHeartbeats 4000000
/-! A dict that is filled in a piece of a def and is data behind it; dict(d); {x: (0, ())}. -/
namespace Dk
open PySem PySem.Spec PyProof.Rows L2
def thaw (n : Nat) (S' : Sto) : Option OV → Option OV
  | some (.own k) => if k < n then some (.own k) else match S'[k]? with
    | some (.list ds) => some (.dat (.list ds))
    | some (.dict kvs) => if isLk kvs = true then none else some (.dat (.dict kvs))
    | _ => none
  | o => o
def shrS (g : SS) : SS := fun ρ S => match g ρ S with
  | some (.nx, ρ', S') => some (.nx, ρ'.map (thaw S.length S'), S'.take S.length)
  | _ => none
section
variable {K : PySem.W.Frag} {L L' : List Addr} {H H' : Hp} {S S' : Sto}
theorem EnvR.thaw {σ : L2.St} {ρ : Env1} (so : StoR K L H S) (st : Step L H L' H') (so' : StoR K L' H' S') (en : EnvR K L' H' σ ρ) : EnvR K L H' σ (ρ.map (thaw S.length S')) := by
  have less : Same (mask L' H') (mask L H') := by
    obtain ⟨M, rfl⟩ := st.pre
    exact mask_less fun a h => by simp [h]
  refine ⟨by rw [List.length_map]; exact en.1, fun i o h => ?_⟩
  rw [List.getElem?_map] at h
  cases e0 : ρ[i]? with
  | none => rw [e0] at h; cases h
  | some o0 =>
    rw [e0] at h
    have h : Dk.thaw S.length S' o0 = some o := Option.some.inj h
    cases o0 with
    | none => cases h
    | some o1 =>
      obtain ⟨v, h1, h2⟩ := en.2 i o1 e0
      refine ⟨v, h1, ?_⟩
      cases o1 with
      | dat d =>
        cases h
        exact Rep.mono less h2
      | own k =>
        obtain ⟨a, rfl, hL⟩ := h2
        have h : (if k < S.length then some (OV.own k) else match S'[k]? with
          | some (.list ds) => some (.dat (.list ds))
          | some (.dict kvs) => if isLk kvs = true then none else some (.dat (.dict kvs))
          | _ => none) = some o := h
        split at h
        · rename_i hk
          cases h
          obtain ⟨M, rfl⟩ := st.pre
          exact ⟨a, rfl, by rw [List.getElem?_append_left (by rw [so.len]; exact hk)] at hL; exact hL⟩
        · rename_i hk
          have out : a ∉ L := fun ha => by
            obtain ⟨M, rfl⟩ := st.pre
            have nd := so'.nd
            obtain ⟨j, hj, ej⟩ := List.mem_iff_getElem.mp ha
            have q1 : (L ++ M)[j]? = some a := by rw [List.getElem?_append_left hj, List.getElem?_eq_getElem hj, ej]
            have z1 := List.getElem?_eq_some_iff.mp q1
            have z2 := List.getElem?_eq_some_iff.mp hL
            have := (List.getElem_inj nd).mp (z1.2.trans z2.2.symm)
            rw [so.len] at hj
            omega
          split at h
          · rename_i ds hds
            cases h
            obtain ⟨ws, k1, k2⟩ := (so'.obj k a _ hL hds : ObjR K (mask L' H') H' a (.list ds))
            exact Rep.lst (SqL.of (mask_of out k1)) (k2.mono less)
          · rename_i kvs hds
            split at h
            · cases h
            · rename_i hlk
              cases h
              rcases (so'.obj k a _ hL hds : ObjR K (mask L' H') H' a (.dict kvs)) with ⟨ks, vs, ds, k1, k2, k3, rfl, _⟩ | ⟨ks, vs, ds, k1, k2, k3, rfl⟩ | ⟨ob, ks, vs, ds, k1, k2, k3, rfl, _⟩ | ⟨ob, ks, vs, ds, k1, k2, k3, rfl⟩
              · exact Rep.dk k1 (mask_of out k2) (k3.mono less)
              · exact Rep.dt k1 (mask_of out k2) (k3.mono less)
              · exact absurd rfl hlk
              · exact absurd rfl hlk
          · cases h
end
section
variable {X : Cx} {C : Str → Value} {W : WX}
/-- two statements whose new lists and dicts are data behind them -/
theorem dss_scope {A B : Stmt} {rest : List Stmt} {a b c : SS} (hA : DS X C W A a) (hB : DS X C W B b) (hC : DSs X C W rest c) : DSs X C W (A :: B :: rest) (sSeq (shrS (sSeq a b)) c) := by
  obtain ⟨ta, pa, sa⟩ := hA.ex
  obtain ⟨tb, pb, sb⟩ := hB.ex
  obtain ⟨tc, pc, sc⟩ := hC.ex
  refine ⟨_, pss_cons pa (pss_cons pb pc), fun ρ S fl ρ' S' h L σ H D en so po => ?_⟩
  unfold sSeq shrS at h
  dsimp only at h
  cases ea : a ρ S with
  | none => rw [ea] at h; cases h
  | some z =>
    obtain ⟨f1, ρ1, S1⟩ := z
    rw [ea] at h
    cases f1 <;> try (cases h; done)
    cases eb : b ρ1 S1 with
    | none => dsimp only at h; rw [eb] at h; cases h
    | some z =>
      obtain ⟨f2, ρ2, S2⟩ := z
      dsimp only at h
      rw [eb] at h
      cases f2 <;> try (cases h; done)
      refine sa ρ S _ _ _ ea L σ H _ en so ⟨fun _ L1 H1 σ1 st1 so1 en1 => ?_, fun z => (by cases z), fun z => (by cases z), fun o z => (by cases z), fun e z => (by cases z)⟩
      refine sb ρ1 S1 _ _ _ eb L1 σ1 H1 _ en1 so1 ⟨fun _ L2 H2 σ2 st2 so2 en2 => ?_, fun z => (by cases z), fun z => (by cases z), fun o z => (by cases z), fun e z => (by cases z)⟩
      have st := st1.trans st2
      obtain ⟨c1, c2⟩ := so.shrink st so2
      exact sc _ _ _ _ _ h L σ2 H2 D (EnvR.thaw so st so2 en2) c2 (po.step c1)
end
/-! dict(d): a copy, owned from here on -/
def dictC (S : Sto) (os : List OV) : Option (List (D × D)) := match os with
  | [o] => match view S o with
    | some (.dict kvs) => if kvs ≠ [] ∧ (kvs.all fun p => isK1 p.1) then some kvs else none
    | _ => none
  | _ => none
section
variable {X : Cx} {C : Str → Value} {W : WX} {e : Expr} {fs : EL} {p pos : Pos}
theorem de_dictC (hg : Gl X "dict") (hm : X.mg "dict" = none) (ha : DA X C W [e] fs)
    (he : starEach [e] X.env = (false, eval e X.env) :: starEach [] X.env := by rfl) (hpl : (backTo pos (starEach [] X.env)).any (·.1) = false := by rfl) : DE X C W (.Call (.Name "dict" p) [e] [] pos) (ownD dictC fs) := by
  obtain ⟨t, pa, s⟩ := ha.ex
  refine ⟨_, pe_callTy call_dictD hg hm (by decide +kernel) pa (by decide) (by decide) he hpl, fun ρ S r S' h L σ H Q en so po => ?_⟩
  refine s.bind h en so po fun os S1 L1 H1 vs h1 st1 so1 r1 en1 po1 => ?_
  obtain ⟨kvs, e1, h2⟩ := opt_bind h1
  unfold dictC at e1
  split at e1
  · rename_i o
    obtain ⟨v, rfl, rv⟩ := reps_one r1
    split at e1
    · rename_i kvs0 hv
      split at e1
      · rename_i c
        obtain ⟨c1, c2⟩ := c
        cases e1
        obtain ⟨a, rfl, D0⟩ := dict_at hv rv so1
        rcases D0 with ⟨ks, vs, ds, hl, hp, rs, e2⟩ | ⟨ks, vs, ds, hl, hp, rs, e2⟩ | ⟨ob, ks, vs, ds, hl, hp, rs, e2⟩ | ⟨ob, ks, vs, ds, hl, hp, rs, e2⟩
        · refine ⟨a, _, rfl, .inl hp, fun q hq => ?_⟩
          have hks : ks ≠ [] := fun z => c1 (by rw [e2, z]; rfl)
          obtain ⟨k1, k2⟩ := so1.own (o := .dK (ks.zip vs)) hq (d := .dict kvs) (.inl ⟨ks, vs, ds, hl, upd_same, rs, e2, hks⟩)
          exact po1.done (S0 := S1 ++ [.dict kvs]) h2 k1 k2 _ (show RepO X.K (L1 ++ [q]) _ (.ref q) (.own S1.length) from ⟨q, rfl, by rw [← so1.len, List.getElem?_append_right (Nat.le_refl _), Nat.sub_self]; rfl⟩)
        · cases ks with
          | nil => exact absurd e2 (by simpa using c1)
          | cons k ks =>
            cases rs with
            | nil => simp at hl
            | cons h1 h2 =>
              rw [e2] at c2
              simp [isK1_keys] at c2
        · rw [e2] at c2
          simp [lockD, isK1] at c2
        · rw [e2] at c2
          simp [lockD, isK1] at c2
      · cases e1
    · cases e1
  · cases e1
/-! {x: (0, ())} -/
def fDisp0 (f : FI) : E1 := fun ρ S => match f ρ with
  | some i => ret (.dat (.dict [(.int i, .tuple [.int 0, .tuple []])])) S
  | none => none
theorem upd_swap2 {H : Hp} {p d : Addr} {x u : HO} (h : p ≠ d) : upd (upd H p x) d u = upd (upd H d u) p x := upd_swap h
theorem de_disp0 {a : Expr} {f : FI} {k1 k2 j1 : Nat} {q1 q2 q3 : Pos} (ha : DV X a f) : DE X C W (.Dict [some a] [.Tuple [.Constant (.int 0) j1 q1, .Tuple [] k1 q2] k2 q3] pos) (fDisp0 f) := by
  obtain ⟨t1, p1, s1⟩ := ha.ex
  have p2 : PE X (.Tuple [.Constant (.int 0) j1 q1, .Tuple [] k1 q2] k2 q3) _ := pe_tup (pa_cons pe_int (pa_cons (pe_tup pa_nil) pa_nil))
  refine ⟨_, pe_disp (pps_cons p1 p2 pps_nil) rfl rfl (by simp) (show 1 ≤ 15 by decide), fun ρ S r S' h L σ H Q en so po => ?_⟩
  unfold fDisp0 at h
  split at h
  · rename_i i e1
    intro p hp
    have en1 := en.step (step_new (L := L) (o := .dK []) hp)
    refine s1 ρ i e1 L σ _ _ en1 ?_
    refine ⟨by decide, fun a1 ha1 => ?_⟩
    refine ⟨by show 2 ≤ sizeLine; decide, fun a2 ha2 => ?_⟩
    have n1 : a1 ≠ p := fun z => by rw [z, upd_same] at ha1; cases ha1
    have n2 : a2 ≠ a1 := fun z => by rw [z, upd_same] at ha2; cases ha2
    have n3 : a2 ≠ p := fun z => by rw [z, upd_ne (Ne.symm n1), upd_same] at ha2; cases ha2
    have f1 : H a1 = none := by rw [upd_ne n1] at ha1; exact ha1
    have f2 : upd H a1 (.tup []) a2 = none := by
      rw [upd_ne n2, upd_ne n3] at ha2
      rw [upd_ne n2]
      exact ha2
    have f3 : upd (upd H a1 (.tup [])) a2 (.tup [.int 0, .ref a1]) p = none := by
      rw [upd_ne (Ne.symm n3), upd_ne (Ne.symm n1)]
      exact hp
    refine ⟨by rw [upd_ne (Ne.symm n3), upd_ne (Ne.symm n1)]; exact upd_same, [(.inl i, .ref a2)], rfl, show 1 ≤ 15 by decide, ?_⟩
    have eH : upd (upd (upd (upd H p (.dK [])) a1 (.tup [])) a2 (.tup [.int 0, .ref a1])) p (.dK [(.inl i, .ref a2)]) = upd (upd (upd H a1 (.tup [])) a2 (.tup [.int 0, .ref a1])) p (.dK [(.inl i, .ref a2)]) := by
      rw [upd_swap (p := p) (d := a1) (Ne.symm n1), upd_swap (p := p) (d := a2) (Ne.symm n3), upd_upd]
    show Q (V.ref p) (upd (upd (upd (upd H p (.dK [])) a1 (.tup [])) a2 (.tup [.int 0, .ref a1])) p (.dK [(.inl i, .ref a2)]))
    rw [eH]
    have st1 := step_new (L := L) (o := .tup []) f1
    have so1 := so.laid (o := .tup []) f1
    have r1 : Rep X.K (mask L (upd H a1 (.tup []))) (.ref a1) (.tuple []) := new_tup so f1 .nil
    have st2 := step_new (L := L) (o := .tup [.int 0, .ref a1]) f2
    have so2 := so1.laid (o := .tup [.int 0, .ref a1]) f2
    have r2 : Rep X.K (mask L (upd (upd H a1 (.tup [])) a2 (.tup [.int 0, .ref a1]))) (.ref a2) (.tuple [.int 0, .tuple []]) := new_tup so1 f2 (.cons (.int 0) (.cons r1 .nil))
    have st3 := step_new (L := L) (o := .dK [(.inl i, .ref a2)]) f3
    have so3 := so2.laid (o := .dK [(.inl i, .ref a2)]) f3
    refine po.done (S0 := S) h (st1.trans (st2.trans st3)) so3 _ ?_
    exact Rep.dk (ks := [.inl i]) (vs := [.ref a2]) (ds := [.tuple [.int 0, .tuple []]]) rfl (mask_of (so2.new f3) upd_same) (.cons (r2.mono (mask_upd_new f3)) .nil)
  · cases h
end
end Dk
set_option Elab.async false
set_option linter.all false
set_option maxRecDepth 100000
set_option maxHeartbeats 4000000
namespace K11
open PySem PySem.Spec L2 Dk
def topS (i : Nat) : Stmt := PySem.Challenge.pw_walkcounts_k11_whole_stretches_best_coun.main.body.getD i (.Pass ⟨0, 0, 0, 0⟩)
section
variable {P : Program} {w : World} {K : PySem.W.Frag} {mg : Str → Option Value} {base : Heap} {C : Str → Value}

def tab_WalkError : List (Str × Bool) := [("WalkError", true), ("InvalidBook", true), ("InvalidStretch", true), ("InvalidMenu", true), ("Impossible", true)]
def tab_InvalidBook : List (Str × Bool) := [("WalkError", false), ("InvalidBook", true), ("InvalidStretch", false), ("InvalidMenu", false), ("Impossible", false)]
def tab_InvalidStretch : List (Str × Bool) := [("WalkError", false), ("InvalidBook", false), ("InvalidStretch", true), ("InvalidMenu", false), ("Impossible", false)]
def tab_InvalidMenu : List (Str × Bool) := [("WalkError", false), ("InvalidBook", false), ("InvalidStretch", false), ("InvalidMenu", true), ("Impossible", false)]
def tab_Impossible : List (Str × Bool) := [("WalkError", false), ("InvalidBook", false), ("InvalidStretch", false), ("InvalidMenu", false), ("Impossible", true)]
abbrev s_is_number : Stmt := topS 10
theorem sc_is_number : FnScope ["value", "low", "high"] ["value", "low", "high"] (defScope s_is_number) := ⟨rfl, rfl, rfl, by decide +kernel, rfl, by decide +kernel, by decide +kernel⟩
noncomputable def g_is_number : SS := (sRet (vAnd (isiF "int" (fVar 0)) (vAnd (vNot (isiF "bool" (fVar 0))) (chn leS leS (fVar 1) (fVar 0) (fVar 2)))))
noncomputable def F_is_number : List OV → Sto → Rs OV := runF 3 3 g_is_number
theorem ok_is_number (B : Bt mg) {f : Addr} {fd : FuncData} (F : Fun K "is_number" "is_number" s_is_number f fd) (hm : mg "is_number" = some (.ref f)) (hb : Binds K fd ["value", "low", "high"] []) : FnD P w K mg base C 1 "is_number" 3 F_is_number := by
  refine fn_mk F hm hb sc_is_number fun cdv A outer s H E hr => ?_
  have tk := takes_body (P := P) (w := w) (K := K) (mg := mg) (base := base) (N := ["value", "low", "high"]) (qual := "is_number") (scope := defScope s_is_number) (f := f) (cd := cdv) (A := A) (outer := outer) (s := s) (H := H) (E := E)
  exact (dss_one (ds_ret (de_and (de_isi (de_var 0) (T := "int") (by decide) rfl B.isinstance rfl B.int bt_int) (de_and (de_not (de_isi (de_var 0) (T := "bool") (by decide) rfl B.isinstance rfl B.bool bt_bool)) (de_one (de_chain ro_le ro_le (de_var 1) (de_var 0) (de_var 2)))))))
abbrev s_is_device : Stmt := topS 11
theorem sc_is_device : FnScope ["value", "one"] ["value"] (defScope s_is_device) := ⟨rfl, rfl, rfl, by decide +kernel, rfl, by decide +kernel, by decide +kernel⟩
noncomputable def g_is_device : SS := (sRet (vAnd (isiF "tuple" (fVar 0)) (vAnd (op2 eqS (opL lenS (aCons (fVar 0) aNil)) (fC (.int 2))) (opL allS (aCons (frz (fLc (iSeq (fVar 0)) (tgN 1) bYes (fCall F_is_number (aCons (fVar 1) (aCons (fC (.int 0)) (aCons (fC (.int 1000000000)) aNil)))) [1])) aNil)))))
noncomputable def F_is_device : List OV → Sto → Rs OV := runF 1 2 g_is_device
theorem ok_is_device (B : Bt mg) {f : Addr} {fd : FuncData} (F : Fun K "is_device" "is_device" s_is_device f fd) (hm : mg "is_device" = some (.ref f)) (hb : Binds K fd ["value"] []) {u_SLIPS : Tok} (c_SLIPS : mg "SLIPS" = some (.int 1000000000 u_SLIPS)) (h_is_number : FnD P w K mg base C 1 "is_number" 3 F_is_number) : FnD P w K mg base C 2 "is_device" 1 F_is_device := by
  refine fn_mk F hm hb sc_is_device fun cdv A outer s H E hr => ?_
  have tk := takes_body (P := P) (w := w) (K := K) (mg := mg) (base := base) (N := ["value", "one"]) (qual := "is_device") (scope := defScope s_is_device) (f := f) (cd := cdv) (A := A) (outer := outer) (s := s) (H := H) (E := E)
  exact (dss_one (ds_ret (de_and (de_isi (de_var 0) (T := "tuple") (by decide) rfl B.isinstance rfl B.tuple bt_tuple) (de_and (de_cmp (ro_eq hr) (de_callB rc_len rfl B.len bt_len (da_cons (de_var 0) da_nil)) de_int (nomark _)) (de_one (de_callB (rc_all rfl) rfl B.all bt_all (da_cons (DF.dat (df_lc (own := [("one", 1)]) rfl sc_is_device.nd (di_any (de_var 0)) (blkOk_by (own := [("one", 1)]) (N := ["value", "one"]) (sc := defScope s_is_device) (by decide +kernel)) (by decide) (fun _ _ _ _ _ => (dg_n 1 sc_is_device.nd rfl (by first | exact Or.inl rfl | exact Or.inr rfl))) (fun _ _ _ _ _ => dts_nil) (fun _ _ _ _ _ => (de_call h_is_number (hr.mono (by decide)) takes0 rfl (da_cons (de_var 1) (da_cons de_int (da_cons (de_globI rfl c_SLIPS) da_nil))) (len_cons (len_cons (len_cons len_nil))))))) da_nil)))))))
abbrev s_are_devices : Stmt := topS 12
theorem sc_are_devices : FnScope ["value", "one"] ["value"] (defScope s_are_devices) := ⟨rfl, rfl, rfl, by decide +kernel, rfl, by decide +kernel, by decide +kernel⟩
noncomputable def g_are_devices : SS := (sRet (vAnd (isiF "tuple" (fVar 0)) (vAnd (chn leS leS (fC (.int 1)) (opL lenS (aCons (fVar 0) aNil)) (fC (.int 3))) (opL allS (aCons (frz (fLc (iSeq (fVar 0)) (tgN 1) bYes (fCall F_is_device (aCons (fVar 1) aNil)) [1])) aNil)))))
noncomputable def F_are_devices : List OV → Sto → Rs OV := runF 1 2 g_are_devices
theorem ok_are_devices (B : Bt mg) {f : Addr} {fd : FuncData} (F : Fun K "are_devices" "are_devices" s_are_devices f fd) (hm : mg "are_devices" = some (.ref f)) (hb : Binds K fd ["value"] []) (h_is_device : FnD P w K mg base C 2 "is_device" 1 F_is_device) : FnD P w K mg base C 3 "are_devices" 1 F_are_devices := by
  refine fn_mk F hm hb sc_are_devices fun cdv A outer s H E hr => ?_
  have tk := takes_body (P := P) (w := w) (K := K) (mg := mg) (base := base) (N := ["value", "one"]) (qual := "are_devices") (scope := defScope s_are_devices) (f := f) (cd := cdv) (A := A) (outer := outer) (s := s) (H := H) (E := E)
  exact (dss_one (ds_ret (de_and (de_isi (de_var 0) (T := "tuple") (by decide) rfl B.isinstance rfl B.tuple bt_tuple) (de_and (de_chain ro_le ro_le de_int (de_callB rc_len rfl B.len bt_len (da_cons (de_var 0) da_nil)) de_int) (de_one (de_callB (rc_all rfl) rfl B.all bt_all (da_cons (DF.dat (df_lc (own := [("one", 1)]) rfl sc_are_devices.nd (di_any (de_var 0)) (blkOk_by (own := [("one", 1)]) (N := ["value", "one"]) (sc := defScope s_are_devices) (by decide +kernel)) (by decide) (fun _ _ _ _ _ => (dg_n 1 sc_are_devices.nd rfl (by first | exact Or.inl rfl | exact Or.inr rfl))) (fun _ _ _ _ _ => dts_nil) (fun _ _ _ _ _ => (de_call h_is_device (hr.mono (by decide)) takes0 rfl (da_cons (de_var 1) da_nil) (len_cons len_nil))))) da_nil)))))))
abbrev s_is_stretch : Stmt := topS 13
theorem sc_is_stretch : FnScope ["value", "one"] ["value"] (defScope s_is_stretch) := ⟨rfl, rfl, rfl, by decide +kernel, rfl, by decide +kernel, by decide +kernel⟩
noncomputable def g_is_stretch : SS := (sSeq (sIf (bOr (bNot (bOf (isiF "tuple" (fVar 0)))) (bOr (bOf (op2 neS (opL lenS (aCons (fVar 0) aNil)) (fC (.int 2)))) (bNot (bOf (opL allS (aCons (frz (fLc (iSeq (fVar 0)) (tgN 1) bYes (fCall F_is_number (aCons (fVar 1) (aCons (fC (.int 0)) (aCons (fC (.int 1000000000000000000000000000000)) aNil)))) [1])) aNil)))))) (sRet (fC (.bool false))) sNx)
  (sRet (op2 ltS (op2 ixS (fVar 0) (fC (.int 0))) (op2 ixS (fVar 0) (fC (.int 1))))))
noncomputable def F_is_stretch : List OV → Sto → Rs OV := runF 1 2 g_is_stretch
theorem ok_is_stretch (B : Bt mg) {f : Addr} {fd : FuncData} (F : Fun K "is_stretch" "is_stretch" s_is_stretch f fd) (hm : mg "is_stretch" = some (.ref f)) (hb : Binds K fd ["value"] []) {u_LARGE : Tok} (c_LARGE : mg "LARGE" = some (.int 1000000000000000000000000000000 u_LARGE)) (h_is_number : FnD P w K mg base C 1 "is_number" 3 F_is_number) : FnD P w K mg base C 2 "is_stretch" 1 F_is_stretch := by
  refine fn_mk F hm hb sc_is_stretch fun cdv A outer s H E hr => ?_
  have tk := takes_body (P := P) (w := w) (K := K) (mg := mg) (base := base) (N := ["value", "one"]) (qual := "is_stretch") (scope := defScope s_is_stretch) (f := f) (cd := cdv) (A := A) (outer := outer) (s := s) (H := H) (E := E)
  exact (dss_cons (ds_if (DW.dt (dw_or (dt_not (dt_val (de_isi (de_var 0) (T := "tuple") (by decide) rfl B.isinstance rfl B.tuple bt_tuple))) (dw_or (dt_cmp (ro_ne hr) (de_callB rc_len rfl B.len bt_len (da_cons (de_var 0) da_nil)) de_int (nomark _)) (dw_or1 (dt_not (dt_val (de_callB (rc_all rfl) rfl B.all bt_all (da_cons (DF.dat (df_lc (own := [("one", 1)]) rfl sc_is_stretch.nd (di_any (de_var 0)) (blkOk_by (own := [("one", 1)]) (N := ["value", "one"]) (sc := defScope s_is_stretch) (by decide +kernel)) (by decide) (fun _ _ _ _ _ => (dg_n 1 sc_is_stretch.nd rfl (by first | exact Or.inl rfl | exact Or.inr rfl))) (fun _ _ _ _ _ => dts_nil) (fun _ _ _ _ _ => (de_call h_is_number (hr.mono (by decide)) takes0 rfl (da_cons (de_var 1) (da_cons de_int (da_cons (de_globI rfl c_LARGE) da_nil))) (len_cons (len_cons (len_cons len_nil))))))) da_nil)))))))) (dss_one (ds_ret de_bl)) dss_nil)
    (dss_one (ds_ret (de_cmp ro_lt (de_ix (de_var 0) de_int (fun _ _ => rfl)) (de_ix (de_var 0) de_int (fun _ _ => rfl)) (nomark _)))))
abbrev s_is_reading_of : Stmt := topS 14
theorem sc_is_reading_of : FnScope ["devices", "value"] ["devices", "value"] (defScope s_is_reading_of) := ⟨rfl, rfl, rfl, by decide +kernel, rfl, by decide +kernel, by decide +kernel⟩
noncomputable def g_is_reading_of : SS := (sSeq (sIf (bOr (bNot (bOf (isiF "tuple" (fVar 1)))) (bOr (bOf (op2 neS (opL lenS (aCons (fVar 1) aNil)) (fC (.int 4)))) (bNot (bOf (fCall F_is_number (aCons (op2 ixS (fVar 1) (fC (.int 0))) (aCons (fC (.int 0)) (aCons (op2 subS (opL lenS (aCons (fVar 0) aNil)) (fC (.int 1))) aNil)))))))) (sRet (fC (.bool false))) sNx)
  (sRet (vAnd (fCall F_is_stretch (aCons (fSl (fVar 1) (oSome (fC (.int 1))) (oSome (fC (.int 3)))) aNil)) (fCall F_is_number (aCons (op2 ixS (fVar 1) (fC (.int 3))) (aCons (fC (.int 0)) (aCons (fC (.int 1000000000000000000000000000000)) aNil)))))))
noncomputable def F_is_reading_of : List OV → Sto → Rs OV := runF 2 2 g_is_reading_of
theorem ok_is_reading_of (B : Bt mg) {f : Addr} {fd : FuncData} (F : Fun K "is_reading_of" "is_reading_of" s_is_reading_of f fd) (hm : mg "is_reading_of" = some (.ref f)) (hb : Binds K fd ["devices", "value"] []) {u_LARGE : Tok} (c_LARGE : mg "LARGE" = some (.int 1000000000000000000000000000000 u_LARGE)) (h_is_number : FnD P w K mg base C 1 "is_number" 3 F_is_number) (h_is_stretch : FnD P w K mg base C 2 "is_stretch" 1 F_is_stretch) : FnD P w K mg base C 3 "is_reading_of" 2 F_is_reading_of := by
  refine fn_mk F hm hb sc_is_reading_of fun cdv A outer s H E hr => ?_
  have tk := takes_body (P := P) (w := w) (K := K) (mg := mg) (base := base) (N := ["devices", "value"]) (qual := "is_reading_of") (scope := defScope s_is_reading_of) (f := f) (cd := cdv) (A := A) (outer := outer) (s := s) (H := H) (E := E)
  exact (dss_cons (ds_if (DW.dt (dw_or (dt_not (dt_val (de_isi (de_var 1) (T := "tuple") (by decide) rfl B.isinstance rfl B.tuple bt_tuple))) (dw_or (dt_cmp (ro_ne hr) (de_callB rc_len rfl B.len bt_len (da_cons (de_var 1) da_nil)) de_int (nomark _)) (dw_or1 (dt_not (dt_val (de_call h_is_number (hr.mono (by decide)) tk rfl (da_cons (de_ix (de_var 1) de_int (fun _ _ => rfl)) (da_cons de_int (da_cons (de_op ro_sub (de_callB rc_len rfl B.len bt_len (da_cons (de_var 0) da_nil)) de_int) da_nil))) (len_cons (len_cons (len_cons len_nil)))))))))) (dss_one (ds_ret de_bl)) dss_nil)
    (dss_one (ds_ret (de_and (de_call h_is_stretch (hr.mono (by decide)) tk rfl (da_cons (de_sl (de_var 1) (do_some de_int) (do_some de_int)) da_nil) (len_cons len_nil)) (de_one (de_call h_is_number (hr.mono (by decide)) tk rfl (da_cons (de_ix (de_var 1) de_int (fun _ _ => rfl)) (da_cons de_int (da_cons (de_globI rfl c_LARGE) da_nil))) (len_cons (len_cons (len_cons len_nil)))))))))
abbrev s_is_book_of : Stmt := topS 15
theorem sc_is_book_of : FnScope ["value", "one"] ["value"] (defScope s_is_book_of) := ⟨rfl, rfl, rfl, by decide +kernel, rfl, by decide +kernel, by decide +kernel⟩
noncomputable def g_is_book_of : SS := (sSeq (sIf (bOr (bNot (bOf (isiF "tuple" (fVar 0)))) (bOr (bOf (op2 neS (opL lenS (aCons (fVar 0) aNil)) (fC (.int 2)))) (bNot (bOf (fCall F_are_devices (aCons (op2 ixS (fVar 0) (fC (.int 0))) aNil)))))) (sRet (fC (.bool false))) sNx)
  (sSeq (sIf (bOr (bNot (bOf (isiF "tuple" (op2 ixS (fVar 0) (fC (.int 1)))))) (bOf (op2 gtS (opL lenS (aCons (op2 ixS (fVar 0) (fC (.int 1))) aNil)) (fC (.int 6))))) (sRet (fC (.bool false))) sNx)
  (sRet (opL allS (aCons (frz (fLc (iSeq (op2 ixS (fVar 0) (fC (.int 1)))) (tgN 1) bYes (fCall F_is_reading_of (aCons (op2 ixS (fVar 0) (fC (.int 0))) (aCons (fVar 1) aNil))) [1])) aNil)))))
noncomputable def F_is_book_of : List OV → Sto → Rs OV := runF 1 2 g_is_book_of
theorem ok_is_book_of (B : Bt mg) {f : Addr} {fd : FuncData} (F : Fun K "is_book_of" "is_book_of" s_is_book_of f fd) (hm : mg "is_book_of" = some (.ref f)) (hb : Binds K fd ["value"] []) {u_MOST_READINGS : Tok} (c_MOST_READINGS : mg "MOST_READINGS" = some (.int 6 u_MOST_READINGS)) (h_are_devices : FnD P w K mg base C 3 "are_devices" 1 F_are_devices) (h_is_reading_of : FnD P w K mg base C 3 "is_reading_of" 2 F_is_reading_of) : FnD P w K mg base C 4 "is_book_of" 1 F_is_book_of := by
  refine fn_mk F hm hb sc_is_book_of fun cdv A outer s H E hr => ?_
  have tk := takes_body (P := P) (w := w) (K := K) (mg := mg) (base := base) (N := ["value", "one"]) (qual := "is_book_of") (scope := defScope s_is_book_of) (f := f) (cd := cdv) (A := A) (outer := outer) (s := s) (H := H) (E := E)
  exact (dss_cons (ds_if (DW.dt (dw_or (dt_not (dt_val (de_isi (de_var 0) (T := "tuple") (by decide) rfl B.isinstance rfl B.tuple bt_tuple))) (dw_or (dt_cmp (ro_ne hr) (de_callB rc_len rfl B.len bt_len (da_cons (de_var 0) da_nil)) de_int (nomark _)) (dw_or1 (dt_not (dt_val (de_call h_are_devices (hr.mono (by decide)) tk rfl (da_cons (de_ix (de_var 0) de_int (fun _ _ => rfl)) da_nil) (len_cons len_nil)))))))) (dss_one (ds_ret de_bl)) dss_nil)
    (dss_cons (ds_if (DW.dt (dw_or (dt_not (dt_val (de_isi (de_ix (de_var 0) de_int (fun _ _ => rfl)) (T := "tuple") (by decide) rfl B.isinstance rfl B.tuple bt_tuple))) (dw_or1 (dt_cmp ro_gt (de_callB rc_len rfl B.len bt_len (da_cons (de_ix (de_var 0) de_int (fun _ _ => rfl)) da_nil)) (de_globI rfl c_MOST_READINGS) (nomark _))))) (dss_one (ds_ret de_bl)) dss_nil)
    (dss_one (ds_ret (de_callB (rc_all rfl) rfl B.all bt_all (da_cons (DF.dat (df_lc (own := [("one", 1)]) rfl sc_is_book_of.nd (di_any (de_ix (de_var 0) de_int (fun _ _ => rfl))) (blkOk_by (own := [("one", 1)]) (N := ["value", "one"]) (sc := defScope s_is_book_of) (by decide +kernel)) (by decide) (fun _ _ _ _ _ => (dg_n 1 sc_is_book_of.nd rfl (by first | exact Or.inl rfl | exact Or.inr rfl))) (fun _ _ _ _ _ => dts_nil) (fun _ _ _ _ _ => (de_call h_is_reading_of (hr.mono (by decide)) takes0 rfl (da_cons (de_ix (de_var 0) de_int (fun _ _ => rfl)) (da_cons (de_var 1) da_nil)) (len_cons (len_cons len_nil)))))) da_nil))))))
abbrev s_need_book : Stmt := topS 16
theorem sc_need_book : FnScope ["book"] ["book"] (defScope s_need_book) := ⟨rfl, rfl, rfl, by decide +kernel, rfl, by decide +kernel, by decide +kernel⟩
noncomputable def g_need_book : SS := (sIf (bNot (bOf (fCall F_is_book_of (aCons (fVar 0) aNil)))) (sRaise "InvalidBook") sNx)
noncomputable def F_need_book : List OV → Sto → Rs OV := runF 1 1 g_need_book
theorem ok_need_book (B : Bt mg) {f : Addr} {fd : FuncData} (F : Fun K "need_book" "need_book" s_need_book f fd) (hm : mg "need_book" = some (.ref f)) (hb : Binds K fd ["book"] []) {a_InvalidBook : Addr} (x_InvalidBook : ExcT K mg C "InvalidBook" a_InvalidBook) (h_is_book_of : FnD P w K mg base C 4 "is_book_of" 1 F_is_book_of) : FnD P w K mg base C 5 "need_book" 1 F_need_book := by
  refine fn_mk F hm hb sc_need_book fun cdv A outer s H E hr => ?_
  have tk := takes_body (P := P) (w := w) (K := K) (mg := mg) (base := base) (N := ["book"]) (qual := "need_book") (scope := defScope s_need_book) (f := f) (cd := cdv) (A := A) (outer := outer) (s := s) (H := H) (E := E)
  exact (dss_one (ds_if (dt_not (dt_val (de_call h_is_book_of (hr.mono (by decide)) tk rfl (da_cons (de_var 0) da_nil) (len_cons len_nil)))) (dss_one (ds_raiseX x_InvalidBook rfl tk rfl)) dss_nil))
abbrev s_need_stretch : Stmt := topS 17
theorem sc_need_stretch : FnScope ["stretch"] ["stretch"] (defScope s_need_stretch) := ⟨rfl, rfl, rfl, by decide +kernel, rfl, by decide +kernel, by decide +kernel⟩
noncomputable def g_need_stretch : SS := (sIf (bNot (bOf (fCall F_is_stretch (aCons (fVar 0) aNil)))) (sRaise "InvalidStretch") sNx)
noncomputable def F_need_stretch : List OV → Sto → Rs OV := runF 1 1 g_need_stretch
theorem ok_need_stretch (B : Bt mg) {f : Addr} {fd : FuncData} (F : Fun K "need_stretch" "need_stretch" s_need_stretch f fd) (hm : mg "need_stretch" = some (.ref f)) (hb : Binds K fd ["stretch"] []) {a_InvalidStretch : Addr} (x_InvalidStretch : ExcT K mg C "InvalidStretch" a_InvalidStretch) (h_is_stretch : FnD P w K mg base C 2 "is_stretch" 1 F_is_stretch) : FnD P w K mg base C 3 "need_stretch" 1 F_need_stretch := by
  refine fn_mk F hm hb sc_need_stretch fun cdv A outer s H E hr => ?_
  have tk := takes_body (P := P) (w := w) (K := K) (mg := mg) (base := base) (N := ["stretch"]) (qual := "need_stretch") (scope := defScope s_need_stretch) (f := f) (cd := cdv) (A := A) (outer := outer) (s := s) (H := H) (E := E)
  exact (dss_one (ds_if (dt_not (dt_val (de_call h_is_stretch (hr.mono (by decide)) tk rfl (da_cons (de_var 0) da_nil) (len_cons len_nil)))) (dss_one (ds_raiseX x_InvalidStretch rfl tk rfl)) dss_nil))
abbrev s_limits : Stmt := topS 18
theorem sc_limits : FnScope ["book", "reading", "extra", "miss"] ["book", "reading"] (defScope s_limits) := ⟨rfl, rfl, rfl, by decide +kernel, rfl, by decide +kernel, by decide +kernel⟩
noncomputable def g_limits : SS := (sSeq (sAsg (op2 ixS (op2 ixS (fVar 0) (fC (.int 0))) (op2 ixS (fVar 1) (fC (.int 0)))) (tgTup 2 (tgCons (tgN 2) (tgCons (tgN 3) tgNil))))
  (sRet (fTup (aCons (op2 subS (op2 ixS (fVar 1) (fC (.int 3))) (fVar 2)) (aCons (op2 addS (op2 ixS (fVar 1) (fC (.int 3))) (fVar 3)) aNil)))))
noncomputable def F_limits : List OV → Sto → Rs OV := runF 2 4 g_limits
theorem ok_limits (B : Bt mg) {f : Addr} {fd : FuncData} (F : Fun K "limits" "limits" s_limits f fd) (hm : mg "limits" = some (.ref f)) (hb : Binds K fd ["book", "reading"] []) : FnD P w K mg base C 1 "limits" 2 F_limits := by
  refine fn_mk F hm hb sc_limits fun cdv A outer s H E hr => ?_
  have tk := takes_body (P := P) (w := w) (K := K) (mg := mg) (base := base) (N := ["book", "reading", "extra", "miss"]) (qual := "limits") (scope := defScope s_limits) (f := f) (cd := cdv) (A := A) (outer := outer) (s := s) (H := H) (E := E)
  exact (dss_cons (ds_asg (de_ix (de_ix (de_var 0) de_int (fun _ _ => rfl)) (de_ix (de_var 1) de_int (fun _ _ => rfl)) (fun _ _ => rfl)) (dg_tup rfl (dgs_cons (dg_n 2 sc_limits.nd rfl (by first | exact Or.inl rfl | exact Or.inr rfl)) (dgs_cons (dg_n 3 sc_limits.nd rfl (by first | exact Or.inl rfl | exact Or.inr rfl)) dgs_nil))))
    (dss_one (ds_ret (de_tup (da_cons (de_op ro_sub (de_ix (de_var 1) de_int (fun _ _ => rfl)) (de_var 2)) (da_cons (de_op ro_add (de_ix (de_var 1) de_int (fun _ _ => rfl)) (de_var 3)) da_nil))))))
abbrev s_moments_of : Stmt := topS 20
theorem sc_moments_of : FnScope ["book", "more", "found", "reading"] ["book", "more"] (defScope s_moments_of) := ⟨rfl, rfl, rfl, by decide +kernel, rfl, by decide +kernel, by decide +kernel⟩
noncomputable def g_moments_of : SS := (sSeq (sAsg (frz (opF listS (aCons (fVar 1) aNil))) (tgN 2))
  (sSeq (sFor (iSeq (op2 ixS (fVar 0) (fC (.int 1)))) (tgN 3) (sAsg (op2 addS (fVar 2) (frz (opF listS (aCons (fSl (fVar 3) (oSome (fC (.int 1))) (oSome (fC (.int 3)))) aNil)))) (tgN 2)))
  (sRet (frz (fSortSet (fVar 2))))))
noncomputable def F_moments_of : List OV → Sto → Rs OV := runF 2 4 g_moments_of
theorem ok_moments_of (B : Bt mg) {f : Addr} {fd : FuncData} (F : Fun K "moments_of" "moments_of" s_moments_of f fd) (hm : mg "moments_of" = some (.ref f)) (hb : Binds K fd ["book", "more"] []) : FnD P w K mg base C 1 "moments_of" 2 F_moments_of := by
  refine fn_mk F hm hb sc_moments_of fun cdv A outer s H E hr => ?_
  have tk := takes_body (P := P) (w := w) (K := K) (mg := mg) (base := base) (N := ["book", "more", "found", "reading"]) (qual := "moments_of") (scope := defScope s_moments_of) (f := f) (cd := cdv) (A := A) (outer := outer) (s := s) (H := H) (E := E)
  have hp := passes_body (P := P) (w := w) (K := K) (mg := mg) (base := base) (N := ["book", "more", "found", "reading"]) (qual := "moments_of") (scope := defScope s_moments_of) (f := f) (cd := cdv) (A := A) (outer := outer) (s := s) (H := H) (E := E)
  exact (dss_cons (ds_set 2 sc_moments_of.nd rfl (by first | exact Or.inl rfl | exact Or.inr rfl) (DF.dat (df_callTy rc_list rfl B.list bt_list (da_cons (de_var 1) da_nil))))
    (dss_cons (ds_for hp rfl (di_any (de_ix (de_var 0) de_int (fun _ _ => rfl))) (dg_n 3 sc_moments_of.nd rfl (by first | exact Or.inl rfl | exact Or.inr rfl)) (dss_one (ds_set 2 sc_moments_of.nd rfl (by first | exact Or.inl rfl | exact Or.inr rfl) (de_op ro_add (de_var 2) (DF.dat (df_callTy rc_list rfl B.list bt_list (da_cons (de_sl (de_var 3) (do_some de_int) (do_some de_int)) da_nil)))))))
    (dss_one (ds_ret (DF.dat (df_sortSet rfl rfl B.sorted rfl B.set (de_var 2)))))))
abbrev s_more_of : Stmt := topS 21
theorem sc_more_of : FnScope ["one", "other"] ["one", "other"] (defScope s_more_of) := ⟨rfl, rfl, rfl, by decide +kernel, rfl, by decide +kernel, by decide +kernel⟩
noncomputable def g_more_of : SS := (sSeq (sIf (bOr (bOf (op2 isS (fVar 0) (fC .none))) (bOf (op2 isS (fVar 1) (fC .none)))) (sRet (vIf (bOf (op2 isS (fVar 0) (fC .none))) (fVar 1) (fVar 0))) sNx)
  (sRet (opL max2S (aCons (fVar 0) (aCons (fVar 1) aNil)))))
noncomputable def F_more_of : List OV → Sto → Rs OV := runF 2 2 g_more_of
theorem ok_more_of (B : Bt mg) {f : Addr} {fd : FuncData} (F : Fun K "more_of" "more_of" s_more_of f fd) (hm : mg "more_of" = some (.ref f)) (hb : Binds K fd ["one", "other"] []) : FnD P w K mg base C 1 "more_of" 2 F_more_of := by
  refine fn_mk F hm hb sc_more_of fun cdv A outer s H E hr => ?_
  have tk := takes_body (P := P) (w := w) (K := K) (mg := mg) (base := base) (N := ["one", "other"]) (qual := "more_of") (scope := defScope s_more_of) (f := f) (cd := cdv) (A := A) (outer := outer) (s := s) (H := H) (E := E)
  exact (dss_cons (ds_if (DW.dt (dw_or (dt_cmp ro_is (de_var 0) de_non (nomark _)) (dw_or1 (dt_cmp ro_is (de_var 1) de_non (nomark _))))) (dss_one (ds_ret (de_if (dt_cmp ro_is (de_var 0) de_non (nomark _)) (de_var 1) (de_var 0)))) dss_nil)
    (dss_one (ds_ret (de_callB (rc_max2 rfl) rfl B.max bt_max (da_cons (de_var 0) (da_cons (de_var 1) da_nil))))))
abbrev s_links_of : Stmt := topS 22
theorem sc_links_of : FnScope ["book", "times", "found", "at", "reading", "low", "high", "one", "other"] ["book", "times"] (defScope s_links_of) := ⟨rfl, rfl, rfl, by decide +kernel, rfl, by decide +kernel, by decide +kernel⟩
noncomputable def g_links_of : SS := (sSeq (sAsg (ownL (fLc (iZp (aCons (fVar 1) (aCons (fSl (fVar 1) (oSome (fC (.int 1))) oNone) aNil))) (tgTup 2 (tgCons (tgN 7) (tgCons (tgN 8) tgNil))) bYes (fTup (aCons (fVar 7) (aCons (fVar 8) (aCons (fC (.int 0)) (aCons (fTup (aCons (fC (.str "on")) (aCons (fVar 8) aNil))) aNil))))) [7, 8])) (tgN 2))
  (sSeq (sFor (iEn (aCons (op2 ixS (fVar 0) (fC (.int 1))) aNil)) (tgTup 2 (tgCons (tgN 3) (tgCons (tgN 4) tgNil))) (sSeq (sAsg (fCall F_limits (aCons (fVar 0) (aCons (fVar 4) aNil))) (tgTup 2 (tgCons (tgN 5) (tgCons (tgN 6) tgNil))))
  (sSeq (sExpr (fApp (fVar 2) (aCons (fTup (aCons (op2 ixS (fVar 4) (fC (.int 1))) (aCons (op2 ixS (fVar 4) (fC (.int 2))) (aCons (fVar 5) (aCons (fTup (aCons (fC (.str "by")) (aCons (fVar 3) aNil))) aNil))))) aNil)))
  (sExpr (fApp (fVar 2) (aCons (fTup (aCons (op2 ixS (fVar 4) (fC (.int 2))) (aCons (op2 ixS (fVar 4) (fC (.int 1))) (aCons (op1 negS (fVar 6)) (aCons (fTup (aCons (fC (.str "back")) (aCons (fVar 3) aNil))) aNil))))) aNil))))))
  (sRet (fVar 2))))
noncomputable def F_links_of : List OV → Sto → Rs OV := runF 2 9 g_links_of
theorem ok_links_of (B : Bt mg) {f : Addr} {fd : FuncData} (F : Fun K "links_of" "links_of" s_links_of f fd) (hm : mg "links_of" = some (.ref f)) (hb : Binds K fd ["book", "times"] []) (h_limits : FnD P w K mg base C 1 "limits" 2 F_limits) : FnD P w K mg base C 2 "links_of" 2 F_links_of := by
  refine fn_mk F hm hb sc_links_of fun cdv A outer s H E hr => ?_
  have tk := takes_body (P := P) (w := w) (K := K) (mg := mg) (base := base) (N := ["book", "times", "found", "at", "reading", "low", "high", "one", "other"]) (qual := "links_of") (scope := defScope s_links_of) (f := f) (cd := cdv) (A := A) (outer := outer) (s := s) (H := H) (E := E)
  have hp := passes_body (P := P) (w := w) (K := K) (mg := mg) (base := base) (N := ["book", "times", "found", "at", "reading", "low", "high", "one", "other"]) (qual := "links_of") (scope := defScope s_links_of) (f := f) (cd := cdv) (A := A) (outer := outer) (s := s) (H := H) (E := E)
  exact (dss_cons (ds_setLcO (own := [("one", 7), ("other", 8)]) 2 rfl sc_links_of.nd rfl rfl (sw_true rfl rfl rfl (by decide +kernel)) (di_zip rfl B.zip (da_cons (de_var 1) (da_cons (de_sl (de_var 1) (do_some de_int) do_none) da_nil))) (blkOk_by (own := [("one", 7), ("other", 8)]) (N := ["book", "times", "found", "at", "reading", "low", "high", "one", "other"]) (sc := defScope s_links_of) (by decide +kernel)) (by decide) (fun _ _ _ _ _ => (dg_tup rfl (dgs_cons (dg_n 7 sc_links_of.nd rfl (by first | exact Or.inl rfl | exact Or.inr rfl)) (dgs_cons (dg_n 8 sc_links_of.nd rfl (by first | exact Or.inl rfl | exact Or.inr rfl)) dgs_nil)))) (fun _ _ _ _ _ => dts_nil) (fun _ _ _ _ _ => (de_tup (da_cons (de_var 7) (da_cons (de_var 8) (da_cons de_int (da_cons (de_tup (da_cons de_str (da_cons (de_var 8) da_nil))) da_nil)))))))
    (dss_cons (ds_for hp rfl (di_enum rfl B.enumerate (da_cons (de_ix (de_var 0) de_int (fun _ _ => rfl)) da_nil)) (dg_tup rfl (dgs_cons (dg_n 3 sc_links_of.nd rfl (by first | exact Or.inl rfl | exact Or.inr rfl)) (dgs_cons (dg_n 4 sc_links_of.nd rfl (by first | exact Or.inl rfl | exact Or.inr rfl)) dgs_nil))) (dss_cons (ds_asg (de_call h_limits (hr.mono (by decide)) tk rfl (da_cons (de_var 0) (da_cons (de_var 4) da_nil)) (len_cons (len_cons len_nil))) (dg_tup rfl (dgs_cons (dg_n 5 sc_links_of.nd rfl (by first | exact Or.inl rfl | exact Or.inr rfl)) (dgs_cons (dg_n 6 sc_links_of.nd rfl (by first | exact Or.inl rfl | exact Or.inr rfl)) dgs_nil))))
    (dss_cons (ds_expr (de_app (de_var 2) (da_cons (de_tup (da_cons (de_ix (de_var 4) de_int (fun _ _ => rfl)) (da_cons (de_ix (de_var 4) de_int (fun _ _ => rfl)) (da_cons (de_var 5) (da_cons (de_tup (da_cons de_str (da_cons (de_var 3) da_nil))) da_nil))))) da_nil)))
    (dss_one (ds_expr (de_app (de_var 2) (da_cons (de_tup (da_cons (de_ix (de_var 4) de_int (fun _ _ => rfl)) (da_cons (de_ix (de_var 4) de_int (fun _ _ => rfl)) (da_cons (de_un ru_neg (de_var 6)) (da_cons (de_tup (da_cons de_str (da_cons (de_var 3) da_nil))) da_nil))))) da_nil)))))))
    (dss_one (ds_ret (de_var 2)))))
abbrev s_web_of : Stmt := topS 23
theorem sc_web_of : FnScope ["book", "times", "told", "web", "one", "other", "steps", "mid", "link"] ["book", "times", "told"] (defScope s_web_of) := ⟨rfl, rfl, rfl, by decide +kernel, rfl, by decide +kernel, by decide +kernel⟩
noncomputable def g_web_of : SS := (sSeq (sAsg (ownD dictS (aCons (frz (fLc2 (iSeq (fVar 1)) (tgN 4) (iSeq (fVar 1)) (tgN 5) bYes (fTup (aCons (fTup (aCons (fVar 4) (aCons (fVar 5) aNil))) (aCons (vIf (bOf (op2 eqS (fVar 4) (fVar 5))) (fC (.int 0)) (fC .none)) aNil))) [4, 5] [5])) aNil)) (tgN 3))
  (sSeq (sFor (iSeq (op2 addS (fVar 2) (frz (fLc (iSeq (fCall F_links_of (aCons (fVar 0) (aCons (fVar 1) aNil)))) (tgN 8) bYes (fSl (fVar 8) oNone (oSome (fC (.int 3)))) [8])))) (tgTup 3 (tgCons (tgN 4) (tgCons (tgN 5) (tgCons (tgN 6) tgNil)))) (sPutA (fVar 3) (fTup (aCons (fVar 4) (aCons (fVar 5) aNil))) (fCall F_more_of (aCons (op2 ixA (fVar 3) (fTup (aCons (fVar 4) (aCons (fVar 5) aNil)))) (aCons (fVar 6) aNil)))))
  (sSeq (sFor (iSeq (fVar 1)) (tgN 7) (sFor (iSeq (fVar 1)) (tgN 4) (sFor (iSeq (fVar 1)) (tgN 5) (sIf (bAnd (bOf (op2 isNotS (op2 ixA (fVar 3) (fTup (aCons (fVar 4) (aCons (fVar 7) aNil)))) (fC .none))) (bOf (op2 isNotS (op2 ixA (fVar 3) (fTup (aCons (fVar 7) (aCons (fVar 5) aNil)))) (fC .none)))) (sPutA (fVar 3) (fTup (aCons (fVar 4) (aCons (fVar 5) aNil))) (fCall F_more_of (aCons (op2 ixA (fVar 3) (fTup (aCons (fVar 4) (aCons (fVar 5) aNil)))) (aCons (op2 addS (op2 ixA (fVar 3) (fTup (aCons (fVar 4) (aCons (fVar 7) aNil)))) (op2 ixA (fVar 3) (fTup (aCons (fVar 7) (aCons (fVar 5) aNil))))) aNil)))) sNx))))
  (sRet (fVar 3)))))
noncomputable def F_web_of : List OV → Sto → Rs OV := runF 3 9 g_web_of
theorem ok_web_of (B : Bt mg) {f : Addr} {fd : FuncData} (F : Fun K "web_of" "web_of" s_web_of f fd) (hm : mg "web_of" = some (.ref f)) (hb : Binds K fd ["book", "times", "told"] []) (h_links_of : FnD P w K mg base C 2 "links_of" 2 F_links_of) (h_more_of : FnD P w K mg base C 1 "more_of" 2 F_more_of) : FnD P w K mg base C 3 "web_of" 3 F_web_of := by
  refine fn_mk F hm hb sc_web_of fun cdv A outer s H E hr => ?_
  have tk := takes_body (P := P) (w := w) (K := K) (mg := mg) (base := base) (N := ["book", "times", "told", "web", "one", "other", "steps", "mid", "link"]) (qual := "web_of") (scope := defScope s_web_of) (f := f) (cd := cdv) (A := A) (outer := outer) (s := s) (H := H) (E := E)
  have hp := passes_body (P := P) (w := w) (K := K) (mg := mg) (base := base) (N := ["book", "times", "told", "web", "one", "other", "steps", "mid", "link"]) (qual := "web_of") (scope := defScope s_web_of) (f := f) (cd := cdv) (A := A) (outer := outer) (s := s) (H := H) (E := E)
  exact (dss_cons (ds_set 3 sc_web_of.nd rfl (by first | exact Or.inl rfl | exact Or.inr rfl) (de_dictT rfl (hu2_of hr) rfl B.dict (da_cons (DF.dat (df_lc2 (own := [("one", 4), ("other", 5)]) (vs1 := [5]) rfl sc_web_of.nd (di_any (de_var 1)) (blkOk_by (own := [("one", 4), ("other", 5)]) (N := ["book", "times", "told", "web", "one", "other", "steps", "mid", "link"]) (sc := defScope s_web_of) (by decide +kernel)) (by decide) (by decide) (by decide) (fun _ _ _ _ _ => (dg_n 4 sc_web_of.nd rfl (by first | exact Or.inl rfl | exact Or.inr rfl))) (fun _ _ _ _ _ => (di_any (de_var 1))) (fun _ _ _ _ _ => (dg_n 5 sc_web_of.nd rfl (by first | exact Or.inl rfl | exact Or.inr rfl))) (fun _ _ _ _ _ => dts_nil) (fun _ _ _ _ _ => (de_tup (da_cons (de_tup (da_cons (de_var 4) (da_cons (de_var 5) da_nil))) (da_cons (de_if (dt_cmp (ro_eq hr) (de_var 4) (de_var 5) (nomark _)) de_int de_non) da_nil)))))) da_nil)))
    (dss_cons (ds_for hp rfl (di_any (de_op ro_add (de_var 2) (DF.dat (df_lc (own := [("link", 8)]) rfl sc_web_of.nd (di_any (de_call h_links_of (hr.mono (by decide)) tk rfl (da_cons (de_var 0) (da_cons (de_var 1) da_nil)) (len_cons (len_cons len_nil)))) (blkOk_by (own := [("link", 8)]) (N := ["book", "times", "told", "web", "one", "other", "steps", "mid", "link"]) (sc := defScope s_web_of) (by decide +kernel)) (by decide) (fun _ _ _ _ _ => (dg_n 8 sc_web_of.nd rfl (by first | exact Or.inl rfl | exact Or.inr rfl))) (fun _ _ _ _ _ => dts_nil) (fun _ _ _ _ _ => (de_sl (de_var 8) do_none (do_some de_int))))))) (dg_tup rfl (dgs_cons (dg_n 4 sc_web_of.nd rfl (by first | exact Or.inl rfl | exact Or.inr rfl)) (dgs_cons (dg_n 5 sc_web_of.nd rfl (by first | exact Or.inl rfl | exact Or.inr rfl)) (dgs_cons (dg_n 6 sc_web_of.nd rfl (by first | exact Or.inl rfl | exact Or.inr rfl)) dgs_nil)))) (dss_one (ds_putA (hu_of hr) (de_var 3) (de_tup (da_cons (de_var 4) (da_cons (de_var 5) da_nil))) (de_call h_more_of (hr.mono (by decide)) tk rfl (da_cons (de_ixA (hu_of hr) (de_var 3) (de_tup (da_cons (de_var 4) (da_cons (de_var 5) da_nil))) (fun _ _ => rfl)) (da_cons (de_var 6) da_nil)) (len_cons (len_cons len_nil))))))
    (dss_cons (ds_for hp rfl (di_any (de_var 1)) (dg_n 7 sc_web_of.nd rfl (by first | exact Or.inl rfl | exact Or.inr rfl)) (dss_one (ds_for hp rfl (di_any (de_var 1)) (dg_n 4 sc_web_of.nd rfl (by first | exact Or.inl rfl | exact Or.inr rfl)) (dss_one (ds_for hp rfl (di_any (de_var 1)) (dg_n 5 sc_web_of.nd rfl (by first | exact Or.inl rfl | exact Or.inr rfl)) (dss_one (ds_if (DW.dt (dw_and (dt_cmp ro_isNot (de_ixA (hu_of hr) (de_var 3) (de_tup (da_cons (de_var 4) (da_cons (de_var 7) da_nil))) (fun _ _ => rfl)) de_non (nomark _)) (dw_and1 (dt_cmp ro_isNot (de_ixA (hu_of hr) (de_var 3) (de_tup (da_cons (de_var 7) (da_cons (de_var 5) da_nil))) (fun _ _ => rfl)) de_non (nomark _))))) (dss_one (ds_putA (hu_of hr) (de_var 3) (de_tup (da_cons (de_var 4) (da_cons (de_var 5) da_nil))) (de_call h_more_of (hr.mono (by decide)) tk rfl (da_cons (de_ixA (hu_of hr) (de_var 3) (de_tup (da_cons (de_var 4) (da_cons (de_var 5) da_nil))) (fun _ _ => rfl)) (da_cons (de_op ro_add (de_ixA (hu_of hr) (de_var 3) (de_tup (da_cons (de_var 4) (da_cons (de_var 7) da_nil))) (fun _ _ => rfl)) (de_ixA (hu_of hr) (de_var 3) (de_tup (da_cons (de_var 7) (da_cons (de_var 5) da_nil))) (fun _ _ => rfl))) da_nil)) (len_cons (len_cons len_nil))))) dss_nil)))))))
    (dss_one (ds_ret (de_var 3))))))
abbrev s_can_be : Stmt := topS 24
theorem sc_can_be : FnScope ["web", "times", "one"] ["web", "times"] (defScope s_can_be) := ⟨rfl, rfl, rfl, by decide +kernel, rfl, by decide +kernel, by decide +kernel⟩
noncomputable def g_can_be : SS := (sRet (opL allS (aCons (frz (fLc (iSeq (fVar 1)) (tgN 2) bYes (op2 eqS (op2 ixA (fVar 0) (fTup (aCons (fVar 2) (aCons (fVar 2) aNil)))) (fC (.int 0))) [2])) aNil)))
noncomputable def F_can_be : List OV → Sto → Rs OV := runF 2 3 g_can_be
theorem ok_can_be (B : Bt mg) {f : Addr} {fd : FuncData} (F : Fun K "can_be" "can_be" s_can_be f fd) (hm : mg "can_be" = some (.ref f)) (hb : Binds K fd ["web", "times"] []) : FnD P w K mg base C 1 "can_be" 2 F_can_be := by
  refine fn_mk F hm hb sc_can_be fun cdv A outer s H E hr => ?_
  have tk := takes_body (P := P) (w := w) (K := K) (mg := mg) (base := base) (N := ["web", "times", "one"]) (qual := "can_be") (scope := defScope s_can_be) (f := f) (cd := cdv) (A := A) (outer := outer) (s := s) (H := H) (E := E)
  exact (dss_one (ds_ret (de_callB (rc_all rfl) rfl B.all bt_all (da_cons (DF.dat (df_lc (own := [("one", 2)]) rfl sc_can_be.nd (di_any (de_var 1)) (blkOk_by (own := [("one", 2)]) (N := ["web", "times", "one"]) (sc := defScope s_can_be) (by decide +kernel)) (by decide) (fun _ _ _ _ _ => (dg_n 2 sc_can_be.nd rfl (by first | exact Or.inl rfl | exact Or.inr rfl))) (fun _ _ _ _ _ => dts_nil) (fun _ _ _ _ _ => (de_cmp (ro_eq hr) (de_ixA (hu_of hr) (de_var 0) (de_tup (da_cons (de_var 2) (da_cons (de_var 2) da_nil))) (fun _ _ => rfl)) de_int (nomark _))))) da_nil))))
abbrev s_is_possible_of : Stmt := topS 25
theorem sc_is_possible_of : FnScope ["book", "times"] ["book"] (defScope s_is_possible_of) := ⟨rfl, rfl, rfl, by decide +kernel, rfl, by decide +kernel, by decide +kernel⟩
noncomputable def g_is_possible_of : SS := (sSeq (sAsg (fCall F_moments_of (aCons (fVar 0) (aCons (frz (fLst aNil)) aNil))) (tgN 1))
  (sRet (fCall F_can_be (aCons (fCall F_web_of (aCons (fVar 0) (aCons (fVar 1) (aCons (frz (fLst aNil)) aNil)))) (aCons (fVar 1) aNil)))))
noncomputable def F_is_possible_of : List OV → Sto → Rs OV := runF 1 2 g_is_possible_of
theorem ok_is_possible_of (B : Bt mg) {f : Addr} {fd : FuncData} (F : Fun K "is_possible_of" "is_possible_of" s_is_possible_of f fd) (hm : mg "is_possible_of" = some (.ref f)) (hb : Binds K fd ["book"] []) (h_moments_of : FnD P w K mg base C 1 "moments_of" 2 F_moments_of) (h_web_of : FnD P w K mg base C 3 "web_of" 3 F_web_of) (h_can_be : FnD P w K mg base C 1 "can_be" 2 F_can_be) : FnD P w K mg base C 4 "is_possible_of" 1 F_is_possible_of := by
  refine fn_mk F hm hb sc_is_possible_of fun cdv A outer s H E hr => ?_
  have tk := takes_body (P := P) (w := w) (K := K) (mg := mg) (base := base) (N := ["book", "times"]) (qual := "is_possible_of") (scope := defScope s_is_possible_of) (f := f) (cd := cdv) (A := A) (outer := outer) (s := s) (H := H) (E := E)
  exact (dss_cons (ds_set 1 sc_is_possible_of.nd rfl (by first | exact Or.inl rfl | exact Or.inr rfl) (de_call h_moments_of (hr.mono (by decide)) tk rfl (da_cons (de_var 0) (da_cons (DF.dat (df_lst da_nil)) da_nil)) (len_cons (len_cons len_nil))))
    (dss_one (ds_ret (de_call h_can_be (hr.mono (by decide)) tk rfl (da_cons (de_call h_web_of (hr.mono (by decide)) tk rfl (da_cons (de_var 0) (da_cons (de_var 1) (da_cons (DF.dat (df_lst da_nil)) da_nil))) (len_cons (len_cons (len_cons len_nil)))) (da_cons (de_var 1) da_nil)) (len_cons (len_cons len_nil))))))
abbrev s_need_possible : Stmt := topS 26
theorem sc_need_possible : FnScope ["book"] ["book"] (defScope s_need_possible) := ⟨rfl, rfl, rfl, by decide +kernel, rfl, by decide +kernel, by decide +kernel⟩
noncomputable def g_need_possible : SS := (sIf (bNot (bOf (fCall F_is_possible_of (aCons (fVar 0) aNil)))) (sRaise "Impossible") sNx)
noncomputable def F_need_possible : List OV → Sto → Rs OV := runF 1 1 g_need_possible
theorem ok_need_possible (B : Bt mg) {f : Addr} {fd : FuncData} (F : Fun K "need_possible" "need_possible" s_need_possible f fd) (hm : mg "need_possible" = some (.ref f)) (hb : Binds K fd ["book"] []) {a_Impossible : Addr} (x_Impossible : ExcT K mg C "Impossible" a_Impossible) (h_is_possible_of : FnD P w K mg base C 4 "is_possible_of" 1 F_is_possible_of) : FnD P w K mg base C 5 "need_possible" 1 F_need_possible := by
  refine fn_mk F hm hb sc_need_possible fun cdv A outer s H E hr => ?_
  have tk := takes_body (P := P) (w := w) (K := K) (mg := mg) (base := base) (N := ["book"]) (qual := "need_possible") (scope := defScope s_need_possible) (f := f) (cd := cdv) (A := A) (outer := outer) (s := s) (H := H) (E := E)
  exact (dss_one (ds_if (dt_not (dt_val (de_call h_is_possible_of (hr.mono (by decide)) tk rfl (da_cons (de_var 0) da_nil) (len_cons len_nil)))) (dss_one (ds_raiseX x_Impossible rfl tk rfl)) dss_nil))
abbrev s_need_menu : Stmt := topS 28
theorem sc_need_menu : FnScope ["menu", "one"] ["menu"] (defScope s_need_menu) := ⟨rfl, rfl, rfl, by decide +kernel, rfl, by decide +kernel, by decide +kernel⟩
noncomputable def g_need_menu : SS := (sIf (bOr (bNot (bOf (isiF "tuple" (fVar 0)))) (bOr (bNot (bOf (chn leS leS (fC (.int 1)) (opL lenS (aCons (fVar 0) aNil)) (fC (.int 5))))) (bNot (bOf (opL allS (aCons (frz (fLc (iSeq (fVar 0)) (tgN 1) bYes (fCall F_is_stretch (aCons (fVar 1) aNil)) [1])) aNil)))))) (sRaise "InvalidMenu") sNx)
noncomputable def F_need_menu : List OV → Sto → Rs OV := runF 1 2 g_need_menu
theorem ok_need_menu (B : Bt mg) {f : Addr} {fd : FuncData} (F : Fun K "need_menu" "need_menu" s_need_menu f fd) (hm : mg "need_menu" = some (.ref f)) (hb : Binds K fd ["menu"] []) {a_InvalidMenu : Addr} (x_InvalidMenu : ExcT K mg C "InvalidMenu" a_InvalidMenu) (h_is_stretch : FnD P w K mg base C 2 "is_stretch" 1 F_is_stretch) : FnD P w K mg base C 3 "need_menu" 1 F_need_menu := by
  refine fn_mk F hm hb sc_need_menu fun cdv A outer s H E hr => ?_
  have tk := takes_body (P := P) (w := w) (K := K) (mg := mg) (base := base) (N := ["menu", "one"]) (qual := "need_menu") (scope := defScope s_need_menu) (f := f) (cd := cdv) (A := A) (outer := outer) (s := s) (H := H) (E := E)
  exact (dss_one (ds_if (DW.dt (dw_or (dt_not (dt_val (de_isi (de_var 0) (T := "tuple") (by decide) rfl B.isinstance rfl B.tuple bt_tuple))) (dw_or (dt_not (dt_chain ro_le ro_le de_int (de_callB rc_len rfl B.len bt_len (da_cons (de_var 0) da_nil)) de_int)) (dw_or1 (dt_not (dt_val (de_callB (rc_all rfl) rfl B.all bt_all (da_cons (DF.dat (df_lc (own := [("one", 1)]) rfl sc_need_menu.nd (di_any (de_var 0)) (blkOk_by (own := [("one", 1)]) (N := ["menu", "one"]) (sc := defScope s_need_menu) (by decide +kernel)) (by decide) (fun _ _ _ _ _ => (dg_n 1 sc_need_menu.nd rfl (by first | exact Or.inl rfl | exact Or.inr rfl))) (fun _ _ _ _ _ => dts_nil) (fun _ _ _ _ _ => (de_call h_is_stretch (hr.mono (by decide)) takes0 rfl (da_cons (de_var 1) da_nil) (len_cons len_nil))))) da_nil)))))))) (dss_one (ds_raiseX x_InvalidMenu rfl tk rfl)) dss_nil))
abbrev s_pieces : Stmt := topS 29
theorem sc_pieces : FnScope ["web", "one", "other", "start", "goal", "rows", "mid", "end", "factor", "row"] ["web", "one", "other", "start", "goal"] (defScope s_pieces) := ⟨rfl, rfl, rfl, by decide +kernel, rfl, by decide +kernel, by decide +kernel⟩
noncomputable def g_pieces : SS := (sSeq (sAsg (ownL (fLst (aCons (fTup (aCons (op2 ixA (fVar 0) (fTup (aCons (fVar 1) (aCons (fVar 2) aNil)))) (aCons (fC (.int 0)) aNil))) aNil))) (tgN 5))
  (sSeq (sFor (iSeq (fTup (aCons (fTup (aCons (fVar 3) (aCons (fVar 4) (aCons (fC (.int 1)) aNil)))) (aCons (fTup (aCons (fVar 4) (aCons (fVar 3) (aCons (op1 negS (fC (.int 1))) aNil)))) aNil)))) (tgTup 3 (tgCons (tgN 6) (tgCons (tgN 7) (tgCons (tgN 8) tgNil)))) (sIf (bAnd (bOf (op2 isNotS (op2 ixA (fVar 0) (fTup (aCons (fVar 1) (aCons (fVar 6) aNil)))) (fC .none))) (bOf (op2 isNotS (op2 ixA (fVar 0) (fTup (aCons (fVar 7) (aCons (fVar 2) aNil)))) (fC .none)))) (sExpr (fApp (fVar 5) (aCons (fTup (aCons (op2 addS (op2 ixA (fVar 0) (fTup (aCons (fVar 1) (aCons (fVar 6) aNil)))) (op2 ixA (fVar 0) (fTup (aCons (fVar 7) (aCons (fVar 2) aNil))))) (aCons (fVar 8) aNil))) aNil))) sNx))
  (sRet (frz (fLc (iSeq (fVar 5)) (tgN 9) (bOf (op2 isNotS (op2 ixS (fVar 9) (fC (.int 0))) (fC .none))) (fVar 9) [9])))))
noncomputable def F_pieces : List OV → Sto → Rs OV := runF 5 10 g_pieces
theorem ok_pieces (B : Bt mg) {f : Addr} {fd : FuncData} (F : Fun K "pieces" "pieces" s_pieces f fd) (hm : mg "pieces" = some (.ref f)) (hb : Binds K fd ["web", "one", "other", "start", "goal"] []) : FnD P w K mg base C 1 "pieces" 5 F_pieces := by
  refine fn_mk F hm hb sc_pieces fun cdv A outer s H E hr => ?_
  have tk := takes_body (P := P) (w := w) (K := K) (mg := mg) (base := base) (N := ["web", "one", "other", "start", "goal", "rows", "mid", "end", "factor", "row"]) (qual := "pieces") (scope := defScope s_pieces) (f := f) (cd := cdv) (A := A) (outer := outer) (s := s) (H := H) (E := E)
  have hp := passes_body (P := P) (w := w) (K := K) (mg := mg) (base := base) (N := ["web", "one", "other", "start", "goal", "rows", "mid", "end", "factor", "row"]) (qual := "pieces") (scope := defScope s_pieces) (f := f) (cd := cdv) (A := A) (outer := outer) (s := s) (H := H) (E := E)
  exact (dss_cons (ds_set 5 sc_pieces.nd rfl (by first | exact Or.inl rfl | exact Or.inr rfl) (DF.own (df_lst (da_cons (de_tup (da_cons (de_ixA (hu_of hr) (de_var 0) (de_tup (da_cons (de_var 1) (da_cons (de_var 2) da_nil))) (fun _ _ => rfl)) (da_cons de_int da_nil))) da_nil))))
    (dss_cons (ds_for hp rfl (di_any (de_tup (da_cons (de_tup (da_cons (de_var 3) (da_cons (de_var 4) (da_cons de_int da_nil)))) (da_cons (de_tup (da_cons (de_var 4) (da_cons (de_var 3) (da_cons (de_un ru_neg de_int) da_nil)))) da_nil)))) (dg_tup rfl (dgs_cons (dg_n 6 sc_pieces.nd rfl (by first | exact Or.inl rfl | exact Or.inr rfl)) (dgs_cons (dg_n 7 sc_pieces.nd rfl (by first | exact Or.inl rfl | exact Or.inr rfl)) (dgs_cons (dg_n 8 sc_pieces.nd rfl (by first | exact Or.inl rfl | exact Or.inr rfl)) dgs_nil)))) (dss_one (ds_if (DW.dt (dw_and (dt_cmp ro_isNot (de_ixA (hu_of hr) (de_var 0) (de_tup (da_cons (de_var 1) (da_cons (de_var 6) da_nil))) (fun _ _ => rfl)) de_non (nomark _)) (dw_and1 (dt_cmp ro_isNot (de_ixA (hu_of hr) (de_var 0) (de_tup (da_cons (de_var 7) (da_cons (de_var 2) da_nil))) (fun _ _ => rfl)) de_non (nomark _))))) (dss_one (ds_expr (de_app (de_var 5) (da_cons (de_tup (da_cons (de_op ro_add (de_ixA (hu_of hr) (de_var 0) (de_tup (da_cons (de_var 1) (da_cons (de_var 6) da_nil))) (fun _ _ => rfl)) (de_ixA (hu_of hr) (de_var 0) (de_tup (da_cons (de_var 7) (da_cons (de_var 2) da_nil))) (fun _ _ => rfl))) (da_cons (de_var 8) da_nil))) da_nil)))) dss_nil)))
    (dss_one (ds_ret (DF.dat (df_lc (own := [("row", 9)]) rfl sc_pieces.nd (di_any (de_var 5)) (blkOk_by (own := [("row", 9)]) (N := ["web", "one", "other", "start", "goal", "rows", "mid", "end", "factor", "row"]) (sc := defScope s_pieces) (by decide +kernel)) (by decide) (fun _ _ _ _ _ => (dg_n 9 sc_pieces.nd rfl (by first | exact Or.inl rfl | exact Or.inr rfl))) (fun _ _ _ _ _ => (dts_one (dt_cmp ro_isNot (de_ix (de_var 9) de_int (fun _ _ => rfl)) de_non (nomark _)))) (fun _ _ _ _ _ => (de_var 9))))))))
abbrev s_value_at : Stmt := topS 30
theorem sc_value_at : FnScope ["rows", "count", "constant", "factor"] ["rows", "count"] (defScope s_value_at) := ⟨rfl, rfl, rfl, by decide +kernel, rfl, by decide +kernel, by decide +kernel⟩
noncomputable def g_value_at : SS := (sRet (opL maxLS (aCons (frz (fLc (iSeq (fVar 0)) (tgTup 2 (tgCons (tgN 2) (tgCons (tgN 3) tgNil))) bYes (op2 addS (fVar 2) (op2 mulS (fVar 3) (fVar 1))) [2, 3])) aNil)))
noncomputable def F_value_at : List OV → Sto → Rs OV := runF 2 4 g_value_at
theorem ok_value_at (B : Bt mg) {f : Addr} {fd : FuncData} (F : Fun K "value_at" "value_at" s_value_at f fd) (hm : mg "value_at" = some (.ref f)) (hb : Binds K fd ["rows", "count"] []) : FnD P w K mg base C 1 "value_at" 2 F_value_at := by
  refine fn_mk F hm hb sc_value_at fun cdv A outer s H E hr => ?_
  have tk := takes_body (P := P) (w := w) (K := K) (mg := mg) (base := base) (N := ["rows", "count", "constant", "factor"]) (qual := "value_at") (scope := defScope s_value_at) (f := f) (cd := cdv) (A := A) (outer := outer) (s := s) (H := H) (E := E)
  exact (dss_one (ds_ret (de_callB (rc_maxL rfl) rfl B.max bt_max (da_cons (DF.dat (df_lc (own := [("constant", 2), ("factor", 3)]) rfl sc_value_at.nd (di_any (de_var 0)) (blkOk_by (own := [("constant", 2), ("factor", 3)]) (N := ["rows", "count", "constant", "factor"]) (sc := defScope s_value_at) (by decide +kernel)) (by decide) (fun _ _ _ _ _ => (dg_tup rfl (dgs_cons (dg_n 2 sc_value_at.nd rfl (by first | exact Or.inl rfl | exact Or.inr rfl)) (dgs_cons (dg_n 3 sc_value_at.nd rfl (by first | exact Or.inl rfl | exact Or.inr rfl)) dgs_nil)))) (fun _ _ _ _ _ => dts_nil) (fun _ _ _ _ _ => (de_op ro_add (de_var 2) (de_op ro_mul (de_var 3) (de_var 1)))))) da_nil))))
abbrev s_corners : Stmt := topS 31
theorem sc_corners : FnScope ["rows", "found", "constant", "factor", "other", "slope", "middle"] ["rows"] (defScope s_corners) := ⟨rfl, rfl, rfl, by decide +kernel, rfl, by decide +kernel, by decide +kernel⟩
noncomputable def g_corners : SS := (sSeq (sAsg (frz (fLst aNil)) (tgN 1))
  (sSeq (sFor (iSeq (fVar 0)) (tgTup 2 (tgCons (tgN 2) (tgCons (tgN 3) tgNil))) (sFor (iSeq (fVar 0)) (tgTup 2 (tgCons (tgN 4) (tgCons (tgN 5) tgNil))) (sIf (bOf (op2 neS (fVar 3) (fVar 5))) (sSeq (sAsg (op2 fdivS (op2 subS (fVar 4) (fVar 2)) (op2 subS (fVar 3) (fVar 5))) (tgN 6))
  (sAsg (op2 addS (fVar 1) (frz (fLst (aCons (fVar 6) (aCons (op2 addS (fVar 6) (fC (.int 1))) aNil))))) (tgN 1))) sNx)))
  (sRet (fVar 1))))
noncomputable def F_corners : List OV → Sto → Rs OV := runF 1 7 g_corners
theorem ok_corners (B : Bt mg) {f : Addr} {fd : FuncData} (F : Fun K "corners" "corners" s_corners f fd) (hm : mg "corners" = some (.ref f)) (hb : Binds K fd ["rows"] []) : FnD P w K mg base C 1 "corners" 1 F_corners := by
  refine fn_mk F hm hb sc_corners fun cdv A outer s H E hr => ?_
  have tk := takes_body (P := P) (w := w) (K := K) (mg := mg) (base := base) (N := ["rows", "found", "constant", "factor", "other", "slope", "middle"]) (qual := "corners") (scope := defScope s_corners) (f := f) (cd := cdv) (A := A) (outer := outer) (s := s) (H := H) (E := E)
  have hp := passes_body (P := P) (w := w) (K := K) (mg := mg) (base := base) (N := ["rows", "found", "constant", "factor", "other", "slope", "middle"]) (qual := "corners") (scope := defScope s_corners) (f := f) (cd := cdv) (A := A) (outer := outer) (s := s) (H := H) (E := E)
  exact (dss_cons (ds_set 1 sc_corners.nd rfl (by first | exact Or.inl rfl | exact Or.inr rfl) (DF.dat (df_lst da_nil)))
    (dss_cons (ds_for hp rfl (di_any (de_var 0)) (dg_tup rfl (dgs_cons (dg_n 2 sc_corners.nd rfl (by first | exact Or.inl rfl | exact Or.inr rfl)) (dgs_cons (dg_n 3 sc_corners.nd rfl (by first | exact Or.inl rfl | exact Or.inr rfl)) dgs_nil))) (dss_one (ds_for hp rfl (di_any (de_var 0)) (dg_tup rfl (dgs_cons (dg_n 4 sc_corners.nd rfl (by first | exact Or.inl rfl | exact Or.inr rfl)) (dgs_cons (dg_n 5 sc_corners.nd rfl (by first | exact Or.inl rfl | exact Or.inr rfl)) dgs_nil))) (dss_one (ds_if (dt_cmp (ro_ne hr) (de_var 3) (de_var 5) (nomark _)) (dss_cons (ds_set 6 sc_corners.nd rfl (by first | exact Or.inl rfl | exact Or.inr rfl) (de_op ro_fdiv (de_op ro_sub (de_var 4) (de_var 2)) (de_op ro_sub (de_var 3) (de_var 5))))
    (dss_one (ds_set 1 sc_corners.nd rfl (by first | exact Or.inl rfl | exact Or.inr rfl) (de_op ro_add (de_var 1) (DF.dat (df_lst (da_cons (de_var 6) (da_cons (de_op ro_add (de_var 6) de_int) da_nil)))))))) dss_nil)))))
    (dss_one (ds_ret (de_var 1)))))
abbrev s_counts_of : Stmt := topS 32
theorem sc_counts_of : FnScope ["web", "stretch", "back"] ["web", "stretch"] (defScope s_counts_of) := ⟨rfl, rfl, rfl, by decide +kernel, rfl, by decide +kernel, by decide +kernel⟩
noncomputable def g_counts_of : SS := (sSeq (sAsg (op2 ixA (fVar 0) (fTup (aCons (op2 ixS (fVar 1) (fC (.int 1))) (aCons (op2 ixS (fVar 1) (fC (.int 0))) aNil)))) (tgN 2))
  (sRet (fTup (aCons (op2 ixA (fVar 0) (fVar 1)) (aCons (vIf (bOf (op2 isS (fVar 2) (fC .none))) (fC .none) (op1 negS (fVar 2))) aNil)))))
noncomputable def F_counts_of : List OV → Sto → Rs OV := runF 2 3 g_counts_of
theorem ok_counts_of (B : Bt mg) {f : Addr} {fd : FuncData} (F : Fun K "counts_of" "counts_of" s_counts_of f fd) (hm : mg "counts_of" = some (.ref f)) (hb : Binds K fd ["web", "stretch"] []) : FnD P w K mg base C 1 "counts_of" 2 F_counts_of := by
  refine fn_mk F hm hb sc_counts_of fun cdv A outer s H E hr => ?_
  have tk := takes_body (P := P) (w := w) (K := K) (mg := mg) (base := base) (N := ["web", "stretch", "back"]) (qual := "counts_of") (scope := defScope s_counts_of) (f := f) (cd := cdv) (A := A) (outer := outer) (s := s) (H := H) (E := E)
  exact (dss_cons (ds_set 2 sc_counts_of.nd rfl (by first | exact Or.inl rfl | exact Or.inr rfl) (de_ixA (hu_of hr) (de_var 0) (de_tup (da_cons (de_ix (de_var 1) de_int (fun _ _ => rfl)) (da_cons (de_ix (de_var 1) de_int (fun _ _ => rfl)) da_nil))) (fun _ _ => rfl)))
    (dss_one (ds_ret (de_tup (da_cons (de_ixA (hu_of hr) (de_var 0) (de_var 1) (fun _ _ => rfl)) (da_cons (de_if (dt_cmp ro_is (de_var 2) de_non (nomark _)) de_non (de_un ru_neg (de_var 2))) da_nil))))))
abbrev s_steepest : Stmt := topS 33
theorem sc_steepest : FnScope ["rows", "constant", "factor"] ["rows"] (defScope s_steepest) := ⟨rfl, rfl, rfl, by decide +kernel, rfl, by decide +kernel, by decide +kernel⟩
noncomputable def g_steepest : SS := (sRet (opL maxLS (aCons (frz (fLc (iSeq (fVar 0)) (tgTup 2 (tgCons (tgN 1) (tgCons (tgN 2) tgNil))) bYes (fVar 2) [1, 2])) aNil)))
noncomputable def F_steepest : List OV → Sto → Rs OV := runF 1 3 g_steepest
theorem ok_steepest (B : Bt mg) {f : Addr} {fd : FuncData} (F : Fun K "steepest" "steepest" s_steepest f fd) (hm : mg "steepest" = some (.ref f)) (hb : Binds K fd ["rows"] []) : FnD P w K mg base C 1 "steepest" 1 F_steepest := by
  refine fn_mk F hm hb sc_steepest fun cdv A outer s H E hr => ?_
  have tk := takes_body (P := P) (w := w) (K := K) (mg := mg) (base := base) (N := ["rows", "constant", "factor"]) (qual := "steepest") (scope := defScope s_steepest) (f := f) (cd := cdv) (A := A) (outer := outer) (s := s) (H := H) (E := E)
  exact (dss_one (ds_ret (de_callB (rc_maxL rfl) rfl B.max bt_max (da_cons (DF.dat (df_lc (own := [("constant", 1), ("factor", 2)]) rfl sc_steepest.nd (di_any (de_var 0)) (blkOk_by (own := [("constant", 1), ("factor", 2)]) (N := ["rows", "constant", "factor"]) (sc := defScope s_steepest) (by decide +kernel)) (by decide) (fun _ _ _ _ _ => (dg_tup rfl (dgs_cons (dg_n 1 sc_steepest.nd rfl (by first | exact Or.inl rfl | exact Or.inr rfl)) (dgs_cons (dg_n 2 sc_steepest.nd rfl (by first | exact Or.inl rfl | exact Or.inr rfl)) dgs_nil)))) (fun _ _ _ _ _ => dts_nil) (fun _ _ _ _ _ => (de_var 2)))) da_nil))))
abbrev s_worst_width : Stmt := topS 34
theorem sc_worst_width : FnScope ["web", "wanted", "stretch", "ahead", "back", "low", "high", "some", "count"] ["web", "wanted", "stretch"] (defScope s_worst_width) := ⟨rfl, rfl, rfl, by decide +kernel, rfl, by decide +kernel, by decide +kernel⟩
noncomputable def g_worst_width : SS := (sSeq (sAsg (fCall F_pieces (aCons (fVar 0) (aCons (op2 ixS (fVar 1) (fC (.int 0))) (aCons (op2 ixS (fVar 1) (fC (.int 1))) (aCons (op2 ixS (fVar 2) (fC (.int 0))) (aCons (op2 ixS (fVar 2) (fC (.int 1))) aNil)))))) (tgN 3))
  (sSeq (sAsg (fCall F_pieces (aCons (fVar 0) (aCons (op2 ixS (fVar 1) (fC (.int 1))) (aCons (op2 ixS (fVar 1) (fC (.int 0))) (aCons (op2 ixS (fVar 2) (fC (.int 0))) (aCons (op2 ixS (fVar 2) (fC (.int 1))) aNil)))))) (tgN 4))
  (sSeq (sIf (bOf (op2 eqS (fVar 4) (frz (fLst aNil)))) (sRet (fC .none)) sNx)
  (sSeq (sAsg (fCall F_counts_of (aCons (fVar 0) (aCons (fVar 2) aNil))) (tgTup 2 (tgCons (tgN 5) (tgCons (tgN 6) tgNil))))
  (sSeq (sIf (bAnd (bOf (op2 isS (fVar 6) (fC .none))) (bOf (op2 ltS (op2 addS (fCall F_steepest (aCons (fVar 3) aNil)) (fCall F_steepest (aCons (fVar 4) aNil))) (fC (.int 0))))) (sRet (fC .none)) sNx)
  (sSeq (sAsg (op2 addS (op2 addS (op2 addS (frz (fLst (aCons (fVar 5) aNil))) (vIf (bOf (op2 isNotS (fVar 6) (fC .none))) (frz (fLst (aCons (fVar 6) aNil))) (frz (fLst aNil)))) (fCall F_corners (aCons (fVar 3) aNil))) (fCall F_corners (aCons (fVar 4) aNil))) (tgN 7))
  (sSeq (sAsg (frz (fLc (iSeq (fVar 7)) (tgN 8) (bAnd (bOf (op2 geS (fVar 8) (fVar 5))) (bOr (bOf (op2 isS (fVar 6) (fC .none))) (bOf (op2 leS (fVar 8) (fVar 6))))) (fVar 8) [8])) (tgN 7))
  (sRet (opL maxLS (aCons (frz (fLc (iSeq (fVar 7)) (tgN 8) bYes (op2 subS (op1 negS (fCall F_value_at (aCons (fVar 3) (aCons (fVar 8) aNil)))) (fCall F_value_at (aCons (fVar 4) (aCons (fVar 8) aNil)))) [8])) aNil))))))))))
noncomputable def F_worst_width : List OV → Sto → Rs OV := runF 3 9 g_worst_width
theorem ok_worst_width (B : Bt mg) {f : Addr} {fd : FuncData} (F : Fun K "worst_width" "worst_width" s_worst_width f fd) (hm : mg "worst_width" = some (.ref f)) (hb : Binds K fd ["web", "wanted", "stretch"] []) (h_pieces : FnD P w K mg base C 1 "pieces" 5 F_pieces) (h_counts_of : FnD P w K mg base C 1 "counts_of" 2 F_counts_of) (h_steepest : FnD P w K mg base C 1 "steepest" 1 F_steepest) (h_corners : FnD P w K mg base C 1 "corners" 1 F_corners) (h_value_at : FnD P w K mg base C 1 "value_at" 2 F_value_at) : FnD P w K mg base C 2 "worst_width" 3 F_worst_width := by
  refine fn_mk F hm hb sc_worst_width fun cdv A outer s H E hr => ?_
  have tk := takes_body (P := P) (w := w) (K := K) (mg := mg) (base := base) (N := ["web", "wanted", "stretch", "ahead", "back", "low", "high", "some", "count"]) (qual := "worst_width") (scope := defScope s_worst_width) (f := f) (cd := cdv) (A := A) (outer := outer) (s := s) (H := H) (E := E)
  exact (dss_cons (ds_set 3 sc_worst_width.nd rfl (by first | exact Or.inl rfl | exact Or.inr rfl) (de_call h_pieces (hr.mono (by decide)) tk rfl (da_cons (de_var 0) (da_cons (de_ix (de_var 1) de_int (fun _ _ => rfl)) (da_cons (de_ix (de_var 1) de_int (fun _ _ => rfl)) (da_cons (de_ix (de_var 2) de_int (fun _ _ => rfl)) (da_cons (de_ix (de_var 2) de_int (fun _ _ => rfl)) da_nil))))) (len_cons (len_cons (len_cons (len_cons (len_cons len_nil)))))))
    (dss_cons (ds_set 4 sc_worst_width.nd rfl (by first | exact Or.inl rfl | exact Or.inr rfl) (de_call h_pieces (hr.mono (by decide)) tk rfl (da_cons (de_var 0) (da_cons (de_ix (de_var 1) de_int (fun _ _ => rfl)) (da_cons (de_ix (de_var 1) de_int (fun _ _ => rfl)) (da_cons (de_ix (de_var 2) de_int (fun _ _ => rfl)) (da_cons (de_ix (de_var 2) de_int (fun _ _ => rfl)) da_nil))))) (len_cons (len_cons (len_cons (len_cons (len_cons len_nil)))))))
    (dss_cons (ds_if (dt_cmp (ro_eq hr) (de_var 4) (DF.dat (df_lst da_nil)) (nomark _)) (dss_one (ds_ret de_non)) dss_nil)
    (dss_cons (ds_asg (de_call h_counts_of (hr.mono (by decide)) tk rfl (da_cons (de_var 0) (da_cons (de_var 2) da_nil)) (len_cons (len_cons len_nil))) (dg_tup rfl (dgs_cons (dg_n 5 sc_worst_width.nd rfl (by first | exact Or.inl rfl | exact Or.inr rfl)) (dgs_cons (dg_n 6 sc_worst_width.nd rfl (by first | exact Or.inl rfl | exact Or.inr rfl)) dgs_nil))))
    (dss_cons (ds_if (DW.dt (dw_and (dt_cmp ro_is (de_var 6) de_non (nomark _)) (dw_and1 (dt_cmp ro_lt (de_op ro_add (de_call h_steepest (hr.mono (by decide)) tk rfl (da_cons (de_var 3) da_nil) (len_cons len_nil)) (de_call h_steepest (hr.mono (by decide)) tk rfl (da_cons (de_var 4) da_nil) (len_cons len_nil))) de_int (nomark _))))) (dss_one (ds_ret de_non)) dss_nil)
    (dss_cons (ds_set 7 sc_worst_width.nd rfl (by first | exact Or.inl rfl | exact Or.inr rfl) (de_op ro_add (de_op ro_add (de_op ro_add (DF.dat (df_lst (da_cons (de_var 5) da_nil))) (de_if (dt_cmp ro_isNot (de_var 6) de_non (nomark _)) (DF.dat (df_lst (da_cons (de_var 6) da_nil))) (DF.dat (df_lst da_nil)))) (de_call h_corners (hr.mono (by decide)) tk rfl (da_cons (de_var 3) da_nil) (len_cons len_nil))) (de_call h_corners (hr.mono (by decide)) tk rfl (da_cons (de_var 4) da_nil) (len_cons len_nil))))
    (dss_cons (ds_setLc (own := [("count", 8)]) 7 rfl sc_worst_width.nd rfl rfl (sw_true rfl rfl rfl (by decide +kernel)) (di_any (de_var 7)) (blkOk_by (own := [("count", 8)]) (N := ["web", "wanted", "stretch", "ahead", "back", "low", "high", "some", "count"]) (sc := defScope s_worst_width) (by decide +kernel)) (by decide) (fun _ _ _ _ _ => (dg_n 8 sc_worst_width.nd rfl (by first | exact Or.inl rfl | exact Or.inr rfl))) (fun _ _ _ _ _ => (dts_one (DW.dt (dw_and (dt_cmp ro_ge (de_var 8) (de_var 5) (nomark _)) (dw_and1 (DW.dt (dw_or (dt_cmp ro_is (de_var 6) de_non (nomark _)) (dw_or1 (dt_cmp ro_le (de_var 8) (de_var 6) (nomark _)))))))))) (fun _ _ _ _ _ => (de_var 8)))
    (dss_one (ds_ret (de_callB (rc_maxL rfl) rfl B.max bt_max (da_cons (DF.dat (df_lc (own := [("count", 8)]) rfl sc_worst_width.nd (di_any (de_var 7)) (blkOk_by (own := [("count", 8)]) (N := ["web", "wanted", "stretch", "ahead", "back", "low", "high", "some", "count"]) (sc := defScope s_worst_width) (by decide +kernel)) (by decide) (fun _ _ _ _ _ => (dg_n 8 sc_worst_width.nd rfl (by first | exact Or.inl rfl | exact Or.inr rfl))) (fun _ _ _ _ _ => dts_nil) (fun _ _ _ _ _ => (de_op ro_sub (de_un ru_neg (de_call h_value_at (hr.mono (by decide)) takes0 rfl (da_cons (de_var 3) (da_cons (de_var 8) da_nil)) (len_cons (len_cons len_nil)))) (de_call h_value_at (hr.mono (by decide)) takes0 rfl (da_cons (de_var 4) (da_cons (de_var 8) da_nil)) (len_cons (len_cons len_nil))))))) da_nil)))))))))))
abbrev s_is_better : Stmt := topS 35
theorem sc_is_better : FnScope ["one", "other"] ["one", "other"] (defScope s_is_better) := ⟨rfl, rfl, rfl, by decide +kernel, rfl, by decide +kernel, by decide +kernel⟩
noncomputable def g_is_better : SS := (sRet (vAnd (op2 isNotS (fVar 0) (fC .none)) (vOr (op2 isS (fVar 1) (fC .none)) (op2 ltS (fVar 0) (fVar 1)))))
noncomputable def F_is_better : List OV → Sto → Rs OV := runF 2 2 g_is_better
theorem ok_is_better (B : Bt mg) {f : Addr} {fd : FuncData} (F : Fun K "is_better" "is_better" s_is_better f fd) (hm : mg "is_better" = some (.ref f)) (hb : Binds K fd ["one", "other"] []) : FnD P w K mg base C 1 "is_better" 2 F_is_better := by
  refine fn_mk F hm hb sc_is_better fun cdv A outer s H E hr => ?_
  have tk := takes_body (P := P) (w := w) (K := K) (mg := mg) (base := base) (N := ["one", "other"]) (qual := "is_better") (scope := defScope s_is_better) (f := f) (cd := cdv) (A := A) (outer := outer) (s := s) (H := H) (E := E)
  exact (dss_one (ds_ret (de_and (de_cmp ro_isNot (de_var 0) de_non (nomark _)) (de_one (de_or (de_cmp ro_is (de_var 1) de_non (nomark _)) (de_one (de_cmp ro_lt (de_var 0) (de_var 1) (nomark _))))))))
abbrev s_best_of : Stmt := topS 36
theorem sc_best_of : FnScope ["book", "wanted", "menu", "times", "web", "best", "at", "stretch", "width", "moment"] ["book", "wanted", "menu"] (defScope s_best_of) := ⟨rfl, rfl, rfl, by decide +kernel, rfl, by decide +kernel, by decide +kernel⟩
noncomputable def g_best_of : SS := (sSeq (sAsg (fCall F_moments_of (aCons (fVar 0) (aCons (frz (fLc2 (iSeq (op2 addS (fVar 2) (fTup (aCons (fVar 1) aNil)))) (tgN 7) (iSeq (fVar 7)) (tgN 9) bYes (fVar 9) [7, 9] [9])) aNil))) (tgN 3))
  (sSeq (sPar 4 5 (aCons (fCall F_web_of (aCons (fVar 0) (aCons (fVar 3) (aCons (frz (fLst aNil)) aNil)))) (aCons (fC .none) aNil)))
  (sSeq (sFor (iEn (aCons (fVar 2) aNil)) (tgTup 2 (tgCons (tgN 6) (tgCons (tgN 7) tgNil))) (sSeq (sAsg (fCall F_worst_width (aCons (fVar 4) (aCons (fVar 1) (aCons (fVar 7) aNil)))) (tgN 8))
  (sIf (bOr (bOf (op2 isS (fVar 5) (fC .none))) (bOf (fCall F_is_better (aCons (fVar 8) (aCons (op2 ixS (fVar 5) (fC (.int 0))) aNil))))) (sAsg (fTup (aCons (fVar 8) (aCons (fVar 6) aNil))) (tgN 5)) sNx)))
  (sRet (fVar 5)))))
noncomputable def F_best_of : List OV → Sto → Rs OV := runF 3 10 g_best_of
theorem ok_best_of (B : Bt mg) {f : Addr} {fd : FuncData} (F : Fun K "best_of" "best_of" s_best_of f fd) (hm : mg "best_of" = some (.ref f)) (hb : Binds K fd ["book", "wanted", "menu"] []) (h_moments_of : FnD P w K mg base C 1 "moments_of" 2 F_moments_of) (h_web_of : FnD P w K mg base C 3 "web_of" 3 F_web_of) (h_worst_width : FnD P w K mg base C 2 "worst_width" 3 F_worst_width) (h_is_better : FnD P w K mg base C 1 "is_better" 2 F_is_better) : FnD P w K mg base C 4 "best_of" 3 F_best_of := by
  refine fn_mk F hm hb sc_best_of fun cdv A outer s H E hr => ?_
  have tk := takes_body (P := P) (w := w) (K := K) (mg := mg) (base := base) (N := ["book", "wanted", "menu", "times", "web", "best", "at", "stretch", "width", "moment"]) (qual := "best_of") (scope := defScope s_best_of) (f := f) (cd := cdv) (A := A) (outer := outer) (s := s) (H := H) (E := E)
  have hp := passes_body (P := P) (w := w) (K := K) (mg := mg) (base := base) (N := ["book", "wanted", "menu", "times", "web", "best", "at", "stretch", "width", "moment"]) (qual := "best_of") (scope := defScope s_best_of) (f := f) (cd := cdv) (A := A) (outer := outer) (s := s) (H := H) (E := E)
  exact (dss_cons (ds_set 3 sc_best_of.nd rfl (by first | exact Or.inl rfl | exact Or.inr rfl) (de_call h_moments_of (hr.mono (by decide)) tk rfl (da_cons (de_var 0) (da_cons (DF.dat (df_lc2 (own := [("stretch", 7), ("moment", 9)]) (vs1 := [9]) rfl sc_best_of.nd (di_any (de_op ro_add (de_var 2) (de_tup (da_cons (de_var 1) da_nil)))) (blkOk_by (own := [("stretch", 7), ("moment", 9)]) (N := ["book", "wanted", "menu", "times", "web", "best", "at", "stretch", "width", "moment"]) (sc := defScope s_best_of) (by decide +kernel)) (by decide) (by decide) (by decide) (fun _ _ _ _ _ => (dg_n 7 sc_best_of.nd rfl (by first | exact Or.inl rfl | exact Or.inr rfl))) (fun _ _ _ _ _ => (di_any (de_var 7))) (fun _ _ _ _ _ => (dg_n 9 sc_best_of.nd rfl (by first | exact Or.inl rfl | exact Or.inr rfl))) (fun _ _ _ _ _ => dts_nil) (fun _ _ _ _ _ => (de_var 9)))) da_nil)) (len_cons (len_cons len_nil))))
    (dss_cons (ds_par (i := 4) (j := 5) rfl sc_best_of.nd rfl rfl (by decide) rfl rfl (da_cons (de_call h_web_of (hr.mono (by decide)) tk rfl (da_cons (de_var 0) (da_cons (de_var 3) (da_cons (DF.dat (df_lst da_nil)) da_nil))) (len_cons (len_cons (len_cons len_nil)))) (da_cons de_non da_nil)))
    (dss_cons (ds_for hp rfl (di_enum rfl B.enumerate (da_cons (de_var 2) da_nil)) (dg_tup rfl (dgs_cons (dg_n 6 sc_best_of.nd rfl (by first | exact Or.inl rfl | exact Or.inr rfl)) (dgs_cons (dg_n 7 sc_best_of.nd rfl (by first | exact Or.inl rfl | exact Or.inr rfl)) dgs_nil))) (dss_cons (ds_set 8 sc_best_of.nd rfl (by first | exact Or.inl rfl | exact Or.inr rfl) (de_call h_worst_width (hr.mono (by decide)) tk rfl (da_cons (de_var 4) (da_cons (de_var 1) (da_cons (de_var 7) da_nil))) (len_cons (len_cons (len_cons len_nil)))))
    (dss_one (ds_if (DW.dt (dw_or (dt_cmp ro_is (de_var 5) de_non (nomark _)) (dw_or1 (dt_val (de_call h_is_better (hr.mono (by decide)) tk rfl (da_cons (de_var 8) (da_cons (de_ix (de_var 5) de_int (fun _ _ => rfl)) da_nil)) (len_cons (len_cons len_nil))))))) (dss_one (ds_set 5 sc_best_of.nd rfl (by first | exact Or.inl rfl | exact Or.inr rfl) (de_tup (da_cons (de_var 8) (da_cons (de_var 6) da_nil))))) dss_nil))))
    (dss_one (ds_ret (de_var 5))))))
abbrev s_best_stretch : Stmt := topS 37
theorem sc_best_stretch : FnScope ["book", "wanted", "menu"] ["book", "wanted", "menu"] (defScope s_best_stretch) := ⟨rfl, rfl, rfl, by decide +kernel, rfl, by decide +kernel, by decide +kernel⟩
noncomputable def g_best_stretch : SS := (sSeq (sExpr (fCall F_need_book (aCons (fVar 0) aNil)))
  (sSeq (sExpr (fCall F_need_stretch (aCons (fVar 1) aNil)))
  (sSeq (sExpr (fCall F_need_menu (aCons (fVar 2) aNil)))
  (sSeq (sExpr (fCall F_need_possible (aCons (fVar 0) aNil)))
  (sRet (fCall F_best_of (aCons (fVar 0) (aCons (fVar 1) (aCons (fVar 2) aNil)))))))))
noncomputable def F_best_stretch : List OV → Sto → Rs OV := runF 3 3 g_best_stretch
theorem ok_best_stretch (B : Bt mg) {f : Addr} {fd : FuncData} (F : Fun K "best_stretch" "best_stretch" s_best_stretch f fd) (hm : mg "best_stretch" = some (.ref f)) (hb : Binds K fd ["book", "wanted", "menu"] []) (h_need_book : FnD P w K mg base C 5 "need_book" 1 F_need_book) (h_need_stretch : FnD P w K mg base C 3 "need_stretch" 1 F_need_stretch) (h_need_menu : FnD P w K mg base C 3 "need_menu" 1 F_need_menu) (h_need_possible : FnD P w K mg base C 5 "need_possible" 1 F_need_possible) (h_best_of : FnD P w K mg base C 4 "best_of" 3 F_best_of) : FnD P w K mg base C 6 "best_stretch" 3 F_best_stretch := by
  refine fn_mk F hm hb sc_best_stretch fun cdv A outer s H E hr => ?_
  have tk := takes_body (P := P) (w := w) (K := K) (mg := mg) (base := base) (N := ["book", "wanted", "menu"]) (qual := "best_stretch") (scope := defScope s_best_stretch) (f := f) (cd := cdv) (A := A) (outer := outer) (s := s) (H := H) (E := E)
  exact (dss_cons (ds_expr (de_call h_need_book (hr.mono (by decide)) tk rfl (da_cons (de_var 0) da_nil) (len_cons len_nil)))
    (dss_cons (ds_expr (de_call h_need_stretch (hr.mono (by decide)) tk rfl (da_cons (de_var 1) da_nil) (len_cons len_nil)))
    (dss_cons (ds_expr (de_call h_need_menu (hr.mono (by decide)) tk rfl (da_cons (de_var 2) da_nil) (len_cons len_nil)))
    (dss_cons (ds_expr (de_call h_need_possible (hr.mono (by decide)) tk rfl (da_cons (de_var 0) da_nil) (len_cons len_nil)))
    (dss_one (ds_ret (de_call h_best_of (hr.mono (by decide)) tk rfl (da_cons (de_var 0) (da_cons (de_var 1) (da_cons (de_var 2) da_nil))) (len_cons (len_cons (len_cons len_nil))))))))))
abbrev s__law_flask : Stmt := topS 39
theorem sc__law_flask : FnScope ["_law_cell", "_law_salt", "_law_great"] ["_law_cell", "_law_salt"] (defScope s__law_flask) := ⟨rfl, rfl, rfl, by decide +kernel, rfl, by decide +kernel, by decide +kernel⟩
noncomputable def g__law_flask : SS := (sSeq (sAsg (vIf (bOf (op2 geS (fVar 0) (op2 powS (fC (.int 10)) (fC (.int 18))))) (op2 addS (op2 fdivS (fVar 0) (fC (.int 10))) (op2 mulS (fC (.int 53)) (fVar 1))) (fC (.int 0))) (tgN 2))
  (sRet (ownL (fLst (aCons (fVar 2) (aCons (op2 addS (op2 modS (opL intS (aCons (op2 addS (op2 mulS (fVar 0) (fC (.int 89))) (op2 mulS (fC (.int 1061)) (fVar 1))) aNil)) (fC (.int 2077504273))) (fC (.int 59))) aNil))))))
noncomputable def F__law_flask : List OV → Sto → Rs OV := runO 2 3 g__law_flask
theorem ok__law_flask (B : Bt mg) {f : Addr} {fd : FuncData} (F : Fun K "_law_flask" "_law_flask" s__law_flask f fd) (hm : mg "_law_flask" = some (.ref f)) (hb : Binds K fd ["_law_cell", "_law_salt"] []) : FnD P w K mg base C 1 "_law_flask" 2 F__law_flask := by
  refine fn_mkO F hm hb sc__law_flask fun cdv A outer s H E hr => ?_
  have tk := takes_body (P := P) (w := w) (K := K) (mg := mg) (base := base) (N := ["_law_cell", "_law_salt", "_law_great"]) (qual := "_law_flask") (scope := defScope s__law_flask) (f := f) (cd := cdv) (A := A) (outer := outer) (s := s) (H := H) (E := E)
  exact (dss_cons (ds_set 2 sc__law_flask.nd rfl (by first | exact Or.inl rfl | exact Or.inr rfl) (de_if (dt_cmp ro_ge (de_var 0) (de_op ro_pow de_int de_int) (nomark _)) (de_op ro_add (de_op ro_fdiv (de_var 0) de_int) (de_op ro_mul de_int (de_var 1))) de_int))
    (dss_one (ds_ret (DF.own (df_lst (da_cons (de_var 2) (da_cons (de_op ro_add (de_op ro_mod (de_callTy rc_int rfl B.int bt_int (da_cons (de_op ro_add (de_op ro_mul (de_var 0) de_int) (de_op ro_mul de_int (de_var 1))) da_nil)) de_int) de_int) da_nil)))))))
abbrev s__law_sip : Stmt := topS 40
theorem sc__law_sip : FnScope ["_law_flask_here", "_law_many", "_law_found", "_law_deep"] ["_law_flask_here", "_law_many"] (defScope s__law_sip) := ⟨rfl, rfl, rfl, by decide +kernel, rfl, by decide +kernel, by decide +kernel⟩
noncomputable def g__law_sip : SS := (sSeq (sIf (bOf (op2 gtS (op2 ixS (fVar 0) (fC (.int 0))) (fC (.int 0)))) (sSeq (sAsg (op2 modS (opL intS (aCons (op2 ixS (fVar 0) (fC (.int 0))) aNil)) (fVar 1)) (tgN 2))
  (sSeq (sSetIx (fVar 0) (fC (.int 0)) (op2 fdivS (op2 ixS (fVar 0) (fC (.int 0))) (fVar 1)))
  (sRet (fVar 2)))) sNx)
  (sSeq (sSetIx (fVar 0) (fC (.int 1)) (op2 modS (opL intS (aCons (op2 addS (op2 mulS (op2 ixS (fVar 0) (fC (.int 1))) (fC (.int 31019))) (fC (.int 9013))) aNil)) (fC (.int 2147483549))))
  (sSeq (sAsg (op2 modS (opL intS (aCons (op2 mulS (op2 ixS (fVar 0) (fC (.int 1))) (op2 addS (op2 ixS (fVar 0) (fC (.int 1))) (fC (.int 97)))) aNil)) (fC (.int 2147483587))) (tgN 3))
  (sRet (op2 modS (opL intS (aCons (op2 fdivS (fVar 3) (fC (.int 607))) aNil)) (fVar 1))))))
noncomputable def F__law_sip : List OV → Sto → Rs OV := runF 2 4 g__law_sip
theorem ok__law_sip (B : Bt mg) {f : Addr} {fd : FuncData} (F : Fun K "_law_sip" "_law_sip" s__law_sip f fd) (hm : mg "_law_sip" = some (.ref f)) (hb : Binds K fd ["_law_flask_here", "_law_many"] []) : FnD P w K mg base C 1 "_law_sip" 2 F__law_sip := by
  refine fn_mk F hm hb sc__law_sip fun cdv A outer s H E hr => ?_
  have tk := takes_body (P := P) (w := w) (K := K) (mg := mg) (base := base) (N := ["_law_flask_here", "_law_many", "_law_found", "_law_deep"]) (qual := "_law_sip") (scope := defScope s__law_sip) (f := f) (cd := cdv) (A := A) (outer := outer) (s := s) (H := H) (E := E)
  exact (dss_cons (ds_if (dt_cmp ro_gt (de_ix (de_var 0) de_int (fun _ _ => rfl)) de_int (nomark _)) (dss_cons (ds_set 2 sc__law_sip.nd rfl (by first | exact Or.inl rfl | exact Or.inr rfl) (de_op ro_mod (de_callTy rc_int rfl B.int bt_int (da_cons (de_ix (de_var 0) de_int (fun _ _ => rfl)) da_nil)) (de_var 1)))
    (dss_cons (ds_setIx (de_var 0) de_int (de_op ro_fdiv (de_ix (de_var 0) de_int (fun _ _ => rfl)) (de_var 1)))
    (dss_one (ds_ret (de_var 2))))) dss_nil)
    (dss_cons (ds_setIx (de_var 0) de_int (de_op ro_mod (de_callTy rc_int rfl B.int bt_int (da_cons (de_op ro_add (de_op ro_mul (de_ix (de_var 0) de_int (fun _ _ => rfl)) de_int) de_int) da_nil)) de_int))
    (dss_cons (ds_set 3 sc__law_sip.nd rfl (by first | exact Or.inl rfl | exact Or.inr rfl) (de_op ro_mod (de_callTy rc_int rfl B.int bt_int (da_cons (de_op ro_mul (de_ix (de_var 0) de_int (fun _ _ => rfl)) (de_op ro_add (de_ix (de_var 0) de_int (fun _ _ => rfl)) de_int)) da_nil)) de_int))
    (dss_one (ds_ret (de_op ro_mod (de_callTy rc_int rfl B.int bt_int (da_cons (de_op ro_fdiv (de_var 3) de_int) da_nil)) (de_var 1)))))))
abbrev s__law_steps : Stmt := topS 41
theorem sc__law_steps : FnScope ["_law_walk_so", "_law_start", "_law_goal", "_law_found", "_law_moment", "_law_many"] ["_law_walk_so", "_law_start", "_law_goal"] (defScope s__law_steps) := ⟨rfl, rfl, rfl, by decide +kernel, rfl, by decide +kernel, by decide +kernel⟩
noncomputable def g__law_steps : SS := (sSeq (sAsg (fC (.int 0)) (tgN 3))
  (sSeq (sFor (iSeq (fVar 0)) (tgTup 2 (tgCons (tgN 4) (tgCons (tgN 5) tgNil))) (sAsg (op2 addS (fVar 3) (vIf (bAnd (bOf (op2 leS (fVar 1) (fVar 4))) (bOf (op2 ltS (fVar 4) (fVar 2)))) (fVar 5) (fC (.int 0)))) (tgN 3)))
  (sRet (fVar 3))))
noncomputable def F__law_steps : List OV → Sto → Rs OV := runF 3 6 g__law_steps
theorem ok__law_steps (B : Bt mg) {f : Addr} {fd : FuncData} (F : Fun K "_law_steps" "_law_steps" s__law_steps f fd) (hm : mg "_law_steps" = some (.ref f)) (hb : Binds K fd ["_law_walk_so", "_law_start", "_law_goal"] []) : FnD P w K mg base C 1 "_law_steps" 3 F__law_steps := by
  refine fn_mk F hm hb sc__law_steps fun cdv A outer s H E hr => ?_
  have tk := takes_body (P := P) (w := w) (K := K) (mg := mg) (base := base) (N := ["_law_walk_so", "_law_start", "_law_goal", "_law_found", "_law_moment", "_law_many"]) (qual := "_law_steps") (scope := defScope s__law_steps) (f := f) (cd := cdv) (A := A) (outer := outer) (s := s) (H := H) (E := E)
  have hp := passes_body (P := P) (w := w) (K := K) (mg := mg) (base := base) (N := ["_law_walk_so", "_law_start", "_law_goal", "_law_found", "_law_moment", "_law_many"]) (qual := "_law_steps") (scope := defScope s__law_steps) (f := f) (cd := cdv) (A := A) (outer := outer) (s := s) (H := H) (E := E)
  exact (dss_cons (ds_set 3 sc__law_steps.nd rfl (by first | exact Or.inl rfl | exact Or.inr rfl) de_int)
    (dss_cons (ds_for hp rfl (di_any (de_var 0)) (dg_tup rfl (dgs_cons (dg_n 4 sc__law_steps.nd rfl (by first | exact Or.inl rfl | exact Or.inr rfl)) (dgs_cons (dg_n 5 sc__law_steps.nd rfl (by first | exact Or.inl rfl | exact Or.inr rfl)) dgs_nil))) (dss_one (ds_set 3 sc__law_steps.nd rfl (by first | exact Or.inl rfl | exact Or.inr rfl) (de_op ro_add (de_var 3) (de_if (DW.dt (dw_and (dt_cmp ro_le (de_var 1) (de_var 4) (nomark _)) (dw_and1 (dt_cmp ro_lt (de_var 4) (de_var 2) (nomark _))))) (de_var 5) de_int)))))
    (dss_one (ds_ret (de_var 3)))))
abbrev s__law_limits : Stmt := topS 42
theorem sc__law_limits : FnScope ["_law_book_so", "_law_row"] ["_law_book_so", "_law_row"] (defScope s__law_limits) := ⟨rfl, rfl, rfl, by decide +kernel, rfl, by decide +kernel, by decide +kernel⟩
noncomputable def g__law_limits : SS := (sRet (fTup (aCons (op2 subS (op2 ixS (fVar 1) (fC (.int 3))) (op2 ixS (op2 ixS (op2 ixS (fVar 0) (fC (.int 0))) (op2 ixS (fVar 1) (fC (.int 0)))) (fC (.int 0)))) (aCons (op2 addS (op2 ixS (fVar 1) (fC (.int 3))) (op2 ixS (op2 ixS (op2 ixS (fVar 0) (fC (.int 0))) (op2 ixS (fVar 1) (fC (.int 0)))) (fC (.int 1)))) aNil))))
noncomputable def F__law_limits : List OV → Sto → Rs OV := runF 2 2 g__law_limits
theorem ok__law_limits (B : Bt mg) {f : Addr} {fd : FuncData} (F : Fun K "_law_limits" "_law_limits" s__law_limits f fd) (hm : mg "_law_limits" = some (.ref f)) (hb : Binds K fd ["_law_book_so", "_law_row"] []) : FnD P w K mg base C 1 "_law_limits" 2 F__law_limits := by
  refine fn_mk F hm hb sc__law_limits fun cdv A outer s H E hr => ?_
  have tk := takes_body (P := P) (w := w) (K := K) (mg := mg) (base := base) (N := ["_law_book_so", "_law_row"]) (qual := "_law_limits") (scope := defScope s__law_limits) (f := f) (cd := cdv) (A := A) (outer := outer) (s := s) (H := H) (E := E)
  exact (dss_one (ds_ret (de_tup (da_cons (de_op ro_sub (de_ix (de_var 1) de_int (fun _ _ => rfl)) (de_ix (de_ix (de_ix (de_var 0) de_int (fun _ _ => rfl)) (de_ix (de_var 1) de_int (fun _ _ => rfl)) (fun _ _ => rfl)) de_int (fun _ _ => rfl))) (da_cons (de_op ro_add (de_ix (de_var 1) de_int (fun _ _ => rfl)) (de_ix (de_ix (de_ix (de_var 0) de_int (fun _ _ => rfl)) (de_ix (de_var 1) de_int (fun _ _ => rfl)) (fun _ _ => rfl)) de_int (fun _ _ => rfl))) da_nil)))))
abbrev s__law_any_walk : Stmt := topS 43
theorem sc__law_any_walk : FnScope ["_law_flask_here", "_law_far", "_law_wide", "_law_found", "_law_moment", "_law_turn"] ["_law_flask_here", "_law_far", "_law_wide"] (defScope s__law_any_walk) := ⟨rfl, rfl, rfl, by decide +kernel, rfl, by decide +kernel, by decide +kernel⟩
noncomputable def g__law_any_walk : SS := (sSeq (sAsg (ownL (fLst aNil)) (tgN 3))
  (sSeq (sFor (iSeq (frz (fSortSet (frz (fLc (iRg1 (aCons (fCall F__law_sip (aCons (fVar 0) (aCons (fC (.int 5)) aNil))) aNil)) (tgN 5) bYes (fCall F__law_sip (aCons (fVar 0) (aCons (fVar 1) aNil))) [5]))))) (tgN 4) (sExpr (fApp (fVar 3) (aCons (fTup (aCons (fVar 4) (aCons (op2 addS (fC (.int 1)) (fCall F__law_sip (aCons (fVar 0) (aCons (fVar 2) aNil)))) aNil))) aNil))))
  (sRet (opL tupleS (aCons (fVar 3) aNil)))))
noncomputable def F__law_any_walk : List OV → Sto → Rs OV := runF 3 6 g__law_any_walk
theorem ok__law_any_walk (B : Bt mg) {f : Addr} {fd : FuncData} (F : Fun K "_law_any_walk" "_law_any_walk" s__law_any_walk f fd) (hm : mg "_law_any_walk" = some (.ref f)) (hb : Binds K fd ["_law_flask_here", "_law_far", "_law_wide"] []) (h__law_sip : FnD P w K mg base C 1 "_law_sip" 2 F__law_sip) : FnD P w K mg base C 2 "_law_any_walk" 3 F__law_any_walk := by
  refine fn_mk F hm hb sc__law_any_walk fun cdv A outer s H E hr => ?_
  have tk := takes_body (P := P) (w := w) (K := K) (mg := mg) (base := base) (N := ["_law_flask_here", "_law_far", "_law_wide", "_law_found", "_law_moment", "_law_turn"]) (qual := "_law_any_walk") (scope := defScope s__law_any_walk) (f := f) (cd := cdv) (A := A) (outer := outer) (s := s) (H := H) (E := E)
  have hp := passes_body (P := P) (w := w) (K := K) (mg := mg) (base := base) (N := ["_law_flask_here", "_law_far", "_law_wide", "_law_found", "_law_moment", "_law_turn"]) (qual := "_law_any_walk") (scope := defScope s__law_any_walk) (f := f) (cd := cdv) (A := A) (outer := outer) (s := s) (H := H) (E := E)
  exact (dss_cons (ds_set 3 sc__law_any_walk.nd rfl (by first | exact Or.inl rfl | exact Or.inr rfl) (DF.own (df_lst da_nil)))
    (dss_cons (ds_for hp rfl (di_any (DF.dat (df_sortSet rfl rfl B.sorted rfl B.set (DF.dat (df_lc (own := [("_law_turn", 5)]) rfl sc__law_any_walk.nd (di_range1 rfl B.range (da_cons (de_call h__law_sip (hr.mono (by decide)) tk rfl (da_cons (de_var 0) (da_cons de_int da_nil)) (len_cons (len_cons len_nil))) da_nil)) (blkOk_by (own := [("_law_turn", 5)]) (N := ["_law_flask_here", "_law_far", "_law_wide", "_law_found", "_law_moment", "_law_turn"]) (sc := defScope s__law_any_walk) (by decide +kernel)) (by decide) (fun _ _ _ _ _ => (dg_n 5 sc__law_any_walk.nd rfl (by first | exact Or.inl rfl | exact Or.inr rfl))) (fun _ _ _ _ _ => dts_nil) (fun _ _ _ _ _ => (de_call h__law_sip (hr.mono (by decide)) takes0 rfl (da_cons (de_var 0) (da_cons (de_var 1) da_nil)) (len_cons (len_cons len_nil))))))))) (dg_n 4 sc__law_any_walk.nd rfl (by first | exact Or.inl rfl | exact Or.inr rfl)) (dss_one (ds_expr (de_app (de_var 3) (da_cons (de_tup (da_cons (de_var 4) (da_cons (de_op ro_add de_int (de_call h__law_sip (hr.mono (by decide)) tk rfl (da_cons (de_var 0) (da_cons (de_var 2) da_nil)) (len_cons (len_cons len_nil)))) da_nil))) da_nil)))))
    (dss_one (ds_ret (de_callTy rc_tuple rfl B.tuple bt_tuple (da_cons (de_var 3) da_nil))))))
abbrev s__law_any_stretch : Stmt := topS 44
theorem sc__law_any_stretch : FnScope ["_law_flask_here", "_law_far", "_law_start"] ["_law_flask_here", "_law_far"] (defScope s__law_any_stretch) := ⟨rfl, rfl, rfl, by decide +kernel, rfl, by decide +kernel, by decide +kernel⟩
noncomputable def g__law_any_stretch : SS := (sSeq (sAsg (fCall F__law_sip (aCons (fVar 0) (aCons (fVar 1) aNil))) (tgN 2))
  (sRet (fTup (aCons (fVar 2) (aCons (op2 addS (op2 addS (fVar 2) (fC (.int 1))) (fCall F__law_sip (aCons (fVar 0) (aCons (op2 subS (fVar 1) (fVar 2)) aNil)))) aNil)))))
noncomputable def F__law_any_stretch : List OV → Sto → Rs OV := runF 2 3 g__law_any_stretch
theorem ok__law_any_stretch (B : Bt mg) {f : Addr} {fd : FuncData} (F : Fun K "_law_any_stretch" "_law_any_stretch" s__law_any_stretch f fd) (hm : mg "_law_any_stretch" = some (.ref f)) (hb : Binds K fd ["_law_flask_here", "_law_far"] []) (h__law_sip : FnD P w K mg base C 1 "_law_sip" 2 F__law_sip) : FnD P w K mg base C 2 "_law_any_stretch" 2 F__law_any_stretch := by
  refine fn_mk F hm hb sc__law_any_stretch fun cdv A outer s H E hr => ?_
  have tk := takes_body (P := P) (w := w) (K := K) (mg := mg) (base := base) (N := ["_law_flask_here", "_law_far", "_law_start"]) (qual := "_law_any_stretch") (scope := defScope s__law_any_stretch) (f := f) (cd := cdv) (A := A) (outer := outer) (s := s) (H := H) (E := E)
  exact (dss_cons (ds_set 2 sc__law_any_stretch.nd rfl (by first | exact Or.inl rfl | exact Or.inr rfl) (de_call h__law_sip (hr.mono (by decide)) tk rfl (da_cons (de_var 0) (da_cons (de_var 1) da_nil)) (len_cons (len_cons len_nil))))
    (dss_one (ds_ret (de_tup (da_cons (de_var 2) (da_cons (de_op ro_add (de_op ro_add (de_var 2) de_int) (de_call h__law_sip (hr.mono (by decide)) tk rfl (da_cons (de_var 0) (da_cons (de_op ro_sub (de_var 1) (de_var 2)) da_nil)) (len_cons (len_cons len_nil)))) da_nil))))))
abbrev s__law_any_book : Stmt := topS 45
theorem sc__law_any_book : FnScope ["_law_flask_here", "_law_most", "_law_far", "_law_wide", "_law_slips", "_law_devices_so", "_law_one", "_law_walk_so", "_law_rows_so", "_law_turn", "_law_device", "_law_stretch", "_law_count", "_law_slip"] ["_law_flask_here", "_law_most", "_law_far", "_law_wide", "_law_slips"] (defScope s__law_any_book) := ⟨rfl, rfl, rfl, by decide +kernel, rfl, by decide +kernel, by decide +kernel⟩
noncomputable def g__law_any_book : SS := (sSeq (sAsg (fTup aNil) (tgN 5))
  (sSeq (sFor (iRg1 (aCons (op2 addS (fC (.int 1)) (fCall F__law_sip (aCons (fVar 0) (aCons (fC (.int 3)) aNil)))) aNil)) (tgN 6) (sAsg (op2 addS (fVar 5) (fTup (aCons (fTup (aCons (fCall F__law_sip (aCons (fVar 0) (aCons (op2 addS (fVar 4) (fC (.int 1))) aNil))) (aCons (fCall F__law_sip (aCons (fVar 0) (aCons (op2 addS (fVar 4) (fC (.int 1))) aNil))) aNil))) aNil))) (tgN 5)))
  (sSeq (sPar 7 8 (aCons (fCall F__law_any_walk (aCons (fVar 0) (aCons (fVar 2) (aCons (fVar 3) aNil)))) (aCons (fTup aNil) aNil)))
  (sSeq (sFor (iRg1 (aCons (fCall F__law_sip (aCons (fVar 0) (aCons (op2 addS (fVar 1) (fC (.int 1))) aNil))) aNil)) (tgN 9) (sSeq (sPar 10 11 (aCons (fCall F__law_sip (aCons (fVar 0) (aCons (opL lenS (aCons (fVar 5) aNil)) aNil))) (aCons (fCall F__law_any_stretch (aCons (fVar 0) (aCons (fVar 2) aNil))) aNil)))
  (sSeq (sAsg (fCall F__law_steps (aCons (fVar 7) (aCons (op2 ixS (fVar 11) (fC (.int 0))) (aCons (op2 ixS (fVar 11) (fC (.int 1))) aNil)))) (tgN 12))
  (sSeq (sAsg (op2 subS (fCall F__law_sip (aCons (fVar 0) (aCons (op2 addS (op2 ixS (op2 ixS (fVar 5) (fVar 10)) (fC (.int 0))) (fC (.int 1))) aNil))) (fCall F__law_sip (aCons (fVar 0) (aCons (op2 addS (op2 ixS (op2 ixS (fVar 5) (fVar 10)) (fC (.int 1))) (fC (.int 1))) aNil)))) (tgN 13))
  (sSeq (sAsg (vIf (bOf (op2 gtS (fCall F__law_sip (aCons (fVar 0) (aCons (fC (.int 9)) aNil))) (fC (.int 0)))) (opL max2S (aCons (fC (.int 0)) (aCons (op2 addS (fVar 12) (fVar 13)) aNil))) (fCall F__law_sip (aCons (fVar 0) (aCons (op2 addS (fVar 3) (fC (.int 2))) aNil)))) (tgN 12))
  (sAsg (op2 addS (fVar 8) (fTup (aCons (fTup (aCons (fVar 10) (aCons (op2 ixS (fVar 11) (fC (.int 0))) (aCons (op2 ixS (fVar 11) (fC (.int 1))) (aCons (fVar 12) aNil))))) aNil))) (tgN 8)))))))
  (sRet (fTup (aCons (fVar 5) (aCons (fVar 8) aNil))))))))
noncomputable def F__law_any_book : List OV → Sto → Rs OV := runF 5 14 g__law_any_book
theorem ok__law_any_book (B : Bt mg) {f : Addr} {fd : FuncData} (F : Fun K "_law_any_book" "_law_any_book" s__law_any_book f fd) (hm : mg "_law_any_book" = some (.ref f)) (hb : Binds K fd ["_law_flask_here", "_law_most", "_law_far", "_law_wide", "_law_slips"] []) (h__law_sip : FnD P w K mg base C 1 "_law_sip" 2 F__law_sip) (h__law_any_walk : FnD P w K mg base C 2 "_law_any_walk" 3 F__law_any_walk) (h__law_any_stretch : FnD P w K mg base C 2 "_law_any_stretch" 2 F__law_any_stretch) (h__law_steps : FnD P w K mg base C 1 "_law_steps" 3 F__law_steps) : FnD P w K mg base C 3 "_law_any_book" 5 F__law_any_book := by
  refine fn_mk F hm hb sc__law_any_book fun cdv A outer s H E hr => ?_
  have tk := takes_body (P := P) (w := w) (K := K) (mg := mg) (base := base) (N := ["_law_flask_here", "_law_most", "_law_far", "_law_wide", "_law_slips", "_law_devices_so", "_law_one", "_law_walk_so", "_law_rows_so", "_law_turn", "_law_device", "_law_stretch", "_law_count", "_law_slip"]) (qual := "_law_any_book") (scope := defScope s__law_any_book) (f := f) (cd := cdv) (A := A) (outer := outer) (s := s) (H := H) (E := E)
  have hp := passes_body (P := P) (w := w) (K := K) (mg := mg) (base := base) (N := ["_law_flask_here", "_law_most", "_law_far", "_law_wide", "_law_slips", "_law_devices_so", "_law_one", "_law_walk_so", "_law_rows_so", "_law_turn", "_law_device", "_law_stretch", "_law_count", "_law_slip"]) (qual := "_law_any_book") (scope := defScope s__law_any_book) (f := f) (cd := cdv) (A := A) (outer := outer) (s := s) (H := H) (E := E)
  exact (dss_cons (ds_set 5 sc__law_any_book.nd rfl (by first | exact Or.inl rfl | exact Or.inr rfl) (de_tup da_nil))
    (dss_cons (ds_for hp rfl (di_range1 rfl B.range (da_cons (de_op ro_add de_int (de_call h__law_sip (hr.mono (by decide)) tk rfl (da_cons (de_var 0) (da_cons de_int da_nil)) (len_cons (len_cons len_nil)))) da_nil)) (dg_n 6 sc__law_any_book.nd rfl (by first | exact Or.inl rfl | exact Or.inr rfl)) (dss_one (ds_set 5 sc__law_any_book.nd rfl (by first | exact Or.inl rfl | exact Or.inr rfl) (de_op ro_add (de_var 5) (de_tup (da_cons (de_tup (da_cons (de_call h__law_sip (hr.mono (by decide)) tk rfl (da_cons (de_var 0) (da_cons (de_op ro_add (de_var 4) de_int) da_nil)) (len_cons (len_cons len_nil))) (da_cons (de_call h__law_sip (hr.mono (by decide)) tk rfl (da_cons (de_var 0) (da_cons (de_op ro_add (de_var 4) de_int) da_nil)) (len_cons (len_cons len_nil))) da_nil))) da_nil))))))
    (dss_cons (ds_par (i := 7) (j := 8) rfl sc__law_any_book.nd rfl rfl (by decide) rfl rfl (da_cons (de_call h__law_any_walk (hr.mono (by decide)) tk rfl (da_cons (de_var 0) (da_cons (de_var 2) (da_cons (de_var 3) da_nil))) (len_cons (len_cons (len_cons len_nil)))) (da_cons (de_tup da_nil) da_nil)))
    (dss_cons (ds_for hp rfl (di_range1 rfl B.range (da_cons (de_call h__law_sip (hr.mono (by decide)) tk rfl (da_cons (de_var 0) (da_cons (de_op ro_add (de_var 1) de_int) da_nil)) (len_cons (len_cons len_nil))) da_nil)) (dg_n 9 sc__law_any_book.nd rfl (by first | exact Or.inl rfl | exact Or.inr rfl)) (dss_cons (ds_par (i := 10) (j := 11) rfl sc__law_any_book.nd rfl rfl (by decide) rfl rfl (da_cons (de_call h__law_sip (hr.mono (by decide)) tk rfl (da_cons (de_var 0) (da_cons (de_callB rc_len rfl B.len bt_len (da_cons (de_var 5) da_nil)) da_nil)) (len_cons (len_cons len_nil))) (da_cons (de_call h__law_any_stretch (hr.mono (by decide)) tk rfl (da_cons (de_var 0) (da_cons (de_var 2) da_nil)) (len_cons (len_cons len_nil))) da_nil)))
    (dss_cons (ds_set 12 sc__law_any_book.nd rfl (by first | exact Or.inl rfl | exact Or.inr rfl) (de_call h__law_steps (hr.mono (by decide)) tk rfl (da_cons (de_var 7) (da_cons (de_ix (de_var 11) de_int (fun _ _ => rfl)) (da_cons (de_ix (de_var 11) de_int (fun _ _ => rfl)) da_nil))) (len_cons (len_cons (len_cons len_nil)))))
    (dss_cons (ds_set 13 sc__law_any_book.nd rfl (by first | exact Or.inl rfl | exact Or.inr rfl) (de_op ro_sub (de_call h__law_sip (hr.mono (by decide)) tk rfl (da_cons (de_var 0) (da_cons (de_op ro_add (de_ix (de_ix (de_var 5) (de_var 10) (fun _ _ => rfl)) de_int (fun _ _ => rfl)) de_int) da_nil)) (len_cons (len_cons len_nil))) (de_call h__law_sip (hr.mono (by decide)) tk rfl (da_cons (de_var 0) (da_cons (de_op ro_add (de_ix (de_ix (de_var 5) (de_var 10) (fun _ _ => rfl)) de_int (fun _ _ => rfl)) de_int) da_nil)) (len_cons (len_cons len_nil)))))
    (dss_cons (ds_set 12 sc__law_any_book.nd rfl (by first | exact Or.inl rfl | exact Or.inr rfl) (de_if (dt_cmp ro_gt (de_call h__law_sip (hr.mono (by decide)) tk rfl (da_cons (de_var 0) (da_cons de_int da_nil)) (len_cons (len_cons len_nil))) de_int (nomark _)) (de_callB (rc_max2 rfl) rfl B.max bt_max (da_cons de_int (da_cons (de_op ro_add (de_var 12) (de_var 13)) da_nil))) (de_call h__law_sip (hr.mono (by decide)) tk rfl (da_cons (de_var 0) (da_cons (de_op ro_add (de_var 3) de_int) da_nil)) (len_cons (len_cons len_nil)))))
    (dss_one (ds_set 8 sc__law_any_book.nd rfl (by first | exact Or.inl rfl | exact Or.inr rfl) (de_op ro_add (de_var 8) (de_tup (da_cons (de_tup (da_cons (de_var 10) (da_cons (de_ix (de_var 11) de_int (fun _ _ => rfl)) (da_cons (de_ix (de_var 11) de_int (fun _ _ => rfl)) (da_cons (de_var 12) da_nil))))) da_nil))))))))))
    (dss_one (ds_ret (de_tup (da_cons (de_var 5) (da_cons (de_var 8) da_nil)))))))))
abbrev s__law_times : Stmt := topS 46
theorem sc__law_times : FnScope ["_law_book_so", "_law_more", "_law_found", "_law_device", "_law_start", "_law_goal", "_law_count"] ["_law_book_so", "_law_more"] (defScope s__law_times) := ⟨rfl, rfl, rfl, by decide +kernel, rfl, by decide +kernel, by decide +kernel⟩
noncomputable def g__law_times : SS := (sSeq (sAsg (frz (opF listS (aCons (fVar 1) aNil))) (tgN 2))
  (sSeq (sFor (iSeq (op2 ixS (fVar 0) (fC (.int 1)))) (tgTup 4 (tgCons (tgN 3) (tgCons (tgN 4) (tgCons (tgN 5) (tgCons (tgN 6) tgNil))))) (sAsg (op2 addS (fVar 2) (frz (fLst (aCons (fVar 4) (aCons (fVar 5) aNil))))) (tgN 2)))
  (sRet (frz (fSortSet (fVar 2))))))
noncomputable def F__law_times : List OV → Sto → Rs OV := runF 2 7 g__law_times
theorem ok__law_times (B : Bt mg) {f : Addr} {fd : FuncData} (F : Fun K "_law_times" "_law_times" s__law_times f fd) (hm : mg "_law_times" = some (.ref f)) (hb : Binds K fd ["_law_book_so", "_law_more"] []) : FnD P w K mg base C 1 "_law_times" 2 F__law_times := by
  refine fn_mk F hm hb sc__law_times fun cdv A outer s H E hr => ?_
  have tk := takes_body (P := P) (w := w) (K := K) (mg := mg) (base := base) (N := ["_law_book_so", "_law_more", "_law_found", "_law_device", "_law_start", "_law_goal", "_law_count"]) (qual := "_law_times") (scope := defScope s__law_times) (f := f) (cd := cdv) (A := A) (outer := outer) (s := s) (H := H) (E := E)
  have hp := passes_body (P := P) (w := w) (K := K) (mg := mg) (base := base) (N := ["_law_book_so", "_law_more", "_law_found", "_law_device", "_law_start", "_law_goal", "_law_count"]) (qual := "_law_times") (scope := defScope s__law_times) (f := f) (cd := cdv) (A := A) (outer := outer) (s := s) (H := H) (E := E)
  exact (dss_cons (ds_set 2 sc__law_times.nd rfl (by first | exact Or.inl rfl | exact Or.inr rfl) (DF.dat (df_callTy rc_list rfl B.list bt_list (da_cons (de_var 1) da_nil))))
    (dss_cons (ds_for hp rfl (di_any (de_ix (de_var 0) de_int (fun _ _ => rfl))) (dg_tup rfl (dgs_cons (dg_n 3 sc__law_times.nd rfl (by first | exact Or.inl rfl | exact Or.inr rfl)) (dgs_cons (dg_n 4 sc__law_times.nd rfl (by first | exact Or.inl rfl | exact Or.inr rfl)) (dgs_cons (dg_n 5 sc__law_times.nd rfl (by first | exact Or.inl rfl | exact Or.inr rfl)) (dgs_cons (dg_n 6 sc__law_times.nd rfl (by first | exact Or.inl rfl | exact Or.inr rfl)) dgs_nil))))) (dss_one (ds_set 2 sc__law_times.nd rfl (by first | exact Or.inl rfl | exact Or.inr rfl) (de_op ro_add (de_var 2) (DF.dat (df_lst (da_cons (de_var 4) (da_cons (de_var 5) da_nil))))))))
    (dss_one (ds_ret (DF.dat (df_sortSet rfl rfl B.sorted rfl B.set (de_var 2)))))))
abbrev s__law_bows : Stmt := topS 47
theorem sc__law_bows : FnScope ["_law_book_so", "_law_told", "_law_ends_so", "_law_bow", "_law_times_so", "_law_found", "_law_at", "_law_row", "_law_low", "_law_high"] ["_law_book_so", "_law_told"] (defScope s__law_bows) := ⟨rfl, rfl, rfl, by decide +kernel, rfl, by decide +kernel, by decide +kernel⟩
noncomputable def g__law_bows : SS := (sSeq (sAsg (frz (fLst aNil)) (tgN 2))
  (sSeq (sFor (iSeq (fVar 1)) (tgN 3) (sAsg (op2 addS (fVar 2) (frz (opF listS (aCons (fSl (fVar 3) oNone (oSome (fC (.int 2)))) aNil)))) (tgN 2)))
  (sSeq (sPar 4 5 (aCons (fCall F__law_times (aCons (fVar 0) (aCons (fVar 2) aNil))) (aCons (ownL (opF listS (aCons (fVar 1) aNil))) aNil)))
  (sSeq (sFor (iRg1 (aCons (op2 subS (opL lenS (aCons (fVar 4) aNil)) (fC (.int 1))) aNil)) (tgN 6) (sExpr (fApp (fVar 5) (aCons (fTup (aCons (op2 ixS (fVar 4) (fVar 6)) (aCons (op2 ixS (fVar 4) (op2 addS (fVar 6) (fC (.int 1)))) (aCons (fC (.int 0)) aNil)))) aNil))))
  (sSeq (sFor (iSeq (op2 ixS (fVar 0) (fC (.int 1)))) (tgN 7) (sSeq (sAsg (fCall F__law_limits (aCons (fVar 0) (aCons (fVar 7) aNil))) (tgTup 2 (tgCons (tgN 8) (tgCons (tgN 9) tgNil))))
  (sAsg (op2 addS (fVar 5) (frz (fLst (aCons (fTup (aCons (op2 ixS (fVar 7) (fC (.int 1))) (aCons (op2 ixS (fVar 7) (fC (.int 2))) (aCons (fVar 8) aNil)))) (aCons (fTup (aCons (op2 ixS (fVar 7) (fC (.int 2))) (aCons (op2 ixS (fVar 7) (fC (.int 1))) (aCons (op1 negS (fVar 9)) aNil)))) aNil))))) (tgN 5))))
  (sRet (fVar 5)))))))
noncomputable def F__law_bows : List OV → Sto → Rs OV := runF 2 10 g__law_bows
theorem ok__law_bows (B : Bt mg) {f : Addr} {fd : FuncData} (F : Fun K "_law_bows" "_law_bows" s__law_bows f fd) (hm : mg "_law_bows" = some (.ref f)) (hb : Binds K fd ["_law_book_so", "_law_told"] []) (h__law_times : FnD P w K mg base C 1 "_law_times" 2 F__law_times) (h__law_limits : FnD P w K mg base C 1 "_law_limits" 2 F__law_limits) : FnD P w K mg base C 2 "_law_bows" 2 F__law_bows := by
  refine fn_mk F hm hb sc__law_bows fun cdv A outer s H E hr => ?_
  have tk := takes_body (P := P) (w := w) (K := K) (mg := mg) (base := base) (N := ["_law_book_so", "_law_told", "_law_ends_so", "_law_bow", "_law_times_so", "_law_found", "_law_at", "_law_row", "_law_low", "_law_high"]) (qual := "_law_bows") (scope := defScope s__law_bows) (f := f) (cd := cdv) (A := A) (outer := outer) (s := s) (H := H) (E := E)
  have hp := passes_body (P := P) (w := w) (K := K) (mg := mg) (base := base) (N := ["_law_book_so", "_law_told", "_law_ends_so", "_law_bow", "_law_times_so", "_law_found", "_law_at", "_law_row", "_law_low", "_law_high"]) (qual := "_law_bows") (scope := defScope s__law_bows) (f := f) (cd := cdv) (A := A) (outer := outer) (s := s) (H := H) (E := E)
  exact (dss_cons (ds_set 2 sc__law_bows.nd rfl (by first | exact Or.inl rfl | exact Or.inr rfl) (DF.dat (df_lst da_nil)))
    (dss_cons (ds_for hp rfl (di_any (de_var 1)) (dg_n 3 sc__law_bows.nd rfl (by first | exact Or.inl rfl | exact Or.inr rfl)) (dss_one (ds_set 2 sc__law_bows.nd rfl (by first | exact Or.inl rfl | exact Or.inr rfl) (de_op ro_add (de_var 2) (DF.dat (df_callTy rc_list rfl B.list bt_list (da_cons (de_sl (de_var 3) do_none (do_some de_int)) da_nil)))))))
    (dss_cons (ds_par (i := 4) (j := 5) rfl sc__law_bows.nd rfl rfl (by decide) rfl rfl (da_cons (de_call h__law_times (hr.mono (by decide)) tk rfl (da_cons (de_var 0) (da_cons (de_var 2) da_nil)) (len_cons (len_cons len_nil))) (da_cons (DF.own (df_callTy rc_list rfl B.list bt_list (da_cons (de_var 1) da_nil))) da_nil)))
    (dss_cons (ds_for hp rfl (di_range1 rfl B.range (da_cons (de_op ro_sub (de_callB rc_len rfl B.len bt_len (da_cons (de_var 4) da_nil)) de_int) da_nil)) (dg_n 6 sc__law_bows.nd rfl (by first | exact Or.inl rfl | exact Or.inr rfl)) (dss_one (ds_expr (de_app (de_var 5) (da_cons (de_tup (da_cons (de_ix (de_var 4) (de_var 6) (fun _ _ => rfl)) (da_cons (de_ix (de_var 4) (de_op ro_add (de_var 6) de_int) (fun _ _ => rfl)) (da_cons de_int da_nil)))) da_nil)))))
    (dss_cons (ds_for hp rfl (di_any (de_ix (de_var 0) de_int (fun _ _ => rfl))) (dg_n 7 sc__law_bows.nd rfl (by first | exact Or.inl rfl | exact Or.inr rfl)) (dss_cons (ds_asg (de_call h__law_limits (hr.mono (by decide)) tk rfl (da_cons (de_var 0) (da_cons (de_var 7) da_nil)) (len_cons (len_cons len_nil))) (dg_tup rfl (dgs_cons (dg_n 8 sc__law_bows.nd rfl (by first | exact Or.inl rfl | exact Or.inr rfl)) (dgs_cons (dg_n 9 sc__law_bows.nd rfl (by first | exact Or.inl rfl | exact Or.inr rfl)) dgs_nil))))
    (dss_one (ds_set 5 sc__law_bows.nd rfl (by first | exact Or.inl rfl | exact Or.inr rfl) (de_op ro_add (de_var 5) (DF.dat (df_lst (da_cons (de_tup (da_cons (de_ix (de_var 7) de_int (fun _ _ => rfl)) (da_cons (de_ix (de_var 7) de_int (fun _ _ => rfl)) (da_cons (de_var 8) da_nil)))) (da_cons (de_tup (da_cons (de_ix (de_var 7) de_int (fun _ _ => rfl)) (da_cons (de_ix (de_var 7) de_int (fun _ _ => rfl)) (da_cons (de_un ru_neg (de_var 9)) da_nil)))) da_nil)))))))))
    (dss_one (ds_ret (de_var 5))))))))
abbrev s__law_far_from : Stmt := topS 48
theorem sc__law_far_from : FnScope ["_law_bows_here", "_law_first", "_law_found", "_law_grown", "_law_turns", "_law_one", "_law_other", "_law_steps_here", "_law_reach"] ["_law_bows_here", "_law_first"] (defScope s__law_far_from) := ⟨rfl, rfl, rfl, by decide +kernel, rfl, by decide +kernel, by decide +kernel⟩
noncomputable def g__law_far_from : SS := (sSeq (sPar3 2 3 4 (aCons (fDisp1 (iVar 1) (iC 0)) (aCons (fC (.bool true)) (aCons (fC (.int 0)) aNil))))
  (sSeq (whileN (bOf (fVar 3)) (sSeq (sIf (bOf (op2 gtS (fVar 4) (fC (.int 30)))) (sRet (fC .none)) sNx)
  (sSeq (sPar 3 4 (aCons (fC (.bool false)) (aCons (op2 addS (fVar 4) (fC (.int 1))) aNil)))
  (sFor (iSeq (fVar 0)) (tgTup 3 (tgCons (tgN 5) (tgCons (tgN 6) (tgCons (tgN 7) tgNil)))) (sIf (bOf (op2 inA (fVar 5) (fVar 2))) (sSeq (sAsg (op2 addS (op2 ixA (fVar 2) (fVar 5)) (fVar 7)) (tgN 8))
  (sIf (bOf (op2 ltS (fGetA (fVar 2) (fVar 6) (op2 subS (fVar 8) (fC (.int 1)))) (fVar 8))) (sPutPar (fVar 2) (fVar 6) 3 (aCons (fVar 8) (aCons (fC (.bool true)) aNil))) sNx)) sNx)))) 1000)
  (sRet (fVar 2))))
noncomputable def F__law_far_from : List OV → Sto → Rs OV := runF 2 9 g__law_far_from
theorem ok__law_far_from (B : Bt mg) {f : Addr} {fd : FuncData} (F : Fun K "_law_far_from" "_law_far_from" s__law_far_from f fd) (hm : mg "_law_far_from" = some (.ref f)) (hb : Binds K fd ["_law_bows_here", "_law_first"] []) : FnD P w K mg base C 1 "_law_far_from" 2 F__law_far_from := by
  refine fn_mk F hm hb sc__law_far_from fun cdv A outer s H E hr => ?_
  have tk := takes_body (P := P) (w := w) (K := K) (mg := mg) (base := base) (N := ["_law_bows_here", "_law_first", "_law_found", "_law_grown", "_law_turns", "_law_one", "_law_other", "_law_steps_here", "_law_reach"]) (qual := "_law_far_from") (scope := defScope s__law_far_from) (f := f) (cd := cdv) (A := A) (outer := outer) (s := s) (H := H) (E := E)
  have hp := passes_body (P := P) (w := w) (K := K) (mg := mg) (base := base) (N := ["_law_bows_here", "_law_first", "_law_found", "_law_grown", "_law_turns", "_law_one", "_law_other", "_law_steps_here", "_law_reach"]) (qual := "_law_far_from") (scope := defScope s__law_far_from) (f := f) (cd := cdv) (A := A) (outer := outer) (s := s) (H := H) (E := E)
  exact (dss_cons (ds_par3 (i := 2) (j := 3) (l := 4) rfl sc__law_far_from.nd rfl rfl rfl (by decide) (by decide) (by decide) rfl rfl rfl (da_cons (de_disp1 (dv_var 1) dv_int) (da_cons de_bl (da_cons de_int da_nil))))
    (dss_cons (ds_while 1000 hp (dt_val (de_var 3)) (dss_cons (ds_if (dt_cmp ro_gt (de_var 4) de_int (nomark _)) (dss_one (ds_ret de_non)) dss_nil)
    (dss_cons (ds_par (i := 3) (j := 4) rfl sc__law_far_from.nd rfl rfl (by decide) rfl rfl (da_cons de_bl (da_cons (de_op ro_add (de_var 4) de_int) da_nil)))
    (dss_one (ds_for hp rfl (di_any (de_var 0)) (dg_tup rfl (dgs_cons (dg_n 5 sc__law_far_from.nd rfl (by first | exact Or.inl rfl | exact Or.inr rfl)) (dgs_cons (dg_n 6 sc__law_far_from.nd rfl (by first | exact Or.inl rfl | exact Or.inr rfl)) (dgs_cons (dg_n 7 sc__law_far_from.nd rfl (by first | exact Or.inl rfl | exact Or.inr rfl)) dgs_nil)))) (dss_one (ds_if (dt_cmp (ro_inA (hu_of hr)) (de_var 5) (de_var 2) (by rfl)) (dss_cons (ds_set 8 sc__law_far_from.nd rfl (by first | exact Or.inl rfl | exact Or.inr rfl) (de_op ro_add (de_ixA (hu_of hr) (de_var 2) (de_var 5) (fun _ _ => rfl)) (de_var 7)))
    (dss_one (ds_if (dt_cmp ro_lt (de_getA (hu_of hr) (de_var 2) (de_var 6) (de_op ro_sub (de_var 8) de_int) ⟨rfl, rfl, rfl, rfl⟩) (de_var 8) (nomark _)) (dss_one (ds_putPar 3 rfl (hu_of hr) sc__law_far_from.nd rfl rfl (de_var 2) (de_var 6) (da_cons (de_var 8) (da_cons de_bl da_nil)))) dss_nil))) dss_nil)))))))
    (dss_one (ds_ret (de_var 2)))))
abbrev s__law_can_be : Stmt := topS 49
theorem sc__law_can_be : FnScope ["_law_book_so", "_law_told", "_law_bows_here", "_law_firsts", "_law_bow", "_law_first"] ["_law_book_so", "_law_told"] (defScope s__law_can_be) := ⟨rfl, rfl, rfl, by decide +kernel, rfl, by decide +kernel, by decide +kernel⟩
noncomputable def g__law_can_be : SS := (sSeq (sAsg (fCall F__law_bows (aCons (fVar 0) (aCons (fVar 1) aNil))) (tgN 2))
  (sSeq (sAsg (frz (fSortSet (frz (fLc (iSeq (fVar 2)) (tgN 4) bYes (op2 ixS (fVar 4) (fC (.int 0))) [4])))) (tgN 3))
  (sRet (op2 eqS (frz (fLc (iSeq (fVar 3)) (tgN 5) (bOf (op2 isS (fCall F__law_far_from (aCons (fVar 2) (aCons (fVar 5) aNil))) (fC .none))) (fVar 5) [5])) (frz (fLst aNil))))))
noncomputable def F__law_can_be : List OV → Sto → Rs OV := runF 2 6 g__law_can_be
theorem ok__law_can_be (B : Bt mg) {f : Addr} {fd : FuncData} (F : Fun K "_law_can_be" "_law_can_be" s__law_can_be f fd) (hm : mg "_law_can_be" = some (.ref f)) (hb : Binds K fd ["_law_book_so", "_law_told"] []) (h__law_bows : FnD P w K mg base C 2 "_law_bows" 2 F__law_bows) (h__law_far_from : FnD P w K mg base C 1 "_law_far_from" 2 F__law_far_from) : FnD P w K mg base C 3 "_law_can_be" 2 F__law_can_be := by
  refine fn_mk F hm hb sc__law_can_be fun cdv A outer s H E hr => ?_
  have tk := takes_body (P := P) (w := w) (K := K) (mg := mg) (base := base) (N := ["_law_book_so", "_law_told", "_law_bows_here", "_law_firsts", "_law_bow", "_law_first"]) (qual := "_law_can_be") (scope := defScope s__law_can_be) (f := f) (cd := cdv) (A := A) (outer := outer) (s := s) (H := H) (E := E)
  exact (dss_cons (ds_set 2 sc__law_can_be.nd rfl (by first | exact Or.inl rfl | exact Or.inr rfl) (de_call h__law_bows (hr.mono (by decide)) tk rfl (da_cons (de_var 0) (da_cons (de_var 1) da_nil)) (len_cons (len_cons len_nil))))
    (dss_cons (ds_set 3 sc__law_can_be.nd rfl (by first | exact Or.inl rfl | exact Or.inr rfl) (DF.dat (df_sortSet rfl rfl B.sorted rfl B.set (DF.dat (df_lc (own := [("_law_bow", 4)]) rfl sc__law_can_be.nd (di_any (de_var 2)) (blkOk_by (own := [("_law_bow", 4)]) (N := ["_law_book_so", "_law_told", "_law_bows_here", "_law_firsts", "_law_bow", "_law_first"]) (sc := defScope s__law_can_be) (by decide +kernel)) (by decide) (fun _ _ _ _ _ => (dg_n 4 sc__law_can_be.nd rfl (by first | exact Or.inl rfl | exact Or.inr rfl))) (fun _ _ _ _ _ => dts_nil) (fun _ _ _ _ _ => (de_ix (de_var 4) de_int (fun _ _ => rfl))))))))
    (dss_one (ds_ret (de_cmp (ro_eq hr) (DF.dat (df_lc (own := [("_law_first", 5)]) rfl sc__law_can_be.nd (di_any (de_var 3)) (blkOk_by (own := [("_law_first", 5)]) (N := ["_law_book_so", "_law_told", "_law_bows_here", "_law_firsts", "_law_bow", "_law_first"]) (sc := defScope s__law_can_be) (by decide +kernel)) (by decide) (fun _ _ _ _ _ => (dg_n 5 sc__law_can_be.nd rfl (by first | exact Or.inl rfl | exact Or.inr rfl))) (fun _ _ _ _ _ => (dts_one (dt_cmp ro_is (de_call h__law_far_from (hr.mono (by decide)) takes0 rfl (da_cons (de_var 2) (da_cons (de_var 5) da_nil)) (len_cons (len_cons len_nil))) de_non (nomark _)))) (fun _ _ _ _ _ => (de_var 5)))) (DF.dat (df_lst da_nil)) (nomark _))))))
abbrev s__law_bounds : Stmt := topS 50
theorem sc__law_bounds : FnScope ["_law_book_so", "_law_stretch", "_law_bows_here", "_law_ahead", "_law_back"] ["_law_book_so", "_law_stretch"] (defScope s__law_bounds) := ⟨rfl, rfl, rfl, by decide +kernel, rfl, by decide +kernel, by decide +kernel⟩
noncomputable def g__law_bounds : SS := (sSeq (sAsg (fCall F__law_bows (aCons (fVar 0) (aCons (frz (fLst (aCons (fTup (aCons (op2 ixS (fVar 1) (fC (.int 0))) (aCons (op2 ixS (fVar 1) (fC (.int 1))) (aCons (fC (.int 0)) aNil)))) aNil))) aNil))) (tgN 2))
  (sSeq (sPar 3 4 (aCons (fCall F__law_far_from (aCons (fVar 2) (aCons (op2 ixS (fVar 1) (fC (.int 0))) aNil))) (aCons (fCall F__law_far_from (aCons (fVar 2) (aCons (op2 ixS (fVar 1) (fC (.int 1))) aNil))) aNil)))
  (sRet (fTup (aCons (op2 ixA (fVar 3) (op2 ixS (fVar 1) (fC (.int 1)))) (aCons (vIf (bOf (op2 inA (op2 ixS (fVar 1) (fC (.int 0))) (fVar 4))) (op1 negS (op2 ixA (fVar 4) (op2 ixS (fVar 1) (fC (.int 0))))) (fC .none)) aNil))))))
noncomputable def F__law_bounds : List OV → Sto → Rs OV := runF 2 5 g__law_bounds
theorem ok__law_bounds (B : Bt mg) {f : Addr} {fd : FuncData} (F : Fun K "_law_bounds" "_law_bounds" s__law_bounds f fd) (hm : mg "_law_bounds" = some (.ref f)) (hb : Binds K fd ["_law_book_so", "_law_stretch"] []) (h__law_bows : FnD P w K mg base C 2 "_law_bows" 2 F__law_bows) (h__law_far_from : FnD P w K mg base C 1 "_law_far_from" 2 F__law_far_from) : FnD P w K mg base C 3 "_law_bounds" 2 F__law_bounds := by
  refine fn_mk F hm hb sc__law_bounds fun cdv A outer s H E hr => ?_
  have tk := takes_body (P := P) (w := w) (K := K) (mg := mg) (base := base) (N := ["_law_book_so", "_law_stretch", "_law_bows_here", "_law_ahead", "_law_back"]) (qual := "_law_bounds") (scope := defScope s__law_bounds) (f := f) (cd := cdv) (A := A) (outer := outer) (s := s) (H := H) (E := E)
  exact (dss_cons (ds_set 2 sc__law_bounds.nd rfl (by first | exact Or.inl rfl | exact Or.inr rfl) (de_call h__law_bows (hr.mono (by decide)) tk rfl (da_cons (de_var 0) (da_cons (DF.dat (df_lst (da_cons (de_tup (da_cons (de_ix (de_var 1) de_int (fun _ _ => rfl)) (da_cons (de_ix (de_var 1) de_int (fun _ _ => rfl)) (da_cons de_int da_nil)))) da_nil))) da_nil)) (len_cons (len_cons len_nil))))
    (dss_cons (ds_par (i := 3) (j := 4) rfl sc__law_bounds.nd rfl rfl (by decide) rfl rfl (da_cons (de_call h__law_far_from (hr.mono (by decide)) tk rfl (da_cons (de_var 2) (da_cons (de_ix (de_var 1) de_int (fun _ _ => rfl)) da_nil)) (len_cons (len_cons len_nil))) (da_cons (de_call h__law_far_from (hr.mono (by decide)) tk rfl (da_cons (de_var 2) (da_cons (de_ix (de_var 1) de_int (fun _ _ => rfl)) da_nil)) (len_cons (len_cons len_nil))) da_nil)))
    (dss_one (ds_ret (de_tup (da_cons (de_ixA (hu_of hr) (de_var 3) (de_ix (de_var 1) de_int (fun _ _ => rfl)) (fun _ _ => rfl)) (da_cons (de_if (dt_cmp (ro_inA (hu_of hr)) (de_ix (de_var 1) de_int (fun _ _ => rfl)) (de_var 4) (by rfl)) (de_un ru_neg (de_ixA (hu_of hr) (de_var 4) (de_ix (de_var 1) de_int (fun _ _ => rfl)) (fun _ _ => rfl))) de_non) da_nil)))))))
abbrev s__law_word : Stmt := topS 51
theorem sc__law_word : FnScope ["_law_call"] ["_law_call"] (defScope s__law_word) := ⟨rfl, rfl, rfl, by decide +kernel, rfl, by decide +kernel, by decide +kernel⟩
def H__law_word : Cb → Cb := hiE [(mtOf tab_Impossible, (.str "impossible")), (mtOf tab_InvalidMenu, (.str "menu")), (mtOf tab_InvalidStretch, (.str "stretch")), (mtOf tab_WalkError, (.str "else"))] (.str "fine")
theorem ok__law_word (B : Bt mg) {f : Addr} {fd : FuncData} (F : Fun K "_law_word" "_law_word" s__law_word f fd) (hm : mg "_law_word" = some (.ref f)) (hb : Binds K fd ["_law_call"] []) (t_Impossible : CatT K mg C "Impossible" tab_Impossible) (t_InvalidMenu : CatT K mg C "InvalidMenu" tab_InvalidMenu) (t_InvalidStretch : CatT K mg C "InvalidStretch" tab_InvalidStretch) (t_WalkError : CatT K mg C "WalkError" tab_WalkError) : HiD P w K mg base C "_law_word" H__law_word := hi_mk F hm hb sc__law_word rfl (fun _ _ _ _ _ => (dhs_c t_Impossible rfl (fun _ _ _ => (dss_one (ds_ret de_str))) (dhs_c t_InvalidMenu rfl (fun _ _ _ => (dss_one (ds_ret de_str))) (dhs_c t_InvalidStretch rfl (fun _ _ _ => (dss_one (ds_ret de_str))) (dhs_c t_WalkError rfl (fun _ _ _ => (dss_one (ds_ret de_str))) .nil))))) (fun _ _ _ _ _ => de_str)
abbrev s__law_width : Stmt := topS 52
theorem sc__law_width : FnScope ["_law_book_so", "_law_wanted", "_law_stretch", "_law_low", "_law_high", "_law_exact", "_law_found", "_law_count", "_law_more", "_law_least_so", "_law_most_so"] ["_law_book_so", "_law_wanted", "_law_stretch"] (defScope s__law_width) := ⟨rfl, rfl, rfl, by decide +kernel, rfl, by decide +kernel, by decide +kernel⟩
noncomputable def g__law_width : SS := (sSeq (sAsg (fCall F__law_bounds (aCons (fVar 0) (aCons (fVar 2) aNil))) (tgTup 2 (tgCons (tgN 3) (tgCons (tgN 4) tgNil))))
  (sSeq (sPar 5 6 (aCons (fTup (aCons (op2 addS (op2 ixS (fVar 0) (fC (.int 0))) (fTup (aCons (fTup (aCons (fC (.int 0)) (aCons (fC (.int 0)) aNil))) aNil))) (aCons (op2 ixS (fVar 0) (fC (.int 1))) aNil))) (aCons (ownL (fLst aNil)) aNil)))
  (sSeq (sFor (iRg2 (aCons (fVar 3) (aCons (op2 addS (vIf (bOf (op2 isS (fVar 4) (fC .none))) (op2 addS (fVar 3) (fC (.int 240))) (fVar 4)) (fC (.int 1))) aNil))) (tgN 7) (sSeq (sAsg (fTup (aCons (op2 ixS (fVar 5) (fC (.int 0))) (aCons (op2 addS (op2 ixS (fVar 5) (fC (.int 1))) (fTup (aCons (fTup (aCons (opL lenS (aCons (op2 ixS (fVar 0) (fC (.int 0))) aNil)) (aCons (op2 ixS (fVar 2) (fC (.int 0))) (aCons (op2 ixS (fVar 2) (fC (.int 1))) (aCons (fVar 7) aNil))))) aNil))) aNil))) (tgN 8))
  (sSeq (sAsg (fCall F__law_bounds (aCons (fVar 8) (aCons (fVar 1) aNil))) (tgTup 2 (tgCons (tgN 9) (tgCons (tgN 10) tgNil))))
  (sSeq (sIf (bOf (op2 isS (fVar 10) (fC .none))) (sRet (fC .none)) sNx)
  (sExpr (fApp (fVar 6) (aCons (op2 subS (fVar 10) (fVar 9)) aNil)))))))
  (sRet (vIf (bAnd (bOf (op2 isS (fVar 4) (fC .none))) (bOf (op2 gtS (op2 ixS (fVar 6) (op1 negS (fC (.int 1)))) (op2 ixS (fVar 6) (op1 negS (fC (.int 9))))))) (fC .none) (opL maxLS (aCons (fVar 6) aNil)))))))
noncomputable def F__law_width : List OV → Sto → Rs OV := runF 3 11 g__law_width
theorem ok__law_width (B : Bt mg) {f : Addr} {fd : FuncData} (F : Fun K "_law_width" "_law_width" s__law_width f fd) (hm : mg "_law_width" = some (.ref f)) (hb : Binds K fd ["_law_book_so", "_law_wanted", "_law_stretch"] []) (h__law_bounds : FnD P w K mg base C 3 "_law_bounds" 2 F__law_bounds) : FnD P w K mg base C 4 "_law_width" 3 F__law_width := by
  refine fn_mk F hm hb sc__law_width fun cdv A outer s H E hr => ?_
  have tk := takes_body (P := P) (w := w) (K := K) (mg := mg) (base := base) (N := ["_law_book_so", "_law_wanted", "_law_stretch", "_law_low", "_law_high", "_law_exact", "_law_found", "_law_count", "_law_more", "_law_least_so", "_law_most_so"]) (qual := "_law_width") (scope := defScope s__law_width) (f := f) (cd := cdv) (A := A) (outer := outer) (s := s) (H := H) (E := E)
  have hp := passes_body (P := P) (w := w) (K := K) (mg := mg) (base := base) (N := ["_law_book_so", "_law_wanted", "_law_stretch", "_law_low", "_law_high", "_law_exact", "_law_found", "_law_count", "_law_more", "_law_least_so", "_law_most_so"]) (qual := "_law_width") (scope := defScope s__law_width) (f := f) (cd := cdv) (A := A) (outer := outer) (s := s) (H := H) (E := E)
  exact (dss_cons (ds_asg (de_call h__law_bounds (hr.mono (by decide)) tk rfl (da_cons (de_var 0) (da_cons (de_var 2) da_nil)) (len_cons (len_cons len_nil))) (dg_tup rfl (dgs_cons (dg_n 3 sc__law_width.nd rfl (by first | exact Or.inl rfl | exact Or.inr rfl)) (dgs_cons (dg_n 4 sc__law_width.nd rfl (by first | exact Or.inl rfl | exact Or.inr rfl)) dgs_nil))))
    (dss_cons (ds_par (i := 5) (j := 6) rfl sc__law_width.nd rfl rfl (by decide) rfl rfl (da_cons (de_tup (da_cons (de_op ro_add (de_ix (de_var 0) de_int (fun _ _ => rfl)) (de_tup (da_cons (de_tup (da_cons de_int (da_cons de_int da_nil))) da_nil))) (da_cons (de_ix (de_var 0) de_int (fun _ _ => rfl)) da_nil))) (da_cons (DF.own (df_lst da_nil)) da_nil)))
    (dss_cons (ds_for hp rfl (di_range2 rfl B.range (da_cons (de_var 3) (da_cons (de_op ro_add (de_if (dt_cmp ro_is (de_var 4) de_non (nomark _)) (de_op ro_add (de_var 3) de_int) (de_var 4)) de_int) da_nil))) (dg_n 7 sc__law_width.nd rfl (by first | exact Or.inl rfl | exact Or.inr rfl)) (dss_cons (ds_set 8 sc__law_width.nd rfl (by first | exact Or.inl rfl | exact Or.inr rfl) (de_tup (da_cons (de_ix (de_var 5) de_int (fun _ _ => rfl)) (da_cons (de_op ro_add (de_ix (de_var 5) de_int (fun _ _ => rfl)) (de_tup (da_cons (de_tup (da_cons (de_callB rc_len rfl B.len bt_len (da_cons (de_ix (de_var 0) de_int (fun _ _ => rfl)) da_nil)) (da_cons (de_ix (de_var 2) de_int (fun _ _ => rfl)) (da_cons (de_ix (de_var 2) de_int (fun _ _ => rfl)) (da_cons (de_var 7) da_nil))))) da_nil))) da_nil))))
    (dss_cons (ds_asg (de_call h__law_bounds (hr.mono (by decide)) tk rfl (da_cons (de_var 8) (da_cons (de_var 1) da_nil)) (len_cons (len_cons len_nil))) (dg_tup rfl (dgs_cons (dg_n 9 sc__law_width.nd rfl (by first | exact Or.inl rfl | exact Or.inr rfl)) (dgs_cons (dg_n 10 sc__law_width.nd rfl (by first | exact Or.inl rfl | exact Or.inr rfl)) dgs_nil))))
    (dss_cons (ds_if (dt_cmp ro_is (de_var 10) de_non (nomark _)) (dss_one (ds_ret de_non)) dss_nil)
    (dss_one (ds_expr (de_app (de_var 6) (da_cons (de_op ro_sub (de_var 10) (de_var 9)) da_nil))))))))
    (dss_one (ds_ret (de_if (DW.dt (dw_and (dt_cmp ro_is (de_var 4) de_non (nomark _)) (dw_and1 (dt_cmp ro_gt (de_ix (de_var 6) (de_un ru_neg de_int) (fun _ _ => rfl)) (de_ix (de_var 6) (de_un ru_neg de_int) (fun _ _ => rfl)) (nomark _))))) de_non (de_callB (rc_maxL rfl) rfl B.max bt_max (da_cons (de_var 6) da_nil))))))))
abbrev s__law_due : Stmt := topS 53
theorem sc__law_due : FnScope ["_law_book_so", "_law_wanted", "_law_menu", "_law_widths_so", "_law_some", "_law_best", "_law_stretch", "_law_width_here"] ["_law_book_so", "_law_wanted", "_law_menu"] (defScope s__law_due) := ⟨rfl, rfl, rfl, by decide +kernel, rfl, by decide +kernel, by decide +kernel⟩
noncomputable def g__law_due : SS := (sSeq (sAsg (frz (fLc (iSeq (fVar 2)) (tgN 6) bYes (fCall F__law_width (aCons (fVar 0) (aCons (fVar 1) (aCons (fVar 6) aNil)))) [6])) (tgN 3))
  (sSeq (sAsg (frz (fLc (iSeq (fVar 3)) (tgN 7) (bOf (op2 isNotS (fVar 7) (fC .none))) (fVar 7) [7])) (tgN 4))
  (sSeq (sAsg (vIf (bOf (op2 neS (fVar 4) (frz (fLst aNil)))) (opL minLS (aCons (fVar 4) aNil)) (fC .none)) (tgN 5))
  (sRet (fTup (aCons (fVar 5) (aCons (fIndex (fVar 3) (aCons (fVar 5) aNil)) aNil)))))))
noncomputable def F__law_due : List OV → Sto → Rs OV := runF 3 8 g__law_due
theorem ok__law_due (B : Bt mg) {f : Addr} {fd : FuncData} (F : Fun K "_law_due" "_law_due" s__law_due f fd) (hm : mg "_law_due" = some (.ref f)) (hb : Binds K fd ["_law_book_so", "_law_wanted", "_law_menu"] []) (h__law_width : FnD P w K mg base C 4 "_law_width" 3 F__law_width) : FnD P w K mg base C 5 "_law_due" 3 F__law_due := by
  refine fn_mk F hm hb sc__law_due fun cdv A outer s H E hr => ?_
  have tk := takes_body (P := P) (w := w) (K := K) (mg := mg) (base := base) (N := ["_law_book_so", "_law_wanted", "_law_menu", "_law_widths_so", "_law_some", "_law_best", "_law_stretch", "_law_width_here"]) (qual := "_law_due") (scope := defScope s__law_due) (f := f) (cd := cdv) (A := A) (outer := outer) (s := s) (H := H) (E := E)
  exact (dss_cons (ds_setLc (own := [("_law_stretch", 6)]) 3 rfl sc__law_due.nd rfl rfl (sw_true rfl rfl rfl (by decide +kernel)) (di_any (de_var 2)) (blkOk_by (own := [("_law_stretch", 6)]) (N := ["_law_book_so", "_law_wanted", "_law_menu", "_law_widths_so", "_law_some", "_law_best", "_law_stretch", "_law_width_here"]) (sc := defScope s__law_due) (by decide +kernel)) (by decide) (fun _ _ _ _ _ => (dg_n 6 sc__law_due.nd rfl (by first | exact Or.inl rfl | exact Or.inr rfl))) (fun _ _ _ _ _ => dts_nil) (fun _ _ _ _ _ => (de_call h__law_width (hr.mono (by decide)) takes0 rfl (da_cons (de_var 0) (da_cons (de_var 1) (da_cons (de_var 6) da_nil))) (len_cons (len_cons (len_cons len_nil))))))
    (dss_cons (ds_setLc (own := [("_law_width_here", 7)]) 4 rfl sc__law_due.nd rfl rfl (sw_true rfl rfl rfl (by decide +kernel)) (di_any (de_var 3)) (blkOk_by (own := [("_law_width_here", 7)]) (N := ["_law_book_so", "_law_wanted", "_law_menu", "_law_widths_so", "_law_some", "_law_best", "_law_stretch", "_law_width_here"]) (sc := defScope s__law_due) (by decide +kernel)) (by decide) (fun _ _ _ _ _ => (dg_n 7 sc__law_due.nd rfl (by first | exact Or.inl rfl | exact Or.inr rfl))) (fun _ _ _ _ _ => (dts_one (dt_cmp ro_isNot (de_var 7) de_non (nomark _)))) (fun _ _ _ _ _ => (de_var 7)))
    (dss_cons (ds_set 5 sc__law_due.nd rfl (by first | exact Or.inl rfl | exact Or.inr rfl) (de_if (dt_cmp (ro_ne hr) (de_var 4) (DF.dat (df_lst da_nil)) (nomark _)) (de_callB (rc_minL rfl) rfl B.min bt_min (da_cons (de_var 4) da_nil)) de_non))
    (dss_one (ds_ret (de_tup (da_cons (de_var 5) (da_cons (de_index hr (de_var 3) (da_cons (de_var 5) da_nil)) da_nil))))))))
abbrev s_law : Stmt := topS 54
theorem sc_law : FnScope ["_law_script", "_law_cell", "_law_flask_here", "_law_turn", "_law_book_so", "_law_wanted", "_law_menu", "_law_odd", "_law_great", "_law_two", "_law_bare", "_law_one"] ["_law_script"] (defScope s_law) := ⟨rfl, rfl, rfl, by decide +kernel, rfl, by decide +kernel, by decide +kernel⟩
noncomputable def g_law : SS := (sSeq (sFor (iSeq (fSl (op2 addS (frz (fLst (aCons (fC (.int 0)) aNil))) (fVar 0)) oNone (oSome (fC (.int 4))))) (tgN 1) (sSeq (sAsg (fCall F__law_flask (aCons (fVar 1) (aCons (fC (.int 63)) aNil))) (tgN 2))
  (sSeq (sFor (iRg1 (aCons (fC (.int 3)) aNil)) (tgN 3) (sSeq (sAsg (fCall F__law_any_book (aCons (fVar 2) (aCons (fC (.int 4)) (aCons (fC (.int 8)) (aCons (fC (.int 7)) (aCons (fC (.int 1)) aNil)))))) (tgN 4))
  (sSeq (sAsg (fCall F__law_any_stretch (aCons (fVar 2) (aCons (fC (.int 8)) aNil))) (tgN 5))
  (sSeq (sAsg (opL tupleS (aCons (frz (fLc (iRg1 (aCons (op2 addS (fC (.int 1)) (fCall F__law_sip (aCons (fVar 2) (aCons (fC (.int 3)) aNil)))) aNil)) (tgN 11) bYes (fCall F__law_any_stretch (aCons (fVar 2) (aCons (fC (.int 9)) aNil))) [11])) aNil)) (tgN 6))
  (sIf (bNot (bOf (fCall F__law_can_be (aCons (fVar 4) (aCons (frz (fLst aNil)) aNil))))) (sIf (bOf (op2 neS (fLam H__law_word (fCall F_best_stretch (aCons (fVar 4) (aCons (fVar 5) (aCons (fVar 6) aNil))))) (fC (.str "impossible")))) (sRet (fC (.bool false))) sNx) (sIf (bOf (op2 neS (fCall F_best_stretch (aCons (fVar 4) (aCons (fVar 5) (aCons (fVar 6) aNil)))) (fCall F__law_due (aCons (fVar 4) (aCons (fVar 5) (aCons (fVar 6) aNil)))))) (sRet (fC (.bool false))) sNx))))))
  (sSeq (sFor (iSeq (fTup (aCons (fC .none) (aCons (fTup aNil) (aCons (frz (fLst (aCons (fTup (aCons (fC (.int 0)) (aCons (fC (.int 5)) aNil))) aNil))) (aCons (fTup (aCons (fTup (aCons (fC (.int 5)) (aCons (fC (.int 5)) aNil))) aNil)) (aCons (op2 mulS (fTup (aCons (fTup (aCons (fC (.int 0)) (aCons (fC (.int 5)) aNil))) aNil)) (fC (.int 6))) (aCons (fTup (aCons (fC (.int 0)) (aCons (fC (.int 5)) aNil))) aNil)))))))) (tgN 7) (sIf (bOf (op2 neS (fLam H__law_word (fCall F_best_stretch (aCons (fVar 4) (aCons (fTup (aCons (fC (.int 0)) (aCons (fC (.int 5)) aNil))) (aCons (fVar 7) aNil))))) (fC (.str "menu")))) (sRet (fC (.bool false))) sNx))
  (sFor (iSeq (fTup (aCons (fC .none) (aCons (fTup aNil) (aCons (fTup (aCons (fC (.int 5)) (aCons (fC (.int 5)) aNil))) (aCons (fTup (aCons (op1 negS (fC (.int 1))) (aCons (fC (.int 5)) aNil))) (aCons (frz (fLst (aCons (fC (.int 0)) (aCons (fC (.int 5)) aNil)))) (aCons (fTup (aCons (fC (.int 0)) (aCons (op2 addS (op2 powS (fC (.int 10)) (fC (.int 30))) (fC (.int 1))) aNil))) aNil)))))))) (tgN 7) (sIf (bOf (op2 neS (fLam H__law_word (fCall F_best_stretch (aCons (fVar 4) (aCons (fVar 7) (aCons (fC .none) aNil))))) (fC (.str "stretch")))) (sRet (fC (.bool false))) sNx))))))
  (sSeq (sAsg (op2 powS (fC (.int 10)) (fC (.int 27))) (tgN 8))
  (sSeq (sAsg (fTup (aCons (fTup (aCons (fTup (aCons (fC (.int 0)) (aCons (fC (.int 0)) aNil))) aNil)) (aCons (fTup (aCons (fTup (aCons (fC (.int 0)) (aCons (fC (.int 0)) (aCons (fC (.int 10)) (aCons (op2 mulS (fC (.int 100)) (fVar 8)) aNil))))) (aCons (fTup (aCons (fC (.int 0)) (aCons (fC (.int 5)) (aCons (fC (.int 20)) (aCons (op2 mulS (fC (.int 150)) (fVar 8)) aNil))))) aNil))) aNil))) (tgN 9))
  (sSeq (sIf (bOf (op2 neS (fCall F_best_stretch (aCons (fVar 9) (aCons (fTup (aCons (fC (.int 0)) (aCons (fC (.int 20)) aNil))) (aCons (fTup (aCons (fTup (aCons (fC (.int 12)) (aCons (fC (.int 15)) aNil))) (aCons (fTup (aCons (fC (.int 0)) (aCons (fC (.int 5)) aNil))) aNil))) aNil)))) (fTup (aCons (fC (.int 0)) (aCons (fC (.int 1)) aNil))))) (sRet (fC (.bool false))) sNx)
  (sSeq (sIf (bOf (op2 neS (fCall F_best_stretch (aCons (fVar 9) (aCons (fTup (aCons (fC (.int 0)) (aCons (fC (.int 30)) aNil))) (aCons (fTup (aCons (fTup (aCons (fC (.int 0)) (aCons (fC (.int 5)) aNil))) aNil)) aNil)))) (fTup (aCons (fC .none) (aCons (fC (.int 0)) aNil))))) (sRet (fC (.bool false))) sNx)
  (sSeq (sIf (bOf (op2 neS (fCall F_best_stretch (aCons (fVar 9) (aCons (fTup (aCons (fC (.int 0)) (aCons (fC (.int 20)) aNil))) (aCons (fTup (aCons (fTup (aCons (fC (.int 12)) (aCons (fC (.int 15)) aNil))) aNil)) aNil)))) (fTup (aCons (op2 mulS (fC (.int 100)) (fVar 8)) (aCons (fC (.int 0)) aNil))))) (sRet (fC (.bool false))) sNx)
  (sSeq (sIf (bOf (op2 neS (fCall F_best_stretch (aCons (fVar 9) (aCons (fTup (aCons (fC (.int 0)) (aCons (fC (.int 20)) aNil))) (aCons (fTup (aCons (fTup (aCons (fC (.int 5)) (aCons (fC (.int 10)) aNil))) (aCons (fTup (aCons (fC (.int 0)) (aCons (fC (.int 5)) aNil))) aNil))) aNil)))) (fTup (aCons (fC (.int 0)) (aCons (fC (.int 0)) aNil))))) (sRet (fC (.bool false))) sNx)
  (sSeq (sIf (bOf (op2 neS (fCall F_best_stretch (aCons (fVar 9) (aCons (fTup (aCons (fC (.int 0)) (aCons (fC (.int 5)) aNil))) (aCons (fTup (aCons (fTup (aCons (fC (.int 0)) (aCons (fC (.int 3)) aNil))) (aCons (fTup (aCons (fC (.int 2)) (aCons (fC (.int 8)) aNil))) aNil))) aNil)))) (fTup (aCons (op2 mulS (fC (.int 100)) (fVar 8)) (aCons (fC (.int 0)) aNil))))) (sRet (fC (.bool false))) sNx)
  (sSeq (sAsg (fTup (aCons (fTup (aCons (fTup (aCons (fC (.int 0)) (aCons (fC (.int 0)) aNil))) aNil)) (aCons (fTup aNil) aNil))) (tgN 10))
  (sSeq (sIf (bOr (bOf (op2 neS (fCall F_best_stretch (aCons (fVar 10) (aCons (fTup (aCons (fC (.int 0)) (aCons (fC (.int 5)) aNil))) (aCons (fTup (aCons (fTup (aCons (fC (.int 0)) (aCons (fC (.int 10)) aNil))) aNil)) aNil)))) (fTup (aCons (fC .none) (aCons (fC (.int 0)) aNil))))) (bOf (op2 neS (fCall F_best_stretch (aCons (fVar 10) (aCons (fTup (aCons (fC (.int 0)) (aCons (fC (.int 5)) aNil))) (aCons (fTup (aCons (fTup (aCons (fC (.int 0)) (aCons (fC (.int 10)) aNil))) (aCons (fTup (aCons (fC (.int 0)) (aCons (fC (.int 5)) aNil))) aNil))) aNil)))) (fTup (aCons (fC (.int 0)) (aCons (fC (.int 1)) aNil)))))) (sRet (fC (.bool false))) sNx)
  (sSeq (sIf (bOf (op2 neS (fCall F_best_stretch (aCons (fVar 9) (aCons (fTup (aCons (fC (.int 0)) (aCons (fC (.int 10)) aNil))) (aCons (fTup (aCons (fTup (aCons (fC (.int 0)) (aCons (fC (.int 30)) aNil))) (aCons (fTup (aCons (fC (.int 9)) (aCons (fC (.int 10)) aNil))) aNil))) aNil)))) (fTup (aCons (fC (.int 0)) (aCons (fC (.int 0)) aNil))))) (sRet (fC (.bool false))) sNx)
  (sRet (op2 eqS (fCall F_best_stretch (aCons (fTup (aCons (fTup (aCons (fTup (aCons (fC (.int 1)) (aCons (fC (.int 2)) aNil))) aNil)) (aCons (fTup (aCons (fTup (aCons (fC (.int 0)) (aCons (fC (.int 0)) (aCons (fC (.int 10)) (aCons (fC (.int 9)) aNil))))) aNil)) aNil))) (aCons (fTup (aCons (fC (.int 0)) (aCons (fC (.int 10)) aNil))) (aCons (fTup (aCons (fTup (aCons (fC (.int 0)) (aCons (fC (.int 5)) aNil))) (aCons (fTup (aCons (fC (.int 0)) (aCons (fC (.int 10)) aNil))) (aCons (fTup (aCons (fC (.int 0)) (aCons (fC (.int 11)) aNil))) aNil)))) aNil)))) (fTup (aCons (fC (.int 0)) (aCons (fC (.int 1)) aNil))))))))))))))))
noncomputable def F_law : List OV → Sto → Rs OV := runF 1 12 g_law
theorem ok_law (B : Bt mg) {f : Addr} {fd : FuncData} (F : Fun K "law" "law" s_law f fd) (hm : mg "law" = some (.ref f)) (h__law_flask : FnD P w K mg base C 1 "_law_flask" 2 F__law_flask) (h__law_any_book : FnD P w K mg base C 3 "_law_any_book" 5 F__law_any_book) (h__law_any_stretch : FnD P w K mg base C 2 "_law_any_stretch" 2 F__law_any_stretch) (h__law_sip : FnD P w K mg base C 1 "_law_sip" 2 F__law_sip) (h__law_can_be : FnD P w K mg base C 3 "_law_can_be" 2 F__law_can_be) (h_best_stretch : FnD P w K mg base C 6 "best_stretch" 3 F_best_stretch) (h__law_due : FnD P w K mg base C 5 "_law_due" 3 F__law_due) (h__law_word : HiD P w K mg base C "_law_word" H__law_word) (tb : TabD K base mg "law") : FnOk P w K mg base (L2.CX P w) 9 f fd ["_law_script"] (spD K C 1 F_law) := by
  refine fn_okL F sc_law fun cdv hcd A outer s H E hr => ?_
  have tk := takes_body (P := P) (w := w) (K := K) (mg := mg) (base := base) (N := ["_law_script", "_law_cell", "_law_flask_here", "_law_turn", "_law_book_so", "_law_wanted", "_law_menu", "_law_odd", "_law_great", "_law_two", "_law_bare", "_law_one"]) (qual := "law") (scope := defScope s_law) (f := f) (cd := cdv) (A := A) (outer := outer) (s := s) (H := H) (E := E)
  have hco : ∀ c P, PySem.W.tabIn K "law" = some (c, P) → cdv = .ref c := fun c P h => hcd ▸ tab_code tb F hm h
  have hp := passes_body (P := P) (w := w) (K := K) (mg := mg) (base := base) (N := ["_law_script", "_law_cell", "_law_flask_here", "_law_turn", "_law_book_so", "_law_wanted", "_law_menu", "_law_odd", "_law_great", "_law_two", "_law_bare", "_law_one"]) (qual := "law") (scope := defScope s_law) (f := f) (cd := cdv) (A := A) (outer := outer) (s := s) (H := H) (E := E)
  exact (dss_cons (ds_for hp rfl (di_any (de_sl (de_op ro_add (DF.dat (df_lst (da_cons de_int da_nil))) (de_var 0)) do_none (do_some de_int))) (dg_n 1 sc_law.nd rfl (by first | exact Or.inl rfl | exact Or.inr rfl)) (dss_cons (ds_set 2 sc_law.nd rfl (by first | exact Or.inl rfl | exact Or.inr rfl) (de_call h__law_flask (hr.mono (by decide)) tk rfl (da_cons (de_var 1) (da_cons de_int da_nil)) (len_cons (len_cons len_nil))))
    (dss_cons (ds_for hp rfl (di_range1 rfl B.range (da_cons de_int da_nil)) (dg_n 3 sc_law.nd rfl (by first | exact Or.inl rfl | exact Or.inr rfl)) (dss_cons (ds_set 4 sc_law.nd rfl (by first | exact Or.inl rfl | exact Or.inr rfl) (de_call h__law_any_book (hr.mono (by decide)) tk rfl (da_cons (de_var 2) (da_cons de_int (da_cons de_int (da_cons de_int (da_cons de_int da_nil))))) (len_cons (len_cons (len_cons (len_cons (len_cons len_nil)))))))
    (dss_cons (ds_set 5 sc_law.nd rfl (by first | exact Or.inl rfl | exact Or.inr rfl) (de_call h__law_any_stretch (hr.mono (by decide)) tk rfl (da_cons (de_var 2) (da_cons de_int da_nil)) (len_cons (len_cons len_nil))))
    (dss_cons (ds_set 6 sc_law.nd rfl (by first | exact Or.inl rfl | exact Or.inr rfl) (de_callTy rc_tuple rfl B.tuple bt_tuple (da_cons (DF.dat (df_lc (own := [("_law_one", 11)]) rfl sc_law.nd (di_range1 rfl B.range (da_cons (de_op ro_add de_int (de_call h__law_sip (hr.mono (by decide)) tk rfl (da_cons (de_var 2) (da_cons de_int da_nil)) (len_cons (len_cons len_nil)))) da_nil)) (blkOk_by (own := [("_law_one", 11)]) (N := ["_law_script", "_law_cell", "_law_flask_here", "_law_turn", "_law_book_so", "_law_wanted", "_law_menu", "_law_odd", "_law_great", "_law_two", "_law_bare", "_law_one"]) (sc := defScope s_law) (by decide +kernel)) (by decide) (fun _ _ _ _ _ => (dg_n 11 sc_law.nd rfl (by first | exact Or.inl rfl | exact Or.inr rfl))) (fun _ _ _ _ _ => dts_nil) (fun _ _ _ _ _ => (de_call h__law_any_stretch (hr.mono (by decide)) takes0 rfl (da_cons (de_var 2) (da_cons de_int da_nil)) (len_cons (len_cons len_nil)))))) da_nil)))
    (dss_one (ds_if (dt_not (dt_val (de_call h__law_can_be (hr.mono (by decide)) tk rfl (da_cons (de_var 4) (da_cons (DF.dat (df_lst da_nil)) da_nil)) (len_cons (len_cons len_nil))))) (dss_one (ds_if (dt_cmp (ro_ne hr) (de_lam (k := 6) h__law_word rfl tb rfl hco (hr.mono (by decide)) (by show LamX.lamSB (defScope s_law) _ = true; decide +kernel) (fun _ _ _ _ _ _ _ hr => (de_call h_best_stretch (hr.mono (by decide)) takes_lam rfl (da_cons (de_var 4) (da_cons (de_var 5) (da_cons (de_var 6) da_nil))) (len_cons (len_cons (len_cons len_nil)))))) de_str (nomark _)) (dss_one (ds_ret de_bl)) dss_nil)) (dss_one (ds_if (dt_cmp (ro_ne hr) (de_call h_best_stretch (hr.mono (by decide)) tk rfl (da_cons (de_var 4) (da_cons (de_var 5) (da_cons (de_var 6) da_nil))) (len_cons (len_cons (len_cons len_nil)))) (de_call h__law_due (hr.mono (by decide)) tk rfl (da_cons (de_var 4) (da_cons (de_var 5) (da_cons (de_var 6) da_nil))) (len_cons (len_cons (len_cons len_nil)))) (nomark _)) (dss_one (ds_ret de_bl)) dss_nil))))))))
    (dss_cons (ds_for hp rfl (di_any (de_tup (da_cons de_non (da_cons (de_tup da_nil) (da_cons (DF.dat (df_lst (da_cons (de_tup (da_cons de_int (da_cons de_int da_nil))) da_nil))) (da_cons (de_tup (da_cons (de_tup (da_cons de_int (da_cons de_int da_nil))) da_nil)) (da_cons (de_op ro_mul (de_tup (da_cons (de_tup (da_cons de_int (da_cons de_int da_nil))) da_nil)) de_int) (da_cons (de_tup (da_cons de_int (da_cons de_int da_nil))) da_nil)))))))) (dg_n 7 sc_law.nd rfl (by first | exact Or.inl rfl | exact Or.inr rfl)) (dss_one (ds_if (dt_cmp (ro_ne hr) (de_lam (k := 6) h__law_word rfl tb rfl hco (hr.mono (by decide)) (by show LamX.lamSB (defScope s_law) _ = true; decide +kernel) (fun _ _ _ _ _ _ _ hr => (de_call h_best_stretch (hr.mono (by decide)) takes_lam rfl (da_cons (de_var 4) (da_cons (de_tup (da_cons de_int (da_cons de_int da_nil))) (da_cons (de_var 7) da_nil))) (len_cons (len_cons (len_cons len_nil)))))) de_str (nomark _)) (dss_one (ds_ret de_bl)) dss_nil)))
    (dss_one (ds_for hp rfl (di_any (de_tup (da_cons de_non (da_cons (de_tup da_nil) (da_cons (de_tup (da_cons de_int (da_cons de_int da_nil))) (da_cons (de_tup (da_cons (de_un ru_neg de_int) (da_cons de_int da_nil))) (da_cons (DF.dat (df_lst (da_cons de_int (da_cons de_int da_nil)))) (da_cons (de_tup (da_cons de_int (da_cons (de_op ro_add (de_op ro_pow de_int de_int) de_int) da_nil))) da_nil)))))))) (dg_n 7 sc_law.nd rfl (by first | exact Or.inl rfl | exact Or.inr rfl)) (dss_one (ds_if (dt_cmp (ro_ne hr) (de_lam (k := 6) h__law_word rfl tb rfl hco (hr.mono (by decide)) (by show LamX.lamSB (defScope s_law) _ = true; decide +kernel) (fun _ _ _ _ _ _ _ hr => (de_call h_best_stretch (hr.mono (by decide)) takes_lam rfl (da_cons (de_var 4) (da_cons (de_var 7) (da_cons de_non da_nil))) (len_cons (len_cons (len_cons len_nil)))))) de_str (nomark _)) (dss_one (ds_ret de_bl)) dss_nil))))))))
    (dss_cons (ds_set 8 sc_law.nd rfl (by first | exact Or.inl rfl | exact Or.inr rfl) (de_op ro_pow de_int de_int))
    (dss_cons (ds_set 9 sc_law.nd rfl (by first | exact Or.inl rfl | exact Or.inr rfl) (de_tup (da_cons (de_tup (da_cons (de_tup (da_cons de_int (da_cons de_int da_nil))) da_nil)) (da_cons (de_tup (da_cons (de_tup (da_cons de_int (da_cons de_int (da_cons de_int (da_cons (de_op ro_mul de_int (de_var 8)) da_nil))))) (da_cons (de_tup (da_cons de_int (da_cons de_int (da_cons de_int (da_cons (de_op ro_mul de_int (de_var 8)) da_nil))))) da_nil))) da_nil))))
    (dss_cons (ds_if (dt_cmp (ro_ne hr) (de_call h_best_stretch (hr.mono (by decide)) tk rfl (da_cons (de_var 9) (da_cons (de_tup (da_cons de_int (da_cons de_int da_nil))) (da_cons (de_tup (da_cons (de_tup (da_cons de_int (da_cons de_int da_nil))) (da_cons (de_tup (da_cons de_int (da_cons de_int da_nil))) da_nil))) da_nil))) (len_cons (len_cons (len_cons len_nil)))) (de_tup (da_cons de_int (da_cons de_int da_nil))) (nomark _)) (dss_one (ds_ret de_bl)) dss_nil)
    (dss_cons (ds_if (dt_cmp (ro_ne hr) (de_call h_best_stretch (hr.mono (by decide)) tk rfl (da_cons (de_var 9) (da_cons (de_tup (da_cons de_int (da_cons de_int da_nil))) (da_cons (de_tup (da_cons (de_tup (da_cons de_int (da_cons de_int da_nil))) da_nil)) da_nil))) (len_cons (len_cons (len_cons len_nil)))) (de_tup (da_cons de_non (da_cons de_int da_nil))) (nomark _)) (dss_one (ds_ret de_bl)) dss_nil)
    (dss_cons (ds_if (dt_cmp (ro_ne hr) (de_call h_best_stretch (hr.mono (by decide)) tk rfl (da_cons (de_var 9) (da_cons (de_tup (da_cons de_int (da_cons de_int da_nil))) (da_cons (de_tup (da_cons (de_tup (da_cons de_int (da_cons de_int da_nil))) da_nil)) da_nil))) (len_cons (len_cons (len_cons len_nil)))) (de_tup (da_cons (de_op ro_mul de_int (de_var 8)) (da_cons de_int da_nil))) (nomark _)) (dss_one (ds_ret de_bl)) dss_nil)
    (dss_cons (ds_if (dt_cmp (ro_ne hr) (de_call h_best_stretch (hr.mono (by decide)) tk rfl (da_cons (de_var 9) (da_cons (de_tup (da_cons de_int (da_cons de_int da_nil))) (da_cons (de_tup (da_cons (de_tup (da_cons de_int (da_cons de_int da_nil))) (da_cons (de_tup (da_cons de_int (da_cons de_int da_nil))) da_nil))) da_nil))) (len_cons (len_cons (len_cons len_nil)))) (de_tup (da_cons de_int (da_cons de_int da_nil))) (nomark _)) (dss_one (ds_ret de_bl)) dss_nil)
    (dss_cons (ds_if (dt_cmp (ro_ne hr) (de_call h_best_stretch (hr.mono (by decide)) tk rfl (da_cons (de_var 9) (da_cons (de_tup (da_cons de_int (da_cons de_int da_nil))) (da_cons (de_tup (da_cons (de_tup (da_cons de_int (da_cons de_int da_nil))) (da_cons (de_tup (da_cons de_int (da_cons de_int da_nil))) da_nil))) da_nil))) (len_cons (len_cons (len_cons len_nil)))) (de_tup (da_cons (de_op ro_mul de_int (de_var 8)) (da_cons de_int da_nil))) (nomark _)) (dss_one (ds_ret de_bl)) dss_nil)
    (dss_cons (ds_set 10 sc_law.nd rfl (by first | exact Or.inl rfl | exact Or.inr rfl) (de_tup (da_cons (de_tup (da_cons (de_tup (da_cons de_int (da_cons de_int da_nil))) da_nil)) (da_cons (de_tup da_nil) da_nil))))
    (dss_cons (ds_if (DW.dt (dw_or (dt_cmp (ro_ne hr) (de_call h_best_stretch (hr.mono (by decide)) tk rfl (da_cons (de_var 10) (da_cons (de_tup (da_cons de_int (da_cons de_int da_nil))) (da_cons (de_tup (da_cons (de_tup (da_cons de_int (da_cons de_int da_nil))) da_nil)) da_nil))) (len_cons (len_cons (len_cons len_nil)))) (de_tup (da_cons de_non (da_cons de_int da_nil))) (nomark _)) (dw_or1 (dt_cmp (ro_ne hr) (de_call h_best_stretch (hr.mono (by decide)) tk rfl (da_cons (de_var 10) (da_cons (de_tup (da_cons de_int (da_cons de_int da_nil))) (da_cons (de_tup (da_cons (de_tup (da_cons de_int (da_cons de_int da_nil))) (da_cons (de_tup (da_cons de_int (da_cons de_int da_nil))) da_nil))) da_nil))) (len_cons (len_cons (len_cons len_nil)))) (de_tup (da_cons de_int (da_cons de_int da_nil))) (nomark _))))) (dss_one (ds_ret de_bl)) dss_nil)
    (dss_cons (ds_if (dt_cmp (ro_ne hr) (de_call h_best_stretch (hr.mono (by decide)) tk rfl (da_cons (de_var 9) (da_cons (de_tup (da_cons de_int (da_cons de_int da_nil))) (da_cons (de_tup (da_cons (de_tup (da_cons de_int (da_cons de_int da_nil))) (da_cons (de_tup (da_cons de_int (da_cons de_int da_nil))) da_nil))) da_nil))) (len_cons (len_cons (len_cons len_nil)))) (de_tup (da_cons de_int (da_cons de_int da_nil))) (nomark _)) (dss_one (ds_ret de_bl)) dss_nil)
    (dss_one (ds_ret (de_cmp (ro_eq hr) (de_call h_best_stretch (hr.mono (by decide)) tk rfl (da_cons (de_tup (da_cons (de_tup (da_cons (de_tup (da_cons de_int (da_cons de_int da_nil))) da_nil)) (da_cons (de_tup (da_cons (de_tup (da_cons de_int (da_cons de_int (da_cons de_int (da_cons de_int da_nil))))) da_nil)) da_nil))) (da_cons (de_tup (da_cons de_int (da_cons de_int da_nil))) (da_cons (de_tup (da_cons (de_tup (da_cons de_int (da_cons de_int da_nil))) (da_cons (de_tup (da_cons de_int (da_cons de_int da_nil))) (da_cons (de_tup (da_cons de_int (da_cons de_int da_nil))) da_nil)))) da_nil))) (len_cons (len_cons (len_cons len_nil)))) (de_tup (da_cons de_int (da_cons de_int da_nil))) (nomark _)))))))))))))))
def fnL : List He.FnD := [⟨("is_number", none), "is_number", "is_number", defArgs s_is_number, defBody s_is_number, defScope s_is_number⟩, ⟨("is_device", none), "is_device", "is_device", defArgs s_is_device, defBody s_is_device, defScope s_is_device⟩, ⟨("are_devices", none), "are_devices", "are_devices", defArgs s_are_devices, defBody s_are_devices, defScope s_are_devices⟩, ⟨("is_stretch", none), "is_stretch", "is_stretch", defArgs s_is_stretch, defBody s_is_stretch, defScope s_is_stretch⟩, ⟨("is_reading_of", none), "is_reading_of", "is_reading_of", defArgs s_is_reading_of, defBody s_is_reading_of, defScope s_is_reading_of⟩, ⟨("is_book_of", none), "is_book_of", "is_book_of", defArgs s_is_book_of, defBody s_is_book_of, defScope s_is_book_of⟩, ⟨("need_book", none), "need_book", "need_book", defArgs s_need_book, defBody s_need_book, defScope s_need_book⟩, ⟨("need_stretch", none), "need_stretch", "need_stretch", defArgs s_need_stretch, defBody s_need_stretch, defScope s_need_stretch⟩, ⟨("limits", none), "limits", "limits", defArgs s_limits, defBody s_limits, defScope s_limits⟩, ⟨("moments_of", none), "moments_of", "moments_of", defArgs s_moments_of, defBody s_moments_of, defScope s_moments_of⟩, ⟨("more_of", none), "more_of", "more_of", defArgs s_more_of, defBody s_more_of, defScope s_more_of⟩, ⟨("links_of", none), "links_of", "links_of", defArgs s_links_of, defBody s_links_of, defScope s_links_of⟩, ⟨("web_of", none), "web_of", "web_of", defArgs s_web_of, defBody s_web_of, defScope s_web_of⟩, ⟨("can_be", none), "can_be", "can_be", defArgs s_can_be, defBody s_can_be, defScope s_can_be⟩, ⟨("is_possible_of", none), "is_possible_of", "is_possible_of", defArgs s_is_possible_of, defBody s_is_possible_of, defScope s_is_possible_of⟩, ⟨("need_possible", none), "need_possible", "need_possible", defArgs s_need_possible, defBody s_need_possible, defScope s_need_possible⟩, ⟨("need_menu", none), "need_menu", "need_menu", defArgs s_need_menu, defBody s_need_menu, defScope s_need_menu⟩, ⟨("pieces", none), "pieces", "pieces", defArgs s_pieces, defBody s_pieces, defScope s_pieces⟩, ⟨("value_at", none), "value_at", "value_at", defArgs s_value_at, defBody s_value_at, defScope s_value_at⟩, ⟨("corners", none), "corners", "corners", defArgs s_corners, defBody s_corners, defScope s_corners⟩, ⟨("counts_of", none), "counts_of", "counts_of", defArgs s_counts_of, defBody s_counts_of, defScope s_counts_of⟩, ⟨("steepest", none), "steepest", "steepest", defArgs s_steepest, defBody s_steepest, defScope s_steepest⟩, ⟨("worst_width", none), "worst_width", "worst_width", defArgs s_worst_width, defBody s_worst_width, defScope s_worst_width⟩, ⟨("is_better", none), "is_better", "is_better", defArgs s_is_better, defBody s_is_better, defScope s_is_better⟩, ⟨("best_of", none), "best_of", "best_of", defArgs s_best_of, defBody s_best_of, defScope s_best_of⟩, ⟨("best_stretch", none), "best_stretch", "best_stretch", defArgs s_best_stretch, defBody s_best_stretch, defScope s_best_stretch⟩, ⟨("_law_flask", none), "_law_flask", "_law_flask", defArgs s__law_flask, defBody s__law_flask, defScope s__law_flask⟩, ⟨("_law_sip", none), "_law_sip", "_law_sip", defArgs s__law_sip, defBody s__law_sip, defScope s__law_sip⟩, ⟨("_law_steps", none), "_law_steps", "_law_steps", defArgs s__law_steps, defBody s__law_steps, defScope s__law_steps⟩, ⟨("_law_limits", none), "_law_limits", "_law_limits", defArgs s__law_limits, defBody s__law_limits, defScope s__law_limits⟩, ⟨("_law_any_walk", none), "_law_any_walk", "_law_any_walk", defArgs s__law_any_walk, defBody s__law_any_walk, defScope s__law_any_walk⟩, ⟨("_law_any_stretch", none), "_law_any_stretch", "_law_any_stretch", defArgs s__law_any_stretch, defBody s__law_any_stretch, defScope s__law_any_stretch⟩, ⟨("_law_any_book", none), "_law_any_book", "_law_any_book", defArgs s__law_any_book, defBody s__law_any_book, defScope s__law_any_book⟩, ⟨("_law_times", none), "_law_times", "_law_times", defArgs s__law_times, defBody s__law_times, defScope s__law_times⟩, ⟨("_law_bows", none), "_law_bows", "_law_bows", defArgs s__law_bows, defBody s__law_bows, defScope s__law_bows⟩, ⟨("_law_far_from", none), "_law_far_from", "_law_far_from", defArgs s__law_far_from, defBody s__law_far_from, defScope s__law_far_from⟩, ⟨("_law_can_be", none), "_law_can_be", "_law_can_be", defArgs s__law_can_be, defBody s__law_can_be, defScope s__law_can_be⟩, ⟨("_law_bounds", none), "_law_bounds", "_law_bounds", defArgs s__law_bounds, defBody s__law_bounds, defScope s__law_bounds⟩, ⟨("_law_word", none), "_law_word", "_law_word", defArgs s__law_word, defBody s__law_word, defScope s__law_word⟩, ⟨("_law_width", none), "_law_width", "_law_width", defArgs s__law_width, defBody s__law_width, defScope s__law_width⟩, ⟨("_law_due", none), "_law_due", "_law_due", defArgs s__law_due, defBody s__law_due, defScope s__law_due⟩, ⟨("law", none), "law", "law", defArgs s_law, defBody s_law, defScope s_law⟩]
def faL : List He.Fa := [.glo "is_number", .glo "is_device", .glo "are_devices", .glo "is_stretch", .glo "is_reading_of", .glo "is_book_of", .glo "need_book", .glo "need_stretch", .glo "limits", .glo "moments_of", .glo "more_of", .glo "links_of", .glo "web_of", .glo "can_be", .glo "is_possible_of", .glo "need_possible", .glo "need_menu", .glo "pieces", .glo "value_at", .glo "corners", .glo "counts_of", .glo "steepest", .glo "worst_width", .glo "is_better", .glo "best_of", .glo "best_stretch", .glo "_law_flask", .glo "_law_sip", .glo "_law_steps", .glo "_law_limits", .glo "_law_any_walk", .glo "_law_any_stretch", .glo "_law_any_book", .glo "_law_times", .glo "_law_bows", .glo "_law_far_from", .glo "_law_can_be", .glo "_law_bounds", .glo "_law_word", .glo "_law_width", .glo "_law_due", .glo "law", .keep "is_number", .keep "is_device", .keep "are_devices", .keep "is_stretch", .keep "is_reading_of", .keep "is_book_of", .keep "need_book", .keep "need_stretch", .keep "limits", .keep "moments_of", .keep "more_of", .keep "links_of", .keep "web_of", .keep "can_be", .keep "is_possible_of", .keep "need_possible", .keep "need_menu", .keep "pieces", .keep "value_at", .keep "corners", .keep "counts_of", .keep "steepest", .keep "worst_width", .keep "is_better", .keep "best_of", .keep "best_stretch", .keep "_law_flask", .keep "_law_sip", .keep "_law_steps", .keep "_law_limits", .keep "_law_any_walk", .keep "_law_any_stretch", .keep "_law_any_book", .keep "_law_times", .keep "_law_bows", .keep "_law_far_from", .keep "_law_can_be", .keep "_law_bounds", .keep "_law_word", .keep "_law_width", .keep "_law_due", .keep "law", .glo "Impossible", .exc "Impossible", .glo "InvalidBook", .exc "InvalidBook", .glo "InvalidMenu", .exc "InvalidMenu", .glo "InvalidStretch", .exc "InvalidStretch", .int "MOST_READINGS" 6]
def btL : List He.Fa := [.free "len", .free "int", .free "str", .free "bool", .free "tuple", .free "list", .free "dict", .free "set", .free "isinstance", .free "range", .free "zip", .free "enumerate", .free "all", .free "any", .free "sum", .free "max", .free "min", .free "sorted"]
theorem law_ok {h : Heap} {fa : Addr} (X : K.In h) (G : h.Ns mainGlobals mg) (c : He.SaysE faL fnL K) (bt : btL.all (fun f => f.ok K) = true) (g_Impossible : (He.Fa.glo "Impossible").ok K = true) (e_Impossible : (tab_Impossible.all fun q => (He.Fa.glo q.1).ok K && (He.Fa.exm q.1 "Impossible" q.2).ok K) = true) (g_InvalidMenu : (He.Fa.glo "InvalidMenu").ok K = true) (e_InvalidMenu : (tab_InvalidMenu.all fun q => (He.Fa.glo q.1).ok K && (He.Fa.exm q.1 "InvalidMenu" q.2).ok K) = true) (g_InvalidStretch : (He.Fa.glo "InvalidStretch").ok K = true) (e_InvalidStretch : (tab_InvalidStretch.all fun q => (He.Fa.glo q.1).ok K && (He.Fa.exm q.1 "InvalidStretch" q.2).ok K) = true) (g_WalkError : (He.Fa.glo "WalkError").ok K = true) (e_WalkError : (tab_WalkError.all fun q => (He.Fa.glo q.1).ok K && (He.Fa.exm q.1 "WalkError" q.2).ok K) = true) (l_LARGE : ∃ u, mg "LARGE" = some (.int 1000000000000000000000000000000 u)) (l_SLIPS : ∃ u, mg "SLIPS" = some (.int 1000000000 u)) (tn_law : List.elem (α := Str) "law" ((tabCs K).map fun r => r.1) = true) (hfa : mg "law" = some (.ref fa)) :
    ∃ fd : FuncData, (∀ (s : Shared) (u : Value), BindsTo s fd ⟨[u], []⟩ [("_law_script", u)]) ∧ ∀ base : Heap, (∀ y ∈ (tabCs K).map (·.1), TabD K base mg y) → FnOk P w K mg base (L2.CX P w) 9 fa fd ["_law_script"] (spD K (cOf mg) 1 F_law) := by
  have B := bt_mk X G bt
  obtain ⟨u_LARGE, c_LARGE⟩ := l_LARGE
  obtain ⟨u_MOST_READINGS, c_MOST_READINGS⟩ := int_mk X G c 92 (x := "MOST_READINGS") (i := 6)
  obtain ⟨u_SLIPS, c_SLIPS⟩ := l_SLIPS
  have x_Impossible := excT_mk X G c 84 85 (x := "Impossible")
  have x_InvalidBook := excT_mk X G c 86 87 (x := "InvalidBook")
  have x_InvalidMenu := excT_mk X G c 88 89 (x := "InvalidMenu")
  have x_InvalidStretch := excT_mk X G c 90 91 (x := "InvalidStretch")
  have t_Impossible : CatT K mg (cOf mg) "Impossible" tab_Impossible := catT_mk X G g_Impossible e_Impossible
  have t_InvalidMenu : CatT K mg (cOf mg) "InvalidMenu" tab_InvalidMenu := catT_mk X G g_InvalidMenu e_InvalidMenu
  have t_InvalidStretch : CatT K mg (cOf mg) "InvalidStretch" tab_InvalidStretch := catT_mk X G g_InvalidStretch e_InvalidStretch
  have t_WalkError : CatT K mg (cOf mg) "WalkError" tab_WalkError := catT_mk X G g_WalkError e_WalkError
  obtain ⟨a_is_number, e_is_number, i_is_number, m_is_number, b_is_number, bb_is_number⟩ := (funT_mk (st := s_is_number) (ps := ["value", "low", "high"]) X G c 0 0 42 (x := "is_number") (hb := fun _ _ _ _ _ _ us hl => match us, hl with | [_, _, _], _ => rfl)).ex
  obtain ⟨a_is_device, e_is_device, i_is_device, m_is_device, b_is_device, bb_is_device⟩ := (funT_mk (st := s_is_device) (ps := ["value"]) X G c 1 1 43 (x := "is_device") (hb := fun _ _ _ _ _ _ us hl => match us, hl with | [_], _ => rfl)).ex
  obtain ⟨a_are_devices, e_are_devices, i_are_devices, m_are_devices, b_are_devices, bb_are_devices⟩ := (funT_mk (st := s_are_devices) (ps := ["value"]) X G c 2 2 44 (x := "are_devices") (hb := fun _ _ _ _ _ _ us hl => match us, hl with | [_], _ => rfl)).ex
  obtain ⟨a_is_stretch, e_is_stretch, i_is_stretch, m_is_stretch, b_is_stretch, bb_is_stretch⟩ := (funT_mk (st := s_is_stretch) (ps := ["value"]) X G c 3 3 45 (x := "is_stretch") (hb := fun _ _ _ _ _ _ us hl => match us, hl with | [_], _ => rfl)).ex
  obtain ⟨a_is_reading_of, e_is_reading_of, i_is_reading_of, m_is_reading_of, b_is_reading_of, bb_is_reading_of⟩ := (funT_mk (st := s_is_reading_of) (ps := ["devices", "value"]) X G c 4 4 46 (x := "is_reading_of") (hb := fun _ _ _ _ _ _ us hl => match us, hl with | [_, _], _ => rfl)).ex
  obtain ⟨a_is_book_of, e_is_book_of, i_is_book_of, m_is_book_of, b_is_book_of, bb_is_book_of⟩ := (funT_mk (st := s_is_book_of) (ps := ["value"]) X G c 5 5 47 (x := "is_book_of") (hb := fun _ _ _ _ _ _ us hl => match us, hl with | [_], _ => rfl)).ex
  obtain ⟨a_need_book, e_need_book, i_need_book, m_need_book, b_need_book, bb_need_book⟩ := (funT_mk (st := s_need_book) (ps := ["book"]) X G c 6 6 48 (x := "need_book") (hb := fun _ _ _ _ _ _ us hl => match us, hl with | [_], _ => rfl)).ex
  obtain ⟨a_need_stretch, e_need_stretch, i_need_stretch, m_need_stretch, b_need_stretch, bb_need_stretch⟩ := (funT_mk (st := s_need_stretch) (ps := ["stretch"]) X G c 7 7 49 (x := "need_stretch") (hb := fun _ _ _ _ _ _ us hl => match us, hl with | [_], _ => rfl)).ex
  obtain ⟨a_limits, e_limits, i_limits, m_limits, b_limits, bb_limits⟩ := (funT_mk (st := s_limits) (ps := ["book", "reading"]) X G c 8 8 50 (x := "limits") (hb := fun _ _ _ _ _ _ us hl => match us, hl with | [_, _], _ => rfl)).ex
  obtain ⟨a_moments_of, e_moments_of, i_moments_of, m_moments_of, b_moments_of, bb_moments_of⟩ := (funT_mk (st := s_moments_of) (ps := ["book", "more"]) X G c 9 9 51 (x := "moments_of") (hb := fun _ _ _ _ _ _ us hl => match us, hl with | [_, _], _ => rfl)).ex
  obtain ⟨a_more_of, e_more_of, i_more_of, m_more_of, b_more_of, bb_more_of⟩ := (funT_mk (st := s_more_of) (ps := ["one", "other"]) X G c 10 10 52 (x := "more_of") (hb := fun _ _ _ _ _ _ us hl => match us, hl with | [_, _], _ => rfl)).ex
  obtain ⟨a_links_of, e_links_of, i_links_of, m_links_of, b_links_of, bb_links_of⟩ := (funT_mk (st := s_links_of) (ps := ["book", "times"]) X G c 11 11 53 (x := "links_of") (hb := fun _ _ _ _ _ _ us hl => match us, hl with | [_, _], _ => rfl)).ex
  obtain ⟨a_web_of, e_web_of, i_web_of, m_web_of, b_web_of, bb_web_of⟩ := (funT_mk (st := s_web_of) (ps := ["book", "times", "told"]) X G c 12 12 54 (x := "web_of") (hb := fun _ _ _ _ _ _ us hl => match us, hl with | [_, _, _], _ => rfl)).ex
  obtain ⟨a_can_be, e_can_be, i_can_be, m_can_be, b_can_be, bb_can_be⟩ := (funT_mk (st := s_can_be) (ps := ["web", "times"]) X G c 13 13 55 (x := "can_be") (hb := fun _ _ _ _ _ _ us hl => match us, hl with | [_, _], _ => rfl)).ex
  obtain ⟨a_is_possible_of, e_is_possible_of, i_is_possible_of, m_is_possible_of, b_is_possible_of, bb_is_possible_of⟩ := (funT_mk (st := s_is_possible_of) (ps := ["book"]) X G c 14 14 56 (x := "is_possible_of") (hb := fun _ _ _ _ _ _ us hl => match us, hl with | [_], _ => rfl)).ex
  obtain ⟨a_need_possible, e_need_possible, i_need_possible, m_need_possible, b_need_possible, bb_need_possible⟩ := (funT_mk (st := s_need_possible) (ps := ["book"]) X G c 15 15 57 (x := "need_possible") (hb := fun _ _ _ _ _ _ us hl => match us, hl with | [_], _ => rfl)).ex
  obtain ⟨a_need_menu, e_need_menu, i_need_menu, m_need_menu, b_need_menu, bb_need_menu⟩ := (funT_mk (st := s_need_menu) (ps := ["menu"]) X G c 16 16 58 (x := "need_menu") (hb := fun _ _ _ _ _ _ us hl => match us, hl with | [_], _ => rfl)).ex
  obtain ⟨a_pieces, e_pieces, i_pieces, m_pieces, b_pieces, bb_pieces⟩ := (funT_mk (st := s_pieces) (ps := ["web", "one", "other", "start", "goal"]) X G c 17 17 59 (x := "pieces") (hb := fun _ _ _ _ _ _ us hl => match us, hl with | [_, _, _, _, _], _ => rfl)).ex
  obtain ⟨a_value_at, e_value_at, i_value_at, m_value_at, b_value_at, bb_value_at⟩ := (funT_mk (st := s_value_at) (ps := ["rows", "count"]) X G c 18 18 60 (x := "value_at") (hb := fun _ _ _ _ _ _ us hl => match us, hl with | [_, _], _ => rfl)).ex
  obtain ⟨a_corners, e_corners, i_corners, m_corners, b_corners, bb_corners⟩ := (funT_mk (st := s_corners) (ps := ["rows"]) X G c 19 19 61 (x := "corners") (hb := fun _ _ _ _ _ _ us hl => match us, hl with | [_], _ => rfl)).ex
  obtain ⟨a_counts_of, e_counts_of, i_counts_of, m_counts_of, b_counts_of, bb_counts_of⟩ := (funT_mk (st := s_counts_of) (ps := ["web", "stretch"]) X G c 20 20 62 (x := "counts_of") (hb := fun _ _ _ _ _ _ us hl => match us, hl with | [_, _], _ => rfl)).ex
  obtain ⟨a_steepest, e_steepest, i_steepest, m_steepest, b_steepest, bb_steepest⟩ := (funT_mk (st := s_steepest) (ps := ["rows"]) X G c 21 21 63 (x := "steepest") (hb := fun _ _ _ _ _ _ us hl => match us, hl with | [_], _ => rfl)).ex
  obtain ⟨a_worst_width, e_worst_width, i_worst_width, m_worst_width, b_worst_width, bb_worst_width⟩ := (funT_mk (st := s_worst_width) (ps := ["web", "wanted", "stretch"]) X G c 22 22 64 (x := "worst_width") (hb := fun _ _ _ _ _ _ us hl => match us, hl with | [_, _, _], _ => rfl)).ex
  obtain ⟨a_is_better, e_is_better, i_is_better, m_is_better, b_is_better, bb_is_better⟩ := (funT_mk (st := s_is_better) (ps := ["one", "other"]) X G c 23 23 65 (x := "is_better") (hb := fun _ _ _ _ _ _ us hl => match us, hl with | [_, _], _ => rfl)).ex
  obtain ⟨a_best_of, e_best_of, i_best_of, m_best_of, b_best_of, bb_best_of⟩ := (funT_mk (st := s_best_of) (ps := ["book", "wanted", "menu"]) X G c 24 24 66 (x := "best_of") (hb := fun _ _ _ _ _ _ us hl => match us, hl with | [_, _, _], _ => rfl)).ex
  obtain ⟨a_best_stretch, e_best_stretch, i_best_stretch, m_best_stretch, b_best_stretch, bb_best_stretch⟩ := (funT_mk (st := s_best_stretch) (ps := ["book", "wanted", "menu"]) X G c 25 25 67 (x := "best_stretch") (hb := fun _ _ _ _ _ _ us hl => match us, hl with | [_, _, _], _ => rfl)).ex
  obtain ⟨a__law_flask, e__law_flask, i__law_flask, m__law_flask, b__law_flask, bb__law_flask⟩ := (funT_mk (st := s__law_flask) (ps := ["_law_cell", "_law_salt"]) X G c 26 26 68 (x := "_law_flask") (hb := fun _ _ _ _ _ _ us hl => match us, hl with | [_, _], _ => rfl)).ex
  obtain ⟨a__law_sip, e__law_sip, i__law_sip, m__law_sip, b__law_sip, bb__law_sip⟩ := (funT_mk (st := s__law_sip) (ps := ["_law_flask_here", "_law_many"]) X G c 27 27 69 (x := "_law_sip") (hb := fun _ _ _ _ _ _ us hl => match us, hl with | [_, _], _ => rfl)).ex
  obtain ⟨a__law_steps, e__law_steps, i__law_steps, m__law_steps, b__law_steps, bb__law_steps⟩ := (funT_mk (st := s__law_steps) (ps := ["_law_walk_so", "_law_start", "_law_goal"]) X G c 28 28 70 (x := "_law_steps") (hb := fun _ _ _ _ _ _ us hl => match us, hl with | [_, _, _], _ => rfl)).ex
  obtain ⟨a__law_limits, e__law_limits, i__law_limits, m__law_limits, b__law_limits, bb__law_limits⟩ := (funT_mk (st := s__law_limits) (ps := ["_law_book_so", "_law_row"]) X G c 29 29 71 (x := "_law_limits") (hb := fun _ _ _ _ _ _ us hl => match us, hl with | [_, _], _ => rfl)).ex
  obtain ⟨a__law_any_walk, e__law_any_walk, i__law_any_walk, m__law_any_walk, b__law_any_walk, bb__law_any_walk⟩ := (funT_mk (st := s__law_any_walk) (ps := ["_law_flask_here", "_law_far", "_law_wide"]) X G c 30 30 72 (x := "_law_any_walk") (hb := fun _ _ _ _ _ _ us hl => match us, hl with | [_, _, _], _ => rfl)).ex
  obtain ⟨a__law_any_stretch, e__law_any_stretch, i__law_any_stretch, m__law_any_stretch, b__law_any_stretch, bb__law_any_stretch⟩ := (funT_mk (st := s__law_any_stretch) (ps := ["_law_flask_here", "_law_far"]) X G c 31 31 73 (x := "_law_any_stretch") (hb := fun _ _ _ _ _ _ us hl => match us, hl with | [_, _], _ => rfl)).ex
  obtain ⟨a__law_any_book, e__law_any_book, i__law_any_book, m__law_any_book, b__law_any_book, bb__law_any_book⟩ := (funT_mk (st := s__law_any_book) (ps := ["_law_flask_here", "_law_most", "_law_far", "_law_wide", "_law_slips"]) X G c 32 32 74 (x := "_law_any_book") (hb := fun _ _ _ _ _ _ us hl => match us, hl with | [_, _, _, _, _], _ => rfl)).ex
  obtain ⟨a__law_times, e__law_times, i__law_times, m__law_times, b__law_times, bb__law_times⟩ := (funT_mk (st := s__law_times) (ps := ["_law_book_so", "_law_more"]) X G c 33 33 75 (x := "_law_times") (hb := fun _ _ _ _ _ _ us hl => match us, hl with | [_, _], _ => rfl)).ex
  obtain ⟨a__law_bows, e__law_bows, i__law_bows, m__law_bows, b__law_bows, bb__law_bows⟩ := (funT_mk (st := s__law_bows) (ps := ["_law_book_so", "_law_told"]) X G c 34 34 76 (x := "_law_bows") (hb := fun _ _ _ _ _ _ us hl => match us, hl with | [_, _], _ => rfl)).ex
  obtain ⟨a__law_far_from, e__law_far_from, i__law_far_from, m__law_far_from, b__law_far_from, bb__law_far_from⟩ := (funT_mk (st := s__law_far_from) (ps := ["_law_bows_here", "_law_first"]) X G c 35 35 77 (x := "_law_far_from") (hb := fun _ _ _ _ _ _ us hl => match us, hl with | [_, _], _ => rfl)).ex
  obtain ⟨a__law_can_be, e__law_can_be, i__law_can_be, m__law_can_be, b__law_can_be, bb__law_can_be⟩ := (funT_mk (st := s__law_can_be) (ps := ["_law_book_so", "_law_told"]) X G c 36 36 78 (x := "_law_can_be") (hb := fun _ _ _ _ _ _ us hl => match us, hl with | [_, _], _ => rfl)).ex
  obtain ⟨a__law_bounds, e__law_bounds, i__law_bounds, m__law_bounds, b__law_bounds, bb__law_bounds⟩ := (funT_mk (st := s__law_bounds) (ps := ["_law_book_so", "_law_stretch"]) X G c 37 37 79 (x := "_law_bounds") (hb := fun _ _ _ _ _ _ us hl => match us, hl with | [_, _], _ => rfl)).ex
  obtain ⟨a__law_word, e__law_word, i__law_word, m__law_word, b__law_word, bb__law_word⟩ := (funT_mk (st := s__law_word) (ps := ["_law_call"]) X G c 38 38 80 (x := "_law_word") (hb := fun _ _ _ _ _ _ us hl => match us, hl with | [_], _ => rfl)).ex
  obtain ⟨a__law_width, e__law_width, i__law_width, m__law_width, b__law_width, bb__law_width⟩ := (funT_mk (st := s__law_width) (ps := ["_law_book_so", "_law_wanted", "_law_stretch"]) X G c 39 39 81 (x := "_law_width") (hb := fun _ _ _ _ _ _ us hl => match us, hl with | [_, _, _], _ => rfl)).ex
  obtain ⟨a__law_due, e__law_due, i__law_due, m__law_due, b__law_due, bb__law_due⟩ := (funT_mk (st := s__law_due) (ps := ["_law_book_so", "_law_wanted", "_law_menu"]) X G c 40 40 82 (x := "_law_due") (hb := fun _ _ _ _ _ _ us hl => match us, hl with | [_, _, _], _ => rfl)).ex
  obtain ⟨a_law, e_law, i_law, m_law, b_law, bb_law⟩ := (funT_mk (st := s_law) (ps := ["_law_script"]) X G c 41 41 83 (x := "law") (hb := fun _ _ _ _ _ _ us hl => match us, hl with | [_], _ => rfl)).ex
  cases hfa.symm.trans m_law
  refine ⟨_, fun s u => bb_law s [u] rfl, fun base tbs => ?_⟩
  have h_is_number : FnD P w K mg base (cOf mg) 1 "is_number" 3 F_is_number := ok_is_number B i_is_number m_is_number b_is_number
  have h_is_device : FnD P w K mg base (cOf mg) 2 "is_device" 1 F_is_device := ok_is_device B i_is_device m_is_device b_is_device c_SLIPS h_is_number
  have h_are_devices : FnD P w K mg base (cOf mg) 3 "are_devices" 1 F_are_devices := ok_are_devices B i_are_devices m_are_devices b_are_devices h_is_device
  have h_is_stretch : FnD P w K mg base (cOf mg) 2 "is_stretch" 1 F_is_stretch := ok_is_stretch B i_is_stretch m_is_stretch b_is_stretch c_LARGE h_is_number
  have h_is_reading_of : FnD P w K mg base (cOf mg) 3 "is_reading_of" 2 F_is_reading_of := ok_is_reading_of B i_is_reading_of m_is_reading_of b_is_reading_of c_LARGE h_is_number h_is_stretch
  have h_is_book_of : FnD P w K mg base (cOf mg) 4 "is_book_of" 1 F_is_book_of := ok_is_book_of B i_is_book_of m_is_book_of b_is_book_of c_MOST_READINGS h_are_devices h_is_reading_of
  have h_need_book : FnD P w K mg base (cOf mg) 5 "need_book" 1 F_need_book := ok_need_book B i_need_book m_need_book b_need_book x_InvalidBook h_is_book_of
  have h_need_stretch : FnD P w K mg base (cOf mg) 3 "need_stretch" 1 F_need_stretch := ok_need_stretch B i_need_stretch m_need_stretch b_need_stretch x_InvalidStretch h_is_stretch
  have h_limits : FnD P w K mg base (cOf mg) 1 "limits" 2 F_limits := ok_limits B i_limits m_limits b_limits
  have h_moments_of : FnD P w K mg base (cOf mg) 1 "moments_of" 2 F_moments_of := ok_moments_of B i_moments_of m_moments_of b_moments_of
  have h_more_of : FnD P w K mg base (cOf mg) 1 "more_of" 2 F_more_of := ok_more_of B i_more_of m_more_of b_more_of
  have h_links_of : FnD P w K mg base (cOf mg) 2 "links_of" 2 F_links_of := ok_links_of B i_links_of m_links_of b_links_of h_limits
  have h_web_of : FnD P w K mg base (cOf mg) 3 "web_of" 3 F_web_of := ok_web_of B i_web_of m_web_of b_web_of h_links_of h_more_of
  have h_can_be : FnD P w K mg base (cOf mg) 1 "can_be" 2 F_can_be := ok_can_be B i_can_be m_can_be b_can_be
  have h_is_possible_of : FnD P w K mg base (cOf mg) 4 "is_possible_of" 1 F_is_possible_of := ok_is_possible_of B i_is_possible_of m_is_possible_of b_is_possible_of h_moments_of h_web_of h_can_be
  have h_need_possible : FnD P w K mg base (cOf mg) 5 "need_possible" 1 F_need_possible := ok_need_possible B i_need_possible m_need_possible b_need_possible x_Impossible h_is_possible_of
  have h_need_menu : FnD P w K mg base (cOf mg) 3 "need_menu" 1 F_need_menu := ok_need_menu B i_need_menu m_need_menu b_need_menu x_InvalidMenu h_is_stretch
  have h_pieces : FnD P w K mg base (cOf mg) 1 "pieces" 5 F_pieces := ok_pieces B i_pieces m_pieces b_pieces
  have h_value_at : FnD P w K mg base (cOf mg) 1 "value_at" 2 F_value_at := ok_value_at B i_value_at m_value_at b_value_at
  have h_corners : FnD P w K mg base (cOf mg) 1 "corners" 1 F_corners := ok_corners B i_corners m_corners b_corners
  have h_counts_of : FnD P w K mg base (cOf mg) 1 "counts_of" 2 F_counts_of := ok_counts_of B i_counts_of m_counts_of b_counts_of
  have h_steepest : FnD P w K mg base (cOf mg) 1 "steepest" 1 F_steepest := ok_steepest B i_steepest m_steepest b_steepest
  have h_worst_width : FnD P w K mg base (cOf mg) 2 "worst_width" 3 F_worst_width := ok_worst_width B i_worst_width m_worst_width b_worst_width h_pieces h_counts_of h_steepest h_corners h_value_at
  have h_is_better : FnD P w K mg base (cOf mg) 1 "is_better" 2 F_is_better := ok_is_better B i_is_better m_is_better b_is_better
  have h_best_of : FnD P w K mg base (cOf mg) 4 "best_of" 3 F_best_of := ok_best_of B i_best_of m_best_of b_best_of h_moments_of h_web_of h_worst_width h_is_better
  have h_best_stretch : FnD P w K mg base (cOf mg) 6 "best_stretch" 3 F_best_stretch := ok_best_stretch B i_best_stretch m_best_stretch b_best_stretch h_need_book h_need_stretch h_need_menu h_need_possible h_best_of
  have h__law_flask : FnD P w K mg base (cOf mg) 1 "_law_flask" 2 F__law_flask := ok__law_flask B i__law_flask m__law_flask b__law_flask
  have h__law_sip : FnD P w K mg base (cOf mg) 1 "_law_sip" 2 F__law_sip := ok__law_sip B i__law_sip m__law_sip b__law_sip
  have h__law_steps : FnD P w K mg base (cOf mg) 1 "_law_steps" 3 F__law_steps := ok__law_steps B i__law_steps m__law_steps b__law_steps
  have h__law_limits : FnD P w K mg base (cOf mg) 1 "_law_limits" 2 F__law_limits := ok__law_limits B i__law_limits m__law_limits b__law_limits
  have h__law_any_walk : FnD P w K mg base (cOf mg) 2 "_law_any_walk" 3 F__law_any_walk := ok__law_any_walk B i__law_any_walk m__law_any_walk b__law_any_walk h__law_sip
  have h__law_any_stretch : FnD P w K mg base (cOf mg) 2 "_law_any_stretch" 2 F__law_any_stretch := ok__law_any_stretch B i__law_any_stretch m__law_any_stretch b__law_any_stretch h__law_sip
  have h__law_any_book : FnD P w K mg base (cOf mg) 3 "_law_any_book" 5 F__law_any_book := ok__law_any_book B i__law_any_book m__law_any_book b__law_any_book h__law_sip h__law_any_walk h__law_any_stretch h__law_steps
  have h__law_times : FnD P w K mg base (cOf mg) 1 "_law_times" 2 F__law_times := ok__law_times B i__law_times m__law_times b__law_times
  have h__law_bows : FnD P w K mg base (cOf mg) 2 "_law_bows" 2 F__law_bows := ok__law_bows B i__law_bows m__law_bows b__law_bows h__law_times h__law_limits
  have h__law_far_from : FnD P w K mg base (cOf mg) 1 "_law_far_from" 2 F__law_far_from := ok__law_far_from B i__law_far_from m__law_far_from b__law_far_from
  have h__law_can_be : FnD P w K mg base (cOf mg) 3 "_law_can_be" 2 F__law_can_be := ok__law_can_be B i__law_can_be m__law_can_be b__law_can_be h__law_bows h__law_far_from
  have h__law_bounds : FnD P w K mg base (cOf mg) 3 "_law_bounds" 2 F__law_bounds := ok__law_bounds B i__law_bounds m__law_bounds b__law_bounds h__law_bows h__law_far_from
  have h__law_word : HiD P w K mg base (cOf mg) "_law_word" H__law_word := ok__law_word B i__law_word m__law_word b__law_word t_Impossible t_InvalidMenu t_InvalidStretch t_WalkError
  have h__law_width : FnD P w K mg base (cOf mg) 4 "_law_width" 3 F__law_width := ok__law_width B i__law_width m__law_width b__law_width h__law_bounds
  have h__law_due : FnD P w K mg base (cOf mg) 5 "_law_due" 3 F__law_due := ok__law_due B i__law_due m__law_due b__law_due h__law_width
  exact ok_law B i_law m_law h__law_flask h__law_any_book h__law_any_stretch h__law_sip h__law_can_be h_best_stretch h__law_due h__law_word (tbs _ (mem_elem tn_law))
end
end K11
set_option Elab.async false
set_option linter.all false
set_option maxRecDepth 100000
set_option maxHeartbeats 4000000
/-! What is computed, no program in sight: the words by which the functions of Dk are reasoned about. -/
namespace Dk
open PySem PySem.Spec L2
def Ok {α : Type} (r : Rs α) (Q : α → Sto → Prop) (X : Exn → Sto → Prop) : Prop := match r with
  | some (.inl a, S) => Q a S
  | some (.inr e, S) => X e S
  | none => False
def OkS (r : Option (Fl × Env1 × Sto)) (Q : Fl → Env1 → Sto → Prop) : Prop := match r with
  | some (fl, ρ, S) => Q fl ρ S
  | none => False
def no : Exn → Sto → Prop := fun _ _ => False
theorem Ok.imp {α : Type} {r : Rs α} {Q Q' : α → Sto → Prop} {X X' : Exn → Sto → Prop} (h : Ok r Q X) (a : ∀ v S, Q v S → Q' v S) (b : ∀ e S, X e S → X' e S) : Ok r Q' X' := by
  unfold Ok at h ⊢
  split at h
  · exact a _ _ h
  · exact b _ _ h
  · exact h.elim
theorem OkS.imp {r : Option (Fl × Env1 × Sto)} {Q Q' : Fl → Env1 → Sto → Prop} (h : OkS r Q) (a : ∀ fl ρ S, Q fl ρ S → Q' fl ρ S) : OkS r Q' := by
  unfold OkS at h ⊢
  split at h
  · exact a _ _ _ h
  · exact h.elim
theorem Ok.eq {α : Type} {r : Rs α} {a : α} {S : Sto} (h : Ok r (fun b S' => b = a ∧ S' = S) no) : r = some (.inl a, S) := by
  unfold Ok at h
  split at h
  · obtain ⟨rfl, rfl⟩ := h
    rfl
  · exact h.elim
  · exact h.elim
section
variable {α β : Type} {Q : β → Sto → Prop} {Qa : α → Sto → Prop} {X : Exn → Sto → Prop} {S : Sto} {ρ : Env1} {a : α} {QO : OV → Sto → Prop} {QL : List OV → Sto → Prop} {QF : List D → Sto → Prop} {QB : Bool → Sto → Prop} {QS : Fl → Env1 → Sto → Prop}
  {f g h : E1} {t u : EB} {fs : EL} {lo hi : EO} {ff : EF}
@[simp] theorem ok_ret : Ok (ret a S) Qa X = Qa a S := rfl
@[simp] theorem ok_some : Ok (some (.inl a, S)) Qa X = Qa a S := rfl
@[simp] theorem ok_err {e : Exn} : Ok (some (.inr e, S)) Qa X = X e S := rfl
@[simp] theorem ok_none : Ok (none : Rs α) Qa X = False := rfl
@[simp] theorem ok_bind {r : Rs α} {k : α → Sto → Rs β} : Ok (r.bind k) Q X = Ok r (fun a S' => Ok (k a S') Q X) X := by
  cases r with
  | none => rfl
  | some z =>
    obtain ⟨z, S1⟩ := z
    cases z <;> rfl
@[simp] theorem ok_obind {γ : Type} {o : Option γ} {k : γ → Rs β} : Ok (o.bind k) Q X = ∃ c, o = some c ∧ Ok (k c) Q X := by
  cases o with
  | none => simp [Ok]
  | some c => simp
@[simp] theorem ok_if {c : Prop} [Decidable c] {r r' : Rs α} : Ok (if c then r else r') Qa X = if c then Ok r Qa X else Ok r' Qa X := by
  split <;> rfl
@[simp] theorem oks_some {fl : Fl} : OkS (some (fl, ρ, S)) QS = QS fl ρ S := rfl
@[simp] theorem oks_none : OkS none QS = False := rfl
@[simp] theorem oks_if {c : Prop} [Decidable c] {r r' : Option (Fl × Env1 × Sto)} : OkS (if c then r else r') QS = if c then OkS r QS else OkS r' QS := by
  split <;> rfl
@[simp] theorem oks_obind {γ : Type} {o : Option γ} {k : γ → Option (Fl × Env1 × Sto)} : OkS (o.bind k) QS = ∃ c, o = some c ∧ OkS (k c) QS := by
  cases o with
  | none => simp [OkS]
  | some c => simp
/-! expressions -/
@[simp] theorem ok_fVar {i : Nat} : Ok (fVar i ρ S) QO X = ∃ o, ρ[i]?.join = some o ∧ QO o S := by
  unfold fVar
  rw [ok_obind]
  rfl
@[simp] theorem ok_fC {d : D} : Ok (fC d ρ S) QO X = QO (.dat d) S := rfl
@[simp] theorem ok_op2 {o : Sto → OV → OV → Option D} : Ok (op2 o f g ρ S) QO X = Ok (f ρ S) (fun a S1 => Ok (g ρ S1) (fun b S2 => ∃ d, o S2 a b = some d ∧ QO (.dat d) S2) X) X := by
  unfold op2
  simp
@[simp] theorem ok_op1 {o : Sto → OV → Option D} : Ok (op1 o f ρ S) QO X = Ok (f ρ S) (fun a S1 => ∃ d, o S1 a = some d ∧ QO (.dat d) S1) X := by
  unfold op1
  simp
@[simp] theorem ok_opL {o : Sto → List OV → Option D} : Ok (opL o fs ρ S) QO X = Ok (fs ρ S) (fun a S1 => ∃ d, o S1 a = some d ∧ QO (.dat d) S1) X := by
  unfold opL
  simp
@[simp] theorem ok_opF {o : Sto → List OV → Option (List D)} : Ok (opF o fs ρ S) QF X = Ok (fs ρ S) (fun a S1 => ∃ d, o S1 a = some d ∧ QF d S1) X := by
  unfold opF
  simp
@[simp] theorem ok_frz : Ok (frz ff ρ S) QO X = Ok (ff ρ S) (fun ds S1 => QO (.dat (.list ds)) S1) X := by
  unfold frz
  simp
@[simp] theorem ok_ownL : Ok (ownL ff ρ S) QO X = Ok (ff ρ S) (fun ds S1 => QO (.own S1.length) (S1 ++ [.list ds])) X := by
  unfold ownL
  simp
@[simp] theorem ok_aNil : Ok (aNil ρ S) QL X = QL [] S := rfl
@[simp] theorem ok_aCons : Ok (aCons f fs ρ S) QL X = Ok (f ρ S) (fun a S1 => Ok (fs ρ S1) (fun as S2 => QL (a :: as) S2) X) X := by
  unfold aCons
  simp
@[simp] theorem ok_fCall {F : List OV → Sto → Rs OV} : Ok (fCall F fs ρ S) QO X = Ok (fs ρ S) (fun os S1 => Ok (F os S1) QO X) X := by
  unfold fCall
  simp
@[simp] theorem ok_bOf : Ok (bOf f ρ S) QB X = Ok (f ρ S) (fun a S1 => ∃ k, a = .dat (.bool k) ∧ QB k S1) X := by
  unfold bOf
  rw [ok_bind]
  congr 1
  funext a S1
  cases a with
  | own n => simp
  | dat d => cases d <;> simp
@[simp] theorem ok_bAnd : Ok (bAnd t u ρ S) QB X = Ok (t ρ S) (fun k S1 => if k = true then Ok (u ρ S1) QB X else QB false S1) X := by
  unfold bAnd
  simp
@[simp] theorem ok_bOr : Ok (bOr t u ρ S) QB X = Ok (t ρ S) (fun k S1 => if k = true then QB true S1 else Ok (u ρ S1) QB X) X := by
  unfold bOr
  simp
@[simp] theorem ok_bNot : Ok (bNot t ρ S) QB X = Ok (t ρ S) (fun k S1 => QB (!k) S1) X := by
  unfold bNot
  simp
@[simp] theorem ok_bYes : Ok (bYes ρ S) QB X = QB true S := rfl
@[simp] theorem ok_vAnd : Ok (vAnd f g ρ S) QO X = Ok (bOf f ρ S) (fun k S1 => if k = true then Ok (g ρ S1) QO X else QO (.dat (.bool false)) S1) X := by
  unfold vAnd
  rw [ok_bind]
  simp only [ok_if, ok_ret]
@[simp] theorem ok_vOr : Ok (vOr f g ρ S) QO X = Ok (bOf f ρ S) (fun k S1 => if k = true then QO (.dat (.bool true)) S1 else Ok (g ρ S1) QO X) X := by
  unfold vOr
  rw [ok_bind]
  simp only [ok_if, ok_ret]
@[simp] theorem ok_vNot : Ok (vNot f ρ S) QO X = Ok (bOf f ρ S) (fun k S1 => QO (.dat (.bool (!k))) S1) X := by
  unfold vNot
  rw [ok_bind]
  simp only [ok_ret]
@[simp] theorem ok_vIf : Ok (vIf t f g ρ S) QO X = Ok (t ρ S) (fun k S1 => if k = true then Ok (f ρ S1) QO X else Ok (g ρ S1) QO X) X := by
  unfold vIf
  simp
@[simp] theorem ok_chn {o o' : Sto → OV → OV → Option D} : Ok (chn o o' f g h ρ S) QO X = Ok (f ρ S) (fun a S1 => Ok (g ρ S1) (fun b S2 => ∃ k, o S2 a b = some (.bool k) ∧
    if k = true then Ok (h ρ S2) (fun c S3 => ∃ d, o' S3 b c = some d ∧ QO (.dat d) S3) X else QO (.dat (.bool false)) S2) X) X := by
  unfold chn
  rw [ok_bind]
  congr 1
  funext a S1
  rw [ok_bind]
  congr 1
  funext b S2
  rw [ok_obind]
  apply propext
  constructor
  · rintro ⟨c, e, h⟩
    cases c with
    | bool k => exact ⟨k, e, by cases k <;> simpa using h⟩
    | _ => simp at h
  · rintro ⟨k, e, h⟩
    exact ⟨_, e, by cases k <;> simpa using h⟩
@[simp] theorem ok_fTup : Ok (fTup fs ρ S) QO X = Ok (fs ρ S) (fun as S1 => ∃ ds, dats as = some ds ∧ ds.length ≤ sizeLine ∧ QO (.dat (.tuple ds)) S1) X := by
  unfold fTup
  rw [ok_bind]
  congr 1
  funext as S1
  rw [ok_obind]
  apply propext
  constructor
  · rintro ⟨c, e, h⟩
    exact ⟨c, e, by split at h <;> simp_all⟩
  · rintro ⟨c, e, h1, h2⟩
    exact ⟨c, e, by rw [if_pos h1]; exact h2⟩
@[simp] theorem ok_fLst : Ok (fLst fs ρ S) QF X = Ok (fs ρ S) (fun as S1 => ∃ ds, dats as = some ds ∧ ds.length ≤ sizeLine ∧ QF ds S1) X := by
  unfold fLst
  rw [ok_bind]
  congr 1
  funext as S1
  rw [ok_obind]
  apply propext
  constructor
  · rintro ⟨c, e, h⟩
    exact ⟨c, e, by split at h <;> simp_all⟩
  · rintro ⟨c, e, h1, h2⟩
    exact ⟨c, e, by rw [if_pos h1]; exact h2⟩
@[simp] theorem viewI_dat {d : D} : viewI S (.dat d) = some d := rfl
theorem viewI_own {n : Nat} {ds : List D} (h : S[n]? = some (.list ds)) : viewI S (.own n) = some (.list ds) := by
  show (match S[n]? with
    | some (.dict kvs) => if isLk kvs = true then none else some (.dict kvs)
    | r => r) = some (PyData.list ds)
  rw [h]
@[simp] theorem ok_isiF {T : String} : Ok (isiF T f ρ S) QO X = Ok (f ρ S) (fun a S1 => ∃ d, viewI S1 a = some d ∧ QO (.dat (.bool (isTy (tyName d) T))) S1) X := by
  unfold isiF
  simp
@[simp] theorem ok_oNone {QI : Option Int → Sto → Prop} : Ok (oNone ρ S) QI X = QI none S := rfl
@[simp] theorem ok_oSome {QI : Option Int → Sto → Prop} : Ok (oSome f ρ S) QI X = Ok (f ρ S) (fun a S1 => ∃ i, a = .dat (.int i) ∧ QI (some i) S1) X := by
  unfold oSome
  rw [ok_bind]
  congr 1
  funext a S1
  cases a with
  | own n => simp
  | dat d => cases d <;> simp
@[simp] theorem ok_fSl : Ok (fSl f lo hi ρ S) QO X = Ok (f ρ S) (fun a S1 => Ok (lo ρ S1) (fun l S2 => Ok (hi ρ S2) (fun h S3 => ∃ d, slS S3 a l h = some d ∧ QO (.dat d) S3) X) X) X := by
  unfold fSl
  simp
@[simp] theorem ok_fSlL : Ok (fSlL f lo hi ρ S) QF X = Ok (f ρ S) (fun a S1 => Ok (lo ρ S1) (fun l S2 => Ok (hi ρ S2) (fun h S3 => ∃ d, slL S3 a l h = some d ∧ QF d S3) X) X) X := by
  unfold fSlL
  simp
@[simp] theorem ok_fJoin : Ok (fJoin f g ρ S) QO X = Ok (f ρ S) (fun a S1 => isStrO S1 a = true ∧ Ok (g ρ S1) (fun b S2 => ∃ d, joinS S2 a b = some d ∧ QO (.dat d) S2) X) X := by
  unfold fJoin
  rw [ok_bind]
  congr 1
  funext a S1
  cases isStrO S1 a <;> simp
@[simp] theorem ok_fSplit : Ok (fSplit f g ρ S) QF X = Ok (f ρ S) (fun a S1 => isStrO S1 a = true ∧ Ok (g ρ S1) (fun b S2 => ∃ d, splitS S2 a b = some d ∧ QF d S2) X) X := by
  unfold fSplit
  rw [ok_bind]
  congr 1
  funext a S1
  cases isStrO S1 a <;> simp
@[simp] theorem ok_fApp : Ok (fApp f fs ρ S) QO X = Ok (f ρ S) (fun o S1 => ∃ l, viewL S1 o = some l ∧ Ok (fs ρ S1) (fun as S2 => ∃ n d ds, o = .own n ∧ as = [.dat d] ∧ S2[n]? = some (.list ds) ∧ ds.length < sizeLine ∧ QO (.dat .none) (S2.set n (.list (ds ++ [d])))) X) X := by
  unfold fApp
  rw [ok_bind]
  congr 1
  funext o S1
  rw [ok_obind]
  congr 1
  funext l
  congr 1
  rw [ok_bind]
  congr 1
  funext as S2
  apply propext
  constructor
  · intro h
    split at h
    · split at h
      · rename_i n d ds e
        simp only [ok_if, ok_ret, ok_none] at h
        split at h
        · exact ⟨_, _, _, rfl, rfl, e, by assumption, h⟩
        · exact h.elim
      · exact h.elim
    · exact h.elim
  · rintro ⟨n, d, ds, rfl, rfl, e, h1, h2⟩
    simp [e, h1, h2]
theorem wd_str {kvs : List (Str × Int)} {o : Option D} {k : Option Int → Rs OV} : Ok (match o with
      | some (.str z) => k (kvs.lookup z)
      | _ => none) QO X = ∃ z, o = some (.str z) ∧ Ok (k (kvs.lookup z)) QO X := by
  cases o with
  | none => simp
  | some d => cases d <;> simp
@[simp] theorem ok_inWD {kvs : List (Str × Int)} : Ok (inWD kvs f ρ S) QO X = Ok (f ρ S) (fun a S1 => ∃ z, view S1 a = some (.str z) ∧ QO (.dat (.bool (kvs.lookup z).isSome)) S1) X := by
  unfold inWD
  rw [ok_bind]
  congr 1
  funext a S1
  exact wd_str (k := fun r => ret (.dat (.bool r.isSome)) S1)
@[simp] theorem ok_notInWD {kvs : List (Str × Int)} : Ok (notInWD kvs f ρ S) QO X = Ok (f ρ S) (fun a S1 => ∃ z, view S1 a = some (.str z) ∧ QO (.dat (.bool (!(kvs.lookup z).isSome))) S1) X := by
  unfold notInWD
  rw [ok_bind]
  congr 1
  funext a S1
  exact wd_str (k := fun r => ret (.dat (.bool (!r.isSome))) S1)
@[simp] theorem ok_ixWD {kvs : List (Str × Int)} : Ok (ixWD kvs f ρ S) QO X = Ok (f ρ S) (fun a S1 => ∃ z, view S1 a = some (.str z) ∧ ∃ i, kvs.lookup z = some i ∧ QO (.dat (.int i)) S1) X := by
  unfold ixWD
  rw [ok_bind]
  congr 1
  funext a S1
  refine (wd_str (k := fun r => r.bind fun i => ret (.dat (.int i)) S1)).trans ?_
  simp only [ok_obind, ok_ret]
@[simp] theorem ok_fSortSet : Ok (fSortSet f ρ S) QF X = Ok (f ρ S) (fun o S1 => ∃ ds, viewL S1 o = some ds ∧ ∃ ns, asInts ds = some ns ∧ ns.length < 64 ∧ QF ((sortU ns).map .int) S1) X := by
  unfold fSortSet
  rw [ok_bind]
  congr 1
  funext o S1
  simp only [ok_obind, ok_if, ok_ret, ok_none]
  apply propext
  constructor
  · rintro ⟨ds, h1, ns, h2, h3⟩
    split at h3
    · exact ⟨ds, h1, ns, h2, by assumption, h3⟩
    · exact h3.elim
  · rintro ⟨ds, h1, ns, h2, h3, h4⟩
    exact ⟨ds, h1, ns, h2, by rw [if_pos h3]; exact h4⟩
/-! statements -/
@[simp] theorem ok_sE {k : OV → SS} : OkS (sE f k ρ S) QS = Ok (f ρ S) (fun a S1 => OkS (k a ρ S1) QS) (fun e S1 => QS (.er e) ρ S1) := by
  unfold sE
  cases f ρ S with
  | none => rfl
  | some z =>
    obtain ⟨z, S1⟩ := z
    cases z <;> rfl
@[simp] theorem ok_sB {k : Bool → SS} : OkS (sB t k ρ S) QS = Ok (t ρ S) (fun a S1 => OkS (k a ρ S1) QS) (fun e S1 => QS (.er e) ρ S1) := by
  unfold sB
  cases t ρ S with
  | none => rfl
  | some z =>
    obtain ⟨z, S1⟩ := z
    cases z <;> rfl
@[simp] theorem ok_sNx : OkS (sNx ρ S) QS = QS .nx ρ S := rfl
/-- what is asked ahead of a statement, for behind it -/
def thenS (b : SS) (QS : Fl → Env1 → Sto → Prop) : Fl → Env1 → Sto → Prop
  | .nx, ρ, S => OkS (b ρ S) QS
  | fl, ρ, S => QS fl ρ S
@[simp] theorem thenS_nx {b : SS} : thenS b QS .nx ρ S = OkS (b ρ S) QS := rfl
@[simp] theorem thenS_rt {b : SS} {o : OV} : thenS b QS (.rt o) ρ S = QS (.rt o) ρ S := rfl
@[simp] theorem thenS_er {b : SS} {e : Exn} : thenS b QS (.er e) ρ S = QS (.er e) ρ S := rfl
@[simp] theorem thenS_bk {b : SS} : thenS b QS .bk ρ S = QS .bk ρ S := rfl
@[simp] theorem thenS_ct {b : SS} : thenS b QS .ct ρ S = QS .ct ρ S := rfl
@[simp] theorem ok_sSeq {a b : SS} : OkS (sSeq a b ρ S) QS = OkS (a ρ S) (thenS b QS) := by
  unfold sSeq
  cases a ρ S with
  | none => rfl
  | some z =>
    obtain ⟨z, ρ1, S1⟩ := z
    cases z <;> rfl
@[simp] theorem ok_sExpr : OkS (sExpr f ρ S) QS = Ok (f ρ S) (fun _ S1 => QS .nx ρ S1) (fun e S1 => QS (.er e) ρ S1) := by
  unfold sExpr
  simp
@[simp] theorem ok_sAsg {tg : Tg} : OkS (sAsg f tg ρ S) QS = Ok (f ρ S) (fun a S1 => ∃ ρ1, tg a ρ = some ρ1 ∧ QS .nx ρ1 S1) (fun e S1 => QS (.er e) ρ S1) := by
  unfold sAsg
  simp
@[simp] theorem ok_sRet : OkS (sRet f ρ S) QS = Ok (f ρ S) (fun a S1 => QS (.rt a) ρ S1) (fun e S1 => QS (.er e) ρ S1) := by
  unfold sRet
  simp
@[simp] theorem ok_sRetN : OkS (sRetN ρ S) QS = QS (.rt (.dat .none)) ρ S := rfl
@[simp] theorem ok_sIf {a b : SS} : OkS (sIf t a b ρ S) QS = Ok (t ρ S) (fun k S1 => if k = true then OkS (a ρ S1) QS else OkS (b ρ S1) QS) (fun e S1 => QS (.er e) ρ S1) := by
  unfold sIf
  simp
@[simp] theorem ok_sRaise {c : Str} : OkS (sRaise c ρ S) QS = QS (.er ⟨c, none⟩) ρ S := rfl
@[simp] theorem ok_sNone : OkS (sNone ρ S) QS = False := rfl
@[simp] theorem ok_sPar {i j : Nat} : OkS (sPar i j fs ρ S) QS = Ok (fs ρ S) (fun as S1 => ∃ a b, as = [a, b] ∧ QS .nx ((ρ.set i (some a)).set j (some b)) S1) (fun e S1 => QS (.er e) ρ S1) := by
  unfold sPar
  cases fs ρ S with
  | none => rfl
  | some z =>
    obtain ⟨z, S1⟩ := z
    cases z with
    | inr e => rfl
    | inl as =>
      match as with
      | [] => simp [Ok, OkS]
      | [a] => simp [Ok, OkS]
      | [a, b] => exact propext ⟨fun h => ⟨a, b, rfl, h⟩, fun ⟨_, _, e, h⟩ => by cases e; exact h⟩
      | a :: b :: c :: r => simp [Ok, OkS]
@[simp] theorem ok_sSetIx : OkS (sSetIx f g h ρ S) QS = Ok (h ρ S) (fun v S1 => Ok (f ρ S1) (fun o S2 => Ok (g ρ S2) (fun i S3 => ∃ d n k ds j, v = .dat d ∧ o = .own n ∧ i = .dat (.int k) ∧ S3[n]? = some (.list ds) ∧ ixN ds.length k = some j ∧
    QS .nx ρ (S3.set n (.list (ds.set j d)))) (fun e S1 => QS (.er e) ρ S1)) (fun e S1 => QS (.er e) ρ S1)) (fun e S1 => QS (.er e) ρ S1) := by
  unfold sSetIx
  simp only [ok_sE]
  congr 1
  funext v S1
  congr 1
  funext o S2
  congr 1
  funext i S3
  apply propext
  constructor
  · intro hh
    split at hh
    · split at hh
      · rename_i d n k _ ds e
        rw [oks_obind] at hh
        obtain ⟨j, h1, h2⟩ := hh
        exact ⟨_, _, _, _, _, rfl, rfl, rfl, e, h1, h2⟩
      · exact hh.elim
    · exact hh.elim
  · rintro ⟨d, n, k, ds, j, rfl, rfl, rfl, e, h1, h2⟩
    simp [e, h1, h2]
/-! targets, iterables -/
@[simp] theorem tgN_eq {i : Nat} {o : OV} : tgN i o ρ = some (ρ.set i (some o)) := rfl
@[simp] theorem tgTup_eq {n : Nat} {ts : Tgs} {ds : List D} : tgTup n ts (.dat (.tuple ds)) ρ = if ds.length = n then ts (ds.map .dat) ρ else none := rfl
@[simp] theorem tgCons_eq {tg : Tg} {ts : Tgs} {o : OV} {r : List OV} : tgCons tg ts (o :: r) ρ = (tg o ρ).bind fun ρ1 => ts r ρ1 := rfl
@[simp] theorem tgNil_eq : tgNil [] ρ = some ρ := rfl
@[simp] theorem view_dat {d : D} : view S (.dat d) = some d := rfl
@[simp] theorem view_own {n : Nat} : view S (.own n) = S[n]? := rfl
@[simp] theorem dats_nil : dats [] = some [] := rfl
@[simp] theorem dats_cons {d : D} {r : List OV} : dats (.dat d :: r) = (dats r).map (d :: ·) := by show (dats r).bind _ = _; cases dats r <;> rfl
@[simp] theorem ok_iSeq {QI : List D × Option Nat → Sto → Prop} : Ok (iSeq f ρ S) QI X = Ok (f ρ S) (fun o S1 => (∃ ds, view S1 o = some (.list ds) ∧ QI (ds, srcOf o) S1) ∨ (∃ ds, view S1 o = some (.tuple ds) ∧ QI (ds, none) S1) ∨ ∃ x, view S1 o = some (.str x) ∧ QI (x.cps.toList.map fun c => .str ⟨#[c]⟩, none) S1) X := by
  unfold iSeq
  rw [ok_bind]
  congr 1
  funext o S1
  cases e : view S1 o with
  | none => simp
  | some d => cases d <;> simp
@[simp] theorem ok_iRg1 {QI : List D × Option Nat → Sto → Prop} : Ok (iRg1 fs ρ S) QI X = Ok (fs ρ S) (fun os S1 => ∃ j, os = [.dat (.int j)] ∧ -lim62 ≤ j ∧ j < lim62 ∧ QI ((List.range j.toNat).map fun i : Nat => .int (0 + i), none) S1) X := by
  unfold iRg1
  rw [ok_bind]
  congr 1
  funext os S1
  apply propext
  constructor
  · intro hh
    split at hh
    · simp only [ok_if, ok_ret, ok_none] at hh
      split at hh
      · rename_i j c
        exact ⟨j, rfl, c.1, c.2, hh⟩
      · exact hh.elim
    · exact hh.elim
  · rintro ⟨j, rfl, h1, h2, h3⟩
    simp only [ok_if, ok_ret, ok_none]
    rw [if_pos ⟨h1, h2⟩]
    exact h3
@[simp] theorem ok_iRg2 {QI : List D × Option Nat → Sto → Prop} : Ok (iRg2 fs ρ S) QI X = Ok (fs ρ S) (fun os S1 => ∃ i j, os = [.dat (.int i), .dat (.int j)] ∧ -lim62 ≤ i ∧ i < lim62 ∧ -lim62 ≤ j ∧ j < lim62 ∧ QI ((List.range (j - i).toNat).map fun k : Nat => .int (i + k), none) S1) X := by
  unfold iRg2
  rw [ok_bind]
  congr 1
  funext os S1
  apply propext
  constructor
  · intro hh
    split at hh
    · simp only [ok_if, ok_ret, ok_none] at hh
      split at hh
      · rename_i i j c
        exact ⟨i, j, rfl, c.1, c.2.1, c.2.2.1, c.2.2.2, hh⟩
      · exact hh.elim
    · exact hh.elim
  · rintro ⟨i, j, rfl, h1, h2, h3, h4, h5⟩
    simp only [ok_if, ok_ret, ok_none]
    rw [if_pos ⟨h1, h2, h3, h4⟩]
    exact h5
@[simp] theorem ok_iZp {QI : List D × Option Nat → Sto → Prop} : Ok (iZp fs ρ S) QI X = Ok (fs ρ S) (fun os S1 => (∃ xs ys, os = [.dat (.list xs), .dat (.list ys)] ∧ QI (pairUp xs ys, none) S1) ∨ ∃ xs ys, os = [.dat (.tuple xs), .dat (.tuple ys)] ∧ QI (pairUp xs ys, none) S1) X := by
  unfold iZp
  rw [ok_bind]
  congr 1
  funext os S1
  apply propext
  constructor
  · intro hh
    split at hh
    · exact .inl ⟨_, _, rfl, hh⟩
    · exact .inr ⟨_, _, rfl, hh⟩
    · exact hh.elim
  · rintro (⟨xs, ys, rfl, hh⟩ | ⟨xs, ys, rfl, hh⟩) <;> exact hh
@[simp] theorem wipeR_nil : wipeR ρ [] = ρ := rfl
@[simp] theorem wipeR_cons {v : Nat} {vs : List Nat} : wipeR ρ (v :: vs) = (wipeR ρ vs).set v none := rfl
/-! loops -/
@[simp] theorem ok_sFor {fi : EI} {tg : Tg} {body : SS} : OkS (sFor fi tg body ρ S) QS = Ok (fi ρ S) (fun p S1 => OkS (forL p.2 p.1 tg body p.1 ρ S1) QS) (fun e S1 => QS (.er e) ρ S1) := by
  unfold sFor
  cases fi ρ S with
  | none => rfl
  | some z =>
    obtain ⟨z, S1⟩ := z
    cases z <;> rfl
theorem for_inv {src : Option Nat} {items : List D} {tg : Tg} {body : SS} (I : List D → Env1 → Sto → Prop) (step : ∀ d r ρ S, I (d :: r) ρ S → srcOk src items S ∧ ∃ ρ1, tg (.dat d) ρ = some ρ1 ∧ OkS (body ρ1 S) (fun fl ρ2 S2 => match fl with
      | .nx => I r ρ2 S2
      | .ct => I r ρ2 S2
      | .bk => QS .nx ρ2 S2
      | fl => QS fl ρ2 S2)) (fin : ∀ ρ S, I [] ρ S → srcOk src items S ∧ QS .nx ρ S) : ∀ (ds : List D) {ρ : Env1} {S : Sto}, I ds ρ S → OkS (forL src items tg body ds ρ S) QS
  | [], ρ, S, h => by
    unfold forL
    obtain ⟨a, b⟩ := fin ρ S h
    rw [if_pos a]
    exact b
  | d :: r, ρ, S, h => by
    unfold forL
    obtain ⟨a, ρ1, b, c⟩ := step d r ρ S h
    rw [if_pos a, b]
    show OkS (match body ρ1 S with
      | none => none
      | some (.nx, ρ2, S2) => forL src items tg body r ρ2 S2
      | some (.ct, ρ2, S2) => forL src items tg body r ρ2 S2
      | some (.bk, ρ2, S2) => some (.nx, ρ2, S2)
      | some (.rt o, ρ2, S2) => some (.rt o, ρ2, S2)
      | some (.er e, ρ2, S2) => some (.er e, ρ2, S2)) QS
    cases e : body ρ1 S with
    | none => rw [e] at c; exact c
    | some z =>
      obtain ⟨fl, ρ2, S2⟩ := z
      rw [e] at c
      cases fl with
      | nx => exact for_inv I step fin r c
      | ct => exact for_inv I step fin r c
      | bk => exact c
      | rt o => exact c
      | er e => exact c
@[simp] theorem srcOk_dat {items : List D} : srcOk none items S = True := by simp [srcOk]
@[simp] theorem srcOk_own {n : Nat} {items : List D} : srcOk (some n) items S = (S[n]? = some (.list items)) := by simp [srcOk]
@[simp] theorem srcOf_dat {d : D} : srcOf (.dat d) = none := rfl
@[simp] theorem srcOf_own {n : Nat} : srcOf (.own n) = some n := rfl
/-- a comprehension behind its first iterable -/
noncomputable def lcR (src : Option Nat) (items : List D) (tg : Tg) (tst : EB) (elt : E1) (σ : Env1) (S : Sto) : Rs (List D) := (lcL src items tg tst elt S.length σ items (S ++ [.list []])).bind fun S2 => popAt S.length S2
theorem lc_inv {src : Option Nat} {items : List D} {tg : Tg} {tst : EB} {elt : E1} {n0 : Nat} {σ : Env1} (I : List D → List D → Sto → Prop) (step : ∀ d r acc S, I (d :: r) acc S → S.length = n0 ∧ acc.length < sizeLine ∧ srcOk src items (S ++ [.list acc]) ∧ ∃ ρ1, tg (.dat d) σ = some ρ1 ∧
      Ok (tst ρ1 (S ++ [.list acc])) (fun k S1 => if k = true then Ok (elt ρ1 S1) (fun o S2 => ∃ e S3, o = .dat e ∧ S2 = S3 ++ [.list acc] ∧ S3.length = n0 ∧ I r (acc ++ [e]) S3) no else ∃ S3, S1 = S3 ++ [.list acc] ∧ S3.length = n0 ∧ I r acc S3) no)
    (fin : ∀ acc S, I [] acc S → S.length = n0 ∧ srcOk src items (S ++ [.list acc]) ∧ QF acc S) : ∀ (ds acc : List D) {S : Sto}, I ds acc S → Ok ((lcL src items tg tst elt n0 σ ds (S ++ [.list acc])).bind fun S2 => popAt n0 S2) QF X
  | [], acc, S, h => by
    unfold lcL
    obtain ⟨l, a, b⟩ := fin acc S h
    rw [if_pos a, ok_obind]
    refine ⟨_, rfl, ?_⟩
    unfold popAt
    subst l
    simpa using b
  | d :: r, acc, S, h => by
    unfold lcL
    obtain ⟨l, la, a, ρ1, b, c⟩ := step d r acc S h
    rw [if_pos a, b]
    show Ok (Option.bind (match tst ρ1 (S ++ [.list acc]) with
      | some (.inl true, S1) => match elt ρ1 S1 with
        | some (.inl o, S2) => (putAt n0 S2 o).bind fun S3 => lcL src items tg tst elt n0 σ r S3
        | _ => none
      | some (.inl false, S1) => lcL src items tg tst elt n0 σ r S1
      | _ => none) _) QF X
    cases e : tst ρ1 (S ++ [.list acc]) with
    | none => rw [e] at c; exact c.elim
    | some z =>
      obtain ⟨z, S1⟩ := z
      rw [e] at c
      cases z with
      | inr _ => exact c.elim
      | inl k =>
        cases k with
        | false =>
          obtain ⟨S3, e1, e2, e3⟩ := (show ∃ S3, S1 = S3 ++ [.list acc] ∧ S3.length = n0 ∧ I r acc S3 from by simpa [Ok] using c)
          subst e1
          exact lc_inv I step fin r acc e3
        | true =>
          have c2 : Ok (elt ρ1 S1) (fun o S2 => ∃ e S3, o = .dat e ∧ S2 = S3 ++ [.list acc] ∧ S3.length = n0 ∧ I r (acc ++ [e]) S3) no := by simpa [Ok] using c
          show Ok (Option.bind (match elt ρ1 S1 with
            | some (.inl o, S2) => (putAt n0 S2 o).bind fun S3 => lcL src items tg tst elt n0 σ r S3
            | _ => none) _) QF X
          cases e2 : elt ρ1 S1 with
          | none => rw [e2] at c2; exact c2.elim
          | some z =>
            obtain ⟨z, S2⟩ := z
            rw [e2] at c2
            cases z with
            | inr _ => exact c2.elim
            | inl o =>
              obtain ⟨x, S3, rfl, rfl, e4, e5⟩ := c2
              have p : putAt n0 (S3 ++ [.list acc]) (.dat x) = some (S3 ++ [.list (acc ++ [x])]) := by
                unfold putAt
                subst e4
                simp [la]
              show Ok (Option.bind ((putAt n0 (S3 ++ [.list acc]) (.dat x)).bind fun S3 => lcL src items tg tst elt n0 σ r S3) _) QF X
              rw [p]
              exact lc_inv I step fin r (acc ++ [x]) e5
@[simp] theorem ok_lc {fi : EI} {tg : Tg} {tst : EB} {elt : E1} {vs : List Nat} : Ok (fLc fi tg tst elt vs ρ S) QF X = Ok (fi ρ S) (fun p S1 => Ok (lcR p.2 p.1 tg tst elt (wipeR ρ vs) S1) QF X) X := by
  unfold fLc
  rw [ok_bind]
  rfl
theorem lc_fold {src : Option Nat} {items : List D} {tg : Tg} {tst : EB} {elt : E1} {σ : Env1} (I : List D → List D → Sto → Prop) (start : I items [] S) (step : ∀ d r acc S', I (d :: r) acc S' → S'.length = S.length ∧ acc.length < sizeLine ∧ srcOk src items (S' ++ [.list acc]) ∧ ∃ ρ1, tg (.dat d) σ = some ρ1 ∧
      Ok (tst ρ1 (S' ++ [.list acc])) (fun k S1 => if k = true then Ok (elt ρ1 S1) (fun o S2 => ∃ e S3, o = .dat e ∧ S2 = S3 ++ [.list acc] ∧ S3.length = S.length ∧ I r (acc ++ [e]) S3) no else ∃ S3, S1 = S3 ++ [.list acc] ∧ S3.length = S.length ∧ I r acc S3) no)
    (fin : ∀ acc S', I [] acc S' → S'.length = S.length ∧ srcOk src items (S' ++ [.list acc]) ∧ QF acc S') : Ok (lcR src items tg tst elt σ S) QF X := lc_inv I step fin items [] start
/-- a comprehension whose parts leave the store as it is -/
theorem lc_mapF {α : Type} {src : Option Nat} {tg : Tg} {tst : EB} {elt : E1} {σ : Env1} (f : α → D) (l : List α) (p : α → Bool) (φ : α → D) (hl : l.length ≤ sizeLine) (hs : ∀ acc, srcOk src (l.map f) (S ++ [.list acc]))
    (h : ∀ d ∈ l, ∀ T, ∃ ρ1, tg (.dat (f d)) σ = some ρ1 ∧ Ok (tst ρ1 T) (fun k T' => k = p d ∧ T' = T ∧ (p d = true → Ok (elt ρ1 T) (fun o T' => o = .dat (φ d) ∧ T' = T) no)) no) (q : QF ((l.filter p).map φ) S) :
    Ok (lcR src (l.map f) tg tst elt σ S) QF X := by
  refine lc_fold (I := fun ds acc S' => S' = S ∧ ∃ us vs, l = us ++ vs ∧ ds = vs.map f ∧ acc = (us.filter p).map φ) ⟨rfl, [], l, rfl, rfl, rfl⟩ (fun d r acc S' hI => ?_) (fun acc S' hI => ?_)
  · obtain ⟨rfl, us, vs, e, e2, rfl⟩ := hI
    cases vs with
    | nil => cases e2
    | cons v vs =>
      cases e2
      have hd : v ∈ l := by rw [e]; simp
      obtain ⟨ρ1, h1, h2⟩ := h v hd (S' ++ [.list ((us.filter p).map φ)])
      refine ⟨rfl, ?_, hs _, ρ1, h1, h2.imp (fun k T' z => ?_) fun _ _ z => z⟩
      · have l1 : (us.filter p).length ≤ us.length := List.length_filter_le ..
        have l2 := congrArg List.length e
        simp at l2 ⊢
        omega
      · obtain ⟨rfl, rfl, z⟩ := z
        cases hp : p v with
        | true =>
          simp only [if_true]
          refine (z hp).imp (fun o T' y => ?_) fun _ _ z => z
          obtain ⟨rfl, rfl⟩ := y
          exact ⟨_, S', rfl, rfl, rfl, rfl, us ++ [v], vs, by rw [e]; simp, rfl, by simp [hp]⟩
        | false =>
          simp only [Bool.false_eq_true, if_false]
          exact ⟨S', rfl, rfl, rfl, us ++ [v], vs, by rw [e]; simp, rfl, by simp [hp]⟩
  · obtain ⟨rfl, us, vs, e, e2, rfl⟩ := hI
    cases vs with
    | cons v vs => cases e2
    | nil =>
      rw [List.append_nil] at e
      subst e
      exact ⟨rfl, hs _, q⟩
theorem lc_mapT {α : Type} {src : Option Nat} {tg : Tg} {elt : E1} {σ : Env1} (f : α → D) (l : List α) (φ : α → D) (hl : l.length ≤ sizeLine) (hs : ∀ acc, srcOk src (l.map f) (S ++ [.list acc]))
    (h : ∀ d ∈ l, ∀ T, ∃ ρ1, tg (.dat (f d)) σ = some ρ1 ∧ Ok (elt ρ1 T) (fun o T' => o = .dat (φ d) ∧ T' = T) no) (q : QF (l.map φ) S) : Ok (lcR src (l.map f) tg bYes elt σ S) QF X :=
  lc_mapF f l (fun _ => true) φ hl hs (fun d hd T => by
    obtain ⟨ρ1, h1, h2⟩ := h d hd T
    exact ⟨ρ1, h1, rfl, rfl, fun _ => h2⟩) (by
    have e : l.filter (fun _ => true) = l := by simp
    rw [e]
    exact q)
theorem lc_map {src : Option Nat} {items : List D} {tg : Tg} {tst : EB} {elt : E1} {σ : Env1} (p : D → Bool) (φ : D → D) (hl : items.length ≤ sizeLine) (hs : ∀ acc, srcOk src items (S ++ [.list acc]))
    (h : ∀ d ∈ items, ∀ T, ∃ ρ1, tg (.dat d) σ = some ρ1 ∧ Ok (tst ρ1 T) (fun k T' => k = p d ∧ T' = T ∧ (p d = true → Ok (elt ρ1 T) (fun o T' => o = .dat (φ d) ∧ T' = T) no)) no) (q : QF ((items.filter p).map φ) S) :
    Ok (lcR src items tg tst elt σ S) QF X := by
  have e : items.map (fun d : D => d) = items := List.map_id' _
  have := lc_mapF (QF := QF) (X := X) (src := src) (tg := tg) (tst := tst) (elt := elt) (σ := σ) (S := S) (fun d : D => d) items p φ hl (by rw [e]; exact hs) h q
  rw [e] at this
  exact this
end
/-! defs -/
section
variable {QO : OV → Sto → Prop} {X : Exn → Sto → Prop} {S : Sto}
theorem ok_run {n m : Nat} {g : SS} {os : List OV} (hn : os.length = n) (h : OkS (g (os.map some ++ List.replicate (m - n) none) S) (fun fl _ S' => match fl with
      | .rt (.dat d) => QO (.dat d) (S'.take S.length)
      | .rt (.own k) => if k < S.length then QO (.own k) (S'.take S.length) else ∃ ds, S'[k]? = some (.list ds) ∧ QO (.dat (.list ds)) (S'.take S.length)
      | .nx => QO (.dat .none) (S'.take S.length)
      | .er e => X e (S'.take S.length)
      | _ => False)) : Ok (runF n m g os S) QO X := by
  unfold runF
  rw [if_pos hn]
  cases e : g (os.map some ++ List.replicate (m - n) none) S with
  | none => rw [e] at h; exact h.elim
  | some z =>
    obtain ⟨fl, ρ, S'⟩ := z
    rw [e] at h
    cases fl with
    | nx => exact h
    | bk => exact h.elim
    | ct => exact h.elim
    | er x => exact h
    | rt o =>
      cases o with
      | dat d => exact h
      | own k =>
        have h1 : if k < S.length then QO (.own k) (S'.take S.length) else ∃ ds, S'[k]? = some (.list ds) ∧ QO (.dat (.list ds)) (S'.take S.length) := h
        show Ok (if k < S.length then ret (.own k) (S'.take S.length) else match S'[k]? with
          | some (.list ds) => ret (.dat (.list ds)) (S'.take S.length)
          | some (.dict kvs) => if isLk kvs = true then none else ret (.dat (.dict kvs)) (S'.take S.length)
          | _ => none) QO X
        split at h1
        · rw [if_pos (by assumption)]
          exact h1
        · rw [if_neg (by assumption)]
          obtain ⟨ds, e1, e2⟩ := h1
          rw [e1]
          exact e2
theorem ok_runO {n m : Nat} {g : SS} {os : List OV} (hn : os.length = n) (h : OkS (g (os.map some ++ List.replicate (m - n) none) S) (fun fl _ S' => match fl with
      | .rt (.own k) => k = S.length ∧ S'.length = S.length + 1 ∧ QO (.own k) S'
      | .er e => X e (S'.take S.length)
      | _ => False)) : Ok (runO n m g os S) QO X := by
  unfold runO
  rw [if_pos hn]
  cases e : g (os.map some ++ List.replicate (m - n) none) S with
  | none => rw [e] at h; exact h.elim
  | some z =>
    obtain ⟨fl, ρ, S'⟩ := z
    rw [e] at h
    cases fl with
    | nx => exact h.elim
    | bk => exact h.elim
    | ct => exact h.elim
    | er x => exact h
    | rt o =>
      cases o with
      | dat d => exact h.elim
      | own k =>
        have h1 : k = S.length ∧ S'.length = S.length + 1 ∧ QO (.own k) S' := h
        obtain ⟨e1, e2, e3⟩ := h1
        show Ok (if k = S.length ∧ S'.length = S.length + 1 then some (.inl (.own k), S') else none) QO X
        rw [if_pos ⟨e1, e2⟩]
        exact e3
end
/-! ### on data -/
section
variable {S : Sto} {i j : Int} {x y : Str} {xs ys : List D}
@[simp] theorem addS_int : addS S (.dat (.int i)) (.dat (.int j)) = some (.int (i + j)) := rfl
@[simp] theorem addS_str : addS S (.dat (.str x)) (.dat (.str y)) = if x.length + y.length ≤ sizeLine then some (.str (x ++ y)) else none := rfl
@[simp] theorem addS_list : addS S (.dat (.list xs)) (.dat (.list ys)) = if xs.length + ys.length ≤ sizeLine then some (.list (xs ++ ys)) else none := rfl
@[simp] theorem addS_tuple : addS S (.dat (.tuple xs)) (.dat (.tuple ys)) = if xs.length + ys.length ≤ sizeLine then some (.tuple (xs ++ ys)) else none := rfl
@[simp] theorem subS_int : subS S (.dat (.int i)) (.dat (.int j)) = some (.int (i - j)) := rfl
@[simp] theorem mulS_int : mulS S (.dat (.int i)) (.dat (.int j)) = if (-big < i ∧ i < big) ∨ (-big < j ∧ j < big) then some (.int (i * j)) else none := rfl
@[simp] theorem fdivS_int : fdivS S (.dat (.int i)) (.dat (.int j)) = if j ≠ 0 ∧ (j.natAbs < 1073741824 ∨ j.natAbs.log2 < 9000) then some (.int (i.fdiv j)) else none := rfl
@[simp] theorem modS_int : modS S (.dat (.int i)) (.dat (.int j)) = if j ≠ 0 then some (.int (i.fmod j)) else none := rfl
@[simp] theorem powS_int : powS S (.dat (.int i)) (.dat (.int j)) = if 0 ≤ j ∧ j ≤ 1000000 ∧ i.natAbs < 2 ^ 64 then some (.int (i ^ j.toNat)) else none := rfl
@[simp] theorem cmpS_int {p : Int → Int → Bool} : cmpS p S (.dat (.int i)) (.dat (.int j)) = some (.bool (p i j)) := rfl
@[simp] theorem eqS_dat {d e : D} : eqS S (.dat d) (.dat e) = (eqD d e).map PyData.bool := rfl
@[simp] theorem neS_dat {d e : D} : neS S (.dat d) (.dat e) = (eqD d e).map fun k => PyData.bool (!k) := rfl
@[simp] theorem eqD_int : eqD (.int i) (.int j) = some (decide (i = j)) := rfl
@[simp] theorem eqD_str : eqD (.str x) (.str y) = some (decide (x = y)) := rfl
@[simp] theorem eqD_bool {a b : Bool} : eqD (.bool a) (.bool b) = some (a == b) := rfl
theorem eqD_refl {d : D} (h : SeqAt.shaped d = true) : eqD d d = some true := by
  cases d with
  | int i => simp [eqD]
  | str x => simp [eqD]
  | _ => unfold eqD; simp only [h, and_self, if_true]; rw [PySem.SeqAt.eqv_refl _ (SeqAt.canLay_of_shaped h)]
@[simp] theorem ixS_list : ixS S (.dat (.list xs)) (.dat (.int i)) = atI xs i := rfl
@[simp] theorem ixS_tuple : ixS S (.dat (.tuple xs)) (.dat (.int i)) = atI xs i := rfl
@[simp] theorem lenS_list : lenS S [.dat (.list xs)] = some (.int xs.length) := rfl
@[simp] theorem lenS_tuple : lenS S [.dat (.tuple xs)] = some (.int xs.length) := rfl
@[simp] theorem lenS_str : lenS S [.dat (.str x)] = if x.length ≤ sizeLine then some (.int x.length) else none := rfl
@[simp] theorem intS_int : intS S [.dat (.int i)] = some (.int i) := rfl
@[simp] theorem strS_int : strS S [.dat (.int i)] = if i.natAbs.log2 < 1920 then some (.str (toString i)) else none := rfl
@[simp] theorem allS_dat : allS S [.dat (.list xs)] = (asBools xs).map fun bs => .bool (bs.all id) := rfl
@[simp] theorem anyS_dat : anyS S [.dat (.list xs)] = (asBools xs).map fun bs => .bool (bs.any id) := rfl
@[simp] theorem sumS_dat : sumS S [.dat (.list xs)] = (asInts xs).map fun bs => .int bs.sum := rfl
@[simp] theorem viewL_dat : viewL S (.dat (.list xs)) = some xs := rfl
theorem viewL_own {n : Nat} (h : S[n]? = some (.list xs)) : viewL S (.own n) = some xs := by simp [viewL, h]
theorem tupleS_own {n : Nat} (h : S[n]? = some (.list xs)) : tupleS S [.own n] = some (.tuple xs) := by simp [tupleS, viewSeq, h]
theorem insU_lt {x : Int} : ∀ {l : List Int}, l.Pairwise (· < ·) → (insU x l).Pairwise (· < ·)
  | [], _ => by simp [insU]
  | y :: r, h => by
    obtain ⟨h1, h2⟩ := List.pairwise_cons.mp h
    unfold insU
    split
    · rename_i c
      refine List.pairwise_cons.mpr ⟨fun z hz => ?_, h⟩
      rcases List.mem_cons.mp hz with rfl | hz
      · exact c
      · exact Int.lt_trans c (h1 z hz)
    · split
      · exact h
      · rename_i c1 c2
        refine List.pairwise_cons.mpr ⟨fun z hz => ?_, insU_lt h2⟩
        rcases insU_mem.mp hz with rfl | hz
        · omega
        · exact h1 z hz
theorem sortU_lt : ∀ l : List Int, (sortU l).Pairwise (· < ·)
  | [] => List.Pairwise.nil
  | x :: r => insU_lt (sortU_lt r)
theorem sortU_mem1 {z : Int} : ∀ {l : List Int}, z ∈ sortU l ↔ z ∈ l
  | [] => by simp [sortU]
  | x :: r => by
    show z ∈ insU x (sortU r) ↔ _
    rw [insU_mem, sortU_mem1]
    simp
theorem insU_len {x : Int} : ∀ {l : List Int}, (insU x l).length ≤ l.length + 1
  | [] => by simp [insU]
  | y :: r => by
    have := @insU_len x r
    unfold insU
    split
    · simp
    · split <;> simp <;> omega
theorem sortU_len : ∀ l : List Int, (sortU l).length ≤ l.length
  | [] => by simp [sortU]
  | x :: r => by
    have h1 := sortU_len r
    have h2 := @insU_len x (sortU r)
    show (insU x (sortU r)).length ≤ _
    simp
    omega
@[simp] theorem tupleS_list : tupleS S [.dat (.list xs)] = some (.tuple xs) := rfl
@[simp] theorem max2S_int : max2S S [.dat (.int i), .dat (.int j)] = some (.int (if j > i then j else i)) := rfl
@[simp] theorem min2S_int : min2S S [.dat (.int i), .dat (.int j)] = some (.int (if j < i then j else i)) := rfl
theorem asBools_map {α : Type} (f : α → Bool) : ∀ l : List α, asBools (l.map fun a => .bool (f a)) = some (l.map f)
  | [] => rfl
  | a :: r => by simp [asBools, asBools_map f r]
@[simp] theorem filter_tt {α : Type} (l : List α) : l.filter (fun _ => true) = l := by simp
@[simp] theorem all_tt {α : Type} (l : List α) : (l.all fun _ => true) = true := by simp
@[simp] theorem asBools_tt {α : Type} (l : List α) : asBools (l.map fun _ => .bool true) = some (l.map fun _ => true) := asBools_map (fun _ => true) l
@[simp] theorem asBools_rep (n : Nat) (b : Bool) : asBools (List.replicate n (.bool b)) = some (List.replicate n b) := by
  induction n with
  | zero => rfl
  | succ n ih => simp [List.replicate_succ, asBools, ih]
theorem asInts_map {α : Type} (f : α → Int) : ∀ l : List α, asInts (l.map fun a => .int (f a)) = some (l.map f)
  | [] => rfl
  | a :: r => by simp [asInts, asInts_map f r]
theorem asStrs_map {α : Type} (f : α → Str) : ∀ l : List α, asStrs (l.map fun a => .str (f a)) = some (l.map f)
  | [] => rfl
  | a :: r => by simp [asStrs, asStrs_map f r]
theorem atI_zero {α : Type} {a : α} {r : List α} : atI (a :: r) 0 = some a := by simp [atI, ixN]
theorem atI_nat {α : Type} {l : List α} {n : Nat} (h : n < l.length) : atI l (n : Int) = l[n]? := by
  unfold atI ixN
  rw [if_pos (by omega), if_pos (by omega)]
  simp
end
/-! ### a flask: two numbers in an owned list -/
def fl (S : Sto) (k : Nat) (g n : Int) : Sto := S.set k (.list [.int g, .int n])
section
variable {S T : Sto} {k : Nat} {g n g' n' : Int}
@[simp] theorem fl_len : (fl S k g n).length = S.length := by simp [fl]
theorem fl_get (h : k < S.length) : (fl S k g n)[k]? = some (.list [.int g, .int n]) := by simp [fl, h]
@[simp] theorem fl_fl : fl (fl S k g n) k g' n' = fl S k g' n' := by simp [fl]
theorem fl_set (a b : Int) : (fl S k g n).set k (.list [.int a, .int b]) = fl S k a b := by simp [fl]
theorem fl_app (h : k < S.length) : fl S k g n ++ T = fl (S ++ T) k g n := by simp [fl, List.set_append_left, h]
theorem fl_take {m : Nat} (h : k < S.length) (hm : m = S.length) : (fl (S ++ T) k g n).take m = fl S k g n := by
  rw [← fl_app h, List.take_append_of_le_length (by simp [hm]), hm]
  exact List.take_of_length_le (by simp)
theorem fl_last {x : D} (h : k < S.length) : (fl (S ++ [x]) k g n)[S.length]? = some x := by simp [fl, Nat.ne_of_lt h]
theorem fl_last' {x : D} (h : k < S.length) (hh : S.length < (fl (S ++ [x]) k g n).length) : (fl (S ++ [x]) k g n)[S.length]'hh = x := by
  have := fl_last (x := x) (g := g) (n := n) h
  rw [List.getElem?_eq_getElem hh] at this
  exact Option.some.inj this
theorem fl_set_last {x y : D} (h : k < S.length) : (fl (S ++ [x]) k g n).set S.length y = fl (S ++ [y]) k g n := by
  unfold fl
  rw [List.set_append_left _ _ h, List.set_append_left _ _ h, List.set_append_right _ _ (by simp)]
  simp
theorem fl_take1 {x : D} (h : k < S.length) : (fl (S ++ [x]) k g n).take S.length = fl S k g n := fl_take h rfl
theorem fl_take0 : (fl S k g n).take S.length = fl S k g n := List.take_of_length_le (by simp)
theorem fl_new : S ++ [.list [.int g, .int n]] = fl (S ++ [.none]) S.length g n := by simp [fl]
end
end Dk
set_option Elab.async false
set_option linter.all false
set_option maxRecDepth 100000
set_option maxHeartbeats 1000000
/-! Plain: a word made of a call. -/
namespace Dk
open PySem PySem.Spec L2
theorem ok_lam {l : List (Mt × D)} {d0 : D} {f : E1} {ρ : Env1} {S : Sto} {Q : OV → Sto → Prop} {X : Exn → Sto → Prop} : Ok (fLam (hiE l d0) f ρ S) Q X = Ok (f ρ S) (fun _ S1 => Q (.dat d0) S1) (fun e S1 => ∃ d, catchD l e.cls = some d ∧ Q (.dat d) S1) := by
  unfold fLam hiE
  cases h : f ρ S with
  | none => simp [h]
  | some z =>
    obtain ⟨z, S1⟩ := z
    cases z with
    | inl o => simp [h, ret]
    | inr e =>
      simp only [h, ok_err]
      cases c : catchD l e.cls with
      | none => simp
      | some d => simp [ret]
@[simp] theorem ok_fRep {fa : EF} {fb : E1} {ρ : Env1} {S : Sto} {Q : List D → Sto → Prop} {X : Exn → Sto → Prop} : Ok (fRep fa fb ρ S) Q X = Ok (fa ρ S) (fun ds S1 => Ok (fb ρ S1) (fun b S2 => ∃ k, b = .dat (.int k) ∧ (-(2 ^ 63) ≤ k ∧ k < 2 ^ 63 ∧ ds.length * k.toNat ≤ sizeLine) ∧ Q (List.replicate k.toNat ds).flatten S2) X) X := by
  unfold fRep
  rw [ok_bind]
  congr 1
  funext ds S1
  rw [ok_bind]
  congr 1
  funext b S2
  apply propext
  constructor
  · intro h
    split at h
    · rename_i k
      rw [ok_if] at h
      split at h
      · rename_i hz
        exact ⟨k, rfl, hz, h⟩
      · exact h.elim
    · exact h.elim
  · rintro ⟨k, rfl, hz, h⟩
    show Ok (if _ then _ else _) Q X
    rw [if_pos hz]
    exact h
end Dk
namespace Dk
open PySem PySem.Spec L2
@[simp] theorem ok_fCat {fa fb : E1} {ρ : Env1} {S : Sto} {Q : List D → Sto → Prop} {X : Exn → Sto → Prop} : Ok (fCat fa fb ρ S) Q X = Ok (fa ρ S) (fun a S1 => Ok (fb ρ S1) (fun b S2 => ∃ ds, catS S2 a b = some ds ∧ Q ds S2) X) X := by
  unfold fCat
  simp
end Dk
set_option Elab.async false
set_option linter.all false
set_option maxRecDepth 100000
set_option maxHeartbeats 4000000
/-! More words of the plain side: enumerate, dict displays, tuple(range(n)), while. -/
namespace Dk
open PySem PySem.Spec L2
section
variable {X : Exn → Sto → Prop} {S : Sto} {ρ : Env1} {QO : OV → Sto → Prop} {QF : List D → Sto → Prop} {QS : Fl → Env1 → Sto → Prop} {f : E1} {t : EB} {fs : EL}
@[simp] theorem ok_iEn {QI : List D × Option Nat → Sto → Prop} : Ok (iEn fs ρ S) QI X = Ok (fs ρ S) (fun os S1 => (∃ xs, os = [.dat (.list xs)] ∧ QI (enumD 0 xs, none) S1) ∨ ∃ xs, os = [.dat (.tuple xs)] ∧ QI (enumD 0 xs, none) S1) X := by
  unfold iEn
  rw [ok_bind]
  congr 1
  funext os S1
  apply propext
  constructor
  · intro hh
    split at hh
    · exact .inl ⟨_, rfl, hh⟩
    · exact .inr ⟨_, rfl, hh⟩
    · exact hh.elim
  · rintro (⟨xs, rfl, hh⟩ | ⟨xs, rfl, hh⟩) <;> exact hh
@[simp] theorem ok_fTupRg : Ok (fTupRg f ρ S) QO X = Ok (f ρ S) (fun a S1 => ∃ n, a = .dat (.int n) ∧ 0 ≤ n ∧ n ≤ 1000 ∧ QO (.dat (.tuple (rgD n))) S1) X := by
  unfold fTupRg
  rw [ok_bind]
  congr 1
  funext a S1
  apply propext
  constructor
  · intro hh
    split at hh
    · rw [ok_if] at hh
      split at hh
      · rename_i n c
        exact ⟨n, rfl, c.1, c.2, hh⟩
      · exact hh.elim
    · exact hh.elim
  · rintro ⟨n, rfl, h1, h2, h3⟩
    simp only [ok_if, ok_ret, ok_none]
    rw [if_pos ⟨h1, h2⟩]
    exact h3
theorem while_succ {g : SS} {n : Nat} : OkS (whileN t g (n + 1) ρ S) QS = Ok (t ρ S) (fun k S1 => if k = true then OkS (g ρ S1) (fun fl ρ2 S2 => match fl with
      | .nx => OkS (whileN t g n ρ2 S2) QS
      | .ct => OkS (whileN t g n ρ2 S2) QS
      | .bk => QS .nx ρ2 S2
      | fl => QS fl ρ2 S2) else QS .nx ρ S1) (fun e S1 => QS (.er e) ρ S1) := by
  show OkS (sB t (fun b ρ S => if b = true then afterW (g ρ S) (whileN t g n) else some (.nx, ρ, S)) ρ S) QS = _
  rw [ok_sB]
  congr 1
  funext k S1
  rw [oks_if]
  cases k with
  | false => rfl
  | true =>
    simp only [if_true]
    unfold afterW
    cases g ρ S1 with
    | none => rfl
    | some z =>
      obtain ⟨fl, ρ2, S2⟩ := z
      cases fl <;> rfl
end
end Dk
set_option Elab.async false
set_option linter.all false
set_option maxRecDepth 100000
set_option maxHeartbeats 4000000
/-! More words of the plain side: shapes of data, sorted, two fors, pop, index. -/
namespace Dk
open PySem PySem.Spec L2
/-! shapes -/
/-- can be laid, and is not deeper -/
def niceD (k : Nat) (d : D) : Prop := PyData.canLay0 d = true ∧ d.depth ≤ k
theorem niceD.mono {k m : Nat} {d : D} (h : niceD k d) (hm : k ≤ m) : niceD m d := ⟨h.1, Nat.le_trans h.2 hm⟩
theorem nice_all {k : Nat} : ∀ {l : List D}, (∀ d ∈ l, niceD k d) → PyData.canLayAll0 l = true ∧ PyData.depthAll l ≤ k
  | [], _ => ⟨rfl, Nat.zero_le _⟩
  | d :: r, h => by
    obtain ⟨h1, h2⟩ := h d (by simp)
    obtain ⟨h3, h4⟩ := nice_all (l := r) fun e he => h e (by simp [he])
    exact ⟨by simp [PyData.canLayAll0, h1, h3], by simp [PyData.depthAll]; omega⟩
theorem nice_list {k : Nat} {l : List D} (h : ∀ d ∈ l, niceD k d) : niceD (k + 1) (.list l) := by
  obtain ⟨a, b⟩ := nice_all h
  exact ⟨by simp [PyData.canLay0, a], by simp [PyData.depth]; omega⟩
theorem nice_tuple {k : Nat} {l : List D} (h : ∀ d ∈ l, niceD k d) : niceD (k + 1) (.tuple l) := by
  obtain ⟨a, b⟩ := nice_all h
  exact ⟨by simp [PyData.canLay0, a], by simp [PyData.depth]; omega⟩
theorem nice_int {i : Int} {k : Nat} : niceD k (.int i) := ⟨rfl, Nat.zero_le _⟩
theorem nice_bool {b : Bool} {k : Nat} : niceD k (.bool b) := ⟨rfl, Nat.zero_le _⟩
theorem nice_none {k : Nat} : niceD k .none := ⟨rfl, Nat.zero_le _⟩
theorem nice_shaped {k : Nat} {d : D} (h : niceD k d) (hk : k ≤ 64) : SeqAt.shaped d = true := by
  unfold SeqAt.shaped
  rw [h.1]
  have := h.2
  simp
  omega
/-- equal as data -/
theorem eqvAll_map {α : Type} [DecidableEq α] {f : α → D} (h : ∀ a b, PyData.eqv (f a) (f b) = decide (a = b)) : ∀ l m : List α, PyData.eqvAll (l.map f) (m.map f) = decide (l = m)
  | [], [] => by simp [PyData.eqvAll]
  | a :: l, [] => by simp [PyData.eqvAll]
  | [], b :: m => by simp [PyData.eqvAll]
  | a :: l, b :: m => by
    simp [PyData.eqvAll, h a b, eqvAll_map h l m]
theorem eqD_nice {k m : Nat} {d e : D} (h : niceD k d) (h2 : niceD m e) (hk : k ≤ 64) (hm : m ≤ 64) : eqD d e = some (PyData.eqv d e) := by
  unfold eqD
  split
  · simp only [PyData.eqv]
    rw [Option.some.injEq, Bool.eq_iff_iff]
    simp
  · simp only [PyData.eqv]
    rw [Option.some.injEq, Bool.eq_iff_iff]
    simp
  · exact if_pos ⟨nice_shaped h hk, nice_shaped h2 hm⟩
theorem sortA_of {α : Type} {S : Sto} {f : α → D} {l : List α} (h : ∀ a ∈ l, niceD 64 (f a)) (ha : ∀ a ∈ l, ∀ b ∈ l, PySem.W.alike (f a) (f b) = true) (hn : ∀ a ∈ l, f a ≠ .none) (ht : l.length ≤ 1 ∨ (∀ a ∈ l, tupB (f a) = true) ∨ ∀ a ∈ l, plainB (f a) = true) :
    sortA S [.dat (.list (l.map f))] = some ((l.map f).mergeSort (PySem.W.dataLe false id)) := by
  obtain ⟨h1, h2⟩ := nice_all (k := 64) (l := l.map f) (by simpa using h)
  have h3 : alikeB (l.map f) = true := by
    unfold alikeB
    simp only [List.all_map, List.all_eq_true, Function.comp]
    exact fun a ha' b hb => ha a ha' b hb
  have h4 : ∀ d ∈ l.map f, d.depth ≤ 64 := by
    intro d hd
    obtain ⟨a, ha', rfl⟩ := List.mem_map.mp hd
    exact (h a ha').2
  have h5 : ((l.map f).all fun d => !isNoneD d) = true := by
    simp only [List.all_map, List.all_eq_true, Function.comp]
    intro a ha'
    have := hn a ha'
    cases e : f a <;> simp_all [isNoneD]
  unfold sortA
  by_cases c : l.length ≤ 1
  · have e1 : sort1S S [.dat (.list (l.map f))] = some (l.map f) := by
      unfold sort1S
      simp only [viewL_dat, Option.bind_some]
      exact if_pos ⟨h1, h3, by simpa using c, h5, h4⟩
    rw [e1]
    have : (l.map f).length ≤ 1 := by simpa using c
    generalize l.map f = m at this
    show some m = _
    congr 1
    match m, this with
    | [], _ => simp
    | [x], _ => simp
  · have e1 : sort1S S [.dat (.list (l.map f))] = none := by
      unfold sort1S
      simp only [viewL_dat, Option.bind_some]
      exact if_neg fun z => c (by simpa using z.2.2.1)
    rw [e1]
    show sortS S [.dat (.list (l.map f))] = _
    unfold sortS
    simp only [viewL_dat, Option.bind_some]
    refine if_pos ⟨h1, h3, ?_, h4⟩
    rcases ht with z | z | z
    · exact absurd z c
    · exact .inl (by simp only [List.all_map, List.all_eq_true, Function.comp]; exact z)
    · exact .inr (by simp only [List.all_map, List.all_eq_true, Function.comp]; exact z)
theorem alike_ints {α β : Type} (f : α → Int) (g : β → Int) : ∀ (l : List α) (m : List β), PySem.W.alikeAll (l.map fun a => .int (f a)) (m.map fun b => .int (g b)) = true
  | [], [] => rfl
  | [], _ :: _ => rfl
  | _ :: _, [] => rfl
  | a :: l, b :: m => by
    simp only [List.map_cons, PySem.W.alikeAll, PySem.W.alike, Bool.true_and]
    exact alike_ints f g l m
section
variable {X : Exn → Sto → Prop} {S : Sto} {ρ : Env1} {QO : OV → Sto → Prop} {QF : List D → Sto → Prop} {QS : Fl → Env1 → Sto → Prop} {f : E1} {t : EB} {fs : EL}
/-! [e for t in xs for u in ys if c], whose parts leave the store as it is -/
noncomputable def lc2R (src : Option Nat) (items : List D) (tg : Tg) (fi1 : EI) (tg1 : Tg) (tst1 : EB) (elt : E1) (vs1 : List Nat) (σ : Env1) (S : Sto) : Rs (List D) := (lc2L src items tg fi1 tg1 tst1 elt S.length vs1 σ items (S ++ [.list []])).bind fun S2 => popAt S.length S2
@[simp] theorem ok_lc2 {fi fi1 : EI} {tg tg1 : Tg} {tst1 : EB} {elt : E1} {vs vs1 : List Nat} : Ok (fLc2 fi tg fi1 tg1 tst1 elt vs vs1 ρ S) QF X = Ok (fi ρ S) (fun p S1 => Ok (lc2R p.2 p.1 tg fi1 tg1 tst1 elt vs1 (wipeR ρ vs) S1) QF X) X := by
  unfold fLc2
  rw [ok_bind]
  rfl
/-- the inner walk, filling at a place -/
theorem lcL_fill {β : Type} {tg1 : Tg} {tst1 : EB} {elt : E1} {σ : Env1} {n0 : Nat} (hS : S.length = n0) (f1 : β → D) (p : β → Bool) (φ : β → D) (items : List D) :
    ∀ (l : List β) (acc : List D), (∀ d ∈ l, ∀ T, ∃ ρ1, tg1 (.dat (f1 d)) σ = some ρ1 ∧ Ok (tst1 ρ1 T) (fun k T' => k = p d ∧ T' = T ∧ (p d = true → Ok (elt ρ1 T) (fun o T' => o = .dat (φ d) ∧ T' = T) no)) no) → acc.length + l.length ≤ sizeLine →
      lcL none items tg1 tst1 elt n0 σ (l.map f1) (S ++ [.list acc]) = some (S ++ [.list (acc ++ (l.filter p).map φ)])
  | [], acc, _, _ => by
    unfold lcL
    simp
  | d :: r, acc, h, hl => by
    obtain ⟨ρ1, h1, h2⟩ := h d (by simp) (S ++ [.list acc])
    have ih := fun acc' => lcL_fill hS f1 p φ items r acc' fun e he => h e (by simp [he])
    simp only [List.length_cons] at hl
    rw [List.map_cons]
    unfold lcL
    rw [if_pos (by simp), h1]
    show (match tst1 ρ1 (S ++ [.list acc]) with
      | some (.inl true, S1) => match elt ρ1 S1 with
        | some (.inl o, S2) => (putAt n0 S2 o).bind fun S3 => lcL none items tg1 tst1 elt n0 σ (r.map f1) S3
        | _ => none
      | some (.inl false, S1) => lcL none items tg1 tst1 elt n0 σ (r.map f1) S1
      | _ => none) = _
    cases e : tst1 ρ1 (S ++ [.list acc]) with
    | none => rw [e] at h2; exact h2.elim
    | some z =>
      obtain ⟨z, S1⟩ := z
      rw [e] at h2
      cases z with
      | inr _ => exact h2.elim
      | inl k =>
        obtain ⟨rfl, rfl, h3⟩ := (show k = p d ∧ S1 = S ++ [.list acc] ∧ _ from h2)
        cases hp : p d with
        | false =>
          show lcL none items tg1 tst1 elt n0 σ (r.map f1) (S ++ [.list acc]) = _
          rw [ih acc (by omega), List.filter_cons_of_neg (by simp [hp])]
        | true =>
          have h4 := h3 hp
          show (match elt ρ1 (S ++ [.list acc]) with
            | some (.inl o, S2) => (putAt n0 S2 o).bind fun S3 => lcL none items tg1 tst1 elt n0 σ (r.map f1) S3
            | _ => none) = _
          cases e2 : elt ρ1 (S ++ [.list acc]) with
          | none => rw [e2] at h4; exact h4.elim
          | some z =>
            obtain ⟨z, S2⟩ := z
            rw [e2] at h4
            cases z with
            | inr _ => exact h4.elim
            | inl o =>
              obtain ⟨rfl, rfl⟩ := (show o = .dat (φ d) ∧ S2 = S ++ [.list acc] from h4)
              have pa : putAt n0 (S ++ [.list acc]) (.dat (φ d)) = some (S ++ [.list (acc ++ [φ d])]) := by
                unfold putAt
                subst hS
                have : acc.length < sizeLine := by omega
                simp [this]
              show (putAt n0 (S ++ [.list acc]) (.dat (φ d))).bind _ = _
              rw [pa]
              show lcL none items tg1 tst1 elt n0 σ (r.map f1) (S ++ [.list (acc ++ [φ d])]) = _
              rw [ih _ (by simp; omega), List.filter_cons_of_pos (by simp [hp])]
              simp
theorem lc2_fill {α β : Type} {tg tg1 : Tg} {fi1 : EI} {tst1 : EB} {elt : E1} {vs1 : List Nat} {σ : Env1} {n0 : Nat} (hS : S.length = n0) (f0 : α → D) (l1 : α → List β) (f1 : α → β → D) (p : α → β → Bool) (φ : α → β → D) (items : List D) (N : Nat) (hN : N ≤ sizeLine) :
    ∀ (l : List α) (acc : List D), (∀ d ∈ l, ∃ ρ1, tg (.dat (f0 d)) σ = some ρ1 ∧ ∀ T, (∃ x, T = S ++ [.list x]) → fi1 ρ1 T = some (.inl ((l1 d).map (f1 d), none), T) ∧ ∀ b ∈ l1 d, ∀ T, ∃ ρ2, tg1 (.dat (f1 d b)) (wipeR ρ1 vs1) = some ρ2 ∧
        Ok (tst1 ρ2 T) (fun k T' => k = p d b ∧ T' = T ∧ (p d b = true → Ok (elt ρ2 T) (fun o T' => o = .dat (φ d b) ∧ T' = T) no)) no) →
      acc.length + (l.flatMap l1).length ≤ N →
      lc2L none items tg fi1 tg1 tst1 elt n0 vs1 σ (l.map f0) (S ++ [.list acc]) = some (S ++ [.list (acc ++ l.flatMap fun d => ((l1 d).filter (p d)).map (φ d))])
  | [], acc, _, _ => by
    unfold lc2L
    simp
  | d :: r, acc, h, hl => by
    obtain ⟨ρ1, h1, h2⟩ := h d (by simp)
    obtain ⟨h3, h4⟩ := h2 (S ++ [.list acc]) ⟨_, rfl⟩
    simp only [List.flatMap_cons, List.length_append] at hl
    rw [List.map_cons]
    unfold lc2L
    rw [if_pos (by simp), h1]
    show (match fi1 ρ1 (S ++ [.list acc]) with
      | some (.inl p, S1) => (lcL p.2 p.1 tg1 tst1 elt n0 (wipeR ρ1 vs1) p.1 S1).bind fun S2 => lc2L none items tg fi1 tg1 tst1 elt n0 vs1 σ (r.map f0) S2
      | _ => none) = _
    rw [h3]
    show (lcL none ((l1 d).map (f1 d)) tg1 tst1 elt n0 (wipeR ρ1 vs1) ((l1 d).map (f1 d)) (S ++ [.list acc])).bind _ = _
    rw [lcL_fill hS (f1 d) (p d) (φ d) _ (l1 d) acc h4 (by omega)]
    show lc2L none items tg fi1 tg1 tst1 elt n0 vs1 σ (r.map f0) (S ++ [.list (acc ++ ((l1 d).filter (p d)).map (φ d))]) = _
    have lf : ((l1 d).filter (p d)).length ≤ (l1 d).length := List.length_filter_le ..
    rw [lc2_fill hS f0 l1 f1 p φ items N hN r _ (fun e he => h e (by simp [he])) (by rw [List.length_append, List.length_map]; omega)]
    simp
theorem lc2_map {α β : Type} {tg tg1 : Tg} {fi1 : EI} {tst1 : EB} {elt : E1} {vs1 : List Nat} {σ : Env1} (f0 : α → D) (l : List α) (l1 : α → List β) (f1 : α → β → D) (p : α → β → Bool) (φ : α → β → D) (hN : (l.flatMap l1).length ≤ sizeLine)
    (h : ∀ d ∈ l, ∃ ρ1, tg (.dat (f0 d)) σ = some ρ1 ∧ ∀ T, (∃ x, T = S ++ [.list x]) → fi1 ρ1 T = some (.inl ((l1 d).map (f1 d), none), T) ∧ ∀ b ∈ l1 d, ∀ T, ∃ ρ2, tg1 (.dat (f1 d b)) (wipeR ρ1 vs1) = some ρ2 ∧
        Ok (tst1 ρ2 T) (fun k T' => k = p d b ∧ T' = T ∧ (p d b = true → Ok (elt ρ2 T) (fun o T' => o = .dat (φ d b) ∧ T' = T) no)) no)
    (q : QF (l.flatMap fun d => ((l1 d).filter (p d)).map (φ d)) S) : Ok (lc2R none (l.map f0) tg fi1 tg1 tst1 elt vs1 σ S) QF X := by
  unfold lc2R
  rw [lc2_fill rfl f0 l1 f1 p φ _ _ hN l [] h (by simp)]
  show Ok (popAt S.length (S ++ [.list ([] ++ _)])) QF X
  unfold popAt
  simpa using q
@[simp] theorem ok_fPopAt : Ok (fPopAt f fs ρ S) QO X = Ok (f ρ S) (fun o S1 => ∃ l, viewL S1 o = some l ∧ Ok (fs ρ S1) (fun as S2 => ∃ n i ds j d, o = .own n ∧ as = [.dat (.int i)] ∧ S2[n]? = some (.list ds) ∧ ds.length ≤ 16777216 ∧ ixN ds.length i = some j ∧ ds[j]? = some d ∧ QO (.dat d) (S2.set n (.list (ds.eraseIdx j)))) X) X := by
  unfold fPopAt
  rw [ok_bind]
  congr 1
  funext o S1
  rw [ok_obind]
  congr 1
  funext l
  congr 1
  rw [ok_bind]
  congr 1
  funext as S2
  apply propext
  constructor
  · intro h
    split at h
    · rename_i n i
      split at h
      · rename_i ds e
        simp only [ok_if, ok_obind, ok_ret, ok_none] at h
        split at h
        · obtain ⟨j, h1, d, h2, h3⟩ := h
          exact ⟨n, i, ds, j, d, rfl, rfl, e, by assumption, h1, h2, h3⟩
        · exact h.elim
      · exact h.elim
    · exact h.elim
  · rintro ⟨n, i, ds, j, d, rfl, rfl, e, h1, h2, h3, h4⟩
    simp only [e, ok_if, ok_obind, ok_ret, ok_none]
    rw [if_pos h1]
    exact ⟨j, h2, d, h3, h4⟩
@[simp] theorem ok_fIndex : Ok (fIndex f fs ρ S) QO X = Ok (f ρ S) (fun o S1 => ∃ l, viewL S1 o = some l ∧ Ok (fs ρ S1) (fun as S2 => ∃ b d, as = [b] ∧ indexS S2 o b = some d ∧ QO (.dat d) S2) X) X := by
  unfold fIndex
  rw [ok_bind]
  congr 1
  funext o S1
  rw [ok_obind]
  congr 1
  funext l
  congr 1
  rw [ok_bind]
  congr 1
  funext as S2
  apply propext
  constructor
  · intro h
    split at h
    · rw [ok_obind] at h
      obtain ⟨d, h1, h2⟩ := h
      exact ⟨_, d, rfl, h1, h2⟩
    · exact h.elim
  · rintro ⟨b, d, rfl, h1, h2⟩
    simp only [h1, ok_obind, ok_ret]
    exact ⟨d, rfl, h2⟩
/-- a dict of ints by texts, written and asked at once -/
theorem ok_fDictIx {zs : List Str} {fs : List FI} {j : Nat} : Ok (fDictIx zs fs j ρ S) QO X = ∃ z, ρ[j]?.join = some (.dat (.str z)) ∧ ∃ is, fs.mapM (fun f : FI => f ρ) = some is ∧ ∃ i, (zs.zip is).lookup z = some i ∧ QO (.dat (.int i)) S := by
  unfold fDictIx
  apply propext
  constructor
  · intro h
    split at h
    · rename_i z e
      simp only [ok_obind, ok_ret] at h
      exact ⟨z, e, h⟩
    · exact h.elim
  · rintro ⟨z, e, h⟩
    rw [e]
    simp only [ok_obind, ok_ret]
    exact h
end
theorem enumD_map {α : Type} (f : α → D) : ∀ (l : List α) (n : Nat), enumD n (l.map f) = (l.zipIdx n).map fun p => .tuple [.int (p.2 : Nat), f p.1]
  | [], _ => rfl
  | a :: r, n => by simp [enumD, enumD_map f r (n + 1)]
end Dk
set_option Elab.async false
set_option linter.all false
set_option maxRecDepth 100000
set_option maxHeartbeats 4000000
/-! More words: slices, while by a measure, two owned lists, the first of the least. -/
namespace Dk
open PySem PySem.Spec L2
theorem cut_to {α : Type} (xs : List α) (a : Nat) : cutD xs none (some (a : Int)) = xs.take a := by
  unfold cutD
  rw [HT.sIx_nat, HT.sIx_none, List.drop_zero, Nat.sub_zero]
  by_cases h : a ≤ xs.length
  · rw [Nat.min_eq_left h]
  · rw [Nat.min_eq_right (by omega), List.take_length, List.take_of_length_le (by omega)]
theorem cut_from {α : Type} (xs : List α) (a : Nat) : cutD xs (some (a : Int)) none = xs.drop a := by
  unfold cutD
  rw [HT.sIx_nat, HT.sIx_none]
  by_cases h : a ≤ xs.length
  · rw [Nat.min_eq_left h, List.take_of_length_le (by simp)]
  · rw [Nat.min_eq_right (by omega), List.drop_length, List.drop_eq_nil_of_le (by omega)]
    simp
theorem cut_mid {α : Type} (xs : List α) (a b : Nat) (h : a ≤ b) : cutD xs (some (a : Int)) (some (b : Int)) = (xs.drop a).take (b - a) := by
  unfold cutD
  rw [HT.sIx_nat, HT.sIx_nat]
  by_cases h1 : a ≤ xs.length
  · rw [Nat.min_eq_left h1]
    by_cases h2 : b ≤ xs.length
    · rw [Nat.min_eq_left h2]
    · rw [Nat.min_eq_right (by omega), List.take_of_length_le (by simp), List.take_of_length_le (by simp; omega)]
  · rw [Nat.min_eq_right (a := a) (by omega), List.drop_length, List.drop_eq_nil_of_le (by omega)]
    simp
theorem drop_range {n a : Nat} (h : a < n) : (List.range n).drop a = a :: (List.range n).drop (a + 1) := by
  rw [List.drop_eq_getElem_cons (by simpa using h)]
  simp
section
variable {X : Exn → Sto → Prop} {S : Sto} {ρ : Env1} {QS : Fl → Env1 → Sto → Prop} {t : EB} {g : SS}
theorem while_inv (I : Nat → Env1 → Sto → Prop) (step : ∀ m ρ S, I m ρ S → Ok (t ρ S) (fun k S1 => if k = true then OkS (g ρ S1) (fun fl ρ2 S2 => match fl with
      | .nx => ∃ m', m' < m ∧ I m' ρ2 S2
      | .ct => ∃ m', m' < m ∧ I m' ρ2 S2
      | .bk => QS .nx ρ2 S2
      | fl => QS fl ρ2 S2) else QS .nx ρ S1) (fun e S1 => QS (.er e) ρ S1)) : ∀ (n m : Nat) {ρ : Env1} {S : Sto}, m < n → I m ρ S → OkS (whileN t g n ρ S) QS
  | 0, m, _, _, h, _ => absurd h (by omega)
  | n + 1, m, ρ, S, h, hI => by
    rw [while_succ]
    refine (step m ρ S hI).imp (fun k S1 hk => ?_) fun _ _ z => z
    cases k with
    | false => simpa using hk
    | true =>
      simp only [if_true] at hk ⊢
      refine hk.imp fun fl ρ2 S2 z => ?_
      cases fl with
      | nx =>
        obtain ⟨m', h1, h2⟩ := z
        exact while_inv I step n m' (by omega) h2
      | ct =>
        obtain ⟨m', h1, h2⟩ := z
        exact while_inv I step n m' (by omega) h2
      | bk => exact z
      | rt o => exact z
      | er e => exact z
end
/-! a store with two own objects on its end, and others behind -/
def st2 (S : Sto) (a b : D) (J : Sto) : Sto := S ++ a :: b :: J
section
variable {S J : Sto} {a b x : D}
theorem st2_get0 : (st2 S a b J)[S.length]? = some a := by simp [st2]
theorem st2_get1 : (st2 S a b J)[S.length + 1]? = some b := by simp [st2]
theorem st2_set0 : (st2 S a b J).set S.length x = st2 S x b J := by
  unfold st2
  rw [List.set_append_right _ _ (Nat.le_refl _)]
  simp
theorem st2_set1 : (st2 S a b J).set (S.length + 1) x = st2 S a x J := by
  unfold st2
  rw [List.set_append_right _ _ (by omega)]
  simp
theorem st2_app : st2 S a b J ++ [x] = st2 S a b (J ++ [x]) := by simp [st2]
theorem st2_len : (st2 S a b J).length = S.length + 2 + J.length := by simp [st2]; omega
theorem st2_last : (st2 S a b (J ++ [x]))[S.length + 2 + J.length]? = some x := by
  unfold st2
  rw [List.getElem?_append_right (by omega)]
  have e : S.length + 2 + J.length - S.length = J.length + 2 := by omega
  rw [e]
  simp
theorem st2_setlast {y : D} : (st2 S a b (J ++ [x])).set (S.length + 2 + J.length) y = st2 S a b (J ++ [y]) := by
  unfold st2
  rw [List.set_append_right _ _ (by omega)]
  have e : S.length + 2 + J.length - S.length = J.length + 2 := by omega
  rw [e]
  simp
theorem st2_take : (st2 S a b J).take S.length = S := by simp [st2]
theorem st2_new : S ++ [a] ++ [b] = st2 S a b [] := by simp [st2]
end
/-! the first of the least -/
theorem lmin_split : ∀ (ws : List Int), ws ≠ [] → ∃ m u v, lmin ws = some m ∧ ws = u ++ m :: v ∧ (∀ y ∈ u, m < y) ∧ ∀ y ∈ v, m ≤ y
  | [], h => absurd rfl h
  | [x], _ => ⟨x, [], [], rfl, rfl, by simp, by simp⟩
  | x :: y :: r, _ => by
    obtain ⟨m, u, v, h1, h2, h3, h4⟩ := lmin_split (y :: r) (by simp)
    have e : lmin (x :: y :: r) = some (if m < x then m else x) := by
      unfold lmin
      rw [h1]
      rfl
    by_cases c : m < x
    · rw [if_pos c] at e
      refine ⟨m, x :: u, v, e, by rw [h2]; rfl, fun z hz => ?_, h4⟩
      rcases List.mem_cons.mp hz with rfl | hz
      · exact c
      · exact h3 z hz
    · rw [if_neg c] at e
      refine ⟨x, [], y :: r, e, rfl, by simp, fun z hz => ?_⟩
      have := (lmin_ok h1).2 z hz
      omega
theorem find_first {m : Int} : ∀ (u v : List Int), (∀ y ∈ u, m < y) → ((u ++ m :: v).map PyData.int).findIdx? (fun z => PyData.eqv z (.int m)) = some u.length
  | [], v, _ => by simp [List.findIdx?_cons, PyData.eqv]
  | x :: u, v, h => by
    have := h x (by simp)
    have ih := find_first u v fun y hy => h y (by simp [hy])
    rw [List.cons_append, List.map_cons, List.findIdx?_cons, ih]
    have c : PyData.eqv (.int x) (.int m) = false := by simp [PyData.eqv]; omega
    rw [c]
    simp
theorem shaped_ints (ws : List Int) : SeqAt.shaped (.list (ws.map .int)) = true := nice_shaped (nice_list (k := 0) fun d hd => by
  obtain ⟨a, _, rfl⟩ := List.mem_map.mp hd
  exact nice_int) (by decide)
theorem index_first {S : Sto} {o : OV} {u v : List Int} {m : Int} (ho : view S o = some (.list ((u ++ m :: v).map .int))) (h : ∀ y ∈ u, m < y) : indexS S o (.dat (.int m)) = some (.int (u.length : Nat)) := by
  unfold indexS
  rw [ho]
  show (if SeqAt.shaped (.list ((u ++ m :: v).map PyData.int)) = true ∧ SeqAt.shaped (.int m) = true then _ else none) = _
  rw [if_pos ⟨shaped_ints _, rfl⟩, find_first u v h]
  rfl
end Dk
set_option Elab.async false
set_option linter.all false
set_option maxRecDepth 100000
set_option maxHeartbeats 1000000
namespace K11
open PySem PySem.Spec L2 Dk
def pairD (p : Int × Int) : D := .tuple [.int p.1, .int p.2]
def rowD (r : Int × Int × Int × Int) : D := .tuple [.int r.1, .int r.2.1, .int r.2.2.1, .int r.2.2.2]
abbrev Bk := List (Int × Int) × List (Int × Int × Int × Int)
def bookD (b : Bk) : D := .tuple [.tuple (b.1.map pairD), .tuple (b.2.map rowD)]
def walkD (w : List (Int × Int)) : D := .tuple (w.map pairD)
def okDev (p : Int × Int) : Prop := 0 ≤ p.1 ∧ p.1 ≤ 1000000000 ∧ 0 ≤ p.2 ∧ p.2 ≤ 1000000000
def okRow (n : Nat) (r : Int × Int × Int × Int) : Prop := 0 ≤ r.1 ∧ r.1 ≤ (n : Int) - 1 ∧ 0 ≤ r.2.1 ∧ r.2.1 < r.2.2.1 ∧ r.2.2.1 ≤ 1000000000000000000000000000000 ∧ 0 ≤ r.2.2.2 ∧ r.2.2.2 ≤ 1000000000000000000000000000000
structure OkBook (b : Bk) : Prop where
  d1 : 1 ≤ b.1.length
  d2 : b.1.length ≤ 3
  d : ∀ p ∈ b.1, okDev p
  n : b.2.length ≤ 6
  r : ∀ r ∈ b.2, okRow b.1.length r
section
variable {S : Sto} {Q : OV → Sto → Prop} {X : Exn → Sto → Prop}
theorem is_number_t {i lo hi : Int} (h1 : lo ≤ i) (h2 : i ≤ hi) (q : Q (.dat (.bool true)) S) : Ok (F_is_number [.dat (.int i), .dat (.int lo), .dat (.int hi)] S) Q X := by
  refine ok_run rfl ?_
  simp [g_is_number, tyName, isTy, h1, h2, q]
theorem is_device_t {p : Int × Int} (h : okDev p) (q : Q (.dat (.bool true)) S) : Ok (F_is_device [.dat (pairD p)] S) Q X := by
  obtain ⟨h1, h2, h3, h4⟩ := h
  refine ok_run rfl ?_
  simp [g_is_device, tyName, isTy, pairD]
  refine lc_map (p := fun _ => true) (φ := fun _ => .bool true) (by simp [sizeLine]) (by simp) (fun d hd T => ⟨_, rfl, ?_⟩) ?_
  · simp at hd
    rcases hd with rfl | rfl
    · simp
      refine is_number_t h1 h2 ⟨rfl, rfl⟩
    · simp
      refine is_number_t h3 h4 ⟨rfl, rfl⟩
  · simp [asBools, q]
theorem are_devices_t {ds : List (Int × Int)} (h1 : 1 ≤ ds.length) (h2 : ds.length ≤ 3) (h : ∀ p ∈ ds, okDev p) (q : Q (.dat (.bool true)) S) : Ok (F_are_devices [.dat (.tuple (ds.map pairD))] S) Q X := by
  refine ok_run rfl ?_
  have e1 : (1 : Int) ≤ ds.length := by omega
  have e2 : (ds.length : Int) ≤ 3 := by omega
  simp [g_are_devices, tyName, isTy, e1, e2]
  refine lc_map (p := fun _ => true) (φ := fun _ => .bool true) (by simp [sizeLine]; omega) (by simp) (fun d hd T => ⟨_, rfl, ?_⟩) ?_
  · obtain ⟨p, hp, rfl⟩ := List.mem_map.mp hd
    simp
    refine is_device_t (h p hp) ⟨rfl, rfl⟩
  · refine ⟨_, ⟨_, asBools_map (fun _ => true) _, rfl⟩, ?_⟩
    simp [q]
theorem is_stretch_t {s g : Int} (h1 : 0 ≤ s) (h2 : s < g) (h3 : g ≤ 1000000000000000000000000000000) (q : Q (.dat (.bool true)) S) : Ok (F_is_stretch [.dat (.tuple [.int s, .int g])] S) Q X := by
  refine ok_run rfl ?_
  simp [g_is_stretch, tyName, isTy]
  refine lc_map (p := fun _ => true) (φ := fun _ => .bool true) (by simp [sizeLine]) (by simp) (fun d hd T => ⟨_, rfl, ?_⟩) ?_
  · simp at hd
    rcases hd with rfl | rfl
    · simp
      refine is_number_t h1 (Int.le_of_lt (Int.lt_of_lt_of_le h2 h3)) ⟨rfl, rfl⟩
    · simp
      refine is_number_t (Int.le_of_lt (Int.lt_of_le_of_lt h1 h2)) h3 ⟨rfl, rfl⟩
  · simp [asBools, atI, ixN, h2, q]
theorem is_reading_of_t {ds : List (Int × Int)} {r : Int × Int × Int × Int} (h : okRow ds.length r) (q : Q (.dat (.bool true)) S) : Ok (F_is_reading_of [.dat (.tuple (ds.map pairD)), .dat (rowD r)] S) Q X := by
  obtain ⟨h1, h2, h3, h4, h5, h6, h7⟩ := h
  refine ok_run rfl ?_
  simp [g_is_reading_of, tyName, isTy, rowD, atI, ixN]
  refine is_number_t h1 h2 ?_
  simp [slS, cutD, HT.sIx]
  refine is_stretch_t h3 h4 h5 ?_
  simp
  exact is_number_t h6 h7 (by simpa using q)
theorem is_book_of_t {b : Bk} (h : OkBook b) (q : Q (.dat (.bool true)) S) : Ok (F_is_book_of [.dat (bookD b)] S) Q X := by
  refine ok_run rfl ?_
  have e1 : (b.2.length : Int) ≤ 6 := by have := h.n; omega
  simp [g_is_book_of, tyName, isTy, bookD, atI, ixN]
  refine are_devices_t h.d1 h.d2 h.d ?_
  simp
  refine .inl ⟨e1, ?_⟩
  refine lc_mapF rowD b.2 (p := fun _ => true) (φ := fun _ => .bool true) (by have := h.n; simp [sizeLine]; omega) (by simp) (fun r hr T => ⟨_, rfl, ?_⟩) ?_
  · simp [atI, ixN]
    exact is_reading_of_t (h.r r hr) ⟨rfl, rfl⟩
  · exact ⟨_, ⟨_, asBools_map (fun _ => true) _, rfl⟩, by simpa using q⟩
theorem need_book_t {b : Bk} (h : OkBook b) (q : Q (.dat .none) S) : Ok (F_need_book [.dat (bookD b)] S) Q X := by
  refine ok_run rfl ?_
  simp [g_need_book]
  refine is_book_of_t h ?_
  simpa using q
def limD (b : Bk) (r : Int × Int × Int × Int) : Int × Int := match b.1[r.1.toNat]? with
  | some p => (r.2.2.2 - p.1, r.2.2.2 + p.2)
  | none => (0, 0)
theorem limits_t {b : Bk} {r : Int × Int × Int × Int} (h : okRow b.1.length r) (q : Q (.dat (.tuple [.int (limD b r).1, .int (limD b r).2])) S) : Ok (F_limits [.dat (bookD b), .dat (rowD r)] S) Q X := by
  obtain ⟨h1, h2, h3, h4, h5, h6, h7⟩ := h
  refine ok_run rfl ?_
  have e : r.1.toNat < b.1.length := by omega
  have e2 : r.1 < (b.1.length : Int) := by omega
  obtain ⟨p, hp⟩ : ∃ p, b.1[r.1.toNat]? = some p := ⟨_, List.getElem?_eq_getElem e⟩
  unfold limD at q
  rw [hp] at q
  have hp2 : b.1[r.1.toNat] = p := by rw [List.getElem?_eq_getElem e] at hp; exact Option.some.inj hp
  simp [g_limits, bookD, rowD, atI, ixN, h1, e2, hp2, pairD]
  exact ⟨by decide, by simpa using q⟩
def stepsIn (w : List (Int × Int)) (s g : Int) : Int := ((w.filter fun p => decide (s ≤ p.1 ∧ p.1 < g)).map fun p => p.2).sum
def keptB (b : Bk) (w : List (Int × Int)) : Bool := b.2.all fun r => decide ((limD b r).1 ≤ stepsIn w r.2.1 r.2.2.1 ∧ stepsIn w r.2.1 r.2.2.1 ≤ (limD b r).2)
structure OkWalk (w : List (Int × Int)) : Prop where
  n : w.length ≤ 40
  p : ∀ p ∈ w, 0 ≤ p.1 ∧ p.1 ≤ 1000000000000000000000000000000 ∧ 1 ≤ p.2 ∧ p.2 ≤ 1000000000000000000000000000000
  s : w.Pairwise fun p q => p.1 < q.1
theorem pairUp_map (f : Int × Int → D) : ∀ l : List (Int × Int), pairUp (l.map f) (l.map f).tail = (l.zip l.tail).map fun p => .tuple [f p.1, f p.2]
  | [] => rfl
  | [a] => rfl
  | a :: b :: r => by
    have := pairUp_map f (b :: r)
    simp [pairUp] at this ⊢
    exact this
end

section
variable {S : Sto} {Q : OV → Sto → Prop} {X : Exn → Sto → Prop} {k : Nat} {g n : Int}
theorem flask_t {c salt : Int} (q : ∀ g n, Q (.own S.length) (S ++ [.list [.int g, .int n]])) : Ok (F__law_flask [.dat (.int c), .dat (.int salt)] S) Q X := by
  refine ok_runO rfl ?_
  have sz : 2 ≤ sizeLine := by decide
  by_cases h : (1000000000000000000 : Int) ≤ c
  · simp [g__law_flask, big, h, sz, q]
  · have h' : c < 1000000000000000000 := by omega
    simp [g__law_flask, big, h, h', sz, q]
theorem fmod_b {i m : Int} (h : 0 < m) : 0 ≤ i.fmod m ∧ i.fmod m < m := ⟨Int.fmod_nonneg_of_pos _ h, Int.fmod_lt_of_pos _ h⟩
theorem sip_t {many : Int} (hk : k < S.length) (h1 : 0 < many) (h2 : many < 1073741824) (q : ∀ r g' n', 0 ≤ r → r < many → Q (.dat (.int r)) (fl S k g' n')) : Ok (F__law_sip [.own k, .dat (.int many)] (fl S k g n)) Q X := by
  refine ok_run rfl ?_
  have e0 : ¬ many = 0 := by omega
  have e1 : many.natAbs < 1073741824 := by omega
  have b := fmod_b (i := n * 31019 + 9013) (m := 2147483549) (by decide)
  have b1 : -18446744073709551616 < (n * 31019 + 9013).fmod 2147483549 := by omega
  have b2 : (n * 31019 + 9013).fmod 2147483549 < 18446744073709551616 := by omega
  have tk : ∀ g n : Int, List.take S.length (fl S k g n) = fl S k g n := fun g n => List.take_of_length_le (by simp)
  by_cases hg : 0 < g
  · have hg' : ¬ g ≤ 0 := by omega
    simp [g__law_sip, ixS, fl_get hk, atI, ixN, big, e0, e1, fl_set, hg, hg', tk]
    exact q _ _ _ (fmod_b h1).1 (fmod_b h1).2
  · have hg' : g ≤ 0 := by omega
    simp [g__law_sip, ixS, fl_get hk, atI, ixN, big, e0, e1, fl_set, hg, hg', b1, b2, tk]
    exact q _ _ _ (fmod_b h1).1 (fmod_b h1).2
structure Drawn (far wide : Int) (w : List (Int × Int)) : Prop where
  n : w.length ≤ 4
  p : ∀ p ∈ w, 0 ≤ p.1 ∧ p.1 < far ∧ 1 ≤ p.2 ∧ p.2 ≤ wide
  s : w.Pairwise fun p q => p.1 < q.1
theorem any_walk_t {far wide : Int} (hk : k < S.length) (f1 : 0 < far) (f2 : far < 1073741824) (w1 : 0 < wide) (w2 : wide < 1073741824) (q : ∀ w g n, Drawn far wide w → Q (.dat (walkD w)) (fl S k g n)) :
    Ok (F__law_any_walk [.own k, .dat (.int far), .dat (.int wide)] (fl S k g n)) Q X := by
  refine ok_run rfl ?_
  simp [g__law_any_walk]
  rw [fl_app hk]
  have hk1 : k < (S ++ [(PyData.list [] : D)]).length := by simp; omega
  refine sip_t hk1 (by decide) (by decide) fun r g1 n1 r0 r1 => ?_
  simp [lim62]
  refine ⟨by omega, by omega, ?_⟩
  refine lc_fold (I := fun ds acc S' => ∃ g n us, S' = fl (S ++ [.list []]) k g n ∧ acc = us.map PyData.int ∧ (∀ u ∈ us, 0 ≤ u ∧ u < far) ∧ us.length + ds.length ≤ 4) ⟨_, _, [], rfl, rfl, by simp, by simp; omega⟩ (fun d r acc S' hI => ?_) (fun acc S' hI => ?_)
  · obtain ⟨g2, n2, us, rfl, rfl, h1, h2⟩ := hI
    simp at h2
    refine ⟨by simp, by simp [sizeLine]; omega, by simp, _, rfl, ?_⟩
    simp
    rw [fl_app hk1]
    refine sip_t (by simp; omega) f1 f2 fun r3 g3 n3 h3 h4 => ?_
    refine ⟨_, rfl, _, (fl_app hk1).symm, by simp, ⟨_, _, rfl⟩, us ++ [r3], by simp, fun u hu => ?_, by simp; omega⟩
    rcases List.mem_append.mp hu with hu | hu
    · exact h1 u hu
    · rw [List.mem_singleton.mp hu]
      exact ⟨h3, h4⟩
  · obtain ⟨g2, n2, us, rfl, rfl, h1, h2⟩ := hI
    simp at h2
    refine ⟨by simp, by simp, ?_⟩
    have e : asInts (us.map PyData.int) = some us := by
      have := asInts_map (fun x : Int => x) us
      simpa using this
    simp [e]
    refine ⟨by omega, ?_⟩
    have hm : ∀ u ∈ sortU us, 0 ≤ u ∧ u < far := fun u hu => h1 u (sortU_mem1.mp hu)
    have hs := sortU_lt us
    have hn := sortU_len us
    generalize sortU us = ms at hm hs hn ⊢
    refine for_inv (I := fun ds ρ S' => ∃ g n a b vs w, S' = fl (S ++ [.list (w.map pairD)]) k g n ∧ ρ = [some (.own k), some (.dat (.int far)), some (.dat (.int wide)), some (.own S.length), a, b] ∧ ms = w.map (·.1) ++ vs ∧ ds = vs.map PyData.int ∧ ∀ p ∈ w, 1 ≤ p.2 ∧ p.2 ≤ wide)
      (fun d r ρ S' hI => ?_) (fun ρ S' hI => ?_) _ ⟨g2, n2, none, none, ms, [], rfl, rfl, rfl, rfl, by simp⟩
    · obtain ⟨g3, n3, a, b, vs, w, rfl, rfl, e1, e2, e3⟩ := hI
      cases vs with
      | nil => cases e2
      | cons v vs =>
        cases e2
        have lw : w.length ≤ 4 := by
          have := congrArg List.length e1
          simp at this
          omega
        have hk2 : k < (S ++ [(PyData.list (w.map pairD) : D)]).length := by simp; omega
        refine ⟨by simp, _, rfl, ?_⟩
        simp [viewL_own (fl_last hk)]
        refine sip_t hk2 w1 w2 fun r4 g4 n4 h3 h4 => ?_
        simp [fl_last' hk, fl_set_last hk]
        refine ⟨by decide, by simp [sizeLine]; omega, g4, n4, _, _, vs, w ++ [(v, 1 + r4)], by simp [pairD], ⟨rfl, rfl⟩, by rw [e1]; simp, rfl, fun p1 p2 hp => ?_⟩
        simp at hp
        rcases hp with hp | ⟨rfl, rfl⟩
        · exact e3 _ hp
        · exact ⟨by omega, by omega⟩
    · obtain ⟨g3, n3, a, b, vs, w, rfl, rfl, e1, e2, e3⟩ := hI
      cases vs with
      | cons v vs => cases e2
      | nil =>
        rw [List.append_nil] at e1
        subst e1
        refine ⟨by simp, ?_⟩
        simp [tupleS_own (fl_last hk)]
        rw [fl_take1 hk]
        refine q w _ _ ⟨by simp at hn; omega, fun p hp => ?_, ?_⟩
        · obtain ⟨a1, a2⟩ := hm p.1 (List.mem_map.mpr ⟨p, hp, rfl⟩)
          exact ⟨a1, a2, (e3 p hp).1, (e3 p hp).2⟩
        · exact List.pairwise_map.mp hs
theorem any_stretch_t {far : Int} (hk : k < S.length) (f1 : 0 < far) (f2 : far < 1073741824) (q : ∀ s e g n, 0 ≤ s → s < e → e ≤ far → Q (.dat (.tuple [.int s, .int e])) (fl S k g n)) : Ok (F__law_any_stretch [.own k, .dat (.int far)] (fl S k g n)) Q X := by
  refine ok_run rfl ?_
  simp [g__law_any_stretch]
  refine sip_t hk f1 f2 fun r g1 n1 r0 r1 => ?_
  simp
  refine sip_t hk (by omega) (by omega) fun r2 g2 n2 r3 r4 => ?_
  simp
  refine ⟨by decide, ?_⟩
  rw [fl_take0]
  exact q _ _ _ _ r0 (by omega) (by omega)
theorem stepsIn_app (us : List (Int × Int)) (v : Int × Int) (s e : Int) : stepsIn (us ++ [v]) s e = stepsIn us s e + if s ≤ v.1 ∧ v.1 < e then v.2 else 0 := by
  unfold stepsIn
  rw [List.filter_append, List.map_append, List.sum_append]
  congr 1
  by_cases c : s ≤ v.1 ∧ v.1 < e
  · rw [if_pos c, List.filter_cons_of_pos (by simpa using c)]
    simp
  · rw [if_neg c, List.filter_cons_of_neg (by simpa using c)]
    simp
theorem steps_t {w : List (Int × Int)} {s e : Int} (q : Q (.dat (.int (stepsIn w s e))) S) : Ok (F__law_steps [.dat (walkD w), .dat (.int s), .dat (.int e)] S) Q X := by
  refine ok_run rfl ?_
  simp [g__law_steps, walkD]
  refine for_inv (I := fun ds ρ S' => S' = S ∧ ∃ us vs a b, w = us ++ vs ∧ ds = vs.map pairD ∧ ρ = [some (.dat (walkD w)), some (.dat (.int s)), some (.dat (.int e)), some (.dat (.int (stepsIn us s e))), a, b])
    (fun d r ρ S' hI => ?_) (fun ρ S' hI => ?_) _ ⟨rfl, [], w, none, none, rfl, rfl, rfl⟩
  · obtain ⟨rfl, us, vs, a, b, e1, e2, rfl⟩ := hI
    cases vs with
    | nil => cases e2
    | cons v vs =>
      cases e2
      refine ⟨by simp, _, by simp [pairD]; rfl, ?_⟩
      simp
      have e9 := stepsIn_app us v s e
      by_cases c1 : s ≤ v.1
      · right
        refine ⟨c1, ?_⟩
        by_cases c2 : v.1 < e
        · right
          rw [if_pos ⟨c1, c2⟩] at e9
          exact ⟨c2, us ++ [v], vs, by rw [e1]; simp, rfl, e9.symm⟩
        · left
          rw [if_neg (fun z => c2 z.2), Int.add_zero] at e9
          exact ⟨by omega, us ++ [v], vs, by rw [e1]; simp, rfl, e9.symm⟩
      · left
        rw [if_neg (fun z => c1 z.1), Int.add_zero] at e9
        exact ⟨by omega, us ++ [v], vs, by rw [e1]; simp, rfl, e9.symm⟩
  · obtain ⟨rfl, us, vs, a, b, e1, e2, rfl⟩ := hI
    cases vs with
    | cons v vs => cases e2
    | nil =>
      rw [List.append_nil] at e1
      subst e1
      exact ⟨by simp, by simpa using q⟩
theorem lim_t {b : Bk} {r : Int × Int × Int × Int} (h : okRow b.1.length r) (q : Q (.dat (.tuple [.int (limD b r).1, .int (limD b r).2])) S) : Ok (F__law_limits [.dat (bookD b), .dat (rowD r)] S) Q X := by
  obtain ⟨h1, h2, h3, h4, h5, h6, h7⟩ := h
  refine ok_run rfl ?_
  have e : r.1.toNat < b.1.length := by omega
  have e2 : r.1 < (b.1.length : Int) := by omega
  obtain ⟨p, hp⟩ : ∃ p, b.1[r.1.toNat]? = some p := ⟨_, List.getElem?_eq_getElem e⟩
  unfold limD at q
  rw [hp] at q
  have hp2 : b.1[r.1.toNat] = p := by rw [List.getElem?_eq_getElem e] at hp; exact Option.some.inj hp
  simp [g__law_limits, bookD, rowD, atI, ixN, h1, e2, hp2, pairD]
  exact ⟨by decide, by simpa using q⟩
end
section
variable {S : Sto} {Q : OV → Sto → Prop} {X : Exn → Sto → Prop} {k : Nat} {g n : Int}
structure DrawnBook (most far wide slips : Int) (b : Bk) : Prop where
  d1 : 1 ≤ b.1.length
  d2 : b.1.length ≤ 3
  d : ∀ p ∈ b.1, 0 ≤ p.1 ∧ p.1 ≤ slips ∧ 0 ≤ p.2 ∧ p.2 ≤ slips
  n : (b.2.length : Int) ≤ most
  r : ∀ r ∈ b.2, 0 ≤ r.1 ∧ r.1 ≤ (b.1.length : Int) - 1 ∧ 0 ≤ r.2.1 ∧ r.2.1 < r.2.2.1 ∧ r.2.2.1 ≤ far ∧ 0 ≤ r.2.2.2 ∧ r.2.2.2 ≤ 4 * wide + slips + 2
theorem sum_b {M : Int} : ∀ l : List Int, (∀ x ∈ l, 0 ≤ x ∧ x ≤ M) → 0 ≤ l.sum ∧ l.sum ≤ M * l.length
  | [], _ => by simp
  | x :: r, h => by
    obtain ⟨h1, h2⟩ := h x (by simp)
    obtain ⟨h3, h4⟩ := sum_b r fun y hy => h y (by simp [hy])
    simp only [List.sum_cons, List.length_cons]
    rw [Int.natCast_add, Int.mul_add]
    simp
    omega
theorem steps_b {far wide s e : Int} {w : List (Int × Int)} (hw : 0 ≤ wide) (h : Drawn far wide w) : 0 ≤ stepsIn w s e ∧ stepsIn w s e ≤ 4 * wide := by
  unfold stepsIn
  have := sum_b (M := wide) ((w.filter fun p => decide (s ≤ p.1 ∧ p.1 < e)).map fun p => p.2) (fun x hx => by
    obtain ⟨p, hp, rfl⟩ := List.mem_map.mp hx
    have := h.p p (List.mem_filter.mp hp).1
    exact ⟨by omega, this.2.2.2⟩)
  have l1 : (w.filter fun p => decide (s ≤ p.1 ∧ p.1 < e)).length ≤ w.length := List.length_filter_le ..
  have l2 := h.n
  refine ⟨this.1, Int.le_trans this.2 ?_⟩
  rw [List.length_map, Int.mul_comm]
  exact Int.mul_le_mul_of_nonneg_right (by omega) hw
theorem any_book_t {most far wide slips : Int} (hk : k < S.length) (m1 : 0 ≤ most) (m2 : most < 1000) (f1 : 0 < far) (f2 : far < 1000000) (w1 : 0 < wide) (w2 : wide < 1000000) (s1 : 0 ≤ slips) (s2 : slips < 1000000) (q : ∀ b g n, DrawnBook most far wide slips b → Q (.dat (bookD b)) (fl S k g n)) :
    Ok (F__law_any_book [.own k, .dat (.int most), .dat (.int far), .dat (.int wide), .dat (.int slips)] (fl S k g n)) Q X := by
  refine ok_run rfl ?_
  simp [g__law_any_book]
  refine sip_t hk (by decide) (by decide) fun r g1 n1 r0 r1 => ?_
  simp [lim62]
  refine ⟨by omega, by omega, ?_⟩
  refine for_inv (I := fun ds ρ S' => ∃ g n a us, S' = fl S k g n ∧ ρ = [some (.own k), some (.dat (.int most)), some (.dat (.int far)), some (.dat (.int wide)), some (.dat (.int slips)), some (.dat (.tuple (us.map pairD))), a, none, none, none, none, none, none, none] ∧ us.length + ds.length = (1 + r).toNat ∧ ∀ p ∈ us, 0 ≤ p.1 ∧ p.1 ≤ slips ∧ 0 ≤ p.2 ∧ p.2 ≤ slips)
    (fun d r5 ρ S' hI => ?_) (fun ρ S' hI => ?_) _ ⟨g1, n1, none, [], rfl, rfl, by simp, by simp⟩
  · obtain ⟨g2, n2, a, us, rfl, rfl, h1, h2⟩ := hI
    simp at h1
    refine ⟨by simp, _, rfl, ?_⟩
    simp
    refine sip_t hk (by omega) (by omega) fun r2 g3 n3 h3 h4 => ?_
    simp
    refine sip_t hk (by omega) (by omega) fun r3 g4 n4 h5 h6 => ?_
    simp
    refine ⟨by decide, by decide, _, ⟨by simp [sizeLine]; omega, rfl⟩, ⟨_, _, rfl⟩, _, us ++ [(r2, r3)], ⟨by simp [pairD], rfl⟩, by simp; omega, fun x y hm => ?_⟩
    rcases List.mem_append.mp hm with hm | hm
    · exact h2 _ hm
    · cases List.mem_singleton.mp hm
      exact ⟨h3, by omega, h5, by omega⟩
  · obtain ⟨g2, n2, a, us, rfl, rfl, h1, h2⟩ := hI
    simp at h1
    refine ⟨by simp, ?_⟩
    try simp
    refine any_walk_t hk f1 (by omega) w1 (by omega) fun w g3 n3 hw => ?_
    try simp
    refine ⟨_, _, ⟨rfl, rfl⟩, ?_⟩
    refine sip_t hk (by omega) (by omega) fun r2 g4 n4 h3 h4 => ?_
    simp [lim62]
    refine ⟨by omega, by omega, ?_⟩
    refine for_inv (I := fun ds ρ S' => ∃ g n a1 b c d e rs, S' = fl S k g n ∧ ρ = [some (.own k), some (.dat (.int most)), some (.dat (.int far)), some (.dat (.int wide)), some (.dat (.int slips)), some (.dat (.tuple (us.map pairD))), a, some (.dat (walkD w)), some (.dat (.tuple (rs.map rowD))), a1, b, c, d, e] ∧ rs.length + ds.length = r2.toNat ∧
        ∀ r ∈ rs, 0 ≤ r.1 ∧ r.1 ≤ (us.length : Int) - 1 ∧ 0 ≤ r.2.1 ∧ r.2.1 < r.2.2.1 ∧ r.2.2.1 ≤ far ∧ 0 ≤ r.2.2.2 ∧ r.2.2.2 ≤ 4 * wide + slips + 2)
      (fun d r5 ρ S' hI => ?_) (fun ρ S' hI => ?_) _ ⟨g4, n4, none, none, none, none, none, [], rfl, rfl, by simp, by simp⟩
    · obtain ⟨g5, n5, a1, b, c, d1, e, rs, rfl, rfl, h5, h6⟩ := hI
      simp at h5
      refine ⟨by simp, _, rfl, ?_⟩
      simp
      refine sip_t hk (by omega) (by omega) fun r7 g7 n7 i1 i2 => ?_
      try simp
      refine any_stretch_t hk f1 (by omega) fun s e2 g8 n8 j1 j2 j3 => ?_
      try simp
      refine ⟨_, _, ⟨rfl, rfl⟩, ?_⟩
      simp [atI, ixN]
      refine steps_t ?_
      simp [atI, ixN, i1]
      have i3 : r7.toNat < us.length := by omega
      have i4 : r7 < (us.length : Int) := by omega
      obtain ⟨p, hp⟩ : ∃ p, us[r7.toNat]? = some p := ⟨_, List.getElem?_eq_getElem i3⟩
      have hp2 : us[r7.toNat] = p := by rw [List.getElem?_eq_getElem i3] at hp; exact Option.some.inj hp
      have hp3 := h2 p (List.mem_of_getElem? hp)
      simp [i4, hp2, pairD]
      obtain ⟨p1, p2⟩ := p
      refine ⟨_, ⟨p1, p2, hp, rfl⟩, _, rfl, _, rfl, ?_⟩
      refine sip_t hk (by simp at hp3; omega) (by simp at hp3; omega) fun r9 g9 n9 y1 y2 => ?_
      refine ⟨_, ⟨p1, p2, hp, rfl⟩, _, rfl, _, rfl, ?_⟩
      refine sip_t hk (by simp at hp3; omega) (by simp at hp3; omega) fun r10 g10 n10 y3 y4 => ?_
      refine ⟨_, rfl, ?_⟩
      refine sip_t hk (by decide) (by decide) fun r11 g11 n11 y5 y6 => ?_
      refine ⟨_, rfl, ?_⟩
      by_cases c11 : 0 < r11
      · refine .inr ⟨by simp [c11], ?_⟩
        simp
        have hc : 0 ≤ (if 0 < stepsIn w s e2 + (r9 - r10) then stepsIn w s e2 + (r9 - r10) else 0) ∧ (if 0 < stepsIn w s e2 + (r9 - r10) then stepsIn w s e2 + (r9 - r10) else 0) ≤ 4 * wide + slips + 2 := by
          have := steps_b (s := s) (e := e2) (by omega) hw
          simp at hp3
          split <;> omega
        generalize (if 0 < stepsIn w s e2 + (r9 - r10) then stepsIn w s e2 + (r9 - r10) else 0) = cc at hc
        refine ⟨by decide, by decide, _, ⟨by simp [sizeLine]; omega, rfl⟩, ⟨_, _, rfl⟩, _, _, _, _, _, rs ++ [(r7, s, e2, cc)], ⟨by simp [rowD], rfl, rfl, rfl, rfl, rfl⟩, by simp; omega, fun x1 x2 x3 x4 hm => ?_⟩
        rcases List.mem_append.mp hm with hm | hm
        · exact h6 _ hm
        · cases List.mem_singleton.mp hm
          exact ⟨i1, by omega, j1, j2, j3, hc.1, hc.2⟩
      · refine .inl ⟨by simp [c11], ?_⟩
        refine sip_t hk (by omega) (by omega) fun r12 g12 n12 y7 y8 => ?_
        simp
        refine ⟨by decide, by decide, _, ⟨by simp [sizeLine]; omega, rfl⟩, ⟨_, _, rfl⟩, _, _, _, _, _, rs ++ [(r7, s, e2, r12)], ⟨by simp [rowD], rfl, rfl, rfl, rfl, rfl⟩, by simp; omega, fun x1 x2 x3 x4 hm => ?_⟩
        rcases List.mem_append.mp hm with hm | hm
        · exact h6 _ hm
        · cases List.mem_singleton.mp hm
          exact ⟨i1, by omega, j1, j2, j3, y7, by omega⟩
    · obtain ⟨g5, n5, a1, b, c, d1, e, rs, rfl, rfl, h5, h6⟩ := hI
      simp at h5
      refine ⟨by simp, ?_⟩
      simp
      refine ⟨by decide, ?_⟩
      rw [fl_take0]
      exact q (us, rs) _ _ ⟨by simp; omega, by simp; omega, h2, by simp; omega, h6⟩
end

end K11
set_option linter.all false
set_option maxRecDepth 100000
set_option maxHeartbeats 1000000
/-! Sums along links, in plain words: the web of all greatest sums. No program in sight. -/
namespace Bd
abbrev Ed := Int × Int × Int
inductive Path (es : List Ed) : Int → Int → Int → Prop
  | refl (a : Int) : Path es a a 0
  | step {a b c v w : Int} : Path es a b v → (b, c, w) ∈ es → Path es a c (v + w)
section
variable {es fs : List Ed} {a b c u v w : Int}
theorem Path.one (h : (a, b, w) ∈ es) : Path es a b w := by
  have := (Path.refl (es := es) a).step h
  simpa using this
theorem Path.trans (h : Path es a b v) (k : Path es b c u) : Path es a c (v + u) := by
  induction k with
  | refl => simpa using h
  | step k e ih =>
    have := ih.step e
    rwa [Int.add_assoc] at this
theorem Path.mono (m : ∀ e ∈ es, e ∈ fs) (h : Path es a b v) : Path fs a b v := by
  induction h with
  | refl => exact .refl _
  | step _ e ih => exact ih.step (m _ e)
/-- a path over links each of which some path overtakes -/
theorem Path.over (m : ∀ e ∈ es, ∃ z, e.2.2 ≤ z ∧ Path fs e.1 e.2.1 z) (h : Path es a b v) : ∃ z, v ≤ z ∧ Path fs a b z := by
  induction h with
  | refl => exact ⟨0, Int.le_refl _, .refl _⟩
  | step _ e ih =>
    obtain ⟨z, h1, h2⟩ := ih
    obtain ⟨y, h3, h4⟩ := m _ e
    simp at h3 h4
    exact ⟨z + y, by omega, h2.trans h4⟩
theorem Path.src (h : Path es a b v) : (a = b ∧ v = 0) ∨ ∃ e ∈ es, e.1 = a := by
  induction h with
  | refl => exact .inl ⟨rfl, rfl⟩
  | step _ e ih =>
    rcases ih with ⟨rfl, rfl⟩ | ih
    · exact .inr ⟨_, e, rfl⟩
    · exact .inr ih
/-- a number for each moment that goes with all links -/
def Pot (es : List Ed) (x : Int → Int) : Prop := ∀ e ∈ es, x e.1 + e.2.2 ≤ x e.2.1
theorem Pot.path {x : Int → Int} (p : Pot es x) (h : Path es a b v) : x a + v ≤ x b := by
  induction h with
  | refl => omega
  | step _ e ih =>
    have := p _ e
    simp at this
    omega
end
def Pos (es : List Ed) : Prop := ∃ a v, 0 < v ∧ Path es a a v
theorem Pot.noPos {es : List Ed} {x : Int → Int} (p : Pot es x) : ¬ Pos es := fun ⟨a, v, h, k⟩ => by
  have := p.path k
  omega
/-! numbers, or none, which is less than all -/
def leO : Option Int → Option Int → Prop
  | none, _ => True
  | some _, none => False
  | some a, some b => a ≤ b
def addO : Option Int → Option Int → Option Int
  | some a, some b => some (a + b)
  | _, _ => none
def maxO : Option Int → Option Int → Option Int
  | none, o => o
  | o, none => o
  | some a, some b => some (if b > a then b else a)
section
variable {a b c d : Option Int}
theorem leO.refl (a : Option Int) : leO a a := by cases a <;> simp [leO]
theorem leO.trans (h : leO a b) (k : leO b c) : leO a c := by
  cases a <;> cases b <;> cases c <;> simp [leO] at *
  omega
theorem addO_mono (h : leO a b) (k : leO c d) : leO (addO a c) (addO b d) := by
  cases a <;> cases b <;> cases c <;> cases d <;> simp [leO, addO] at *
  omega
theorem addO_assoc : addO (addO a b) c = addO a (addO b c) := by
  cases a <;> cases b <;> cases c <;> simp [addO]
  omega
theorem maxO_l : leO a (maxO a b) := by
  cases a <;> cases b <;> simp [leO, maxO]
  split <;> omega
theorem maxO_r : leO b (maxO a b) := by
  cases a <;> cases b <;> simp [leO, maxO]
  split <;> omega
theorem maxO_le (h : leO a c) (k : leO b c) : leO (maxO a b) c := by
  cases a <;> cases b <;> cases c <;> simp [leO, maxO] at *
  · exact k
  · exact h
  · split <;> omega
theorem maxO_mem {u : Int} (h : maxO a b = some u) : a = some u ∨ b = some u := by
  cases a with
  | none => cases b <;> simp [maxO] at h ⊢; exact h
  | some x =>
    cases b with
    | none => simp [maxO] at h ⊢; exact h
    | some y =>
      simp [maxO] at h ⊢
      split at h
      · exact .inr h
      · exact .inl h
theorem add_max (h1 : leO (addO a c) d) (h2 : leO (addO b c) d) : leO (addO (maxO a b) c) d := by
  cases a <;> cases b <;> cases c <;> cases d <;> simp [leO, addO, maxO] at *
  · exact h2
  · exact h1
  · split <;> omega
theorem max_add (h1 : leO (addO c a) d) (h2 : leO (addO c b) d) : leO (addO c (maxO a b)) d := by
  cases a <;> cases b <;> cases c <;> cases d <;> simp [leO, addO, maxO] at *
  · exact h2
  · exact h1
  · split <;> omega
theorem zero_add {a : Option Int} : addO (some 0) a = a := by cases a <;> simp [addO]
theorem add_zero {a : Option Int} : addO a (some 0) = a := by cases a <;> simp [addO]
theorem leO.anti (h : leO a b) (k : leO b a) : a = b := by
  cases a <;> cases b <;> simp [leO] at *
  omega
theorem leO.some_le {u : Int} {o : Option Int} (h : leO (some u) o) : ∃ z, o = some z ∧ u ≤ z := by
  cases o with
  | none => exact h.elim
  | some z => exact ⟨z, rfl, h⟩
end
abbrev Web := Int → Int → Option Int
def put (W : Web) (a b : Int) (o : Option Int) : Web := fun x y => if x = a ∧ y = b then o else W x y
def up (W : Web) (a b : Int) (o : Option Int) : Web := put W a b (maxO (W a b) o)
def web0 : Web := fun a b => if a = b then some 0 else none
def addL (W : Web) (es : List Ed) : Web := es.foldl (fun W e => up W e.1 e.2.1 (some e.2.2)) W
def rel3 (mid one : Int) (W : Web) (ts : List Int) : Web := ts.foldl (fun W other => up W one other (addO (W one mid) (W mid other))) W
def rel2 (ts : List Int) (mid : Int) (W : Web) (os : List Int) : Web := os.foldl (fun W one => rel3 mid one W ts) W
def rel1 (ts : List Int) (W : Web) (ms : List Int) : Web := ms.foldl (fun W mid => rel2 ts mid W ts) W
def fw (ts : List Int) (es : List Ed) : Web := rel1 ts (addL web0 es) ts
def leW (V W : Web) : Prop := ∀ a b, leO (V a b) (W a b)
theorem leW.refl (W : Web) : leW W W := fun _ _ => leO.refl _
theorem leW.trans {U V W : Web} (h : leW U V) (k : leW V W) : leW U W := fun a b => (h a b).trans (k a b)
theorem up_le {W : Web} {a b : Int} {o : Option Int} : leW W (up W a b o) := fun x y => by
  unfold up put
  split
  · rename_i h
    rw [h.1, h.2]
    exact maxO_l
  · exact leO.refl _
theorem up_at {W : Web} {a b : Int} {o : Option Int} : leO o (up W a b o a b) := by
  unfold up put
  rw [if_pos ⟨rfl, rfl⟩]
  exact maxO_r
/-- what bounds a web bounds it behind a step -/
theorem up_bound {W B : Web} {a b : Int} {o : Option Int} (h : leW W B) (k : leO o (B a b)) : leW (up W a b o) B := fun x y => by
  unfold up put
  split
  · rename_i e
    rw [e.1, e.2]
    exact maxO_le (h a b) k
  · exact h x y
theorem addL_le {W : Web} : ∀ es : List Ed, leW W (addL W es)
  | [] => leW.refl _
  | e :: r => up_le.trans (addL_le r)
theorem addL_at : ∀ {es : List Ed} {W : Web} {e : Ed}, e ∈ es → leO (some e.2.2) (addL W es e.1 e.2.1)
  | f :: r, W, e, h => by
    rcases List.mem_cons.mp h with rfl | h
    · exact up_at.trans (addL_le r _ _)
    · exact addL_at (es := r) h
theorem rel3_le {mid one : Int} : ∀ (ts : List Int) (W : Web), leW W (rel3 mid one W ts)
  | [], _ => leW.refl _
  | t :: r, W => up_le.trans (rel3_le r _)
theorem rel2_le {ts : List Int} {mid : Int} : ∀ (os : List Int) (W : Web), leW W (rel2 ts mid W os)
  | [], _ => leW.refl _
  | t :: r, W => (rel3_le ts W).trans (rel2_le r _)
theorem rel1_le {ts : List Int} : ∀ (ms : List Int) (W : Web), leW W (rel1 ts W ms)
  | [], _ => leW.refl _
  | t :: r, W => (rel2_le ts W).trans (rel1_le r _)
theorem rel3_low {mid one : Int} {V : Web} : ∀ {ts : List Int} {W : Web} {t : Int}, leW V W → t ∈ ts → leO (addO (V one mid) (V mid t)) (rel3 mid one W ts one t)
  | x :: r, W, t, h, m => by
    rcases List.mem_cons.mp m with rfl | m
    · exact (addO_mono (h _ _) (h _ _)).trans (up_at.trans (rel3_le r _ _ _))
    · exact rel3_low (ts := r) (h.trans up_le) m
theorem rel2_low {ts : List Int} {mid : Int} {V : Web} : ∀ {os : List Int} {W : Web} {o t : Int}, leW V W → o ∈ os → t ∈ ts → leO (addO (V o mid) (V mid t)) (rel2 ts mid W os o t)
  | x :: r, W, o, t, h, m, k => by
    rcases List.mem_cons.mp m with rfl | m
    · exact (rel3_low h k).trans (rel2_le r _ _ _)
    · exact rel2_low (os := r) (h.trans (rel3_le ts W)) m k
/-- what a turn adds at most -/
def turn (V : Web) (k : Int) : Web := fun a b => maxO (V a b) (addO (V a k) (V k b))
theorem turn_row {V : Web} {k b : Int} (h : leO (V k k) (some 0)) : leO (turn V k k b) (V k b) :=
  maxO_le (leO.refl _) ((addO_mono h (leO.refl _)).trans (by rw [zero_add]; exact leO.refl _))
theorem turn_col {V : Web} {k a : Int} (h : leO (V k k) (some 0)) : leO (turn V k a k) (V a k) :=
  maxO_le (leO.refl _) ((addO_mono (leO.refl _) h).trans (by rw [add_zero]; exact leO.refl _))
theorem rel3_high {mid one : Int} {V : Web} (h0 : leO (V mid mid) (some 0)) : ∀ (ts : List Int) {W : Web}, leW W (turn V mid) → leW (rel3 mid one W ts) (turn V mid)
  | [], _, h => h
  | t :: r, W, h => rel3_high h0 r (up_bound h ((addO_mono ((h one mid).trans (turn_col h0)) ((h mid t).trans (turn_row h0))).trans maxO_r))
theorem rel2_high {ts : List Int} {mid : Int} {V : Web} (h0 : leO (V mid mid) (some 0)) : ∀ (os : List Int) {W : Web}, leW W (turn V mid) → leW (rel2 ts mid W os) (turn V mid)
  | [], _, h => h
  | t :: r, W, h => rel2_high h0 r (rel3_high h0 ts h)
/-- closed at these moments -/
def Tri (ts : List Int) (W : Web) (ms : List Int) : Prop := ∀ m ∈ ms, ∀ a ∈ ts, ∀ b ∈ ts, leO (addO (W a m) (W m b)) (W a b)
theorem tri_turn {ts ms : List Int} {W : Web} {k : Int} (hk : k ∈ ts) (hm : ∀ m ∈ ms, m ∈ ts) (h0 : leO (W k k) (some 0)) (h : Tri ts W ms) : Tri ts (rel2 ts k W ts) (k :: ms) := by
  have up1 : leW W (rel2 ts k W ts) := rel2_le ts W
  have hi : leW (rel2 ts k W ts) (turn W k) := rel2_high h0 ts fun a b => maxO_l
  have lo : ∀ a ∈ ts, ∀ b ∈ ts, leO (addO (W a k) (W k b)) (rel2 ts k W ts a b) := fun a ha b hb => rel2_low (leW.refl W) ha hb
  intro m hmm a ha b hb
  rcases List.mem_cons.mp hmm with rfl | hmm
  · exact (addO_mono ((hi a m).trans (turn_col h0)) ((hi m b).trans (turn_row h0))).trans (lo a ha b hb)
  · have mt := hm m hmm
    refine (addO_mono (hi a m) (hi m b)).trans (add_max (max_add ?_ ?_) (max_add ?_ ?_))
    · exact (h m hmm a ha b hb).trans (up1 a b)
    · rw [← addO_assoc]
      exact (addO_mono (h m hmm a ha k hk) (leO.refl _)).trans (lo a ha b hb)
    · rw [addO_assoc]
      exact (addO_mono (leO.refl _) (h m hmm k hk b hb)).trans (lo a ha b hb)
    · have e : addO (addO (W a k) (W k m)) (addO (W m k) (W k b)) = addO (W a k) (addO (addO (W k m) (W m k)) (W k b)) := by simp only [addO_assoc]
      rw [e]
      refine (addO_mono (leO.refl _) ((addO_mono ((h m hmm k hk k hk).trans h0) (leO.refl _)).trans ?_)).trans (lo a ha b hb)
      rw [zero_add]
      exact leO.refl _
theorem tri_all {ts : List Int} : ∀ (ms done : List Int) {W : Web}, (∀ m ∈ ms, m ∈ ts) → (∀ m ∈ done, m ∈ ts) → Tri ts W done → (∀ k ∈ ts, leO (rel1 ts W ms k k) (some 0)) → ∀ m, m ∈ ms ∨ m ∈ done → ∀ a ∈ ts, ∀ b ∈ ts, leO (addO (rel1 ts W ms a m) (rel1 ts W ms m b)) (rel1 ts W ms a b)
  | [], done, W, _, _, h, _, m, hm, a, ha, b, hb => h m (by simpa using hm) a ha b hb
  | k :: ms, done, W, h1, h2, h, h0, m, hm, a, ha, b, hb => by
    have hk := h1 k (by simp)
    have hkk : leO (W k k) (some 0) := (((rel2_le ts W).trans (rel1_le ms _)) k k).trans (h0 k hk)
    refine tri_all ms (k :: done) (fun m hm => h1 m (by simp [hm])) (fun m hm => ?_) (tri_turn hk h2 hkk h) h0 m ?_ a ha b hb
    · rcases List.mem_cons.mp hm with rfl | hm
      · exact hk
      · exact h2 m hm
    · rcases hm with hm | hm
      · rcases List.mem_cons.mp hm with rfl | hm
        · exact .inr (by simp)
        · exact .inl hm
      · exact .inr (by simp [hm])
/-- each number of the web is the sum of a path -/
def Snd (es : List Ed) (W : Web) : Prop := ∀ a b u, W a b = some u → Path es a b u
theorem up_snd {es : List Ed} {W : Web} {a b : Int} {o : Option Int} (h : Snd es W) (k : ∀ u, o = some u → Path es a b u) : Snd es (up W a b o) := fun x y u e => by
  unfold up put at e
  split at e
  · rename_i c
    rw [c.1, c.2]
    rcases maxO_mem e with e | e
    · exact h _ _ _ e
    · exact k _ e
  · exact h _ _ _ e
theorem addO_path {es : List Ed} {W : Web} (h : Snd es W) {a b c u : Int} (e : addO (W a b) (W b c) = some u) : Path es a c u := by
  cases e1 : W a b with
  | none => rw [e1] at e; simp [addO] at e
  | some x =>
    cases e2 : W b c with
    | none => rw [e1, e2] at e; simp [addO] at e
    | some y =>
      rw [e1, e2] at e
      simp [addO] at e
      subst e
      exact (h _ _ _ e1).trans (h _ _ _ e2)
theorem rel3_snd {es : List Ed} {mid one : Int} : ∀ (ts : List Int) {W : Web}, Snd es W → Snd es (rel3 mid one W ts)
  | [], _, h => h
  | t :: r, W, h => rel3_snd r (up_snd h fun u e => addO_path h e)
theorem rel2_snd {es : List Ed} {ts : List Int} {mid : Int} : ∀ (os : List Int) {W : Web}, Snd es W → Snd es (rel2 ts mid W os)
  | [], _, h => h
  | t :: r, W, h => rel2_snd r (rel3_snd ts h)
theorem rel1_snd {es : List Ed} {ts : List Int} : ∀ (ms : List Int) {W : Web}, Snd es W → Snd es (rel1 ts W ms)
  | [], _, h => h
  | t :: r, W, h => rel1_snd r (rel2_snd ts h)
theorem web0_snd {es : List Ed} : Snd es web0 := fun a b u e => by
  unfold web0 at e
  split at e
  · rename_i c
    cases e
    subst c
    exact .refl _
  · cases e
theorem addL_snd {es : List Ed} : ∀ (fs : List Ed) {W : Web}, (∀ e ∈ fs, e ∈ es) → Snd es W → Snd es (addL W fs)
  | [], _, _, h => h
  | f :: r, W, m, h => addL_snd r (fun e he => m e (by simp [he])) (up_snd h fun u e => by cases e; exact Path.one (m f (by simp)))
theorem fw_snd {ts : List Int} {es : List Ed} : Snd es (fw ts es) := rel1_snd ts (addL_snd es (fun _ h => h) web0_snd)
def Ends (ts : List Int) (es : List Ed) : Prop := ∀ e ∈ es, e.1 ∈ ts ∧ e.2.1 ∈ ts
theorem fw_diag {ts : List Int} {es : List Ed} (a : Int) : leO (some 0) (fw ts es a a) := by
  have h1 : leO (some 0) (web0 a a) := by simp [web0, leO]
  exact h1.trans ((addL_le es a a).trans (rel1_le ts _ a a))
theorem fw_link {ts : List Int} {es : List Ed} {e : Ed} (h : e ∈ es) : leO (some e.2.2) (fw ts es e.1 e.2.1) := (addL_at h).trans (rel1_le ts _ _ _)
def canB (ts : List Int) (W : Web) : Bool := ts.all fun t => decide (W t t = some 0)
theorem fw_tri {ts : List Int} {es : List Ed} (h : canB ts (fw ts es) = true) {a b c : Int} (ha : a ∈ ts) (hb : b ∈ ts) (hc : c ∈ ts) : leO (addO (fw ts es a b) (fw ts es b c)) (fw ts es a c) := by
  refine tri_all ts [] (fun _ h => h) (fun _ h => by cases h) (fun _ h => by cases h) (fun k hk => ?_) b (.inl hb) a ha c hc
  have := List.all_eq_true.mp h k hk
  have e : fw ts es k k = some 0 := by simpa using this
  unfold fw at e
  rw [e]
  exact leO.refl _
theorem fw_path {ts : List Int} {es : List Ed} (h : canB ts (fw ts es) = true) (he : Ends ts es) {a b v : Int} (ha : a ∈ ts) (p : Path es a b v) : b ∈ ts ∧ leO (some v) (fw ts es a b) := by
  induction p with
  | refl => exact ⟨ha, fw_diag _⟩
  | step p e ih =>
    obtain ⟨h1, h2⟩ := ih
    have h3 := he _ e
    refine ⟨h3.2, ?_⟩
    have := addO_mono h2 (fw_link (ts := ts) e)
    exact this.trans (fw_tri h ha h1 h3.2)
theorem fw_noPos {ts : List Int} {es : List Ed} (he : Ends ts es) : canB ts (fw ts es) = true ↔ ¬ Pos es := by
  constructor
  · rintro h ⟨a, v, hv, p⟩
    rcases p.src with ⟨_, z⟩ | ⟨e, h1, h2⟩
    · omega
    · have ha : a ∈ ts := h2 ▸ (he e h1).1
      have h3 := (fw_path h he ha p).2
      have := List.all_eq_true.mp h a ha
      have e : fw ts es a a = some 0 := by simpa using this
      rw [e] at h3
      simp [leO] at h3
      omega
  · intro h
    unfold canB
    rw [List.all_eq_true]
    intro t ht
    obtain ⟨z, e, hz⟩ := (fw_diag (ts := ts) (es := es) t).some_le
    simp only [decide_eq_true_eq]
    rw [e]
    by_cases c : z = 0
    · rw [c]
    · exact absurd ⟨t, z, by omega, fw_snd _ _ _ e⟩ h
/-- the greatest sum, or none -/
def Best (es : List Ed) (a b : Int) (o : Option Int) : Prop := (∀ v, Path es a b v → leO (some v) o) ∧ ∀ u, o = some u → Path es a b u
theorem Best.uniq {es : List Ed} {a b : Int} {o p : Option Int} (h : Best es a b o) (k : Best es a b p) : o = p := by
  refine leO.anti ?_ ?_
  · cases e : o with
    | none => trivial
    | some u => exact k.1 _ (h.2 _ e)
  · cases e : p with
    | none => trivial
    | some u => exact h.1 _ (k.2 _ e)
theorem fw_best {ts : List Int} {es : List Ed} (he : Ends ts es) (h : ¬ Pos es) {a b : Int} (ha : a ∈ ts) : Best es a b (fw ts es a b) :=
  ⟨fun v p => (fw_path ((fw_noPos he).mpr h) he ha p).2, fun u e => fw_snd _ _ _ e⟩
/-- over other links that come to the same -/
theorem Best.over {es fs : List Ed} {a b : Int} {o : Option Int} (h : Best es a b o) (m : ∀ e ∈ es, ∃ z, e.2.2 ≤ z ∧ Path fs e.1 e.2.1 z) (k : ∀ e ∈ fs, ∃ z, e.2.2 ≤ z ∧ Path es e.1 e.2.1 z) : Best fs a b o := by
  have up : ∀ v, Path fs a b v → leO (some v) o := fun v p => by
    obtain ⟨z, h1, h2⟩ := p.over k
    exact leO.trans (b := some z) h1 (h.1 z h2)
  refine ⟨up, fun u e => ?_⟩
  obtain ⟨z, h1, h2⟩ := (h.2 u e).over m
  have h3 := up z h2
  rw [e] at h3
  simp [leO] at h3
  have : z = u := by omega
  exact this ▸ h2
theorem Pos.over {es fs : List Ed} (m : ∀ e ∈ es, ∃ z, e.2.2 ≤ z ∧ Path fs e.1 e.2.1 z) (h : Pos es) : Pos fs := by
  obtain ⟨a, v, h1, h2⟩ := h
  obtain ⟨z, h3, h4⟩ := h2.over m
  exact ⟨a, z, by omega, h4⟩
end Bd
set_option linter.all false
set_option maxRecDepth 100000
set_option maxHeartbeats 1000000
/-! Sums that grow along links till they stand. -/
namespace Bd
abbrev Dm := Int → Option Int
def grows (d : Dm) (e : Ed) : Bool := match d e.1 with
  | none => false
  | some x => match d e.2.1 with
    | none => true
    | some y => decide (y < x + e.2.2)
def rx (d : Dm) (e : Ed) : Dm := if grows d e = true then (fun t => if t = e.2.1 then (d e.1).map (· + e.2.2) else d t) else d
def passG (es : List Ed) (d : Dm) (k : Bool) : Dm × Bool := es.foldl (fun p e => (rx p.1 e, p.2 || grows p.1 e)) (d, k)
def pass (es : List Ed) (d : Dm) : Dm × Bool := passG es d false
def far (es : List Ed) : Nat → Dm → Option Dm
  | 0, _ => none
  | n + 1, d => if (pass es d).2 = true then far es n (pass es d).1 else some (pass es d).1
def from0 (s : Int) : Dm := fun t => if t = s then some 0 else none
def SndD (es : List Ed) (s : Int) (d : Dm) : Prop := ∀ b u, d b = some u → Path es s b u
section
variable {es : List Ed} {s : Int}
theorem grows_some {d : Dm} {e : Ed} (h : grows d e = true) : ∃ x, d e.1 = some x := by
  unfold grows at h
  cases c : d e.1 with
  | none => rw [c] at h; cases h
  | some x => exact ⟨x, rfl⟩
theorem grows_no {d : Dm} {e : Ed} {x : Int} (h : grows d e = false) (c : d e.1 = some x) : leO (some (x + e.2.2)) (d e.2.1) := by
  unfold grows at h
  rw [c] at h
  cases c2 : d e.2.1 with
  | none => rw [c2] at h; cases h
  | some y =>
    rw [c2] at h
    simp at h
    exact h
theorem rx_le {d : Dm} {e : Ed} (b : Int) : leO (d b) (rx d e b) := by
  unfold rx
  split
  · rename_i h
    show leO (d b) (if b = e.2.1 then (d e.1).map (· + e.2.2) else d b)
    split
    · rename_i hb
      obtain ⟨x, hx⟩ := grows_some h
      rw [hb, hx]
      unfold grows at h
      rw [hx] at h
      cases c2 : d e.2.1 with
      | none => trivial
      | some y =>
        rw [c2] at h
        simp at h
        simp [leO]
        omega
    · exact leO.refl _
  · exact leO.refl _
theorem rx_at {d : Dm} {e : Ed} {x : Int} (c : d e.1 = some x) : leO (some (x + e.2.2)) (rx d e e.2.1) := by
  unfold rx
  split
  · simp [c, leO]
  · rename_i h
    exact grows_no (by simpa using h) c
theorem rx_snd {d : Dm} {e : Ed} (m : e ∈ es) (h : SndD es s d) : SndD es s (rx d e) := fun b u q => by
  unfold rx at q
  split at q
  · replace q : (if b = e.2.1 then (d e.1).map (· + e.2.2) else d b) = some u := q
    split at q
    · rename_i hb
      subst hb
      cases c : d e.1 with
      | none => rw [c] at q; cases q
      | some x =>
        rw [c] at q
        simp at q
        subst q
        exact (h _ _ c).step m
    · exact h _ _ q
  · exact h _ _ q
theorem passG_le : ∀ (l : List Ed) (d : Dm) (k : Bool) (b : Int), leO (d b) ((passG l d k).1 b)
  | [], d, k, b => leO.refl _
  | e :: r, d, k, b => (rx_le b).trans (passG_le r (rx d e) _ b)
theorem passG_snd : ∀ (l : List Ed) {d : Dm} (k : Bool), (∀ e ∈ l, e ∈ es) → SndD es s d → SndD es s (passG l d k).1
  | [], d, k, _, h => h
  | e :: r, d, k, m, h => passG_snd r _ (fun f hf => m f (by simp [hf])) (rx_snd (m e (by simp)) h)
theorem passG_true : ∀ (l : List Ed) (d : Dm), (passG l d true).2 = true
  | [], _ => rfl
  | e :: r, d => by
    show (passG r (rx d e) (true || grows d e)).2 = true
    rw [Bool.true_or]
    exact passG_true r _
theorem passG_no : ∀ (l : List Ed) {d : Dm} {k : Bool}, (passG l d k).2 = false → (passG l d k).1 = d ∧ ∀ e ∈ l, grows d e = false
  | [], d, k, _ => ⟨rfl, fun e h => by cases h⟩
  | e :: r, d, k, h => by
    have h' : (passG r (rx d e) (k || grows d e)).2 = false := h
    cases g : grows d e with
    | true =>
      rw [g, Bool.or_true, passG_true] at h'
      cases h'
    | false =>
      have e1 : rx d e = d := by unfold rx; rw [g]; rfl
      rw [e1, g, Bool.or_false] at h'
      obtain ⟨h1, h2⟩ := passG_no r h'
      refine ⟨?_, fun f hf => ?_⟩
      · show (passG r (rx d e) (k || grows d e)).1 = d
        rw [e1, g, Bool.or_false]
        exact h1
      · rcases List.mem_cons.mp hf with rfl | hf
        · exact g
        · exact h2 f hf
theorem passG_still : ∀ (l : List Ed) {d : Dm} {k : Bool}, (∀ e ∈ l, grows d e = false) → passG l d k = (d, k)
  | [], d, k, _ => rfl
  | e :: r, d, k, h => by
    have g := h e (by simp)
    have e1 : rx d e = d := by unfold rx; rw [g]; rfl
    show passG r (rx d e) (k || grows d e) = _
    rw [e1, g, Bool.or_false]
    exact passG_still r fun f hf => h f (by simp [hf])
theorem closed_path {d : Dm} (h : ∀ e ∈ es, grows d e = false) {a b v x : Int} (p : Path es a b v) (hx : d a = some x) : ∃ y, d b = some y ∧ x + v ≤ y := by
  induction p with
  | refl => exact ⟨x, hx, by omega⟩
  | step p e ih =>
    obtain ⟨y, h1, h2⟩ := ih
    obtain ⟨z, h3, h4⟩ := (grows_no (h _ e) h1).some_le
    exact ⟨z, h3, by simp at h4; omega⟩
theorem far_spec : ∀ {n : Nat} {d d' : Dm}, SndD es s d → leO (some 0) (d s) → far es n d = some d' → SndD es s d' ∧ leO (some 0) (d' s) ∧ ∀ e ∈ es, grows d' e = false
  | 0, _, _, _, _, h => by cases h
  | n + 1, d, d', h1, h2, h => by
    unfold far at h
    split at h
    · exact far_spec (passG_snd es false (fun _ h => h) h1) (h2.trans (passG_le es d false s)) h
    · rename_i c
      cases h
      obtain ⟨e1, e2⟩ := passG_no es (d := d) (k := false) (by cases z : (passG es d false).2 with | false => rfl | true => exact absurd z c)
      unfold pass
      rw [e1]
      exact ⟨h1, h2, e2⟩
theorem from0_snd : SndD es s (from0 s) := fun b u h => by
  unfold from0 at h
  split at h
  · rename_i c
    cases h
    rw [c]
    exact .refl _
  · cases h
theorem from0_at : leO (some 0) (from0 s s) := by simp [from0, leO]
theorem far_best {n : Nat} {d : Dm} (h : far es n (from0 s) = some d) (b : Int) : Best es s b (d b) := by
  obtain ⟨h1, h2, h3⟩ := far_spec from0_snd from0_at h
  obtain ⟨x, hx, h0⟩ := h2.some_le
  refine ⟨fun v p => ?_, fun u e => h1 _ _ e⟩
  obtain ⟨y, h4, h5⟩ := closed_path h3 p hx
  rw [h4]
  simp [leO]
  omega
/-- no sum grows for ever on what is reached -/
theorem far_noPos {n : Nat} {d : Dm} (h : far es n (from0 s) = some d) {v : Int} (p : Path es s s v) : v ≤ 0 := by
  obtain ⟨h1, h2, h3⟩ := far_spec from0_snd from0_at h
  obtain ⟨x, hx, h0⟩ := h2.some_le
  obtain ⟨y, h4, h5⟩ := closed_path h3 p hx
  rw [hx] at h4
  cases h4
  omega
end
/-! it ends where no ring is -/
def cnt (D d : Dm) : List Int → Nat
  | [] => 0
  | t :: r => (if d t = D t then 0 else 1) + cnt D d r
theorem cnt_le {D d d' : Dm} : ∀ {ts : List Int}, (∀ b ∈ ts, d b = D b → d' b = D b) → cnt D d' ts ≤ cnt D d ts
  | [], _ => Nat.le_refl _
  | t :: r, h => by
    have ih := cnt_le (ts := r) fun b hb => h b (by simp [hb])
    have := h t (by simp)
    simp only [cnt]
    split <;> split <;> first | omega | (exfalso; exact absurd (this (by assumption)) (by assumption))
theorem cnt_lt {D d d' : Dm} {y : Int} : ∀ {ts : List Int}, (∀ b ∈ ts, d b = D b → d' b = D b) → y ∈ ts → d y ≠ D y → d' y = D y → cnt D d' ts < cnt D d ts
  | t :: r, h, hy, h1, h2 => by
    rcases List.mem_cons.mp hy with rfl | hy
    · have := cnt_le (ts := r) fun b hb => h b (by simp [hb])
      simp only [cnt]
      rw [if_pos h2, if_neg h1]
      omega
    · have ih := cnt_lt (ts := r) (fun b hb => h b (by simp [hb])) hy h1 h2
      have := h t (by simp)
      simp only [cnt]
      split <;> split <;> first | omega | (exfalso; exact absurd (this (by assumption)) (by assumption))
theorem cnt_zero {D d : Dm} : ∀ {ts : List Int}, cnt D d ts = 0 → ∀ b ∈ ts, d b = D b
  | t :: r, h, b, hb => by
    simp only [cnt] at h
    split at h
    · rename_i c
      rcases List.mem_cons.mp hb with rfl | hb
      · exact c
      · exact cnt_zero (by omega) b hb
    · omega
theorem cnt_len {D d : Dm} : ∀ ts : List Int, cnt D d ts ≤ ts.length
  | [] => Nat.le_refl _
  | t :: r => by
    have := cnt_len (D := D) (d := d) r
    simp only [cnt, List.length_cons]
    split <;> omega
theorem cnt_pos {D d : Dm} : ∀ {ts : List Int}, cnt D d ts ≠ 0 → ∃ b ∈ ts, d b ≠ D b
  | [], h => absurd rfl h
  | t :: r, h => by
    by_cases c : d t = D t
    · simp only [cnt, if_pos c, Nat.zero_add] at h
      obtain ⟨b, h1, h2⟩ := cnt_pos h
      exact ⟨b, by simp [h1], h2⟩
    · exact ⟨t, by simp, c⟩
section
variable {es : List Ed} {s : Int} {ts : List Int} {D : Dm}
/-- a link that is tight, from where the sum stands to where it does not -/
theorem tight (hD : ∀ b, Best es s b (D b)) (h0 : D s = some 0) {d : Dm} (hd : leO (some 0) (d s)) (hs : SndD es s d) {b v : Int} (p : Path es s b v) (hv : D b = some v) (nb : d b ≠ D b) :
    ∃ e ∈ es, ∃ x, d e.1 = D e.1 ∧ D e.1 = some x ∧ d e.2.1 ≠ D e.2.1 ∧ D e.2.1 = some (x + e.2.2) := by
  induction p with
  | refl =>
    refine absurd ?_ nb
    obtain ⟨z, h1, h2⟩ := hd.some_le
    have h3 := (hD s).1 z (hs _ _ h1)
    rw [h0] at h3
    simp [leO] at h3
    rw [h1, h0, show z = 0 by omega]
  | step p e ih =>
    rename_i b c v w
    obtain ⟨z, h1, h2⟩ := ((hD b).1 _ p).some_le
    have h3 := (hD c).1 _ (((hD b).2 z h1).step e)
    rw [hv] at h3
    simp [leO] at h3
    have ez : z = v := by omega
    subst ez
    by_cases hb : d b = D b
    · exact ⟨_, e, z, hb, h1, nb, hv⟩
    · exact ih h1 hb
theorem passG_step {x : Int} {e : Ed} (hD : ∀ b, Best es s b (D b)) (hx : D e.1 = some x) : ∀ (l : List Ed) {d : Dm} {k : Bool}, (∀ f ∈ l, f ∈ es) → SndD es s d → e ∈ l → d e.1 = D e.1 → leO (some (x + e.2.2)) ((passG l d k).1 e.2.1)
  | f :: r, d, k, m, hs, he, hd => by
    have hs' := rx_snd (m f (by simp)) hs
    have keep : rx d f e.1 = D e.1 := by
      have h1 := rx_le (d := d) (e := f) e.1
      rw [hd] at h1
      refine leO.anti ?_ h1
      cases c : rx d f e.1 with
      | none => trivial
      | some u => exact (hD e.1).1 u (hs' _ _ c)
    rcases List.mem_cons.mp he with rfl | he
    · exact (rx_at (hd.trans hx)).trans (passG_le r _ _ _)
    · exact passG_step hD hx r (fun g hg => m g (by simp [hg])) hs' he keep
theorem far_some (hD : ∀ b, Best es s b (D b)) (h0 : D s = some 0) (he : Ends ts es) (hs : s ∈ ts) : ∀ {n : Nat} {d : Dm}, SndD es s d → leO (some 0) (d s) → cnt D d ts < n → ∃ d', far es n d = some d'
  | 0, _, _, _, h => absurd h (by omega)
  | n + 1, d, h1, h2, h => by
    unfold far
    have up : ∀ b, leO (d b) ((pass es d).1 b) := fun b => passG_le es d false b
    have h1' := passG_snd es (s := s) (d := d) false (fun _ h => h) h1
    have le : ∀ {d : Dm}, SndD es s d → ∀ b, leO (d b) (D b) := fun {d} hs b => by
      cases c : d b with
      | none => trivial
      | some u => exact (hD b).1 u (hs _ _ c)
    split
    · rename_i g
      refine far_some hD h0 he hs h1' (h2.trans (up s)) ?_
      by_cases z : cnt D d ts = 0
      · have fin := cnt_zero z
        have still : ∀ e ∈ es, grows d e = false := fun e hm => by
          have := he e hm
          cases g : grows d e with
          | false => rfl
          | true =>
            obtain ⟨x, hx⟩ := grows_some g
            have hx2 := hx
            rw [fin _ this.1] at hx2
            have h5 := (hD e.2.1).1 _ (((hD e.1).2 x hx2).step hm)
            rw [← fin _ this.2] at h5
            obtain ⟨y, h6, h7⟩ := h5.some_le
            unfold grows at g
            rw [hx, h6] at g
            simp at g
            exact absurd g (Int.not_lt.mpr h7)
        rw [show pass es d = (d, false) from passG_still es still] at g
        cases g
      · obtain ⟨b, hb, nb⟩ := cnt_pos z
        have : ∃ v, D b = some v := by
          cases c : D b with
          | some v => exact ⟨v, rfl⟩
          | none =>
            exfalso
            apply nb
            have := le h1 b
            rw [c] at this ⊢
            cases c2 : d b with
            | none => rfl
            | some u => rw [c2] at this; exact this.elim
        obtain ⟨v, hv⟩ := this
        obtain ⟨e, hm, x, e1, e2, e3, e4⟩ := tight hD h0 h2 h1 ((hD b).2 v hv) hv nb
        have h5 := passG_step (k := false) hD e2 es (fun _ h => h) h1 hm e1
        have h6 : (pass es d).1 e.2.1 = D e.2.1 := by
          refine leO.anti (le h1' _) ?_
          rw [e4]
          exact h5
        have := cnt_lt (D := D) (d := d) (d' := (pass es d).1) (ts := ts) (fun b _ h => leO.anti (le h1' b) (by rw [← h]; exact up b)) (he e hm).2 e3 h6
        omega
    · exact ⟨_, rfl⟩
theorem far_fw (he : Ends ts es) (hp : ¬ Pos es) (hs : s ∈ ts) (hn : ts.length ≤ 30) : ∃ d, far es 31 (from0 s) = some d ∧ ∀ b, d b = fw ts es s b := by
  have hD : ∀ b, Best es s b ((fw ts es s) b) := fun b => fw_best he hp hs
  have h0 : fw ts es s s = some 0 := by
    have := List.all_eq_true.mp ((fw_noPos he).mpr hp) s hs
    simpa using this
  have := cnt_len (D := fw ts es s) (d := from0 s) ts
  obtain ⟨d, h⟩ := far_some hD h0 he hs from0_snd from0_at (n := 31) (by omega)
  exact ⟨d, h, fun b => (far_best h b).uniq (hD b)⟩
/-- the law's way to tell whether a ring is there -/
theorem can_iff (he : Ends ts es) (hn : ts.length ≤ 30) (fs : List Int) (hf : ∀ t, t ∈ fs ↔ ∃ e ∈ es, e.1 = t) : (fs.all fun t => (far es 31 (from0 t)).isSome) = true ↔ ¬ Pos es := by
  rw [List.all_eq_true]
  constructor
  · rintro h ⟨a, v, hv, p⟩
    rcases p.src with ⟨_, z⟩ | ⟨e, h1, h2⟩
    · omega
    · have := h a ((hf a).mpr ⟨e, h1, h2⟩)
      obtain ⟨d, hd⟩ := Option.isSome_iff_exists.mp this
      have := far_noPos hd p
      omega
  · intro hp t ht
    obtain ⟨e, h1, h2⟩ := (hf t).mp ht
    obtain ⟨d, hd, _⟩ := far_fw (s := t) he hp (h2 ▸ (he e h1).1) hn
    rw [hd]
    rfl
end
end Bd
set_option linter.all false
set_option maxRecDepth 100000
set_option maxHeartbeats 1000000
/-! Books, walks and their graph. -/
namespace Bd
/-- a walk's steps from a moment on, ahead of another one -/
def stp (w : List (Int × Int)) (s g : Int) : Int := ((w.filter fun p => decide (s ≤ p.1 ∧ p.1 < g)).map fun p => p.2).sum
/-- steps ahead of a moment -/
def cum (w : List (Int × Int)) (t : Int) : Int := ((w.filter fun p => decide (p.1 < t)).map fun p => p.2).sum
def upW (w : List (Int × Int)) : Prop := ∀ p ∈ w, 0 ≤ p.2
theorem stp_cons (p : Int × Int) (w : List (Int × Int)) (s g : Int) : stp (p :: w) s g = (if s ≤ p.1 ∧ p.1 < g then p.2 else 0) + stp w s g := by
  unfold stp
  by_cases c : s ≤ p.1 ∧ p.1 < g
  · rw [if_pos c, List.filter_cons_of_pos (by simpa using c)]
    simp
  · rw [if_neg c, List.filter_cons_of_neg (by simpa using c)]
    simp
theorem cum_cons (p : Int × Int) (w : List (Int × Int)) (t : Int) : cum (p :: w) t = (if p.1 < t then p.2 else 0) + cum w t := by
  unfold cum
  by_cases c : p.1 < t
  · rw [if_pos c, List.filter_cons_of_pos (by simpa using c)]
    simp
  · rw [if_neg c, List.filter_cons_of_neg (by simpa using c)]
    simp
theorem cum_stp {s g : Int} (h : s ≤ g) : ∀ w : List (Int × Int), stp w s g = cum w g - cum w s
  | [] => by simp [stp, cum]
  | p :: w => by
    rw [stp_cons, cum_cons, cum_cons, cum_stp h w]
    split <;> split <;> split <;> omega
theorem stp_pos {w : List (Int × Int)} (hw : upW w) (s g : Int) : 0 ≤ stp w s g := by
  induction w with
  | nil => simp [stp]
  | cons p w ih =>
    rw [stp_cons]
    have := hw p (by simp)
    have := ih fun q hq => hw q (by simp [hq])
    split <;> omega
theorem cum_mono {w : List (Int × Int)} (hw : upW w) {s g : Int} (h : s ≤ g) : cum w s ≤ cum w g := by
  have := cum_stp h w
  have := stp_pos hw s g
  omega
/-- the links on with time -/
def onE : List Int → List Ed
  | a :: b :: r => (a, b, 0) :: onE (b :: r)
  | _ => []
theorem onE_mem : ∀ {ts : List Int} {e : Ed}, e ∈ onE ts → e.1 ∈ ts ∧ e.2.1 ∈ ts ∧ e.2.2 = 0
  | [], e, h => by cases h
  | [a], e, h => by cases h
  | a :: b :: r, e, h => by
    rcases List.mem_cons.mp h with rfl | h
    · simp
    · obtain ⟨h1, h2, h3⟩ := onE_mem h
      exact ⟨by simp [h1], by simp at h2 ⊢; right; exact h2, h3⟩
theorem onE_lt : ∀ {ts : List Int} {e : Ed}, ts.Pairwise (· < ·) → e ∈ onE ts → e.1 < e.2.1
  | [], e, _, h => by cases h
  | [a], e, _, h => by cases h
  | a :: b :: r, e, hs, h => by
    rcases List.mem_cons.mp h with rfl | h
    · exact (List.pairwise_cons.mp hs).1 b (by simp)
    · exact onE_lt (List.pairwise_cons.mp hs).2 h
theorem onE_path : ∀ {ts : List Int} {es : List Ed}, ts.Pairwise (· < ·) → (∀ e ∈ onE ts, e ∈ es) → ∀ {a b : Int}, a ∈ ts → b ∈ ts → a ≤ b → Path es a b 0
  | [], _, _, _, a, _, h, _, _ => by cases h
  | [t], _, _, _, a, b, h1, h2, _ => by
    rw [List.mem_singleton.mp h1, List.mem_singleton.mp h2]
    exact .refl _
  | t :: u :: r, es, hs, m, a, b, h1, h2, h => by
    obtain ⟨hs1, hs2⟩ := List.pairwise_cons.mp hs
    have m2 : ∀ e ∈ onE (u :: r), e ∈ es := fun e he => m e (by simp [onE, he])
    have m1 : (t, u, (0 : Int)) ∈ es := m _ (by simp [onE])
    rcases List.mem_cons.mp h1 with rfl | h1'
    · rcases List.mem_cons.mp h2 with rfl | h2'
      · exact .refl _
      · have hub : u ≤ b := by
          rcases List.mem_cons.mp h2' with rfl | q
          · omega
          · have := (List.pairwise_cons.mp hs2).1 b q
            omega
        have := (Path.one m1).trans (onE_path hs2 m2 (by simp) h2' hub)
        simpa using this
    · rcases List.mem_cons.mp h2 with rfl | h2'
      · have := hs1 a h1'
        omega
      · exact onE_path hs2 m2 h1' h2' h
theorem onE_pot : ∀ {ts : List Int} {x : Int → Int}, ts.Pairwise (· < ·) → (∀ s g, s ≤ g → x s ≤ x g) → Pot (onE ts) x := fun hs hx e he => by
  obtain ⟨_, _, h3⟩ := onE_mem he
  have := hx _ _ (Int.le_of_lt (onE_lt hs he))
  omega
/-- the walk whose sums are given -/
def mkW (x : Int → Int) : List Int → List (Int × Int)
  | a :: b :: r => (if x b - x a > 0 then [(a, x b - x a)] else []) ++ mkW x (b :: r)
  | _ => []
theorem mkW_mem {x : Int → Int} : ∀ {ts : List Int} {p : Int × Int}, p ∈ mkW x ts → p.1 ∈ ts ∧ 0 < p.2
  | [], p, h => by cases h
  | [a], p, h => by cases h
  | a :: b :: r, p, h => by
    rcases List.mem_append.mp h with h | h
    · split at h
      · rename_i c
        cases List.mem_singleton.mp h
        exact ⟨by simp, c⟩
      · cases h
    · obtain ⟨h1, h2⟩ := mkW_mem h
      exact ⟨by simp [h1], h2⟩
theorem mkW_up {x : Int → Int} {ts : List Int} : upW (mkW x ts) := fun p hp => Int.le_of_lt (mkW_mem hp).2
theorem mkW_sorted {x : Int → Int} : ∀ {ts : List Int}, ts.Pairwise (· < ·) → (mkW x ts).Pairwise fun p q => p.1 < q.1
  | [], _ => List.Pairwise.nil
  | [a], _ => List.Pairwise.nil
  | a :: b :: r, h => by
    obtain ⟨h1, h2⟩ := List.pairwise_cons.mp h
    unfold mkW
    rw [List.pairwise_append]
    refine ⟨?_, mkW_sorted h2, fun p hp q hq => ?_⟩
    · split <;> simp
    · split at hp
      · cases List.mem_singleton.mp hp
        exact h1 _ (mkW_mem hq).1
      · cases hp
theorem mkW_len {x : Int → Int} : ∀ {ts : List Int}, (mkW x ts).length ≤ ts.length
  | [] => Nat.le_refl _
  | [a] => by simp [mkW]
  | a :: b :: r => by
    have := mkW_len (x := x) (ts := b :: r)
    unfold mkW
    rw [List.length_append]
    simp only [List.length_cons] at this ⊢
    split <;> simp <;> omega
theorem mkW_before {x : Int → Int} {t : Int} : ∀ {ts : List Int}, (∀ u ∈ ts, t ≤ u) → cum (mkW x ts) t = 0
  | [], _ => rfl
  | [a], _ => rfl
  | a :: b :: r, h => by
    have ih := mkW_before (x := x) (t := t) (ts := b :: r) fun u hu => h u (by simp at hu ⊢; right; exact hu)
    have := h a (by simp)
    unfold mkW
    split
    · rw [List.singleton_append, cum_cons, ih, if_neg (by simp; omega)]
      rfl
    · simpa using ih
theorem mkW_cum {x : Int → Int} : ∀ {ts : List Int} {t0 : Int}, (t0 :: ts).Pairwise (· < ·) → Pot (onE (t0 :: ts)) x → ∀ t ∈ t0 :: ts, cum (mkW x (t0 :: ts)) t = x t - x t0
  | [], t0, _, _, t, ht => by
    cases List.mem_singleton.mp ht
    simp [mkW, cum]
  | b :: r, t0, hs, hp, t, ht => by
    obtain ⟨h1, h2⟩ := List.pairwise_cons.mp hs
    have hp2 : Pot (onE (b :: r)) x := fun e he => hp e (by simp [onE, he])
    have hb : x t0 ≤ x b := by
      have := hp (t0, b, 0) (by simp [onE])
      simpa using this
    rcases List.mem_cons.mp ht with rfl | ht
    · rw [mkW_before fun u hu => ?_]
      · omega
      · rcases List.mem_cons.mp hu with rfl | hu
        · exact Int.le_refl _
        · exact Int.le_of_lt (h1 u hu)
    · have ih := mkW_cum h2 hp2 t ht
      have := h1 t ht
      unfold mkW
      split
      · rw [List.singleton_append, cum_cons, ih, if_pos this]
        simp
        omega
      · rw [List.nil_append, ih]
        omega
theorem mkW_stp {x : Int → Int} {ts : List Int} (hs : ts.Pairwise (· < ·)) (hp : Pot (onE ts) x) {s g : Int} (h1 : s ∈ ts) (h2 : g ∈ ts) (h : s ≤ g) : stp (mkW x ts) s g = x g - x s := by
  rw [cum_stp h]
  cases ts with
  | nil => cases h1
  | cons t0 ts => rw [mkW_cum hs hp g h2, mkW_cum hs hp s h1]; omega
end Bd
set_option linter.all false
set_option maxRecDepth 100000
set_option maxHeartbeats 1000000
/-! Readings with their limits: which walks keep them, and what the web tells. -/
namespace Bd
/-- (start, goal, least, most) -/
abbrev Rd := Int × Int × Int × Int
def rdE (L : List Rd) : List Ed := L.flatMap fun r => [(r.1, r.2.1, r.2.2.1), (r.2.1, r.1, -r.2.2.2)]
def gr (ts : List Int) (L : List Rd) : List Ed := onE ts ++ rdE L
def keepL (L : List Rd) (w : List (Int × Int)) : Prop := ∀ r ∈ L, r.2.2.1 ≤ stp w r.1 r.2.1 ∧ stp w r.1 r.2.1 ≤ r.2.2.2
def okL (L : List Rd) : Prop := ∀ r ∈ L, r.1 < r.2.1
def EndsL (ts : List Int) (L : List Rd) : Prop := ∀ r ∈ L, r.1 ∈ ts ∧ r.2.1 ∈ ts
theorem rdE_mem {L : List Rd} {e : Ed} : e ∈ rdE L ↔ ∃ r ∈ L, e = (r.1, r.2.1, r.2.2.1) ∨ e = (r.2.1, r.1, -r.2.2.2) := by
  simp [rdE]
theorem gr_ends {ts : List Int} {L : List Rd} (h : EndsL ts L) : Ends ts (gr ts L) := fun e he => by
  rcases List.mem_append.mp he with he | he
  · exact ⟨(onE_mem he).1, (onE_mem he).2.1⟩
  · obtain ⟨r, hr, rfl | rfl⟩ := rdE_mem.mp he
    · exact h r hr
    · exact ⟨(h r hr).2, (h r hr).1⟩
theorem rd_pot {L : List Rd} (h : okL L) {w : List (Int × Int)} : keepL L w ↔ Pot (rdE L) (cum w) := by
  constructor
  · intro k e he
    obtain ⟨r, hr, rfl | rfl⟩ := rdE_mem.mp he
    · have h1 := (k r hr).1
      have h2 := cum_stp (Int.le_of_lt (h r hr)) w
      simp
      omega
    · have h1 := (k r hr).2
      have h2 := cum_stp (Int.le_of_lt (h r hr)) w
      simp
      omega
  · intro k r hr
    have h1 := k _ (rdE_mem.mpr ⟨r, hr, .inl rfl⟩)
    have h2 := k _ (rdE_mem.mpr ⟨r, hr, .inr rfl⟩)
    have h3 := cum_stp (Int.le_of_lt (h r hr)) w
    simp at h1 h2
    omega
theorem pot_app {es fs : List Ed} {x : Int → Int} : Pot (es ++ fs) x ↔ Pot es x ∧ Pot fs x := by
  constructor
  · exact fun h => ⟨fun e he => h e (by simp [he]), fun e he => h e (by simp [he])⟩
  · rintro ⟨h1, h2⟩ e he
    rcases List.mem_append.mp he with he | he
    · exact h1 e he
    · exact h2 e he
theorem keep_pot {ts : List Int} {L : List Rd} (hs : ts.Pairwise (· < ·)) (h : okL L) {w : List (Int × Int)} (hw : upW w) (k : keepL L w) : Pot (gr ts L) (cum w) :=
  pot_app.mpr ⟨onE_pot hs fun _ _ => cum_mono hw, (rd_pot h).mp k⟩
/-- from numbers that go with all links to a walk -/
theorem pot_keep {ts : List Int} {L : List Rd} (hs : ts.Pairwise (· < ·)) (h : okL L) (he : EndsL ts L) {x : Int → Int} (hp : Pot (gr ts L) x) : keepL L (mkW x ts) := fun r hr => by
  obtain ⟨h1, h2⟩ := pot_app.mp hp
  have h3 := mkW_stp hs h1 (he r hr).1 (he r hr).2 (Int.le_of_lt (h r hr))
  have h4 := h2 _ (rdE_mem.mpr ⟨r, hr, .inl rfl⟩)
  have h5 := h2 _ (rdE_mem.mpr ⟨r, hr, .inr rfl⟩)
  simp at h4 h5
  omega
/-- the sums from the first moment on -/
def potW (W : Web) (t0 : Int) : Int → Int := fun t => (W t0 t).getD 0
theorem fw_pot {ts : List Int} {t0 : Int} {es : List Ed} (hs : (t0 :: ts).Pairwise (· < ·)) (m : ∀ e ∈ onE (t0 :: ts), e ∈ es) (he : Ends (t0 :: ts) es) (hp : ¬ Pos es) : Pot es (potW (fw (t0 :: ts) es) t0) ∧ ∀ t ∈ t0 :: ts, fw (t0 :: ts) es t0 t = some (potW (fw (t0 :: ts) es) t0 t) := by
  have hB : ∀ b, Best es t0 b (fw (t0 :: ts) es t0 b) := fun b => fw_best he hp (by simp)
  have all : ∀ t ∈ t0 :: ts, ∃ u, fw (t0 :: ts) es t0 t = some u := fun t ht => by
    have le : t0 ≤ t := by
      rcases List.mem_cons.mp ht with rfl | ht
      · exact Int.le_refl _
      · exact Int.le_of_lt ((List.pairwise_cons.mp hs).1 t ht)
    obtain ⟨z, h1, _⟩ := ((hB t).1 0 (onE_path hs m (by simp) ht le)).some_le
    exact ⟨z, h1⟩
  refine ⟨fun e hm => ?_, fun t ht => ?_⟩
  · obtain ⟨u, hu⟩ := all e.1 (he e hm).1
    obtain ⟨v, hv⟩ := all e.2.1 (he e hm).2
    have h1 := (hB e.2.1).1 _ (((hB e.1).2 u hu).step hm)
    rw [hv] at h1
    unfold potW
    rw [hu, hv]
    exact h1
  · obtain ⟨u, hu⟩ := all t ht
    unfold potW
    rw [hu]
    rfl
/-- some walk keeps them just if no ring is there -/
theorem can_walk {ts : List Int} {L : List Rd} (hs : ts.Pairwise (· < ·)) (h : okL L) (he : EndsL ts L) : ¬ Pos (gr ts L) ↔ ∃ w, upW w ∧ keepL L w := by
  constructor
  · intro hp
    cases ts with
    | nil =>
      refine ⟨[], fun p hp => (by cases hp), fun r hr => ?_⟩
      have := (he r hr).1
      cases this
    | cons t0 ts =>
      exact ⟨_, mkW_up, pot_keep hs h he (fw_pot hs (fun e h => List.mem_append.mpr (.inl h)) (gr_ends he) hp).1⟩
  · rintro ⟨w, hw, k⟩
    exact (keep_pot hs h hw k).noPos
/-! one more link -/
section
variable {ts : List Int} {es : List Ed} {B : Web} {a b w : Int}
theorem add1_yes (ha : a ∈ ts) (hb : b ∈ ts) (hB : ∀ x ∈ ts, ∀ y, Best es x y (B x y)) {u : Int} (h : B b a = some u) (hu : 0 < u + w) : Pos ((a, b, w) :: es) :=
  ⟨b, u + w, hu, ((((hB b hb a).2 u h).mono fun e he => by simp [he])).step (by simp)⟩
theorem best_tri (he : Ends ts es) (hB : ∀ x ∈ ts, ∀ y, Best es x y (B x y)) {x y z : Int} (hx : x ∈ ts) (hy : y ∈ ts) : leO (addO (B x y) (B y z)) (B x z) := by
  cases c1 : B x y with
  | none => trivial
  | some u =>
    cases c2 : B y z with
    | none => trivial
    | some v => exact (hB x hx z).1 _ (((hB x hx y).2 u c1).trans ((hB y hy z).2 v c2))
theorem best_diag (hp : ¬ Pos es) (hB : ∀ x ∈ ts, ∀ y, Best es x y (B x y)) {x : Int} (hx : x ∈ ts) : B x x = some 0 := by
  obtain ⟨z, h1, h2⟩ := ((hB x hx x).1 0 (.refl x)).some_le
  rw [h1]
  by_cases c : z = 0
  · rw [c]
  · exact absurd ⟨x, z, by omega, (hB x hx x).2 z h1⟩ hp
def addB (B : Web) (a b w : Int) : Web := fun x y => maxO (B x y) (addO (addO (B x a) (some w)) (B b y))
theorem add1_path (he : Ends ts es) (hp : ¬ Pos es) (hB : ∀ x ∈ ts, ∀ y, Best es x y (B x y)) (ha : a ∈ ts) (hb : b ∈ ts) (h : leO (addO (B b a) (some w)) (some 0)) {x y v : Int} (hx : x ∈ ts) (p : Path ((a, b, w) :: es) x y v) :
    y ∈ ts ∧ leO (some v) (addB B a b w x y) := by
  induction p with
  | refl =>
    refine ⟨hx, ?_⟩
    unfold addB
    rw [best_diag hp hB hx]
    exact maxO_l
  | step p e ih =>
    rename_i y z v u
    obtain ⟨hy, h1⟩ := ih
    have h2 : leO (some (v + u)) (addO (addB B a b w x y) (some u)) := (show leO (addO (some v) (some u)) _ from addO_mono h1 (leO.refl (some u)))
    rcases List.mem_cons.mp e with e | e
    · cases e
      refine ⟨hb, h2.trans (add_max ?_ ?_)⟩
      · refine leO.trans ?_ maxO_r
        rw [best_diag hp hB hb, add_zero]
        exact leO.refl _
      · refine leO.trans ?_ maxO_r
        rw [best_diag hp hB hb, add_zero, addO_assoc, addO_assoc]
        have : leO (addO (some w) (addO (B b a) (some w))) (some w) := by
          have := addO_mono (leO.refl (some w)) h
          rwa [add_zero] at this
        exact addO_mono (leO.refl _) this
    · have hz := he _ e
      have step : ∀ q ∈ ts, leO (addO (B q y) (some u)) (B q z) := fun q hq => by
        cases c : B q y with
        | none => trivial
        | some r => exact (hB q hq z).1 _ (((hB q hq y).2 r c).step e)
      refine ⟨hz.2, h2.trans (add_max ?_ ?_)⟩
      · exact (step x hx).trans maxO_l
      · refine leO.trans ?_ maxO_r
        rw [addO_assoc]
        exact addO_mono (leO.refl _) (step b hb)
theorem add1_no (he : Ends ts es) (hp : ¬ Pos es) (hB : ∀ x ∈ ts, ∀ y, Best es x y (B x y)) (ha : a ∈ ts) (hb : b ∈ ts) (h : leO (addO (B b a) (some w)) (some 0)) :
    ¬ Pos ((a, b, w) :: es) ∧ ∀ x ∈ ts, ∀ y, Best ((a, b, w) :: es) x y (addB B a b w x y) := by
  refine ⟨?_, fun x hx y => ⟨fun v p => (add1_path he hp hB ha hb h hx p).2, fun u e => ?_⟩⟩
  · rintro ⟨x, v, hv, p⟩
    have hx : x ∈ ts := by
      rcases p.src with ⟨_, z⟩ | ⟨e, h1, h2⟩
      · omega
      · rcases List.mem_cons.mp h1 with rfl | h1
        · exact h2 ▸ ha
        · exact h2 ▸ (he e h1).1
    have h1 := (add1_path he hp hB ha hb h hx p).2
    have h2 : leO (addB B a b w x x) (some 0) := by
      refine maxO_le ?_ ?_
      · rw [best_diag hp hB hx]
        exact leO.refl _
      · cases c1 : B x a with
        | none => trivial
        | some r =>
          cases c2 : B b x with
          | none => trivial
          | some q =>
            have h3 := best_tri (z := a) he hB hb hx
            rw [c1, c2] at h3
            obtain ⟨z, h4, h5⟩ := leO.some_le h3
            rw [h4] at h
            simp [leO, addO] at h ⊢
            omega
    have := h1.trans h2
    simp [leO] at this
    omega
  · rcases maxO_mem e with e | e
    · exact ((hB x hx y).2 u e).mono fun e he => by simp [he]
    · cases c1 : B x a with
      | none => rw [c1] at e; cases e
      | some r =>
        cases c2 : B b y with
        | none => rw [c1, c2] at e; cases e
        | some q =>
          rw [c1, c2] at e
          simp [addO] at e
          subst e
          exact ((((hB x hx a).2 r c1).mono fun e he => by simp [he]).step (by simp)).trans (((hB b hb y).2 q c2).mono fun e he => by simp [he])
theorem add1 (he : Ends ts es) (hp : ¬ Pos es) (hB : ∀ x ∈ ts, ∀ y, Best es x y (B x y)) (ha : a ∈ ts) (hb : b ∈ ts) : Pos ((a, b, w) :: es) ↔ ∃ u, B b a = some u ∧ 0 < u + w := by
  constructor
  · intro h
    cases c : B b a with
    | none => exact absurd h (add1_no he hp hB ha hb (by rw [c]; trivial)).1
    | some u =>
      refine ⟨u, rfl, ?_⟩
      by_cases q : 0 < u + w
      · exact q
      · exact absurd h (add1_no he hp hB ha hb (by rw [c]; simp [leO, addO]; omega)).1
  · rintro ⟨u, h1, h2⟩
    exact add1_yes ha hb hB h1 h2
/-- just so many -/
theorem exact_iff {s g n : Int} (he : Ends ts es) (hp : ¬ Pos es) (hB : ∀ x ∈ ts, ∀ y, Best es x y (B x y)) (hs : s ∈ ts) (hg : g ∈ ts) :
    ¬ Pos ((g, s, -n) :: (s, g, n) :: es) ↔ leO (B s g) (some n) ∧ leO (addO (B g s) (some n)) (some 0) := by
  by_cases c : leO (addO (B g s) (some n)) (some 0)
  · obtain ⟨h1, h2⟩ := add1_no he hp hB hs hg c
    have he' : Ends ts ((s, g, n) :: es) := fun e h => by
      rcases List.mem_cons.mp h with rfl | h
      · exact ⟨hs, hg⟩
      · exact he e h
    rw [add1 he' h1 h2 hg hs]
    have e : addB B s g n s g = maxO (B s g) (some n) := by
      unfold addB
      rw [best_diag hp hB hs, best_diag hp hB hg, add_zero, zero_add]
    rw [e]
    constructor
    · intro h
      refine ⟨?_, c⟩
      cases q : B s g with
      | none => trivial
      | some u =>
        rw [q] at h
        simp [leO]
        by_cases z : u ≤ n
        · exact z
        · exact absurd ⟨u, by simp [maxO]; omega, by omega⟩ h
    · rintro ⟨h, _⟩ ⟨u, h3, h4⟩
      cases q : B s g with
      | none => rw [q] at h3; simp [maxO] at h3; omega
      | some z =>
        rw [q] at h3 h
        simp [maxO, leO] at h3 h
        split at h3 <;> omega
  · constructor
    · intro h
      refine absurd ?_ h
      cases q : B g s with
      | none => exact absurd (by rw [q]; trivial) c
      | some u =>
        rw [q] at c
        simp [leO, addO] at c
        obtain ⟨x, v, h1, h2⟩ := add1_yes hs hg hB q (by omega : 0 < u + n)
        exact ⟨x, v, h1, h2.mono fun e he => by simp [he]⟩
    · exact fun h => absurd h.2 c
end
end Bd
set_option linter.all false
set_option maxRecDepth 100000
set_option maxHeartbeats 1000000
/-! How many steps there can be in a stretch. -/
namespace Bd
theorem Pos.mono {es fs : List Ed} (m : ∀ e ∈ es, e ∈ fs) (h : Pos es) : Pos fs := by
  obtain ⟨a, v, h1, h2⟩ := h
  exact ⟨a, v, h1, h2.mono m⟩
section
variable {ts : List Int} {L : List Rd} {s g : Int}
theorem keep_snoc {r : Rd} {w : List (Int × Int)} : keepL (L ++ [r]) w ↔ keepL L w ∧ r.2.2.1 ≤ stp w r.1 r.2.1 ∧ stp w r.1 r.2.1 ≤ r.2.2.2 := by
  constructor
  · exact fun h => ⟨fun q hq => h q (by simp [hq]), h r (by simp)⟩
  · rintro ⟨h1, h2⟩ q hq
    rcases List.mem_append.mp hq with hq | hq
    · exact h1 q hq
    · rw [List.mem_singleton.mp hq]
      exact h2
theorem gr_snoc (e : Ed) (r : Rd) : e ∈ gr ts (L ++ [r]) ↔ e = (r.2.1, r.1, -r.2.2.2) ∨ e = (r.1, r.2.1, r.2.2.1) ∨ e ∈ gr ts L := by
  simp [gr, rdE]
  constructor
  · rintro (h | h | h | h)
    · exact .inr (.inr (.inl h))
    · exact .inr (.inr (.inr h))
    · exact .inr (.inl h)
    · exact .inl h
  · rintro (h | h | h | h)
    · exact .inr (.inr (.inr h))
    · exact .inr (.inr (.inl h))
    · exact .inl h
    · exact .inr (.inl h)
theorem okL_snoc (h : okL L) (hs : s < g) {a b : Int} : okL (L ++ [(s, g, a, b)]) := fun r hr => by
  rcases List.mem_append.mp hr with hr | hr
  · exact h r hr
  · rw [List.mem_singleton.mp hr]
    exact hs
theorem ends_snoc (h : EndsL ts L) (h1 : s ∈ ts) (h2 : g ∈ ts) {a b : Int} : EndsL ts (L ++ [(s, g, a, b)]) := fun r hr => by
  rcases List.mem_append.mp hr with hr | hr
  · exact h r hr
  · rw [List.mem_singleton.mp hr]
    exact ⟨h1, h2⟩
/-- just so many steps can be in a stretch -/
theorem range_iff (hs : ts.Pairwise (· < ·)) (h : okL L) (he : EndsL ts L) (hp : ¬ Pos (gr ts L)) {B : Web} (hB : ∀ x ∈ ts, ∀ y, Best (gr ts L) x y (B x y)) (h1 : s ∈ ts) (h2 : g ∈ ts) (hl : s < g) (n : Int) :
    (∃ w, upW w ∧ keepL L w ∧ stp w s g = n) ↔ leO (B s g) (some n) ∧ leO (addO (B g s) (some n)) (some 0) := by
  rw [← exact_iff (gr_ends he) hp hB h1 h2]
  have e : Pos (gr ts (L ++ [(s, g, n, n)])) ↔ Pos ((g, s, -n) :: (s, g, n) :: gr ts L) := by
    constructor
    · exact fun z => z.mono fun e he => by
        rcases (gr_snoc e _).mp he with h | h | h <;> simp [h]
    · exact fun z => z.mono fun e he => (gr_snoc e _).mpr (by simpa using he)
  rw [← e, can_walk hs (okL_snoc h hl) (ends_snoc he h1 h2)]
  constructor
  · rintro ⟨w, k1, k2, k3⟩
    exact ⟨w, k1, keep_snoc.mpr ⟨k2, by simp [k3], by simp [k3]⟩⟩
  · rintro ⟨w, k1, k2⟩
    obtain ⟨k3, k4, k5⟩ := keep_snoc.mp k2
    simp at k4 k5
    exact ⟨w, k1, k3, by omega⟩
theorem low_some (hs : ts.Pairwise (· < ·)) {B : Web} (hB : ∀ x ∈ ts, ∀ y, Best (gr ts L) x y (B x y)) (h1 : s ∈ ts) (h2 : g ∈ ts) (hl : s ≤ g) : ∃ l, B s g = some l ∧ 0 ≤ l := by
  obtain ⟨z, h3, h4⟩ := ((hB s h1 g).1 0 (onE_path hs (fun e h => List.mem_append.mpr (.inl h)) h1 h2 hl)).some_le
  exact ⟨z, h3, h4⟩
/-- the least number -/
theorem low_is (hs : ts.Pairwise (· < ·)) (h : okL L) (he : EndsL ts L) (hp : ¬ Pos (gr ts L)) {B : Web} (hB : ∀ x ∈ ts, ∀ y, Best (gr ts L) x y (B x y)) (h1 : s ∈ ts) (h2 : g ∈ ts) (hl : s < g) {l : Int} (e : B s g = some l) :
    (∃ w, upW w ∧ keepL L w ∧ stp w s g = l) ∧ ∀ w, upW w → keepL L w → l ≤ stp w s g := by
  constructor
  · rw [range_iff hs h he hp hB h1 h2 hl, e]
    refine ⟨leO.refl _, ?_⟩
    have := best_tri (gr_ends he) hB h2 h1 (z := g)
    rw [e, best_diag hp hB h2] at this
    exact this
  · intro w hw k
    have := (range_iff hs h he hp hB h1 h2 hl (stp w s g)).mp ⟨w, hw, k, rfl⟩
    rw [e] at this
    exact this.1
theorem high_is (hs : ts.Pairwise (· < ·)) (h : okL L) (he : EndsL ts L) (hp : ¬ Pos (gr ts L)) {B : Web} (hB : ∀ x ∈ ts, ∀ y, Best (gr ts L) x y (B x y)) (h1 : s ∈ ts) (h2 : g ∈ ts) (hl : s < g) {u : Int} (e : B g s = some u) :
    (∃ w, upW w ∧ keepL L w ∧ stp w s g = -u) ∧ ∀ w, upW w → keepL L w → stp w s g ≤ -u := by
  constructor
  · rw [range_iff hs h he hp hB h1 h2 hl, e]
    refine ⟨?_, by simp [leO, addO]; omega⟩
    have := best_tri (gr_ends he) hB h1 h2 (z := s)
    rw [e, best_diag hp hB h1] at this
    cases c : B s g with
    | none => trivial
    | some z =>
      rw [c] at this
      simp [leO, addO] at this ⊢
      omega
  · intro w hw k
    have := (range_iff hs h he hp hB h1 h2 hl (stp w s g)).mp ⟨w, hw, k, rfl⟩
    rw [e] at this
    have := this.2
    simp [leO, addO] at this
    omega
theorem high_no (hs : ts.Pairwise (· < ·)) (h : okL L) (he : EndsL ts L) (hp : ¬ Pos (gr ts L)) {B : Web} (hB : ∀ x ∈ ts, ∀ y, Best (gr ts L) x y (B x y)) (h1 : s ∈ ts) (h2 : g ∈ ts) (hl : s < g) (e : B g s = none) (N : Int) :
    ∃ w, upW w ∧ keepL L w ∧ N ≤ stp w s g := by
  obtain ⟨l, e2, h3⟩ := low_some hs hB h1 h2 (Int.le_of_lt hl)
  have : ∃ w, upW w ∧ keepL L w ∧ stp w s g = max l N := by
    rw [range_iff hs h he hp hB h1 h2 hl, e, e2]
    refine ⟨?_, trivial⟩
    simp [leO]
    omega
  obtain ⟨w, k1, k2, k3⟩ := this
  exact ⟨w, k1, k2, by omega⟩
end
end Bd
set_option Elab.async false
set_option linter.all false
set_option maxRecDepth 100000
set_option maxHeartbeats 4000000
/-! More words: dicts; webs as dicts. -/
namespace Dk
open PySem PySem.Spec L2
section
variable {X : Exn → Sto → Prop} {S : Sto} {ρ : Env1} {QO : OV → Sto → Prop} {QS : Fl → Env1 → Sto → Prop} {f g h : E1} {fs : EL}
@[simp] theorem ok_ownD {d : Sto → List OV → Option (List (D × D))} : Ok (ownD d fs ρ S) QO X = Ok (fs ρ S) (fun os S1 => ∃ kvs, d S1 os = some kvs ∧ QO (.own S1.length) (S1 ++ [.dict kvs])) X := by
  unfold ownD
  simp
@[simp] theorem ok_sPutA : OkS (sPutA f g h ρ S) QS = Ok (h ρ S) (fun v S1 => Ok (f ρ S1) (fun o S2 => Ok (g ρ S2) (fun i S3 => ∃ d n kvs k kvs', v = .dat d ∧ o = .own n ∧ S3[n]? = some (.dict kvs) ∧ view S3 i = some k ∧ dputD kvs k d = some kvs' ∧
    QS .nx ρ (S3.set n (.dict kvs'))) (fun e S1 => QS (.er e) ρ S1)) (fun e S1 => QS (.er e) ρ S1)) (fun e S1 => QS (.er e) ρ S1) := by
  unfold sPutA
  simp only [ok_sE]
  congr 1
  funext v S1
  congr 1
  funext o S2
  congr 1
  funext i S3
  apply propext
  constructor
  · intro hh
    split at hh
    · split at hh
      · rename_i d n _ kvs e
        simp only [oks_obind, oks_some] at hh
        obtain ⟨k, h1, kvs', h2, h3⟩ := hh
        exact ⟨_, _, _, _, _, rfl, rfl, e, h1, h2, h3⟩
      · exact hh.elim
    · exact hh.elim
  · rintro ⟨d, n, kvs, k, kvs', rfl, rfl, e, h1, h2, h3⟩
    simp [e, h1, h2, h3]
end
@[simp] theorem ok_fSortSetB {X : Exn → Sto → Prop} {S : Sto} {ρ : Env1} {QF : List D → Sto → Prop} {f : E1} : Ok (fSortSetB f ρ S) QF X = Ok (f ρ S) (fun o S1 => ∃ ds, viewL S1 o = some ds ∧ ∃ ns, asInts ds = some ns ∧ (ns.length ≤ 1000 ∧ (sortU ns).length < 64) ∧ QF ((sortU ns).map .int) S1) X := by
  unfold fSortSetB
  rw [ok_bind]
  congr 1
  funext o S1
  simp only [ok_obind, ok_if, ok_ret, ok_none]
  apply propext
  constructor
  · rintro ⟨ds, h1, ns, h2, h3⟩
    split at h3
    · exact ⟨ds, h1, ns, h2, by assumption, h3⟩
    · exact h3.elim
  · rintro ⟨ds, h1, ns, h2, h3, h4⟩
    exact ⟨ds, h1, ns, h2, by rw [if_pos h3]; exact h4⟩
theorem ok_runD {QO : OV → Sto → Prop} {X : Exn → Sto → Prop} {S : Sto} {n m : Nat} {g : SS} {os : List OV} (hn : os.length = n) (h : OkS (g (os.map some ++ List.replicate (m - n) none) S) (fun fl _ S' => match fl with
      | .rt (.dat d) => QO (.dat d) (S'.take S.length)
      | .rt (.own k) => S.length ≤ k ∧ ((∃ kvs, S'[k]? = some (.dict kvs) ∧ isLk kvs = false ∧ QO (.dat (.dict kvs)) (S'.take S.length)) ∨ ∃ ds, S'[k]? = some (.list ds) ∧ QO (.dat (.list ds)) (S'.take S.length))
      | .nx => QO (.dat .none) (S'.take S.length)
      | .er e => X e (S'.take S.length)
      | _ => False)) : Ok (runF n m g os S) QO X := by
  unfold runF
  rw [if_pos hn]
  cases e : g (os.map some ++ List.replicate (m - n) none) S with
  | none => rw [e] at h; exact h.elim
  | some z =>
    obtain ⟨fl, ρ, S'⟩ := z
    rw [e] at h
    cases fl with
    | nx => exact h
    | bk => exact h.elim
    | ct => exact h.elim
    | er x => exact h
    | rt o =>
      cases o with
      | dat d => exact h
      | own k =>
        obtain ⟨h0, h1⟩ := (show S.length ≤ k ∧ ((∃ kvs, S'[k]? = some (.dict kvs) ∧ isLk kvs = false ∧ QO (.dat (.dict kvs)) (S'.take S.length)) ∨ ∃ ds, S'[k]? = some (.list ds) ∧ QO (.dat (.list ds)) (S'.take S.length)) from h)
        show Ok (if k < S.length then ret (.own k) (S'.take S.length) else match S'[k]? with
          | some (.list ds) => ret (.dat (.list ds)) (S'.take S.length)
          | some (.dict kvs) => if isLk kvs = true then none else ret (.dat (.dict kvs)) (S'.take S.length)
          | _ => none) QO X
        rw [if_neg (by omega)]
        rcases h1 with ⟨kvs, e1, e0, e2⟩ | ⟨ds, e1, e2⟩
        · rw [e1]
          show Ok (if isLk kvs = true then none else ret (.dat (.dict kvs)) (S'.take S.length)) QO X
          rw [if_neg (by rw [e0]; decide)]
          exact e2
        · rw [e1]
          exact e2
@[simp] theorem negS_int {S : Sto} {i : Int} : negS S (.dat (.int i)) = some (.int (-i)) := rfl
/-! webs -/
open Bd
def optD : Option Int → D
  | none => .none
  | some i => .int i
def ptD (a b : Int) : D := .tuple [.int a, .int b]
def prs (ts : List Int) : List (Int × Int) := ts.flatMap fun a => ts.map fun b => (a, b)
def webL (ts : List Int) (W : Web) : List (D × D) := (prs ts).map fun p => (ptD p.1 p.2, optD (W p.1 p.2))
@[simp] theorem isLk_webL {ts : List Int} {W : Web} : isLk (webL ts W) = false := by
  unfold webL
  cases prs ts <;> rfl
theorem prs_mem {ts : List Int} {a b : Int} : (a, b) ∈ prs ts ↔ a ∈ ts ∧ b ∈ ts := by
  simp [prs]
theorem prs_len (ts : List Int) : (prs ts).length = ts.length * ts.length := by
  unfold prs
  rw [List.length_flatMap]
  simp [List.map_const', List.sum_replicate_nat]
theorem eqv_pt (a b c d : Int) : PyData.eqv (ptD a b) (ptD c d) = decide (a = c ∧ b = d) := by
  rw [Bool.eq_iff_iff]
  simp [ptD, PyData.eqv, PyData.eqvAll]
theorem isKT_pt (a b : Int) : isKT (ptD a b) = true := rfl
theorem webL_all (ts : List Int) (W : Web) : (webL ts W).all (fun p => isKT p.1) = true := by
  simp [webL, isKT_pt]
theorem valD_web {ts : List Int} {W : Web} {a b : Int} (ha : a ∈ ts) (hb : b ∈ ts) : valD (webL ts W) (ptD a b) = some (optD (W a b)) := by
  unfold valD webL
  rw [List.find?_map]
  have h : ∃ p, (prs ts).find? ((fun p : D × D => PyData.eqv p.1 (ptD a b)) ∘ fun p : Int × Int => (ptD p.1 p.2, optD (W p.1 p.2))) = some p := by
    have := List.find?_isSome (p := ((fun p : D × D => PyData.eqv p.1 (ptD a b)) ∘ fun p : Int × Int => (ptD p.1 p.2, optD (W p.1 p.2)))) (xs := prs ts)
    exact Option.isSome_iff_exists.mp (this.mpr ⟨(a, b), prs_mem.mpr ⟨ha, hb⟩, by simp [eqv_pt]⟩)
  obtain ⟨p, hp⟩ := h
  rw [hp]
  have := List.find?_some hp
  simp [eqv_pt] at this
  simp [this.1, this.2]
theorem dget_web {ts : List Int} {W : Web} {a b : Int} (ha : a ∈ ts) (hb : b ∈ ts) : dgetD (webL ts W) (ptD a b) = some (optD (W a b)) := by
  unfold dgetD
  rw [if_pos (.inr ⟨isKT_pt a b, webL_all ts W⟩)]
  exact valD_web ha hb
theorem ixA_web {S : Sto} {o : OV} {ts : List Int} {W : Web} {a b : Int} (ho : view S o = some (.dict (webL ts W))) (ha : a ∈ ts) (hb : b ∈ ts) : ixA S o (.dat (.tuple [.int a, .int b])) = some (optD (W a b)) := by
  unfold ixA
  rw [ho]
  exact dget_web ha hb
theorem dput_web {ts : List Int} {W : Web} {a b : Int} {o : Option Int} (ha : a ∈ ts) (hb : b ∈ ts) (hl : ts.length ≤ 64) : dputD (webL ts W) (ptD a b) (optD o) = some (webL ts (put W a b o)) := by
  have hlen : (webL ts W).length < sizeLine := by
    unfold webL
    rw [List.length_map, prs_len]
    have := Nat.mul_le_mul hl hl
    unfold sizeLine
    omega
  have hne : webL ts W ≠ [] := fun z => by
    have h : (a, b) ∈ prs ts := prs_mem.mpr ⟨ha, hb⟩
    have : ((ptD a b, optD (W a b)) : D × D) ∈ webL ts W := List.mem_map.mpr ⟨(a, b), h, rfl⟩
    rw [z] at this
    cases this
  unfold dputD
  rw [if_pos ⟨hlen, hne, .inr ⟨isKT_pt a b, webL_all ts W⟩⟩]
  congr 1
  unfold putD
  rw [if_pos]
  · unfold webL
    rw [List.map_map]
    apply List.map_congr_left
    intro p hp
    simp only [Function.comp, eqv_pt, put, decide_eq_true_eq]
    split <;> rfl
  · rw [List.any_eq_true]
    exact ⟨(ptD a b, optD (W a b)), List.mem_map.mpr ⟨(a, b), prs_mem.mpr ⟨ha, hb⟩, rfl⟩, by simp [eqv_pt]⟩
theorem merge_self : ∀ (kvs acc : List (D × D)), (acc ++ kvs).Pairwise (fun p q => PyData.eqv p.1 q.1 = false) → kvs.foldl (fun a p => putD a p.1 p.2) acc = acc ++ kvs
  | [], acc, _ => by simp
  | p :: r, acc, h => by
    have e : putD acc p.1 p.2 = acc ++ [p] := by
      unfold putD
      rw [if_neg]
      rw [List.any_eq_true]
      rintro ⟨q, hq, e⟩
      have := (List.pairwise_append.mp h).2.2 q hq p (by simp)
      rw [this] at e
      cases e
    rw [List.foldl_cons, e, merge_self r (acc ++ [p]) (by simpa using h)]
    simp
theorem prs_nodup {ts : List Int} (h : ts.Nodup) : (prs ts).Nodup := by
  unfold prs
  rw [List.nodup_iff_pairwise_ne, List.pairwise_flatMap]
  refine ⟨fun a _ => ?_, ?_⟩
  · rw [List.pairwise_map]
    exact h.imp fun h z => h (by cases z; rfl)
  · exact h.imp fun {a b} h p hp q hq z => by
      obtain ⟨x, _, rfl⟩ := List.mem_map.mp hp
      obtain ⟨y, _, rfl⟩ := List.mem_map.mp hq
      cases z
      exact h rfl
theorem merge_web {ts : List Int} {W : Web} (h : ts.Nodup) : mergeD (webL ts W) = webL ts W := by
  unfold mergeD
  rw [merge_self _ [] (by
    simp only [List.nil_append]
    unfold webL
    rw [List.pairwise_map]
    refine (prs_nodup h).imp fun {p q} h => ?_
    rw [eqv_pt, decide_eq_false_iff_not]
    rintro ⟨h1, h2⟩
    exact h (Prod.ext h1 h2))]
  rfl
theorem pairsT_web (ts : List Int) (W : Web) : ∀ l : List (Int × Int), pairsT (l.map fun p => .tuple [ptD p.1 p.2, optD (W p.1 p.2)]) = some (l.map fun p => (ptD p.1 p.2, optD (W p.1 p.2)))
  | [] => rfl
  | p :: r => by
    rw [List.map_cons, List.map_cons]
    show (if isKT (ptD p.1 p.2) = true then (pairsT (r.map fun p => .tuple [ptD p.1 p.2, optD (W p.1 p.2)])).map ((ptD p.1 p.2, optD (W p.1 p.2)) :: ·) else none) = _
    rw [if_pos (isKT_pt _ _), pairsT_web ts W r]
    rfl
theorem dictS_web {S : Sto} {ts : List Int} {W : Web} (h : ts.Nodup) : dictS S [.dat (.list ((prs ts).map fun p => .tuple [ptD p.1 p.2, optD (W p.1 p.2)]))] = some (webL ts W) := by
  show ((viewL S (.dat (.list _))).bind fun ds => (pairsT ds).map mergeD) = _
  rw [viewL_dat]
  show (pairsT _).map mergeD = _
  rw [pairsT_web ts W]
  show some (mergeD (webL ts W)) = _
  rw [merge_web h]
theorem pairUp_mapG {α : Type} (f : α → D) : ∀ l : List α, pairUp (l.map f) (l.map f).tail = (l.zip l.tail).map fun p => .tuple [f p.1, f p.2]
  | [] => rfl
  | [a] => rfl
  | a :: b :: r => by
    have := pairUp_mapG f (b :: r)
    simp [pairUp] at this ⊢
    exact this
theorem zip_onE : ∀ ts : List Int, (ts.zip ts.tail).map (fun p => (p.1, p.2, (0 : Int))) = onE ts
  | [] => rfl
  | [a] => rfl
  | a :: b :: r => by
    have := zip_onE (b :: r)
    simp [onE] at this ⊢
    exact this
theorem up_none {W : Web} {a b : Int} : up W a b none = W := by
  funext x y
  unfold up put
  split
  · rename_i h
    rw [h.1, h.2]
    cases W a b <;> rfl
  · rfl
end Dk
set_option Elab.async false
set_option linter.all false
set_option maxRecDepth 100000
set_option maxHeartbeats 1000000
namespace K11
open PySem PySem.Spec L2 Dk
def rdL (b : Bk) : List Bd.Rd := b.2.map fun r => (r.2.1, r.2.2.1, (limD b r).1, (limD b r).2)
def timesB (b : Bk) (more : List Int) : List Int := sortU (more ++ b.2.flatMap fun r => [r.2.1, r.2.2.1])
abbrev LinkT := Int × Int × Int × D
def linkD (l : LinkT) : D := .tuple [.int l.1, .int l.2.1, .int l.2.2.1, l.2.2.2]
def onL (ts : List Int) : List LinkT := (ts.zip ts.tail).map fun p => (p.1, p.2, 0, .tuple [.str "on", .int p.2])
def rdK (b : Bk) (n : Nat) : List (Int × Int × Int × Int) → List LinkT
  | [] => []
  | r :: t => (r.2.1, r.2.2.1, (limD b r).1, .tuple [.str "by", .int (n : Int)]) :: (r.2.2.1, r.2.1, -(limD b r).2, .tuple [.str "back", .int (n : Int)]) :: rdK b (n + 1) t
def linksB (b : Bk) (ts : List Int) : List LinkT := onL ts ++ rdK b 0 b.2
def edL (l : List LinkT) : List Bd.Ed := l.map fun l => (l.1, l.2.1, l.2.2.1)
theorem edL_rdK (b : Bk) : ∀ (rs : List (Int × Int × Int × Int)) (n : Nat), edL (rdK b n rs) = Bd.rdE (rs.map fun r => (r.2.1, r.2.2.1, (limD b r).1, (limD b r).2))
  | [], _ => rfl
  | r :: t, n => by
    have := edL_rdK b t (n + 1)
    simp only [edL, Bd.rdE] at this ⊢
    simp [rdK, this]
theorem edL_links (b : Bk) (ts : List Int) : edL (linksB b ts) = Bd.gr ts (rdL b) := by
  unfold linksB Bd.gr rdL
  rw [← edL_rdK b b.2 0]
  unfold edL onL
  rw [List.map_append, List.map_map, ← zip_onE]
  rfl
theorem rdK_len (b : Bk) : ∀ (rs : List (Int × Int × Int × Int)) (n : Nat), (rdK b n rs).length = 2 * rs.length
  | [], _ => rfl
  | r :: t, n => by simp [rdK, rdK_len b t]; omega
theorem links_len (b : Bk) (ts : List Int) : (linksB b ts).length ≤ ts.length + 2 * b.2.length := by
  unfold linksB onL
  simp [rdK_len]
theorem times_mem {b : Bk} {more : List Int} {t : Int} : t ∈ timesB b more ↔ t ∈ more ∨ ∃ r ∈ b.2, t = r.2.1 ∨ t = r.2.2.1 := by
  unfold timesB
  rw [sortU_mem1, List.mem_append, List.mem_flatMap]
  simp
theorem times_sorted (b : Bk) (more : List Int) : (timesB b more).Pairwise (· < ·) := sortU_lt _
theorem times_len (b : Bk) (more : List Int) : (timesB b more).length ≤ more.length + 2 * b.2.length := by
  refine Nat.le_trans (sortU_len _) ?_
  rw [List.length_append, List.length_flatMap]
  simp [List.map_const', List.sum_replicate_nat]
  omega
theorem times_ends (b : Bk) (more : List Int) : Bd.EndsL (timesB b more) (rdL b) := fun r hr => by
  obtain ⟨q, hq, rfl⟩ := List.mem_map.mp hr
  exact ⟨times_mem.mpr (.inr ⟨q, hq, .inl rfl⟩), times_mem.mpr (.inr ⟨q, hq, .inr rfl⟩)⟩
theorem rdL_ok {b : Bk} (h : OkBook b) : Bd.okL (rdL b) := fun r hr => by
  obtain ⟨q, hq, rfl⟩ := List.mem_map.mp hr
  exact (h.r q hq).2.2.2.1
def mtI (b : Bk) (o1 : OV) (more : List Int) (S : Sto) (ds : List D) (ρ : Env1) (S' : Sto) : Prop := S' = S ∧ ∃ (us vs : List (Int × Int × Int × Int)) (x : Option OV), b.2 = us ++ vs ∧ ds = vs.map rowD ∧
  ρ = [some (.dat (bookD b)), some o1, some (.dat (.list ((more ++ us.flatMap fun r => [r.2.1, r.2.2.1]).map .int))), x]
def lkI (b : Bk) (ts : List Int) (S : Sto) (ds : List D) (ρ : Env1) (S' : Sto) : Prop := ∃ (us vs : List (Int × Int × Int × Int)) (x y z w : Option OV), b.2 = us ++ vs ∧ ds = enumD us.length (vs.map rowD) ∧ S' = S ++ [.list ((onL ts ++ rdK b 0 us).map linkD)] ∧
  ρ = [some (.dat (bookD b)), some (.dat (.list (ts.map .int))), some (.own S.length), x, y, z, w, none, none]
theorem rdK_app (b : Bk) : ∀ (us vs : List (Int × Int × Int × Int)) (n : Nat), rdK b n (us ++ vs) = rdK b n us ++ rdK b (n + us.length) vs
  | [], vs, n => by simp [rdK]
  | r :: t, vs, n => by
    have := rdK_app b t vs (n + 1)
    simp [rdK, this]
    congr 1
    omega
section
variable {S : Sto} {Q : OV → Sto → Prop} {X : Exn → Sto → Prop}
theorem asInts_ints (ns : List Int) : asInts (ns.map PyData.int) = some ns := by
  have := asInts_map (fun x : Int => x) ns
  simpa using this
theorem ixS_book1 (b : Bk) : ixS S (.dat (bookD b)) (.dat (.int 1)) = some (.tuple (b.2.map rowD)) := by simp [bookD, atI, ixN]
theorem ixS_book0 (b : Bk) : ixS S (.dat (bookD b)) (.dat (.int 0)) = some (.tuple (b.1.map pairD)) := by simp [bookD, atI, ixN]
theorem moments_of_t {b : Bk} (h : OkBook b) {c : List D → D} (hc : c = .tuple ∨ c = .list) {more : List Int} (hm : more.length ≤ 50) (q : Q (.dat (.list ((timesB b more).map .int))) S) : Ok (F_moments_of [.dat (bookD b), .dat (c (more.map .int))] S) Q X := by
  refine ok_run (n := 2) (m := 4) (g := g_moments_of) rfl ?_
  have e0 : listS S [.dat (c (more.map .int))] = some (more.map .int) := by rcases hc with rfl | rfl <;> rfl
  simp [g_moments_of, e0]
  refine ⟨_, ixS_book1 b, .inr (.inl ⟨_, rfl, ?_⟩)⟩
  refine for_inv (I := mtI b (.dat (c (more.map .int))) more S) (fun d r ρ S' hI => ?_) (fun ρ S' hI => ?_) _ ⟨rfl, [], b.2, none, rfl, rfl, by simp⟩
  · obtain ⟨rfl, us, vs, x, e1, e2, rfl⟩ := hI
    cases vs with
    | nil => cases e2
    | cons v vs =>
      cases e2
      refine ⟨by simp, _, rfl, ?_⟩
      have hn := h.n
      have lu := congrArg List.length e1
      simp at lu
      have e3 : slS S' (.dat (rowD v)) (some 1) (some 3) = some (.tuple [.int v.2.1, .int v.2.2.1]) := by
        show some (PyData.tuple (cutD [PyData.int v.1, .int v.2.1, .int v.2.2.1, .int v.2.2.2] (some ((1 : Nat) : Int)) (some ((3 : Nat) : Int)))) = _
        rw [cut_mid _ _ _ (by decide)]
        rfl
      have e4 : listS S' [.dat (.tuple [.int v.2.1, .int v.2.2.1])] = some [.int v.2.1, .int v.2.2.1] := rfl
      simp [e3, e4]
      refine ⟨.list ((more ++ (us ++ [v]).flatMap fun r => [r.2.1, r.2.2.1]).map .int), ?_, rfl, us ++ [v], vs, _, by rw [e1]; simp, rfl, rfl⟩
      refine ⟨?_, by simp⟩
      have : (us.flatMap fun r : Int × Int × Int × Int => [r.2.1, r.2.2.1]).length = 2 * us.length := by
        rw [List.length_flatMap]
        simp [List.map_const', List.sum_replicate_nat]
        omega
      simp [sizeLine]
      simp at this
      omega
  · obtain ⟨rfl, us, vs, x, e1, e2, rfl⟩ := hI
    cases vs with
    | cons v vs => cases e2
    | nil =>
      rw [List.append_nil] at e1
      refine ⟨by simp, ?_⟩
      rw [← e1]
      simp only [thenS_nx, ok_sRet, ok_frz, ok_fSortSet, ok_fVar]
      have l1 : (more ++ b.2.flatMap fun r => [r.2.1, r.2.2.1]).length < 64 := by
        have := h.n
        rw [List.length_append, List.length_flatMap]
        simp [List.map_const', List.sum_replicate_nat]
        omega
      refine ⟨_, rfl, _, rfl, _, asInts_ints _, l1, ?_⟩
      simpa [timesB] using q
theorem more_of_t {x y : Option Int} (q : Q (.dat (optD (Bd.maxO x y))) S) : Ok (F_more_of [.dat (optD x), .dat (optD y)] S) Q X := by
  refine ok_run (n := 2) (m := 2) (g := g_more_of) rfl ?_
  cases x <;> cases y <;> simp [g_more_of, optD, isS, isNoneD] <;> simpa [optD, Bd.maxO] using q
theorem row_at {v : Int × Int × Int × Int} : atI [PyData.int v.1, .int v.2.1, .int v.2.2.1, .int v.2.2.2] 1 = some (.int v.2.1) ∧ atI [PyData.int v.1, .int v.2.1, .int v.2.2.1, .int v.2.2.2] 2 = some (.int v.2.2.1) := by simp [atI, ixN]
theorem ixS_row (v : Int × Int × Int × Int) : ixS S (.dat (rowD v)) (.dat (.int 1)) = some (.int v.2.1) ∧ ixS S (.dat (rowD v)) (.dat (.int 2)) = some (.int v.2.2.1) ∧ ixS S (.dat (rowD v)) (.dat (.int 0)) = some (.int v.1) ∧ ixS S (.dat (rowD v)) (.dat (.int 3)) = some (.int v.2.2.2) := by simp [rowD, atI, ixN]
theorem st1_get (S : Sto) (x : D) : (S ++ [x])[S.length]? = some x := by simp
theorem st1_set (S : Sto) (x y : D) : (S ++ [x]).set S.length y = S ++ [y] := by
  rw [List.set_append_right _ _ (Nat.le_refl _)]
  simp
theorem links_of_t {b : Bk} (h : OkBook b) {ts : List Int} (ht : ts.length ≤ 64) (q : Q (.dat (.list ((linksB b ts).map linkD))) S) : Ok (F_links_of [.dat (bookD b), .dat (.list (ts.map .int))] S) Q X := by
  refine ok_run (n := 2) (m := 9) (g := g_links_of) rfl ?_
  have e0 : slS S (.dat (.list (ts.map .int))) (some 1) none = some (.list (ts.map PyData.int).tail) := by
    show some (PyData.list (cutD (ts.map PyData.int) (some ((1 : Nat) : Int)) none)) = _
    rw [cut_from]
    simp
  have hn := h.n
  simp [g_links_of, e0]
  have e00 := pairUp_mapG PyData.int ts
  refine ⟨_, _, ⟨rfl, rfl⟩, ?_⟩
  rw [e00]
  refine lc_mapT (fun p : Int × Int => .tuple [.int p.1, .int p.2]) (ts.zip ts.tail) (φ := fun p => linkD (p.1, p.2, 0, .tuple [.str "on", .int p.2])) (by simp [sizeLine]; omega) (by simp) (fun p hp T => ⟨_, rfl, ?_⟩) ?_
  · simp [linkD]
    exact ⟨by decide, by decide⟩
  · have e1 : (ts.zip ts.tail).map (fun p => linkD (p.1, p.2, 0, .tuple [.str "on", .int p.2])) = (onL ts).map linkD := by simp [onL, List.map_map, Function.comp_def]
    rw [e1]
    refine ⟨_, ixS_book1 b, ?_⟩
    refine .inr ⟨_, rfl, ?_⟩
    refine for_inv (I := lkI b ts S) (fun d r ρ S' hI => ?_) (fun ρ S' hI => ?_) _ ⟨[], b.2, none, none, none, none, rfl, rfl, by simp [rdK], rfl⟩
    · obtain ⟨us, vs, x, y, z, w, e2, e3, rfl, rfl⟩ := hI
      cases vs with
      | nil => cases e3
      | cons v vs =>
        cases e3
        refine ⟨by simp, _, rfl, ?_⟩
        have lu := congrArg List.length e2
        simp at lu
        have lz := links_len b ts
        have lz2 : (onL ts ++ rdK b 0 us).length ≤ ts.length + 2 * us.length := by
          unfold onL
          simp [rdK_len]
        simp
        refine limits_t (h.r v (by rw [e2]; simp)) ?_
        refine ⟨_, rfl, ?_⟩
        simp [(ixS_row v).1, (ixS_row v).2.1, viewL_own (st1_get _ _), st1_set]
        simp [rdK_len, onL] at lz2
        refine ⟨by decide, by decide, by simp [rdK_len, onL, sizeLine]; omega, by decide, by decide, by simp [rdK_len, onL, sizeLine]; omega, us ++ [v], vs, _, _, _, _, by rw [e2]; simp, by simp, ?_, rfl⟩
        rw [rdK_app]
        simp [rdK, linkD]
    · obtain ⟨us, vs, x, y, z, w, e2, e3, rfl, rfl⟩ := hI
      cases vs with
      | cons v vs => cases e3
      | nil =>
        rw [List.append_nil] at e2
        subst e2
        refine ⟨by simp, ?_⟩
        simp
        simpa [linksB] using q
def edD (e : Bd.Ed) : D := .tuple [.int e.1, .int e.2.1, .int e.2.2]
def w1I (b : Bk) (ts : List Int) (es : List Bd.Ed) (ot : OV) (S : Sto) (ds : List D) (ρ : Env1) (S' : Sto) : Prop := ∃ (us vs : List Bd.Ed) (x y z w v : Option OV), es = us ++ vs ∧ ds = vs.map edD ∧ S' = S ++ [.dict (webL ts (Bd.addL Bd.web0 us))] ∧
  ρ = [some (.dat (bookD b)), some (.dat (.list (ts.map .int))), some ot, some (.own S.length), x, y, z, w, v]
def w2I (b : Bk) (ts : List Int) (W0 : Bd.Web) (ot : OV) (S : Sto) (ds : List D) (ρ : Env1) (S' : Sto) : Prop := ∃ (us vs : List Int) (x y z w v : Option OV), ts = us ++ vs ∧ ds = vs.map .int ∧ S' = S ++ [.dict (webL ts (Bd.rel1 ts W0 us))] ∧
  ρ = [some (.dat (bookD b)), some (.dat (.list (ts.map .int))), some ot, some (.own S.length), x, y, z, w, v]
def w3I (b : Bk) (ts : List Int) (mid : Int) (W0 : Bd.Web) (ot : OV) (S : Sto) (ds : List D) (ρ : Env1) (S' : Sto) : Prop := ∃ (us vs : List Int) (x y z v : Option OV), ts = us ++ vs ∧ ds = vs.map .int ∧ S' = S ++ [.dict (webL ts (Bd.rel2 ts mid W0 us))] ∧
  ρ = [some (.dat (bookD b)), some (.dat (.list (ts.map .int))), some ot, some (.own S.length), x, y, z, some (.dat (.int mid)), v]
def w4I (b : Bk) (ts : List Int) (mid one : Int) (W0 : Bd.Web) (ot : OV) (S : Sto) (ds : List D) (ρ : Env1) (S' : Sto) : Prop := ∃ (us vs : List Int) (y z v : Option OV), ts = us ++ vs ∧ ds = vs.map .int ∧ S' = S ++ [.dict (webL ts (Bd.rel3 mid one W0 us))] ∧
  ρ = [some (.dat (bookD b)), some (.dat (.list (ts.map .int))), some ot, some (.own S.length), some (.dat (.int one)), y, z, some (.dat (.int mid)), v]
theorem web_of_t {b : Bk} (h : OkBook b) {ts : List Int} (hn : ts.Nodup) (ht : ts.length ≤ 64) (he : Bd.EndsL ts (rdL b)) {told : List Bd.Ed} (hl : told.length ≤ 20) (hto : Bd.Ends ts told) (q : Q (.dat (.dict (webL ts (Bd.fw ts (told ++ Bd.gr ts (rdL b)))))) S) :
    Ok (F_web_of [.dat (bookD b), .dat (.list (ts.map .int)), .dat (.list (told.map edD))] S) Q X := by
  refine ok_runD (n := 3) (m := 9) (g := g_web_of) rfl ?_
  have hes : Bd.Ends ts (told ++ Bd.gr ts (rdL b)) := fun e hm => by
    rcases List.mem_append.mp hm with hm | hm
    · exact hto e hm
    · exact Bd.gr_ends he e hm
  have hbn := h.n
  simp [g_web_of]
  refine lc2_map (fun a : Int => PyData.int a) ts (fun _ => ts) (fun _ b => PyData.int b) (p := fun _ _ => true) (φ := fun a b => .tuple [ptD a b, optD (Bd.web0 a b)]) ?_ (fun a ha => ⟨_, rfl, fun T hT => ⟨Ok.eq (by simp), fun b hb T => ⟨_, rfl, ?_⟩⟩⟩) ?_
  · have := prs_len ts
    have h2 := Nat.mul_le_mul ht ht
    rw [List.length_flatMap]
    simp [List.map_const', List.sum_replicate_nat, sizeLine]
    omega
  · by_cases c : a = b
    · simp [c, Bd.web0, optD, ptD]
      decide
    · simp [c, Bd.web0, optD, ptD]
      decide
  · have e1 : (ts.flatMap fun d => ((ts.filter fun _ => true)).map fun b => PyData.tuple [ptD d b, optD (Bd.web0 d b)]) = (prs ts).map fun p => .tuple [ptD p.1 p.2, optD (Bd.web0 p.1 p.2)] := by
      simp [prs, List.map_flatMap, Function.comp_def]
    rw [e1]
    refine ⟨_, dictS_web hn, ?_⟩
    refine links_of_t h ht ?_
    refine .inl ⟨_, rfl, ?_⟩
    simp only [srcOf_dat]
    have lz := links_len b ts
    refine lc_mapT linkD (linksB b ts) (φ := fun l => edD (l.1, l.2.1, l.2.2.1)) (by simp [sizeLine]; omega) (by simp) (fun l hl T => ⟨_, rfl, ?_⟩) ?_
    · simp
      show some (PyData.tuple (cutD [PyData.int l.1, .int l.2.1, .int l.2.2.1, l.2.2.2] none (some ((3 : Nat) : Int)))) = _
      rw [cut_to]
      rfl
    · have e2 : (linksB b ts).map (fun l => edD (l.1, l.2.1, l.2.2.1)) = (Bd.gr ts (rdL b)).map edD := by
        rw [← edL_links, edL, List.map_map]
        rfl
      rw [e2]
      have lg : (Bd.gr ts (rdL b)).length ≤ ts.length + 2 * b.2.length := by
        rw [← edL_links, edL, List.length_map]
        exact lz
      refine ⟨.list ((told ++ Bd.gr ts (rdL b)).map edD), ⟨by simp [sizeLine]; omega, by simp⟩, .inl ⟨_, rfl, ?_⟩⟩
      refine for_inv (I := w1I b ts (told ++ Bd.gr ts (rdL b)) (.dat (.list (told.map edD))) S) (fun d r ρ S' hI => ?_) (fun ρ S' hI => ?_) _ ⟨[], _, none, none, none, none, none, rfl, rfl, rfl, rfl⟩
      · obtain ⟨us, vs, x, y, z, w, v, e3, e4, rfl, rfl⟩ := hI
        cases vs with
        | nil => cases e4
        | cons e vs =>
          cases e4
          have hev := hes e (by rw [e3]; simp)
          refine ⟨by simp, _, by simp [edD]; rfl, ?_⟩
          have g1 : ixA (S ++ [.dict (webL ts (Bd.addL Bd.web0 us))]) (.own S.length) (.dat (.tuple [.int e.1, .int e.2.1])) = some (optD (Bd.addL Bd.web0 us e.1 e.2.1)) := ixA_web (by rw [view_own, st1_get]) hev.1 hev.2
          simp [g1]
          refine ⟨by decide, ?_⟩
          refine more_of_t (x := Bd.addL Bd.web0 us e.1 e.2.1) (y := some e.2.2) ?_
          refine ⟨by decide, _, rfl, _, st1_get _ _, _, dput_web hev.1 hev.2 ht, us ++ [e], vs, _, _, _, _, _, by rw [e3]; simp, rfl, ?_, rfl⟩
          rw [st1_set]
          simp [Bd.addL, Bd.up]
      · obtain ⟨us, vs, x, y, z, w, v, e3, e4, rfl, rfl⟩ := hI
        cases vs with
        | cons e vs => cases e4
        | nil =>
          rw [List.append_nil] at e3
          subst e3
          refine ⟨by simp, ?_⟩
          simp
          refine for_inv (I := w2I b ts (Bd.addL Bd.web0 (told ++ Bd.gr ts (rdL b))) (.dat (.list (told.map edD))) S) (fun d r ρ S' hI => ?_) (fun ρ S' hI => ?_) _ ⟨[], ts, x, y, z, w, v, rfl, rfl, rfl, rfl⟩
          · obtain ⟨us, vs, x, y, z, w, v, e3, e4, rfl, rfl⟩ := hI
            cases vs with
            | nil => cases e4
            | cons mid vs =>
              cases e4
              have hmid : mid ∈ ts := by rw [e3]; simp
              refine ⟨by simp, _, rfl, ?_⟩
              simp
              generalize hW1 : Bd.rel1 ts (Bd.addL Bd.web0 (told ++ Bd.gr ts (rdL b))) us = W1
              refine for_inv (I := w3I b ts mid W1 (.dat (.list (told.map edD))) S) (fun d r ρ S' hI => ?_) (fun ρ S' hI => ?_) _ ⟨[], ts, x, y, z, v, rfl, rfl, rfl, rfl⟩
              · obtain ⟨us2, vs2, x, y, z, v, e5, e6, rfl, rfl⟩ := hI
                cases vs2 with
                | nil => cases e6
                | cons one vs2 =>
                  cases e6
                  have hone : one ∈ ts := by rw [e5]; simp
                  refine ⟨by simp, _, rfl, ?_⟩
                  simp
                  generalize hW2 : Bd.rel2 ts mid W1 us2 = W2
                  refine for_inv (I := w4I b ts mid one W2 (.dat (.list (told.map edD))) S) (fun d r ρ S' hI => ?_) (fun ρ S' hI => ?_) _ ⟨[], ts, y, z, v, rfl, rfl, rfl, rfl⟩
                  · obtain ⟨us3, vs3, y, z, v, e7, e8, rfl, rfl⟩ := hI
                    cases vs3 with
                    | nil => cases e8
                    | cons oth vs3 =>
                      cases e8
                      have hoth : oth ∈ ts := by rw [e7]; simp
                      refine ⟨by simp, _, rfl, ?_⟩
                      have vw : ∀ W, view (S ++ [.dict (webL ts W)]) (.own S.length) = some (.dict (webL ts W)) := fun W => by rw [view_own, st1_get]
                      have g1 := ixA_web (vw (Bd.rel3 mid one W2 us3)) hone hmid
                      have g2 := ixA_web (vw (Bd.rel3 mid one W2 us3)) hmid hoth
                      have g3 := ixA_web (vw (Bd.rel3 mid one W2 us3)) hone hoth
                      simp [g1, g2, g3]
                      refine ⟨by decide, ?_⟩
                      have e9 : Bd.rel3 mid one W2 (us3 ++ [oth]) = Bd.up (Bd.rel3 mid one W2 us3) one oth (Bd.addO (Bd.rel3 mid one W2 us3 one mid) (Bd.rel3 mid one W2 us3 mid oth)) := by simp [Bd.rel3]
                      clear g1 g2 g3
                      generalize Bd.rel3 mid one W2 us3 = R at e9
                      cases hA : R one mid with
                      | none =>
                        refine ⟨.bool false, rfl, .inl ⟨rfl, us3 ++ [oth], vs3, _, _, _, by rw [e7]; simp, rfl, ?_, rfl⟩⟩
                        rw [e9, hA]
                        simp [Bd.addO, up_none]
                      | some p =>
                        refine ⟨.bool true, rfl, .inr ⟨rfl, by decide, ?_⟩⟩
                        cases hB : R mid oth with
                        | none =>
                          refine ⟨.bool false, rfl, .inl ⟨rfl, us3 ++ [oth], vs3, _, _, _, by rw [e7]; simp, rfl, ?_, rfl⟩⟩
                          rw [e9, hA, hB]
                          simp [Bd.addO, up_none]
                        | some r =>
                          refine ⟨.bool true, rfl, .inr ⟨rfl, by decide, _, rfl, ?_⟩⟩
                          refine more_of_t (x := R one oth) (y := some (p + r)) ?_
                          refine ⟨by decide, _, rfl, _, st1_get _ _, _, dput_web hone hoth ht, us3 ++ [oth], vs3, _, _, _, by rw [e7]; simp, rfl, ?_, rfl⟩
                          rw [st1_set, e9, hA, hB]
                          rfl
                  · obtain ⟨us3, vs3, y, z, v, e7, e8, rfl, rfl⟩ := hI
                    cases vs3 with
                    | cons e vs => cases e8
                    | nil =>
                      rw [List.append_nil] at e7
                      subst e7
                      refine ⟨by simp, us2 ++ [one], vs2, _, _, _, _, by rw [e5]; simp, rfl, ?_, rfl⟩
                      simp [Bd.rel2, ← hW2]
              · obtain ⟨us2, vs2, x, y, z, v, e5, e6, rfl, rfl⟩ := hI
                cases vs2 with
                | cons e vs => cases e6
                | nil =>
                  rw [List.append_nil] at e5
                  subst e5
                  refine ⟨by simp, us ++ [mid], vs, _, _, _, _, _, by rw [e3]; simp, rfl, ?_, rfl⟩
                  simp [Bd.rel1, ← hW1]
          · obtain ⟨us, vs, x, y, z, w, v, e3, e4, rfl, rfl⟩ := hI
            cases vs with
            | cons e vs => cases e4
            | nil =>
              rw [List.append_nil] at e3
              subst e3
              refine ⟨by simp, ?_⟩
              simp
              exact q
theorem can_be_t {ts : List Int} (ht : ts.length ≤ 64) {W : Bd.Web} (q : Q (.dat (.bool (Bd.canB ts W))) S) : Ok (F_can_be [.dat (.dict (webL ts W)), .dat (.list (ts.map .int))] S) Q X := by
  refine ok_run (n := 2) (m := 3) (g := g_can_be) rfl ?_
  simp [g_can_be]
  refine lc_mapT (fun t : Int => PyData.int t) ts (φ := fun t => .bool (decide (W t t = some 0))) (by simp [sizeLine]; omega) (by simp) (fun t hm T => ⟨_, rfl, ?_⟩) ?_
  · have g1 := ixA_web (S := T) (o := .dat (.dict (webL ts W))) rfl hm hm
    simp [g1]
    refine ⟨by decide, ?_⟩
    cases c : W t t with
    | none => exact .inl ⟨rfl, by simp⟩
    | some i =>
      simp only [optD, eqD_int]
      by_cases c : i = 0 <;> simp [c]
  · rw [asBools_map]
    refine ⟨_, ⟨_, rfl, rfl⟩, ?_⟩
    simpa [Bd.canB] using q
theorem timesB_nodup (b : Bk) (more : List Int) : (timesB b more).Nodup := by
  rw [List.nodup_iff_pairwise_ne]
  exact (times_sorted b more).imp fun h => Int.ne_of_lt h
/-- the links of a book, at its own moments -/
def grB (b : Bk) (more : List Int) : List Bd.Ed := Bd.gr (timesB b more) (rdL b)
theorem is_possible_of_t {b : Bk} (h : OkBook b) (q : Q (.dat (.bool (Bd.canB (timesB b []) (Bd.fw (timesB b []) (grB b []))))) S) : Ok (F_is_possible_of [.dat (bookD b)] S) Q X := by
  refine ok_run (n := 1) (m := 2) (g := g_is_possible_of) rfl ?_
  have hn := h.n
  have hl := times_len b []
  simp at hl
  simp [g_is_possible_of]
  refine moments_of_t h (c := .list) (.inr rfl) (more := []) (by simp) ?_
  refine web_of_t h (timesB_nodup b []) (by omega) (times_ends b []) (told := []) (by simp) (fun e he => by cases he) ?_
  refine can_be_t (by omega) ?_
  simpa [grB] using q
theorem need_possible_t {b : Bk} (h : OkBook b) (hp : ¬ Bd.Pos (grB b [])) (q : Q (.dat .none) S) : Ok (F_need_possible [.dat (bookD b)] S) Q X := by
  refine ok_run (n := 1) (m := 1) (g := g_need_possible) rfl ?_
  simp [g_need_possible]
  refine is_possible_of_t h ?_
  rw [show Bd.canB (timesB b []) (Bd.fw (timesB b []) (grB b [])) = true from (Bd.fw_noPos (Bd.gr_ends (times_ends b []))).mpr hp]
  simpa using q
theorem need_possible_x {b : Bk} (h : OkBook b) (hp : Bd.Pos (grB b [])) (q : X ⟨"Impossible", none⟩ S) : Ok (F_need_possible [.dat (bookD b)] S) Q X := by
  refine ok_run (n := 1) (m := 1) (g := g_need_possible) rfl ?_
  simp [g_need_possible]
  refine is_possible_of_t h ?_
  have e : Bd.canB (timesB b []) (Bd.fw (timesB b []) (grB b [])) = false := by
    cases c : Bd.canB (timesB b []) (Bd.fw (timesB b []) (grB b [])) with
    | false => rfl
    | true => exact absurd hp ((Bd.fw_noPos (Bd.gr_ends (times_ends b []))).mp c)
  rw [e]
  simpa using q
def negO : Option Int → Option Int
  | none => none
  | some i => some (-i)
/-- the web of a book and a stretch -/
def webB (b : Bk) (s g : Int) : Bd.Web := Bd.fw (timesB b [s, g]) (grB b [s, g])
theorem need_stretch_t {s g : Int} (h1 : 0 ≤ s) (h2 : s < g) (h3 : g ≤ 1000000000000000000000000000000) (q : Q (.dat .none) S) : Ok (F_need_stretch [.dat (.tuple [.int s, .int g])] S) Q X := by
  refine ok_run (n := 1) (m := 1) (g := g_need_stretch) rfl ?_
  simp [g_need_stretch]
  refine is_stretch_t h1 h2 h3 ?_
  simpa using q
end

end K11
set_option Elab.async false
set_option linter.all false
set_option maxRecDepth 100000
set_option maxHeartbeats 4000000
/-! Still more words: {i: j}, get, in, d[k], x = a, b; dicts of numbers as tables. -/
namespace Dk
open PySem PySem.Spec L2
section
variable {X : Exn → Sto → Prop} {S : Sto} {ρ : Env1} {QO : OV → Sto → Prop} {QS : Fl → Env1 → Sto → Prop} {f g h : E1} {fs : EL}
@[simp] theorem ok_fDisp1 {f g : FI} : Ok (fDisp1 f g ρ S) QO X = ∃ i j, f ρ = some i ∧ g ρ = some j ∧ QO (.own S.length) (S ++ [.dict [(.int i, .int j)]]) := by
  unfold fDisp1
  cases f ρ with
  | none => simp [Ok]
  | some i =>
    cases g ρ with
    | none => simp [Ok]
    | some j => simp
@[simp] theorem ok_sPar3 {i j l : Nat} : OkS (sPar3 i j l fs ρ S) QS = Ok (fs ρ S) (fun as S1 => ∃ a b c, as = [a, b, c] ∧ QS .nx (((ρ.set i (some a)).set j (some b)).set l (some c)) S1) (fun e S1 => QS (.er e) ρ S1) := by
  unfold sPar3
  cases fs ρ S with
  | none => rfl
  | some z =>
    obtain ⟨z, S1⟩ := z
    cases z with
    | inr e => rfl
    | inl as =>
      match as with
      | [] => simp [OkS, Ok]
      | [a] => simp [OkS, Ok]
      | [a, b] => simp [OkS, Ok]
      | [a, b, c] =>
        simp only [OkS, Ok]
        refine propext ⟨fun h => ⟨a, b, c, rfl, h⟩, ?_⟩
        rintro ⟨a', b', c', e, h⟩
        cases e
        exact h
      | a :: b :: c :: d :: r => simp [OkS, Ok]
theorem ok_fGetA {fo fk fd : E1} : Ok (fo ρ S) (fun o S1 => ∃ kv0, view S1 o = some (.dict kv0) ∧ Ok (fk ρ S1) (fun k S2 => Ok (fd ρ S2) (fun d S3 => ∃ kvs x kd r, view S3 o = some (.dict kvs) ∧ d = .dat x ∧ view S3 k = some kd ∧ dfindD kvs kd = some r ∧ QO (.dat (r.getD x)) S3) X) X) X →
    Ok (fGetA fo fk fd ρ S) QO X := by
  intro h
  unfold fGetA
  rw [ok_bind]
  refine h.imp (fun o S1 hh => ?_) fun e S1 h => h
  obtain ⟨kv0, e0, h1⟩ := hh
  simp only [e0]
  rw [ok_bind]
  refine h1.imp (fun k S2 h2 => ?_) fun e S1 h => h
  rw [ok_bind]
  refine h2.imp (fun d S3 h3 => ?_) fun e S1 h => h
  obtain ⟨kvs, x, kd, r, e1, rfl, e2, e3, q⟩ := h3
  simp only [e1, e2, Option.bind_some, e3]
  simpa using q
theorem ok_sPutPar {fo fi : E1} {j : Nat} : Ok (fTup fs ρ S) (fun v S1 => ∃ a b, v = .dat (.tuple [a, b]) ∧ Ok (fo ρ S1) (fun o S2 => Ok (fi ρ S2) (fun i S3 => ∃ n kvs k kvs', o = .own n ∧ S3[n]? = some (.dict kvs) ∧ view S3 i = some k ∧ dputD kvs k a = some kvs' ∧
    QS .nx (ρ.set j (some (.dat b))) (S3.set n (.dict kvs'))) (fun e S1 => QS (.er e) ρ S1)) (fun e S1 => QS (.er e) ρ S1)) (fun e S1 => QS (.er e) ρ S1) → OkS (sPutPar fo fi j fs ρ S) QS := by
  intro h
  unfold sPutPar
  rw [ok_sE]
  refine h.imp (fun v S1 h1 => ?_) fun e S1 h => h
  obtain ⟨a, b, rfl, h1⟩ := h1
  simp only [ok_sE]
  refine h1.imp (fun o S2 h2 => ?_) fun e S1 h => h
  refine h2.imp (fun i S3 h3 => ?_) fun e S1 h => h
  obtain ⟨n, kvs, k, kvs', rfl, e1, e2, e3, q⟩ := h3
  simp only [e1, e2, Option.bind_some, e3]
  exact q
end
/-! ### tables of numbers -/
def kvM (m : List (Int × Int)) : List (D × D) := m.map fun p => (.int p.1, .int p.2)
def look (m : List (Int × Int)) : Bd.Dm := fun t => (m.find? fun p => decide (p.1 = t)).map (·.2)
def putM (m : List (Int × Int)) (k v : Int) : List (Int × Int) := if (m.any fun p => decide (p.1 = k)) = true then m.map (fun p => if p.1 = k then (p.1, v) else p) else m ++ [(k, v)]
theorem eqv_int {a b : Int} : PyData.eqv (.int a) (.int b) = decide (a = b) := by
  have := eqv_key (.inl a) (.inl b)
  rw [show PyData.eqv (.int a) (.int b) = PyData.eqv (keyD (.inl a)) (keyD (.inl b)) from rfl, this]
  simp
theorem valD_M {k : Int} : ∀ m : List (Int × Int), valD (kvM m) (.int k) = (look m k).map .int
  | [] => rfl
  | p :: r => by
    have ih := valD_M (k := k) r
    unfold valD look kvM at ih ⊢
    rw [List.map_cons, List.find?_cons, List.find?_cons]
    simp only [eqv_int]
    by_cases c : p.1 = k
    · simp [c]
    · simp [c]
      try simpa using ih
theorem k1_M (m : List (Int × Int)) : ((kvM m).all fun p => isK1 p.1) = true := List.all_eq_true.mpr fun q hq => by
  obtain ⟨p, _, rfl⟩ := List.mem_map.mp hq
  rfl
@[simp] theorem isLk_kvM (m : List (Int × Int)) : isLk (kvM m) = false := by cases m <;> rfl
theorem kvM_ne {m : List (Int × Int)} (h : m ≠ []) : kvM m ≠ [] := by simpa [kvM] using h
theorem dfind_M {m : List (Int × Int)} (h : m ≠ []) (k : Int) : dfindD (kvM m) (.int k) = some ((look m k).map .int) := by
  unfold dfindD
  rw [if_pos ⟨kvM_ne h, .inl ⟨rfl, k1_M m⟩⟩, valD_M]
theorem dget_M {m : List (Int × Int)} (k : Int) : dgetD (kvM m) (.int k) = (look m k).map .int := by
  unfold dgetD
  rw [if_pos (.inl ⟨rfl, k1_M m⟩), valD_M]
theorem dput_M {m : List (Int × Int)} (h : m ≠ []) (hl : m.length < sizeLine) (k v : Int) : dputD (kvM m) (.int k) (.int v) = some (kvM (putM m k v)) := by
  unfold dputD
  rw [if_pos ⟨by simpa [kvM] using hl, kvM_ne h, .inl ⟨rfl, k1_M m⟩⟩]
  congr 1
  unfold putD putM
  have e : ((kvM m).any fun p => PyData.eqv p.1 (.int k)) = m.any fun p => decide (p.1 = k) := by
    unfold kvM
    rw [List.any_map]
    congr 1
  rw [e]
  split
  · unfold kvM
    rw [List.map_map, List.map_map]
    refine List.map_congr_left fun p hp => ?_
    simp only [Function.comp, eqv_int]
    by_cases c : p.1 = k <;> simp [c]
  · simp [kvM]
theorem putM_ne {m : List (Int × Int)} {k v : Int} (h : m ≠ []) : putM m k v ≠ [] := by
  unfold putM
  split
  · simpa using h
  · simp
theorem putM_len (m : List (Int × Int)) (k v : Int) : (putM m k v).length ≤ m.length + 1 := by
  unfold putM
  split <;> simp
theorem look_none {k : Int} : ∀ {m : List (Int × Int)}, (m.any fun p => decide (p.1 = k)) = false → look m k = none
  | [], _ => rfl
  | p :: r, h => by
    simp only [List.any_cons, Bool.or_eq_false_iff, decide_eq_false_iff_not] at h
    have := look_none (m := r) h.2
    unfold look at this ⊢
    rw [List.find?_cons]
    simp [h.1]
    try simpa using this
theorem look_app {t k v : Int} : ∀ (m : List (Int × Int)), look (m ++ [(k, v)]) t = match look m t with
    | some x => some x
    | none => if k = t then some v else none
  | [] => by
    unfold look
    by_cases c : k = t <;> simp [c]
  | p :: r => by
    have ih := look_app (t := t) (k := k) (v := v) r
    unfold look at ih ⊢
    rw [List.cons_append, List.find?_cons, List.find?_cons]
    by_cases c : p.1 = t
    · simp [c]
    · simp only [c, decide_false]
      exact ih
theorem look_map {t k v : Int} : ∀ (m : List (Int × Int)), look (m.map fun p => if p.1 = k then (p.1, v) else p) t = if t = k then (look m t).map (fun _ => v) else look m t
  | [] => by simp [look]
  | p :: r => by
    have ih := look_map (t := t) (k := k) (v := v) r
    unfold look at ih ⊢
    rw [List.map_cons, List.find?_cons, List.find?_cons]
    by_cases c : p.1 = k
    · by_cases c2 : p.1 = t
      · have c3 : t = k := by omega
        subst c3
        simp [c]
      · have c3 : ¬ t = k := by omega
        simp only [c, if_true, c3, if_false] at ih ⊢
        have c4 : ¬ k = t := fun z => c3 z.symm
        simp only [c4, decide_false]
        exact ih
    · by_cases c2 : p.1 = t
      · have c3 : ¬ t = k := by omega
        simp [c, c2, c3]
      · simp only [c, if_false, c2, decide_false]
        exact ih
theorem look_put (m : List (Int × Int)) (k v : Int) : look (putM m k v) = fun t => if t = k then some v else look m t := by
  funext t
  unfold putM
  split
  · rename_i h
    rw [look_map]
    by_cases c : t = k
    · subst c
      rw [if_pos rfl, if_pos rfl]
      obtain ⟨p, hp, e⟩ := List.any_eq_true.mp h
      cases q : look m t with
      | some x => rfl
      | none =>
        unfold look at q
        rw [Option.map_eq_none_iff, List.find?_eq_none] at q
        exact absurd e (q p hp)
    · rw [if_neg c, if_neg c]
  · rename_i h
    rw [look_app]
    have h2 : (m.any fun p => decide (p.1 = k)) = false := by
      cases q : (m.any fun p => decide (p.1 = k)) with
      | false => rfl
      | true => exact absurd q h
    by_cases c : t = k
    · subst c
      rw [look_none h2]
      try simp
    · rw [if_neg c]
      have c4 : ¬ k = t := fun z => c z.symm
      cases look m t <;> simp [c4]
end Dk
set_option Elab.async false
set_option linter.all false
set_option maxRecDepth 100000
set_option maxHeartbeats 1000000
namespace K11
open PySem PySem.Spec L2 Dk
def frI (es : List Bd.Ed) (s : Int) (S : Sto) (k : Nat) (ρ : Env1) (S' : Sto) : Prop := ∃ (t : Nat) (m : List (Int × Int)) (gb : Bool) (x5 x6 x7 x8 : Option OV), S' = S ++ [.dict (kvM m)] ∧
  ρ = [some (.dat (.list (es.map edD))), some (.dat (.int s)), some (.own S.length), some (.dat (.bool gb)), some (.dat (.int (t : Int))), x5, x6, x7, x8] ∧ m ≠ [] ∧ t ≤ 31 ∧ m.length ≤ 1 + t * es.length ∧ k = 40 - t ∧
  (gb = true → Bd.far es (31 - t) (look m) = Bd.far es 31 (Bd.from0 s)) ∧ (gb = false → Bd.far es 31 (Bd.from0 s) = some (look m))
def frP (es : List Bd.Ed) (s : Int) (S : Sto) (j : Int) (d0 : Bd.Dm) (n0 : Nat) (ds : List D) (ρ : Env1) (S' : Sto) : Prop := ∃ (us vs : List Bd.Ed) (m : List (Int × Int)) (gb : Bool) (x5 x6 x7 x8 : Option OV), es = us ++ vs ∧ ds = vs.map edD ∧ S' = S ++ [.dict (kvM m)] ∧
  ρ = [some (.dat (.list (es.map edD))), some (.dat (.int s)), some (.own S.length), some (.dat (.bool gb)), some (.dat (.int j)), x5, x6, x7, x8] ∧ m ≠ [] ∧ m.length ≤ n0 + us.length ∧ Bd.passG us d0 false = (look m, gb)
theorem passG_app (us : List Bd.Ed) (e : Bd.Ed) (d : Bd.Dm) : Bd.passG (us ++ [e]) d false = (Bd.rx (Bd.passG us d false).1 e, (Bd.passG us d false).2 || Bd.grows (Bd.passG us d false).1 e) := by
  unfold Bd.passG
  rw [List.foldl_append]
  rfl
theorem look_one (s : Int) : look [(s, 0)] = Bd.from0 s := by
  funext t
  unfold look Bd.from0
  by_cases c : t = s
  · simp [c]
  · have : ¬ s = t := fun z => c z.symm
    simp [c, this]
def nxI (P : Env1 → Sto → Prop) : Fl → Env1 → Sto → Prop
  | .nx, ρ, S => P ρ S
  | _, _, _ => False
@[simp] theorem nxI_nx {P : Env1 → Sto → Prop} {ρ : Env1} {S : Sto} : nxI P .nx ρ S = P ρ S := rfl
theorem okS_cut {r : Option (Fl × Env1 × Sto)} {QS : Fl → Env1 → Sto → Prop} (P : Env1 → Sto → Prop) (h : OkS r (nxI P)) (k : ∀ ρ S, P ρ S → QS .nx ρ S) : OkS r QS := by
  unfold OkS at *
  cases r with
  | none => exact h
  | some z =>
    obtain ⟨fl, ρ, S⟩ := z
    cases fl <;> first | exact k _ _ h | exact absurd h id
section
variable {S : Sto} {Q : OV → Sto → Prop} {X : Exn → Sto → Prop}
theorem far_from_t {es : List Bd.Ed} {s : Int} (hl : es.length ≤ 200) (qn : Bd.far es 31 (Bd.from0 s) = none → Q (.dat .none) S) (qs : ∀ m, m ≠ [] → Bd.far es 31 (Bd.from0 s) = some (look m) → Q (.dat (.dict (kvM m))) S) :
    Ok (F__law_far_from [.dat (.list (es.map edD)), .dat (.int s)] S) Q X := by
  refine ok_runD (n := 2) (m := 9) (g := g__law_far_from) rfl ?_
  simp [g__law_far_from, iVar, iC]
  refine ⟨_, _, _, ⟨rfl, rfl, rfl⟩, ?_⟩
  refine while_inv (I := frI es s S) (fun k ρ S' hI => ?_) 1000 40 (by decide) ⟨0, [(s, 0)], true, none, none, none, none, rfl, rfl, by simp, by omega, by simp, rfl, fun _ => by rw [look_one], fun h => by cases h⟩
  obtain ⟨t, m, gb, x5, x6, x7, x8, rfl, rfl, hm, ht, hml, rfl, h1, h2⟩ := hI
  cases gb with
  | false =>
    simp
    exact qs m hm (h2 rfl)
  | true =>
    have h1 := h1 rfl
    simp
    by_cases c : t = 31
    · subst c
      refine .inr ⟨by omega, qn ?_⟩
      rw [← h1]
      rfl
    · refine .inl ⟨by omega, _, _, ⟨rfl, rfl⟩, ?_⟩
      refine okS_cut (frP es s S ((t : Int) + 1) (look m) m.length []) ?_ fun ρ S' hI => ?_
      · refine for_inv (I := frP es s S ((t : Int) + 1) (look m) m.length) (fun d r ρ S' hI => ?_) (fun ρ S' hI => ⟨by simp, hI⟩) _ ⟨[], es, m, false, x5, x6, x7, x8, rfl, rfl, rfl, rfl, hm, by simp, rfl⟩
        obtain ⟨us, vs, m2, gb, y5, y6, y7, y8, e1, e2, rfl, rfl, hm2, hl2, hp⟩ := hI
        cases vs with
        | nil => cases e2
        | cons e vs =>
          cases e2
          refine ⟨by simp, _, rfl, ?_⟩
          simp
          have pa := passG_app us e (look m)
          rw [hp] at pa
          have nx : es = (us ++ [e]) ++ vs := by rw [e1]; simp
          have i1 : inA (S ++ [.dict (kvM m2)]) (.dat (.int e.1)) (.own S.length) = some (.bool (look m2 e.1).isSome) := by
            unfold inA
            simp [dfind_M hm2]
          refine ⟨_, i1, ?_⟩
          cases q : look m2 e.1 with
          | none =>
            refine .inl ⟨rfl, us ++ [e], vs, m2, gb, _, _, _, _, nx, rfl, rfl, rfl, hm2, by simp; omega, ?_⟩
            rw [pa]
            unfold Bd.rx Bd.grows
            simp [q]
          | some x =>
            have i2 : ixA (S ++ [.dict (kvM m2)]) (.own S.length) (.dat (.int e.1)) = some (.int x) := by
              unfold ixA
              simp [dget_M, q]
            refine .inr ⟨rfl, _, i2, ?_⟩
            refine ⟨.int (x + e.2.2), rfl, ok_fGetA ?_⟩
            simp
            have gE : Bd.grows (look m2) e = match look m2 e.2.1 with
              | none => true
              | some y => decide (y < x + e.2.2) := by
              unfold Bd.grows
              rw [q]
              try rfl
            have i3 : ltS (S ++ [.dict (kvM m2)]) (.dat (((look m2 e.2.1).map PyData.int).getD (.int (x + e.2.2 - 1)))) (.dat (.int (x + e.2.2))) = some (.bool (Bd.grows (look m2) e)) := by
              rw [gE]
              cases look m2 e.2.1 with
              | none =>
                show some (PyData.bool (decide (x + e.2.2 - 1 < x + e.2.2))) = _
                rw [decide_eq_true (by omega)]
              | some y => rfl
            refine ⟨_, dfind_M hm2 e.2.1, _, i3, ?_⟩
            cases gw : Bd.grows (look m2) e with
            | false =>
              refine .inl ⟨rfl, us ++ [e], vs, m2, gb, _, _, _, _, nx, rfl, rfl, rfl, hm2, by simp; omega, ?_⟩
              rw [pa]
              unfold Bd.rx
              simp [gw]
            | true =>
              refine .inr ⟨rfl, ok_sPutPar ?_⟩
              have lu := congrArg List.length e1
              simp at lu
              have hb : m2.length < sizeLine := by
                have : t * es.length ≤ 31 * 200 := Nat.mul_le_mul (by omega) hl
                unfold sizeLine
                omega
              have i4 := dput_M hm2 hb e.2.1 (x + e.2.2)
              simp [i4]
              refine ⟨by decide, _, _, ⟨rfl, rfl⟩, _, i4, us ++ [e], vs, putM m2 e.2.1 (x + e.2.2), true, _, _, _, _, nx, rfl, rfl, rfl, putM_ne hm2, ?_, ?_⟩
              · have := putM_len m2 e.2.1 (x + e.2.2)
                simp
                omega
              · rw [pa, look_put]
                unfold Bd.rx
                simp [gw, q]
      · obtain ⟨us, vs, m2, gb, y5, y6, y7, y8, e1, e2, rfl, rfl, hm2, hl2, hp⟩ := hI
        cases vs with
        | cons v vs => cases e2
        | nil =>
          rw [List.append_nil] at e1
          subst e1
          refine ⟨40 - (t + 1), by omega, t + 1, m2, gb, y5, y6, y7, y8, rfl, rfl, hm2, by omega, ?_, rfl, fun hg => ?_, fun hg => ?_⟩
          · rw [Nat.add_mul]
            omega
          · subst hg
            rw [← h1, show 31 - t = (31 - (t + 1)) + 1 by omega]
            show _ = if (Bd.passG es (look m) false).2 = true then Bd.far es (31 - (t + 1)) (Bd.passG es (look m) false).1 else _
            rw [hp]
            rfl
          · subst hg
            rw [← h1, show 31 - t = (31 - (t + 1)) + 1 by omega]
            show (if (Bd.passG es (look m) false).2 = true then Bd.far es (31 - (t + 1)) (Bd.passG es (look m) false).1 else some (Bd.passG es (look m) false).1) = _
            rw [hp]
            rfl
end

end K11
set_option Elab.async false
set_option linter.all false
set_option maxRecDepth 100000
set_option maxHeartbeats 1000000
namespace K11
open PySem PySem.Spec L2 Dk
def ltI (b : Bk) (more : List Int) (S : Sto) (ds : List D) (ρ : Env1) (S' : Sto) : Prop := S' = S ∧ ∃ (us vs : List (Int × Int × Int × Int)) (x3 x4 x5 x6 : Option OV), b.2 = us ++ vs ∧ ds = vs.map rowD ∧
  ρ = [some (.dat (bookD b)), some (.dat (.list (more.map .int))), some (.dat (.list ((more ++ us.flatMap fun r => [r.2.1, r.2.2.1]).map .int))), x3, x4, x5, x6]
def toldE (told : List Bd.Ed) : List Int := told.flatMap fun e => [e.1, e.2.1]
theorem toldE_len (told : List Bd.Ed) : (toldE told).length = 2 * told.length := by
  unfold toldE
  rw [List.length_flatMap]
  simp [List.map_const', List.sum_replicate_nat]
  omega
def bw1 (b : Bk) (told : List Bd.Ed) (S : Sto) (ds : List D) (ρ : Env1) (S' : Sto) : Prop := S' = S ∧ ∃ (us vs : List Bd.Ed) (x : Option OV), told = us ++ vs ∧ ds = vs.map edD ∧
  ρ = [some (.dat (bookD b)), some (.dat (.list (told.map edD))), some (.dat (.list ((toldE us).map .int))), x, none, none, none, none, none, none]
def bw2 (b : Bk) (told : List Bd.Ed) (ends ts : List Int) (x : Option OV) (S : Sto) (ds : List D) (ρ : Env1) (S' : Sto) : Prop := ∃ (a : Nat) (x6 : Option OV), S' = S ++ [.list ((told ++ (Bd.onE ts).take a).map edD)] ∧
  ds = ((List.range (ts.length - 1)).drop a).map (fun i : Nat => PyData.int (i : Int)) ∧ a ≤ ts.length - 1 ∧
  ρ = [some (.dat (bookD b)), some (.dat (.list (told.map edD))), some (.dat (.list (ends.map .int))), x, some (.dat (.list (ts.map .int))), some (.own S.length), x6, none, none, none]
def rdOf (b : Bk) (us : List (Int × Int × Int × Int)) : List Bd.Rd := us.map fun r => (r.2.1, r.2.2.1, (limD b r).1, (limD b r).2)
def bw3 (b : Bk) (told : List Bd.Ed) (ends ts : List Int) (x : Option OV) (bs : List Bd.Ed) (S : Sto) (ds : List D) (ρ : Env1) (S' : Sto) : Prop := ∃ (us vs : List (Int × Int × Int × Int)) (o5 : OV) (x6 x7 x8 x9 : Option OV), b.2 = us ++ vs ∧ ds = vs.map rowD ∧ S' = S ++ [.list (bs.map edD)] ∧
  ρ = [some (.dat (bookD b)), some (.dat (.list (told.map edD))), some (.dat (.list (ends.map .int))), x, some (.dat (.list (ts.map .int))), some o5, x6, x7, x8, x9] ∧
  view S' o5 = some (.list ((bs ++ Bd.rdE (rdOf b us)).map edD)) ∧ ((o5 = .own S.length ∧ us = []) ∨ ∃ d, o5 = .dat d)
theorem rdOf_len (b : Bk) (us : List (Int × Int × Int × Int)) : (Bd.rdE (rdOf b us)).length = 2 * us.length := by
  unfold Bd.rdE rdOf
  rw [List.length_flatMap, List.map_map]
  have : ((fun a : Bd.Rd => ([(a.1, a.2.1, a.2.2.1), (a.2.1, a.1, -a.2.2.2)] : List Bd.Ed).length) ∘ fun r : Int × Int × Int × Int => (r.2.1, r.2.2.1, (limD b r).1, (limD b r).2)) = fun _ => 2 := rfl
  rw [this, List.map_const', List.sum_replicate_nat]
  omega
theorem onE_at : ∀ (ts : List Int) (a : Nat), a + 1 < ts.length → (Bd.onE ts)[a]? = some (ts.getD a 0, ts.getD (a + 1) 0, 0)
  | [], a, h => by simp at h
  | [x], a, h => by simp at h
  | x :: y :: r, 0, h => rfl
  | x :: y :: r, a + 1, h => by
    have := onE_at (y :: r) a (by simp at h ⊢; omega)
    simpa [Bd.onE] using this
theorem onE_len : ∀ ts : List Int, (Bd.onE ts).length = ts.length - 1
  | [] => rfl
  | [x] => rfl
  | x :: y :: r => by
    have := onE_len (y :: r)
    simp [Bd.onE] at this ⊢
    omega
section
variable {S : Sto} {Q : OV → Sto → Prop} {X : Exn → Sto → Prop}
theorem times_t {b : Bk} (h : OkBook b) {more : List Int} (hm : more.length ≤ 50) (q : Q (.dat (.list ((timesB b more).map .int))) S) : Ok (F__law_times [.dat (bookD b), .dat (.list (more.map .int))] S) Q X := by
  refine ok_run (n := 2) (m := 7) (g := g__law_times) rfl ?_
  simp [g__law_times]
  refine ⟨_, rfl, ?_⟩
  refine ⟨_, ixS_book1 b, .inr (.inl ⟨_, rfl, ?_⟩)⟩
  refine for_inv (I := ltI b more S) (fun d r ρ S' hI => ?_) (fun ρ S' hI => ?_) _ ⟨rfl, [], b.2, none, none, none, none, rfl, rfl, by simp⟩
  · obtain ⟨rfl, us, vs, x3, x4, x5, x6, e1, e2, rfl⟩ := hI
    cases vs with
    | nil => cases e2
    | cons v vs =>
      cases e2
      have hn := h.n
      have lu := congrArg List.length e1
      simp at lu
      have : (us.flatMap fun r : Int × Int × Int × Int => [r.2.1, r.2.2.1]).length = 2 * us.length := by
        rw [List.length_flatMap]
        simp [List.map_const', List.sum_replicate_nat]
        omega
      have s2 : (List.map (fun _ : Int × Int × Int × Int => 2) us).sum = 2 * us.length := by
        simp [List.map_const', List.sum_replicate_nat]
        omega
      refine ⟨by simp, _, rfl, ?_⟩
      simp
      refine ⟨by decide, _, ⟨by rw [s2]; unfold sizeLine; omega, rfl⟩, rfl, us ++ [v], vs, some (.dat (.int v.1)), some (.dat (.int v.2.1)), some (.dat (.int v.2.2.1)), some (.dat (.int v.2.2.2)), by rw [e1]; simp, rfl, ?_⟩
      simp
  · obtain ⟨rfl, us, vs, x3, x4, x5, x6, e1, e2, rfl⟩ := hI
    cases vs with
    | cons v vs => cases e2
    | nil =>
      rw [List.append_nil] at e1
      refine ⟨by simp, ?_⟩
      rw [← e1]
      simp only [thenS_nx, ok_sRet, ok_frz, ok_fSortSet, ok_fVar]
      have l1 : (more ++ b.2.flatMap fun r => [r.2.1, r.2.2.1]).length < 64 := by
        have := h.n
        rw [List.length_append, List.length_flatMap]
        simp [List.map_const', List.sum_replicate_nat]
        omega
      refine ⟨_, rfl, _, rfl, _, asInts_ints _, l1, ?_⟩
      simpa [timesB] using q
theorem bows_t {b : Bk} (h : OkBook b) {told : List Bd.Ed} (ht : told.length ≤ 4) (q : Q (.dat (.list ((told ++ Bd.gr (timesB b (toldE told)) (rdL b)).map edD))) S) : Ok (F__law_bows [.dat (bookD b), .dat (.list (told.map edD))] S) Q X := by
  refine ok_run (n := 2) (m := 10) (g := g__law_bows) rfl ?_
  simp [g__law_bows]
  refine for_inv (I := bw1 b told S) (fun d r ρ S' hI => ?_) (fun ρ S' hI => ?_) _ ⟨rfl, [], told, none, rfl, rfl, rfl⟩
  · obtain ⟨rfl, us, vs, x, e1, e2, rfl⟩ := hI
    cases vs with
    | nil => cases e2
    | cons v vs =>
      cases e2
      refine ⟨by simp, _, rfl, ?_⟩
      have e3 : slS S' (.dat (edD v)) none (some 2) = some (.tuple [.int v.1, .int v.2.1]) := by
        show some (PyData.tuple (cutD [PyData.int v.1, .int v.2.1, .int v.2.2] none (some ((2 : Nat) : Int)))) = _
        rw [cut_to]
        rfl
      have e4 : listS S' [.dat (.tuple [.int v.1, .int v.2.1])] = some [.int v.1, .int v.2.1] := rfl
      have lu := congrArg List.length e1
      simp at lu
      have lt := toldE_len us
      simp [e3, e4]
      refine ⟨_, ⟨by rw [lt]; unfold sizeLine; omega, rfl⟩, rfl, us ++ [v], vs, some (.dat (edD v)), by rw [e1]; simp, rfl, ?_⟩
      simp [toldE]
  · obtain ⟨rfl, us, vs, x, e1, e2, rfl⟩ := hI
    cases vs with
    | cons v vs => cases e2
    | nil =>
      rw [List.append_nil] at e1
      subst e1
      refine ⟨by simp, ?_⟩
      simp
      refine times_t h (by rw [toldE_len]; omega) ?_
      have lt := times_len b (toldE told)
      have lt2 := toldE_len told
      have hn := h.n
      generalize timesB b (toldE told) = ts at lt q
      refine ⟨told.map edD, rfl, _, _, ⟨rfl, rfl⟩, .int (ts.length : Int), by simp [lenS, view], .int ((ts.length : Int) - 1), rfl, _, rfl, by unfold lim62; omega, by unfold lim62; omega, ?_⟩
      rw [show ((ts.length : Int) - 1).toNat = ts.length - 1 by omega]
      refine okS_cut (bw2 b told (toldE told) ts x S' []) ?_ fun ρ S2 hI => ?_
      · refine for_inv (I := bw2 b told (toldE told) ts x S') (fun d r ρ S2 hI => ?_) (fun ρ S2 hI => ⟨by simp, hI⟩) _ ⟨0, none, by simp, rfl, by omega, rfl⟩
        obtain ⟨a, x6, rfl, e1, e2, rfl⟩ := hI
        have ha : a < ts.length - 1 := by
          by_cases z : a < ts.length - 1
          · exact z
          · rw [List.drop_eq_nil_of_le (by simp; omega)] at e1
            cases e1
        rw [drop_range ha, List.map_cons] at e1
        injection e1 with e1 e3
        subst e1
        subst e3
        refine ⟨by simp, _, rfl, ?_⟩
        have i1 : atI (ts.map PyData.int) (a : Int) = some (.int (ts.getD a 0)) := by
          rw [Dk.atI_nat (by simp; omega)]
          have : a < ts.length := by omega
          simp [this]
        have i2 : atI (ts.map PyData.int) ((a : Int) + 1) = some (.int (ts.getD (a + 1) 0)) := by
          rw [show (a : Int) + 1 = ((a + 1 : Nat) : Int) from rfl, Dk.atI_nat (by simp; omega)]
          have : a + 1 < ts.length := by omega
          simp [this]
        have i3 := onE_at ts a (by omega)
        have i4 : (Bd.onE ts).take (a + 1) = (Bd.onE ts).take a ++ [(ts.getD a 0, ts.getD (a + 1) 0, 0)] := by
          rw [List.take_succ, i3]
          rfl
        have lo := onE_len ts
        simp
        refine ⟨⟨_, by simp [viewL]; rfl⟩, _, i1, _, i2, by decide, by unfold sizeLine; omega, a + 1, some (.dat (.int (a : Int))), ?_, by simp, by omega, rfl⟩
        rw [i4]
        simp [edD]
      · obtain ⟨a, x6, rfl, e1, e2, rfl⟩ := hI
        have lo := onE_len ts
        have ea : (Bd.onE ts).take a = Bd.onE ts := by
          refine List.take_of_length_le ?_
          have := congrArg List.length e1
          simp at this
          omega
        rw [ea]
        simp
        refine ⟨_, ixS_book1 b, .inr (.inl ⟨_, rfl, ?_⟩)⟩
        refine okS_cut (bw3 b told (toldE told) ts x (told ++ Bd.onE ts) S' []) ?_ fun ρ S2 hI => ?_
        · refine for_inv (I := bw3 b told (toldE told) ts x (told ++ Bd.onE ts) S') (fun d r ρ S2 hI => ?_) (fun ρ S2 hI => ⟨by simp, hI⟩) _ ⟨[], b.2, .own S'.length, x6, none, none, none, rfl, rfl, by simp, rfl, by simp [Bd.rdE, rdOf], .inl ⟨rfl, rfl⟩⟩
          obtain ⟨us, vs, o5, x6, x7, x8, x9, f1, f2, rfl, rfl, hv, _⟩ := hI
          cases vs with
          | nil => cases f2
          | cons v vs =>
            cases f2
            have lu := congrArg List.length f1
            simp at lu
            generalize hT : S' ++ [PyData.list ((told ++ Bd.onE ts).map edD)] = T at hv ⊢
            refine ⟨by simp, _, rfl, ?_⟩
            simp
            refine lim_t (h.r v (by rw [f1]; simp)) ?_
            refine ⟨_, rfl, ?_⟩
            obtain ⟨r1, r2, _, _⟩ := ixS_row (S := T) v
            have ad : addS T o5 (.dat (.list [.tuple [.int v.2.1, .int v.2.2.1, .int (limD b v).1], .tuple [.int v.2.2.1, .int v.2.1, .int (-(limD b v).2)]])) = some (.list ((told ++ Bd.onE ts ++ Bd.rdE (rdOf b (us ++ [v]))).map edD)) := by
              unfold addS
              rw [hv]
              have l1 : ((told ++ Bd.onE ts ++ Bd.rdE (rdOf b us)).map edD).length + 2 ≤ sizeLine := by
                rw [List.length_map, List.length_append, List.length_append, rdOf_len, lo]
                unfold sizeLine
                omega
              show (if ((told ++ Bd.onE ts ++ Bd.rdE (rdOf b us)).map edD).length + 2 ≤ sizeLine then _ else none) = _
              rw [if_pos l1]
              simp [rdOf, Bd.rdE, edD]
            simp
            exact ⟨_, r1, _, r2, by decide, _, r2, _, r1, by decide, by decide, _, ad, us ++ [v], vs, _, _, _, _, _, by rw [f1]; simp, rfl, hT.symm, rfl, rfl, .inr ⟨_, rfl⟩⟩
        · obtain ⟨us, vs, o5, x6, x7, x8, x9, f1, f2, rfl, rfl, hv, ho⟩ := hI
          cases vs with
          | cons v vs => cases f2
          | nil =>
            rw [List.append_nil] at f1
            subst f1
            have q2 : Q (.dat (.list ((told ++ Bd.onE ts ++ Bd.rdE (rdOf b b.2)).map edD))) S' := by
              rw [List.append_assoc]
              exact q
            simp only [thenS_nx, ok_sRet, ok_fVar]
            rcases ho with ⟨rfl, e⟩ | ⟨d, rfl⟩
            · rw [view_own, st1_get] at hv
              refine ⟨_, rfl, ?_⟩
              show (if S'.length < S'.length then _ else _)
              rw [if_neg (Nat.lt_irrefl _)]
              refine ⟨_, st1_get _ _, ?_⟩
              injection hv with hv
              injection hv with hv
              rw [hv, List.take_left']
              · exact q2
              · rfl
            · injection hv with hv
              refine ⟨_, rfl, ?_⟩
              show Q (.dat d) (List.take S'.length (S' ++ _))
              rw [hv, List.take_left']
              · exact q2
              · rfl
end

end K11
set_option linter.all false
set_option maxRecDepth 100000
set_option maxHeartbeats 1000000
/-! Small books and all small walks. -/
namespace Bd
def seg (t m : Int) : List (Int × Int) := if 0 < m then [(t, m)] else []
def stepA (found : List (List (Int × Int))) (t : Int) : List (List (Int × Int)) := found.flatMap fun w => (List.range 5).map fun m : Nat => w ++ seg t (m : Int)
def allW (ts : List Int) : List (List (Int × Int)) := ts.foldl stepA [[]]
theorem stepA_len (found : List (List (Int × Int))) (t : Int) : (stepA found t).length = found.length * 5 := by
  unfold stepA
  rw [List.length_flatMap]
  simp [List.map_const', List.sum_replicate_nat]
theorem stp_app (u v : List (Int × Int)) (s g : Int) : stp (u ++ v) s g = stp u s g + stp v s g := by
  unfold stp
  rw [List.filter_append, List.map_append, List.sum_append]
theorem stp_seg {t m s g : Int} (hm : 0 ≤ m) : stp (seg t m) s g = if s ≤ t ∧ t < g then m else 0 := by
  unfold seg
  split
  · rw [stp_cons]
    simp [stp]
  · have : m = 0 := by omega
    simp [stp, this]
def mk4 (f : Int → Int) : List (Int × Int) := (((([] : List (Int × Int)) ++ seg 0 (f 0)) ++ seg 1 (f 1)) ++ seg 2 (f 2)) ++ seg 3 (f 3)
theorem mk4_mem {f : Int → Int} (h : ∀ t, 0 ≤ f t ∧ f t ≤ 4) : mk4 f ∈ allW [0, 1, 2, 3] := by
  have st : ∀ (found : List (List (Int × Int))) (w : List (Int × Int)) (t : Int), w ∈ found → w ++ seg t (f t) ∈ stepA found t := fun found w t hw => by
    unfold stepA
    rw [List.mem_flatMap]
    refine ⟨w, hw, List.mem_map.mpr ⟨(f t).toNat, ?_, ?_⟩⟩
    · have := h t
      simp
      omega
    · have := h t
      rw [Int.toNat_of_nonneg this.1]
  exact st _ _ 3 (st _ _ 2 (st _ _ 1 (st _ _ 0 (by simp))))
theorem seg_up {t m : Int} : upW (seg t m) := fun p hp => by
  unfold seg at hp
  split at hp
  · rw [List.mem_singleton.mp hp]
    simp
    omega
  · cases hp
theorem allW_up : ∀ (ts : List Int) {found : List (List (Int × Int))}, (∀ w ∈ found, upW w) → ∀ w ∈ ts.foldl stepA found, upW w
  | [], _, h, w, hw => h w hw
  | t :: r, found, h, w, hw => by
    refine allW_up r (fun v hv => ?_) w hw
    unfold stepA at hv
    obtain ⟨u, hu, h2⟩ := List.mem_flatMap.mp hv
    obtain ⟨m, _, rfl⟩ := List.mem_map.mp h2
    intro p hp
    rcases List.mem_append.mp hp with hp | hp
    · exact h u hu p hp
    · exact seg_up p hp
theorem allW_bound : ∀ (ts : List Int) {found : List (List (Int × Int))} {k : Int}, (∀ w ∈ found, ∀ s g, 0 ≤ stp w s g ∧ stp w s g ≤ k) → ∀ w ∈ ts.foldl stepA found, ∀ s g, 0 ≤ stp w s g ∧ stp w s g ≤ k + 4 * ts.length
  | [], found, k, h, w, hw, s, g => by
    have := h w hw s g
    simp
    omega
  | t :: r, found, k, h, w, hw, s, g => by
    have := allW_bound r (k := k + 4) (fun v hv s g => ?_) w hw s g
    · simp at this ⊢
      omega
    · unfold stepA at hv
      obtain ⟨u, hu, h2⟩ := List.mem_flatMap.mp hv
      obtain ⟨m, hm, rfl⟩ := List.mem_map.mp h2
      have hm := List.mem_range.mp hm
      have := h u hu s g
      rw [stp_app, stp_seg (by omega)]
      split <;> omega
theorem stp_mk4 {f : Int → Int} (h : ∀ t, 0 ≤ f t) (s g : Int) : stp (mk4 f) s g = (if s ≤ 0 ∧ 0 < g then f 0 else 0) + (if s ≤ 1 ∧ 1 < g then f 1 else 0) + (if s ≤ 2 ∧ 2 < g then f 2 else 0) + (if s ≤ 3 ∧ 3 < g then f 3 else 0) := by
  unfold mk4
  rw [stp_app, stp_app, stp_app, stp_app, stp_seg (h 0), stp_seg (h 1), stp_seg (h 2), stp_seg (h 3)]
  simp [stp]
/-- by moments -/
theorem stp_units (w : List (Int × Int)) {s g : Int} (h1 : 0 ≤ s) (h2 : s < g) (h3 : g ≤ 4) : stp w s g = (if s ≤ 0 ∧ 0 < g then stp w 0 1 else 0) + (if s ≤ 1 ∧ 1 < g then stp w 1 2 else 0) + (if s ≤ 2 ∧ 2 < g then stp w 2 3 else 0) + (if s ≤ 3 ∧ 3 < g then stp w 3 4 else 0) := by
  rw [cum_stp (by omega : s ≤ g), cum_stp (by omega : (0 : Int) ≤ 1), cum_stp (by omega : (1 : Int) ≤ 2), cum_stp (by omega : (2 : Int) ≤ 3), cum_stp (by omega : (3 : Int) ≤ 4)]
  have hs : s = 0 ∨ s = 1 ∨ s = 2 ∨ s = 3 := by omega
  have hg : g = 1 ∨ g = 2 ∨ g = 3 ∨ g = 4 := by omega
  rcases hs with rfl | rfl | rfl | rfl <;> rcases hg with rfl | rfl | rfl | rfl <;> simp at * <;> omega
structure SmallL (L : List Rd) : Prop where
  r : ∀ r ∈ L, 0 ≤ r.1 ∧ r.1 < r.2.1 ∧ r.2.1 ≤ 4 ∧ r.2.2.2 ≤ 4
def cov (L : List Rd) (t : Int) : Bool := L.any fun r => decide (r.1 ≤ t ∧ t < r.2.1)
def fit (L : List Rd) (w : List (Int × Int)) (x : Int → Int) : Int → Int := fun t => if cov L t = true then stp w t (t + 1) else x t
section
variable {L : List Rd} {w : List (Int × Int)} {x : Int → Int}
theorem unit_le (hS : SmallL L) (hw : upW w) (k : keepL L w) {t : Int} (c : cov L t = true) : 0 ≤ stp w t (t + 1) ∧ stp w t (t + 1) ≤ 4 := by
  refine ⟨stp_pos hw _ _, ?_⟩
  obtain ⟨r, hr, h⟩ := List.any_eq_true.mp c
  simp at h
  have h1 := (k r hr).2
  have h2 := (hS.r r hr).2.2.2
  have h3 := cum_stp (by omega : r.1 ≤ r.2.1) w
  have h4 := cum_stp (by omega : t ≤ t + 1) w
  have h5 := cum_mono hw (show r.1 ≤ t from h.1)
  have h6 := cum_mono hw (show t + 1 ≤ r.2.1 by omega)
  omega
theorem fit_ok (hS : SmallL L) (hw : upW w) (k : keepL L w) (hx : ∀ t, 0 ≤ x t ∧ x t ≤ 4) (t : Int) : 0 ≤ fit L w x t ∧ fit L w x t ≤ 4 := by
  unfold fit
  split
  · exact unit_le hS hw k (by assumption)
  · exact hx t
theorem fit_stp (hS : SmallL L) (hw : upW w) (k : keepL L w) (hx : ∀ t, 0 ≤ x t ∧ x t ≤ 4) {s g : Int} (h1 : 0 ≤ s) (h2 : s < g) (h3 : g ≤ 4) (hc : ∀ t, s ≤ t → t < g → cov L t = true) : stp (mk4 (fit L w x)) s g = stp w s g := by
  rw [stp_mk4 (fun t => (fit_ok hS hw k hx t).1), stp_units w h1 h2 h3]
  have e : ∀ t u : Int, u = t + 1 → (if s ≤ t ∧ t < g then fit L w x t else 0) = if s ≤ t ∧ t < g then stp w t u else 0 := fun t u hu => by
    split
    · rename_i z
      unfold fit
      rw [if_pos (hc t z.1 z.2), hu]
    · rfl
  rw [e 0 1 rfl, e 1 2 rfl, e 2 3 rfl, e 3 4 rfl]
theorem fit_keep (hS : SmallL L) (hw : upW w) (k : keepL L w) (hx : ∀ t, 0 ≤ x t ∧ x t ≤ 4) : keepL L (mk4 (fit L w x)) := fun r hr => by
  obtain ⟨h1, h2, h3, _⟩ := hS.r r hr
  rw [fit_stp hS hw k hx h1 h2 h3 fun t a b => List.any_eq_true.mpr ⟨r, hr, by simp; omega⟩]
  exact k r hr
theorem fit_mem (hS : SmallL L) (hw : upW w) (k : keepL L w) (hx : ∀ t, 0 ≤ x t ∧ x t ≤ 4) : mk4 (fit L w x) ∈ allW [0, 1, 2, 3] := mk4_mem (fit_ok hS hw k hx)
end
/-! what the small walks tell -/
section
variable {ts : List Int} {L : List Rd} {s g : Int} {B : Web}
theorem small_can (hs : ts.Pairwise (· < ·)) (h : okL L) (he : EndsL ts L) (hS : SmallL L) : ¬ Pos (gr ts L) ↔ ∃ w ∈ allW [0, 1, 2, 3], keepL L w := by
  rw [can_walk hs h he]
  constructor
  · rintro ⟨w, hw, k⟩
    exact ⟨_, fit_mem hS hw k (x := fun _ => 0) (fun _ => by omega), fit_keep hS hw k (fun _ => by omega)⟩
  · rintro ⟨w, hw, k⟩
    exact ⟨w, allW_up _ (fun w h => by rw [List.mem_singleton.mp h]; exact fun p hp => by cases hp) w hw, k⟩
theorem all_up {w : List (Int × Int)} (h : w ∈ allW [0, 1, 2, 3]) : upW w := allW_up _ (fun w h => by rw [List.mem_singleton.mp h]; exact fun p hp => by cases hp) w h
theorem small_low (hs : ts.Pairwise (· < ·)) (h : okL L) (he : EndsL ts L) (hS : SmallL L) (hp : ¬ Pos (gr ts L)) (hB : ∀ x ∈ ts, ∀ y, Best (gr ts L) x y (B x y)) (h1 : s ∈ ts) (h2 : g ∈ ts) (hl : s < g) (h0 : 0 ≤ s) (h4 : g ≤ 4) {l : Int} (e : B s g = some l) :
    (∃ w ∈ allW [0, 1, 2, 3], keepL L w ∧ stp w s g = l) ∧ ∀ w ∈ allW [0, 1, 2, 3], keepL L w → l ≤ stp w s g := by
  obtain ⟨⟨w, hw, k, ew⟩, all⟩ := low_is hs h he hp hB h1 h2 hl e
  have a2 : ∀ w ∈ allW [0, 1, 2, 3], keepL L w → l ≤ stp w s g := fun w hw k => all w (all_up hw) k
  refine ⟨⟨_, fit_mem hS hw k (x := fun _ => 0) (fun _ => by omega), fit_keep hS hw k (fun _ => by omega), ?_⟩, a2⟩
  have := a2 _ (fit_mem hS hw k (x := fun _ => 0) (fun _ => by omega)) (fit_keep hS hw k (fun _ => by omega))
  have le : stp (mk4 (fit L w fun _ => 0)) s g ≤ stp w s g := by
    rw [stp_mk4 (fun t => (fit_ok hS hw k (x := fun _ => 0) (fun _ => by omega) t).1), stp_units w h0 hl h4]
    have e : ∀ t u : Int, u = t + 1 → (if s ≤ t ∧ t < g then fit L w (fun _ => 0) t else 0) ≤ if s ≤ t ∧ t < g then stp w t u else 0 := fun t u hu => by
      split
      · unfold fit
        split
        · rw [hu]
          omega
        · rw [hu]
          exact stp_pos hw _ _
      · omega
    have a := e 0 1 rfl
    have b := e 1 2 rfl
    have c := e 2 3 rfl
    have d := e 3 4 rfl
    omega
  omega
/-- a moment that no reading covers can have as many steps as one likes -/
theorem bare_grow (h : okL L) {w : List (Int × Int)} (hw : upW w) (k : keepL L w) {t n : Int} (hn : 0 ≤ n) (c : cov L t = false) : upW (w ++ seg t n) ∧ keepL L (w ++ seg t n) := by
  refine ⟨fun p hp => ?_, fun r hr => ?_⟩
  · rcases List.mem_append.mp hp with hp | hp
    · exact hw p hp
    · exact seg_up p hp
  · rw [stp_app, stp_seg hn, if_neg, Int.add_zero]
    · exact k r hr
    · intro z
      have : cov L t = true := List.any_eq_true.mpr ⟨r, hr, by simpa using z⟩
      rw [c] at this
      cases this
theorem small_high (hs : ts.Pairwise (· < ·)) (h : okL L) (he : EndsL ts L) (hS : SmallL L) (hp : ¬ Pos (gr ts L)) (hB : ∀ x ∈ ts, ∀ y, Best (gr ts L) x y (B x y)) (h1 : s ∈ ts) (h2 : g ∈ ts) (hl : s < g) (h0 : 0 ≤ s) (h4 : g ≤ 4) {u : Int} (e : B g s = some u) :
    (∃ w ∈ allW [0, 1, 2, 3], keepL L w ∧ stp w s g = -u) ∧ ∀ w ∈ allW [0, 1, 2, 3], keepL L w → stp w s g ≤ -u := by
  obtain ⟨⟨w, hw, k, ew⟩, all⟩ := high_is hs h he hp hB h1 h2 hl e
  refine ⟨⟨_, fit_mem hS hw k (x := fun _ => 0) (fun _ => by omega), fit_keep hS hw k (fun _ => by omega), ?_⟩, fun w hw k => all w (all_up hw) k⟩
  rw [fit_stp hS hw k (fun _ => by omega) h0 hl h4 fun t a b => ?_, ew]
  cases c : cov L t with
  | true => rfl
  | false =>
    exfalso
    obtain ⟨g1, g2⟩ := bare_grow h hw k (n := 1) (by omega) c
    have := all _ g1 g2
    rw [stp_app, stp_seg (by omega), if_pos ⟨a, b⟩, ew] at this
    omega
theorem small_none (hs : ts.Pairwise (· < ·)) (h : okL L) (he : EndsL ts L) (hS : SmallL L) (hp : ¬ Pos (gr ts L)) (hB : ∀ x ∈ ts, ∀ y, Best (gr ts L) x y (B x y)) (h1 : s ∈ ts) (h2 : g ∈ ts) (hl : s < g) (h0 : 0 ≤ s) (h4 : g ≤ 4) (e : B g s = none) :
    (∃ w ∈ allW [0, 1, 2, 3], keepL L w ∧ 4 ≤ stp w s g) ∧ ∀ r ∈ L, ¬ (r.1 ≤ s ∧ g ≤ r.2.1) := by
  obtain ⟨w, hw, k, ew⟩ := high_no hs h he hp hB h1 h2 hl e 17
  by_cases c : ∀ t, s ≤ t → t < g → cov L t = true
  · exfalso
    have z := fit_stp hS hw k (x := fun _ => 0) (fun _ => by omega) h0 hl h4 c
    have b := (allW_bound [0, 1, 2, 3] (found := [[]]) (k := 0) (fun w h s g => by rw [List.mem_singleton.mp h]; simp [stp]) _ (fit_mem hS hw k (x := fun _ => 0) (fun _ => by omega)) s g).2
    rw [z] at b
    simp at b
    omega
  · have : ∃ t, s ≤ t ∧ t < g ∧ cov L t = false := by
      by_cases q : ∃ t, s ≤ t ∧ t < g ∧ cov L t = false
      · exact q
      · exfalso
        refine c fun t a b => ?_
        cases z : cov L t with
        | true => rfl
        | false => exact absurd ⟨t, a, b, z⟩ q
    obtain ⟨t, a, b, z⟩ := this
    refine ⟨⟨_, fit_mem hS hw k (x := fun u => if u = t then 4 else 0) (fun u => by split <;> omega), fit_keep hS hw k (fun u => by split <;> omega), ?_⟩, fun r hr q => ?_⟩
    · rw [stp_mk4 (fun t => (fit_ok hS hw k (fun u => by split <;> omega) t).1)]
      have nn : ∀ v : Int, 0 ≤ (if s ≤ v ∧ v < g then fit L w (fun u => if u = t then 4 else 0) v else 0) := fun v => by
        split
        · exact (fit_ok hS hw k (fun u => by split <;> omega) v).1
        · omega
      have ft : (if s ≤ t ∧ t < g then fit L w (fun u => if u = t then 4 else 0) t else 0) = 4 := by
        rw [if_pos ⟨a, b⟩]
        unfold fit
        rw [z]
        simp
      have n0 := nn 0
      have n1 := nn 1
      have n2 := nn 2
      have n3 := nn 3
      have ht : t = 0 ∨ t = 1 ∨ t = 2 ∨ t = 3 := by omega
      rcases ht with rfl | rfl | rfl | rfl <;> omega
    · have : cov L t = true := List.any_eq_true.mpr ⟨r, hr, by simp; omega⟩
      rw [z] at this
      cases this
end
end Bd
set_option Elab.async false
set_option linter.all false
set_option maxRecDepth 100000
set_option maxHeartbeats 1000000
namespace K11
open PySem PySem.Spec L2 Dk
theorem kept_keep {b : Bk} {w : List (Int × Int)} : keptB b w = true ↔ Bd.keepL (rdL b) w := by
  unfold keptB Bd.keepL rdL
  rw [List.all_eq_true]
  constructor
  · intro h r hr
    obtain ⟨q, hq, rfl⟩ := List.mem_map.mp hr
    exact of_decide_eq_true (h q hq)
  · intro h r hr
    exact decide_eq_true (h _ (List.mem_map.mpr ⟨r, hr, rfl⟩))
structure SmallB (b : Bk) : Prop where
  ok : OkBook b
  t : ∀ r ∈ b.2, r.2.2.1 ≤ 4
  c : ∀ r ∈ b.2, r.2.2.2 ≤ 3
  s : ∀ p ∈ b.1, p.2 ≤ 1
theorem small_L {b : Bk} (h : SmallB b) : Bd.SmallL (rdL b) := ⟨fun r hr => by
  obtain ⟨q, hq, rfl⟩ := List.mem_map.mp hr
  obtain ⟨h1, h2, h3, h4, h5, h6, h7⟩ := h.ok.r q hq
  refine ⟨h3, h4, h.t q hq, ?_⟩
  show (limD b q).2 ≤ 4
  unfold limD
  cases e : b.1[q.1.toNat]? with
  | none => show (0 : Int) ≤ 4; decide
  | some p =>
    have := h.s p (List.mem_of_getElem? e)
    have := h.c q hq
    show q.2.2.2 + p.2 ≤ 4
    omega⟩
theorem pos_any {b : Bk} (h : OkBook b) {m1 m2 : List Int} (p : ¬ Bd.Pos (grB b m1)) : ¬ Bd.Pos (grB b m2) :=
  (Bd.can_walk (times_sorted b m2) (rdL_ok h) (times_ends b m2)).mpr ((Bd.can_walk (times_sorted b m1) (rdL_ok h) (times_ends b m1)).mp p)
theorem webB_best {b : Bk} (h : OkBook b) {s g : Int} (hp : ¬ Bd.Pos (grB b [])) : ∀ x ∈ timesB b [s, g], ∀ y, Bd.Best (Bd.gr (timesB b [s, g]) (rdL b)) x y (webB b s g x y) :=
  fun x hx y => Bd.fw_best (Bd.gr_ends (times_ends b [s, g])) (pos_any h hp) hx
/-- the walks that keep a book -/
def keptW (b : Bk) : List (List (Int × Int)) := (Bd.allW [0, 1, 2, 3]).filter fun w => keptB b w
theorem mem_keptW {b : Bk} {w : List (Int × Int)} : w ∈ keptW b ↔ w ∈ Bd.allW [0, 1, 2, 3] ∧ Bd.keepL (rdL b) w := by
  unfold keptW
  rw [List.mem_filter, kept_keep]
theorem can_keptW {b : Bk} (h : SmallB b) : ¬ Bd.Pos (grB b []) ↔ keptW b ≠ [] := by
  unfold grB
  rw [Bd.small_can (times_sorted b []) (rdL_ok h.ok) (times_ends b []) (small_L h)]
  constructor
  · rintro ⟨w, h1, h2⟩ e
    have := mem_keptW.mpr ⟨h1, h2⟩
    rw [e] at this
    cases this
  · intro e
    cases c : keptW b with
    | nil => exact absurd c e
    | cons w r => exact ⟨w, mem_keptW.mp (by rw [c]; simp)⟩
theorem can_B {b : Bk} (h : SmallB b) : Bd.canB (timesB b []) (Bd.fw (timesB b []) (grB b [])) = decide (keptW b ≠ []) := by
  have e := Bd.fw_noPos (Bd.gr_ends (times_ends b []))
  have e2 := can_keptW h
  cases c : Bd.canB (timesB b []) (Bd.fw (timesB b []) (grB b [])) with
  | true => exact (decide_eq_true (e2.mp (e.mp c))).symm
  | false =>
    refine (decide_eq_false fun z => ?_).symm
    have := e.mpr (e2.mpr z)
    unfold grB at c
    rw [c] at this
    cases this
theorem allW_len : ∀ (ts : List Int) (found : List (List (Int × Int))), (ts.foldl Bd.stepA found).length = found.length * 5 ^ ts.length
  | [], found => by simp
  | t :: r, found => by
    show (r.foldl Bd.stepA (Bd.stepA found t)).length = _
    rw [allW_len r, Bd.stepA_len, List.length_cons, Nat.pow_succ, Nat.mul_assoc, Nat.mul_comm 5]
theorem allW_wlen : ∀ (ts : List Int) {found : List (List (Int × Int))} {k : Nat}, (∀ w ∈ found, w.length ≤ k) → ∀ w ∈ ts.foldl Bd.stepA found, w.length ≤ k + ts.length
  | [], found, k, h, w, hw => h w hw
  | t :: r, found, k, h, w, hw => by
    have := allW_wlen r (k := k + 1) (fun v hv => ?_) w hw
    · simp at this ⊢
      omega
    · unfold Bd.stepA at hv
      obtain ⟨u, hu, h2⟩ := List.mem_flatMap.mp hv
      obtain ⟨m, hm, rfl⟩ := List.mem_map.mp h2
      have := h u hu
      have : (Bd.seg t (m : Int)).length ≤ 1 := by unfold Bd.seg; split <;> simp
      simp
      omega
theorem lt_count {hi : Int} : ∀ {l : List Int} {lo : Int}, l.Pairwise (· < ·) → (∀ x ∈ l, lo ≤ x ∧ x ≤ hi) → (l.length : Int) ≤ hi - lo + 1 ∨ l = []
  | [], _, _, _ => .inr rfl
  | [x], lo, _, h => .inl (by have := h x (by simp); simp; omega)
  | x :: y :: r, lo, hs, h => by
    obtain ⟨h1, h2⟩ := List.pairwise_cons.mp hs
    have a := h x (by simp)
    rcases lt_count (l := y :: r) (lo := x + 1) h2 (hi := hi) (fun z hz => by
      have := h1 z hz
      have := h z (List.mem_cons_of_mem _ hz)
      omega) with b | b
    · refine .inl ?_
      simp at b ⊢
      omega
    · cases b
theorem sortU_first {xs : List Int} {l : Int} (h : l ∈ xs) (h2 : ∀ x ∈ xs, l ≤ x) : ∃ t, sortU xs = l :: t := by
  have hm := (sortU_mem1 (z := l)).mpr h
  have hs := sortU_lt xs
  cases e : sortU xs with
  | nil => rw [e] at hm; cases hm
  | cons a t =>
    rw [e] at hm hs
    have ha : a ∈ xs := sortU_mem1.mp (by rw [e]; simp)
    have := h2 a ha
    rcases List.mem_cons.mp hm with rfl | hm
    · exact ⟨t, rfl⟩
    · have := (List.pairwise_cons.mp hs).1 l hm
      omega
theorem sortU_last {xs : List Int} (h : xs ≠ []) : ∃ t u, sortU xs = t ++ [u] ∧ u ∈ xs ∧ ∀ x ∈ xs, x ≤ u := by
  have hs := sortU_lt xs
  cases e : (sortU xs).getLast? with
  | none =>
    exfalso
    cases xs with
    | nil => exact h rfl
    | cons a r =>
      have := (sortU_mem1 (z := a) (l := a :: r)).mpr (by simp)
      rw [List.getLast?_eq_none_iff.mp e] at this
      cases this
  | some u =>
    obtain ⟨t, e⟩ := List.getLast?_eq_some_iff.mp e
    refine ⟨t, u, e, sortU_mem1.mp (by rw [e]; simp), fun x hx => ?_⟩
    have hm := (sortU_mem1 (z := x)).mpr hx
    rw [e] at hm hs
    rcases List.mem_append.mp hm with hm | hm
    · have := (List.pairwise_append.mp hs).2.2 x hm u (by simp)
      omega
    · rw [List.mem_singleton.mp hm]
      omega
theorem atI_last {α : Type} {t : List α} {u : α} : atI (t ++ [u]) (-1) = some u := by
  have e : ixN (t ++ [u]).length (-1) = some t.length := by
    unfold ixN
    rw [if_neg (by decide), if_pos (by simp; omega)]
    simp
    omega
  unfold atI
  rw [e]
  simp
theorem keptW_len (b : Bk) : (keptW b).length ≤ 625 := by
  refine Nat.le_trans (List.length_filter_le _ _) ?_
  unfold Bd.allW
  rw [allW_len]
  decide
theorem keptW_b {b : Bk} {w : List (Int × Int)} (h : w ∈ keptW b) (s g : Int) : 0 ≤ stepsIn w s g ∧ stepsIn w s g ≤ 16 := by
  have := Bd.allW_bound [0, 1, 2, 3] (found := [[]]) (k := 0) (fun w h s g => by rw [List.mem_singleton.mp h]; simp [Bd.stp]) w (mem_keptW.mp h).1 s g
  simp only [List.length_cons, List.length_nil] at this
  refine ⟨this.1, ?_⟩
  have z : Bd.stp w s g ≤ 16 := by have := this.2; omega
  exact z
theorem numbers_len (b : Bk) (s g : Int) : (sortU ((keptW b).map fun w => stepsIn w s g)).length < 64 := by
  rcases lt_count (lo := 0) (hi := 16) (sortU_lt ((keptW b).map fun w => stepsIn w s g)) (fun x hx => by
    obtain ⟨w, hw, rfl⟩ := List.mem_map.mp (sortU_mem1.mp hx)
    exact keptW_b hw s g) with h | h
  · omega
  · rw [h]
    decide
/-- what the small walks say of a stretch -/
theorem told_small {b : Bk} (h : SmallB b) (hk : keptW b ≠ []) {s g : Int} (h0 : 0 ≤ s) (hl : s < g) (h4 : g ≤ 4) :
    ∃ l t t2 u, webB b s g s g = some l ∧ sortU ((keptW b).map fun w => stepsIn w s g) = l :: t ∧ sortU ((keptW b).map fun w => stepsIn w s g) = t2 ++ [u] ∧
      (match webB b s g g s with
        | some i => u = -i
        | none => 4 ≤ u ∧ ∀ r ∈ b.2, ¬ (r.2.1 ≤ s ∧ g ≤ r.2.2.1)) := by
  have hp := (can_keptW h).mpr hk
  have hs := times_sorted b [s, g]
  have hB := webB_best h.ok (s := s) (g := g) hp
  have hp2 : ¬ Bd.Pos (Bd.gr (timesB b [s, g]) (rdL b)) := pos_any h.ok hp
  have m1 : s ∈ timesB b [s, g] := times_mem.mpr (.inl (by simp))
  have m2 : g ∈ timesB b [s, g] := times_mem.mpr (.inl (by simp))
  obtain ⟨l, e1, _⟩ := Bd.low_some hs hB m1 m2 (by omega)
  obtain ⟨⟨w, hw, k, ew⟩, all⟩ := Bd.small_low hs (rdL_ok h.ok) (times_ends b _) (small_L h) hp2 hB m1 m2 hl h0 h4 e1
  obtain ⟨t, e2⟩ := sortU_first (xs := (keptW b).map fun w => stepsIn w s g) (l := l) (List.mem_map.mpr ⟨w, mem_keptW.mpr ⟨hw, k⟩, ew⟩) (fun x hx => by
    obtain ⟨v, hv, rfl⟩ := List.mem_map.mp hx
    exact all v (mem_keptW.mp hv).1 (mem_keptW.mp hv).2)
  obtain ⟨t2, u, e3, hu, le⟩ := sortU_last (xs := (keptW b).map fun w => stepsIn w s g) (by simpa using hk)
  refine ⟨l, t, t2, u, e1, e2, e3, ?_⟩
  obtain ⟨v, hv, rfl⟩ := List.mem_map.mp hu
  cases e : webB b s g g s with
  | some i =>
    obtain ⟨⟨w, hw, k, ew⟩, all⟩ := Bd.small_high hs (rdL_ok h.ok) (times_ends b _) (small_L h) hp2 hB m1 m2 hl h0 h4 e
    have a := le _ (List.mem_map.mpr ⟨w, mem_keptW.mpr ⟨hw, k⟩, rfl⟩)
    have c := all v (mem_keptW.mp hv).1 (mem_keptW.mp hv).2
    have ew : stepsIn w s g = -i := ew
    have c : stepsIn v s g ≤ -i := c
    show stepsIn v s g = -i
    have a : stepsIn w s g ≤ stepsIn v s g := a
    omega
  | none =>
    obtain ⟨⟨w, hw, k, ew⟩, no⟩ := Bd.small_none hs (rdL_ok h.ok) (times_ends b _) (small_L h) hp2 hB m1 m2 hl h0 h4 e
    have a := le _ (List.mem_map.mpr ⟨w, mem_keptW.mpr ⟨hw, k⟩, rfl⟩)
    have ew : 4 ≤ stepsIn w s g := ew
    have a : stepsIn w s g ≤ stepsIn v s g := a
    refine ⟨by omega, fun r hr => ?_⟩
    exact no _ (List.mem_map.mpr ⟨r, hr, rfl⟩)
theorem nice_r1 {r : Int × Int × Int × Int} : niceD 1 (rowD r) := nice_tuple (k := 0) fun d hd => by
  simp at hd
  rcases hd with rfl | rfl | rfl | rfl <;> exact nice_int
theorem nice_w2 {w : List (Int × Int)} : niceD 2 (walkD w) := nice_tuple (k := 1) fun d hd => by
  obtain ⟨p, _, rfl⟩ := List.mem_map.mp hd
  refine nice_tuple (k := 0) fun d hd => ?_
  simp at hd
  rcases hd with rfl | rfl <;> exact nice_int
theorem eqD_none {α : Type} {f : α → D} (k : Nat) (hk : k ≤ 60) (hf : ∀ a, niceD k (f a)) (l : List α) : eqD (.list (l.map f)) (.list []) = some l.isEmpty := by
  rw [eqD_nice (nice_list (k := k) fun d hd => ?_) (nice_list (k := 0) fun d hd => by cases hd) (by omega) (by decide)]
  · simp only [PyData.eqv]
    cases l <;> rfl
  · obtain ⟨r, _, rfl⟩ := List.mem_map.mp hd
    exact hf r
def awJ (ts : List Int) (S : Sto) (ds : List D) (ρ : Env1) (S' : Sto) : Prop := S' = S ∧ ∃ (us vs : List Int) (x y z w : Option OV), ts = us ++ vs ∧ ds = vs.map .int ∧
  ρ = [some (.dat (.list (ts.map .int))), some (.dat (.int 4)), some (.dat (.list ((us.foldl Bd.stepA [[]]).map walkD))), x, y, z, w]
def stA (t : Int) (w : List (Int × Int)) : List (List (Int × Int)) := (List.range 5).map fun m : Nat => w ++ Bd.seg t (m : Int)
def awK (ts : List Int) (t : Int) (found : List (List (Int × Int))) (S : Sto) (ds : List D) (ρ : Env1) (S' : Sto) : Prop := S' = S ∧ ∃ (us vs : List (List (Int × Int))) (z w : Option OV), found = us ++ vs ∧ ds = vs.map walkD ∧
  ρ = [some (.dat (.list (ts.map .int))), some (.dat (.int 4)), some (.dat (.list (found.map walkD))), some (.dat (.int t)), some (.dat (.list ((us.flatMap (stA t)).map walkD))), z, w]
theorem stA_len (t : Int) (us : List (List (Int × Int))) : (us.flatMap (stA t)).length = us.length * 5 := by
  rw [List.length_flatMap]
  unfold stA
  simp [List.map_const', List.sum_replicate_nat]
theorem ok_sTry {g : SS} {l : List (Mt × SS)} {ρ : Env1} {S : Sto} {QS : Fl → Env1 → Sto → Prop} : OkS (sTry g l ρ S) QS = OkS (g ρ S) (fun fl ρ1 S1 => match fl with
    | .er e => OkS (catchL l e ρ1 S1) QS
    | fl => QS fl ρ1 S1) := by
  unfold sTry
  cases g ρ S with
  | none => rfl
  | some z =>
    obtain ⟨fl, ρ1, S1⟩ := z
    cases fl <;> rfl
section
variable {S : Sto} {Q : OV → Sto → Prop} {X : Exn → Sto → Prop}
theorem inner_row (T : Sto) (r : Int × Int × Int × Int) (s g : Int) : ∃ d, ixS T (.dat (rowD r)) (.dat (.int 1)) = some d ∧ ∃ d1, atI [PyData.int s, .int g] 0 = some d1 ∧ ∃ d2, leS T (.dat d) (.dat d1) = some d2 ∧
    ((d2 = .bool false ∧ (r.2.1 ≤ s → r.2.2.1 < g)) ∨ (d2 = .bool true ∧ ∃ d, atI [PyData.int s, .int g] 1 = some d ∧ ∃ d3, ixS T (.dat (rowD r)) (.dat (.int 2)) = some d3 ∧ ∃ d4, leS T (.dat d) (.dat d3) = some d4 ∧ ((d4 = .bool false ∧ (r.2.1 ≤ s → r.2.2.1 < g)) ∨ (d4 = .bool true ∧ r.2.1 ≤ s ∧ g ≤ r.2.2.1)))) := by
  have a0 : atI [PyData.int s, .int g] 0 = some (.int s) := by simp [atI, ixN]
  have a1 : atI [PyData.int s, .int g] 1 = some (.int g) := by simp [atI, ixN]
  refine ⟨_, (ixS_row r).1, _, a0, .bool (decide (r.2.1 ≤ s)), rfl, ?_⟩
  by_cases c : r.2.1 ≤ s
  · refine .inr ⟨by simp [c], _, a1, _, (ixS_row r).2.1, .bool (decide (g ≤ r.2.2.1)), rfl, ?_⟩
    by_cases c2 : g ≤ r.2.2.1
    · exact .inr ⟨by simp [c2], c, c2⟩
    · exact .inl ⟨by simp [c2], fun _ => by omega⟩
  · exact .inl ⟨by simp [c], fun z => absurd z c⟩
end

end K11
set_option Elab.async false
set_option linter.all false
set_option maxRecDepth 100000
set_option maxHeartbeats 1000000
namespace K11
open PySem PySem.Spec L2 Dk
section
variable {S : Sto} {Q : OV → Sto → Prop} {X : Exn → Sto → Prop}
def lawE (b : Bk) (told : List Bd.Ed) : List Bd.Ed := told ++ Bd.gr (timesB b (toldE told)) (rdL b)
theorem lawE_ends (b : Bk) (told : List Bd.Ed) : Bd.Ends (timesB b (toldE told)) (lawE b told) := fun e he => by
  rcases List.mem_append.mp he with he | he
  · refine ⟨times_mem.mpr (.inl ?_), times_mem.mpr (.inl ?_)⟩ <;> exact List.mem_flatMap.mpr ⟨e, he, by simp⟩
  · exact Bd.gr_ends (times_ends b _) e he
theorem linksL_len (ts : List Int) (L : List Bd.Rd) : (Bd.gr ts L).length ≤ ts.length + 2 * L.length := by
  unfold Bd.gr
  rw [List.length_append, onE_len]
  have : (Bd.rdE L).length = 2 * L.length := by
    unfold Bd.rdE
    rw [List.length_flatMap]
    simp [List.map_const', List.sum_replicate_nat]
    omega
  omega
theorem lawE_len {b : Bk} (h : OkBook b) {told : List Bd.Ed} (ht : told.length ≤ 4) : (lawE b told).length ≤ 40 ∧ (timesB b (toldE told)).length ≤ 30 := by
  have h1 := linksL_len (timesB b (toldE told)) (rdL b)
  have h2 := times_len b (toldE told)
  have h3 := toldE_len told
  have h4 := h.n
  have h5 : (rdL b).length = b.2.length := by simp [rdL]
  unfold lawE
  rw [List.length_append]
  omega
/-- a table that the law makes -/
theorem lawFar {b : Bk} (h : OkBook b) {told : List Bd.Ed} (ht : told.length ≤ 4) (hp : ¬ Bd.Pos (lawE b told)) {s : Int} (hs : s ∈ timesB b (toldE told)) (q : ∀ m, m ≠ [] → (∀ t, look m t = Bd.fw (timesB b (toldE told)) (lawE b told) s t) → Q (.dat (.dict (kvM m))) S) :
    Ok (F__law_far_from [.dat (.list ((lawE b told).map edD)), .dat (.int s)] S) Q X := by
  obtain ⟨l1, l2⟩ := lawE_len h ht
  obtain ⟨d, hd, hf⟩ := Bd.far_fw (lawE_ends b told) hp hs l2
  refine far_from_t (by omega) (fun e => ?_) (fun m hm e => ?_)
  · rw [hd] at e
    cases e
  · rw [hd] at e
    cases e
    exact q m hm hf
theorem none_all (f : Int → Option Bd.Dm) : ∀ fs : List Int, (fs.filter fun t => (f t).isNone).isEmpty = fs.all fun t => (f t).isSome
  | [] => rfl
  | a :: r => by
    have ih := none_all f r
    rw [List.filter_cons, List.all_cons, ← ih]
    cases f a <;> simp
theorem can_be_t2 {b : Bk} (h : OkBook b) {told : List Bd.Ed} (ht : told.length ≤ 4) (q : ∀ k : Bool, (k = true ↔ ¬ Bd.Pos (lawE b told)) → Q (.dat (.bool k)) S) : Ok (F__law_can_be [.dat (bookD b), .dat (.list (told.map edD))] S) Q X := by
  refine ok_run (n := 2) (m := 6) (g := g__law_can_be) rfl ?_
  obtain ⟨l1, l2⟩ := lawE_len h ht
  simp [g__law_can_be]
  refine bows_t h ht ?_
  rw [show told ++ Bd.gr (timesB b (toldE told)) (rdL b) = lawE b told from rfl]
  refine .inl ⟨_, rfl, ?_⟩
  refine lc_mapT edD (lawE b told) (φ := fun e => .int e.1) (by unfold sizeLine; omega) (by simp [srcOf]) (fun e he T => ⟨_, rfl, ?_⟩) ?_
  · simp [edD, atI, ixN]
  · refine ⟨_, asInts_map (fun e : Bd.Ed => e.1) (lawE b told), by simp; omega, ?_⟩
    have hf : ∀ t, t ∈ sortU ((lawE b told).map fun e => e.1) ↔ ∃ e ∈ lawE b told, e.1 = t := fun t => by
      rw [sortU_mem1, List.mem_map]
    have ci := Bd.can_iff (lawE_ends b told) l2 _ hf
    have ls := sortU_len ((lawE b told).map fun e => e.1)
    rw [List.length_map] at ls
    generalize sortU ((lawE b told).map fun e => e.1) = fs at ci ls
    refine lc_mapF PyData.int fs (fun t => (Bd.far (lawE b told) 31 (Bd.from0 t)).isNone) PyData.int (by unfold sizeLine; omega) (by simp) (fun t ht T => ⟨_, rfl, ?_⟩) ?_
    · simp
      refine far_from_t (es := lawE b told) (by omega) (fun e => ?_) (fun m hm e => ?_)
      · rw [e]
        exact ⟨_, rfl, .inr ⟨rfl, rfl, rfl⟩⟩
      · rw [e]
        exact ⟨_, rfl, .inl ⟨rfl, rfl, rfl⟩⟩
    · simp
      have em := eqD_none 1 (by decide) (fun t => (nice_int (i := t) : niceD 1 (PyData.int t))) (fs.filter fun t => (Bd.far (lawE b told) 31 (Bd.from0 t)).isNone)
      have ee : (fs.filter fun t => (Bd.far (lawE b told) 31 (Bd.from0 t)).isNone).isEmpty = fs.all fun t => (Bd.far (lawE b told) 31 (Bd.from0 t)).isSome := none_all _ fs
      have q' := q _ ci
      rw [ee] at em
      cases c : fs.all fun t => (Bd.far (lawE b told) 31 (Bd.from0 t)).isSome with
      | true =>
        rw [c] at em q'
        exact ⟨_, .inr ⟨em, rfl⟩, q'⟩
      | false =>
        rw [c] at em q'
        exact ⟨_, .inl ⟨em, rfl⟩, q'⟩
theorem law_bounds_t {b : Bk} (h : OkBook b) {s g : Int} (hl : s < g) (hp : ¬ Bd.Pos (grB b [])) (q : Q (.dat (.tuple [optD (webB b s g s g), optD (negO (webB b s g g s))])) S) : Ok (F__law_bounds [.dat (bookD b), .dat (.tuple [.int s, .int g])] S) Q X := by
  refine ok_run (n := 2) (m := 5) (g := g__law_bounds) rfl ?_
  have m1 : s ∈ timesB b [s, g] := times_mem.mpr (.inl (by simp))
  have m2 : g ∈ timesB b [s, g] := times_mem.mpr (.inl (by simp))
  have hp0 : ¬ Bd.Pos (grB b [s, g]) := pos_any h hp
  have hpath : Bd.Path (Bd.gr (timesB b [s, g]) (rdL b)) s g 0 := Bd.onE_path (times_sorted b _) (fun e h => List.mem_append.mpr (.inl h)) m1 m2 (by omega)
  have hp1 : ¬ Bd.Pos (lawE b [(s, g, 0)]) := by
    obtain ⟨w, hw, k⟩ := (Bd.can_walk (times_sorted b [s, g]) (rdL_ok h) (times_ends b [s, g])).mp hp0
    have p1 := Bd.keep_pot (times_sorted b [s, g]) (rdL_ok h) hw k
    refine Bd.Pot.noPos (x := Bd.cum w) (Bd.pot_app.mpr ⟨fun e he => ?_, p1⟩)
    rw [List.mem_singleton.mp he]
    have := Bd.cum_mono hw (show s ≤ g by omega)
    show Bd.cum w s + 0 ≤ Bd.cum w g
    omega
  have same : ∀ x ∈ timesB b [s, g], ∀ y, Bd.fw (timesB b [s, g]) (lawE b [(s, g, 0)]) x y = webB b s g x y := fun x hx y => by
    refine (Bd.fw_best (lawE_ends b [(s, g, 0)]) hp1 hx).uniq ((webB_best h hp x hx y).over (fun e he => ⟨e.2.2, Int.le_refl _, Bd.Path.one (List.mem_append.mpr (.inr he))⟩) (fun e he => ?_))
    rcases List.mem_append.mp he with he | he
    · rw [List.mem_singleton.mp he]
      exact ⟨0, Int.le_refl _, hpath⟩
    · exact ⟨e.2.2, Int.le_refl _, Bd.Path.one he⟩
  have a0 : atI [PyData.int s, .int g] 0 = some (.int s) := by simp [atI, ixN]
  have a1 : atI [PyData.int s, .int g] 1 = some (.int g) := by simp [atI, ixN]
  simp [g__law_bounds]
  refine ⟨_, a0, _, a1, by decide, by decide, ?_⟩
  refine bows_t h (told := [(s, g, 0)]) (by simp) ?_
  refine ⟨_, a0, lawFar h (told := [(s, g, 0)]) (by simp) hp1 m1 fun ma hma fa => ⟨_, a1, lawFar h (told := [(s, g, 0)]) (by simp) hp1 m2 fun mb hmb fb => ?_⟩⟩
  obtain ⟨l, e1, _⟩ := Bd.low_some (times_sorted b _) (webB_best h (s := s) (g := g) hp) m1 m2 (by omega)
  have la : look ma g = some l := (fa g).trans ((same s m1 g).trans e1)
  have lb : look mb s = webB b s g g s := (fb s).trans (same g m2 s)
  have i1 : ixA S (.dat (.dict (kvM ma))) (.dat (.int g)) = some (.int l) := by
    show dgetD (kvM ma) (.int g) = _
    rw [dget_M, la]
    rfl
  have i2 : inA S (.dat (.int s)) (.dat (.dict (kvM mb))) = some (.bool (webB b s g g s).isSome) := by
    show (dfindD (kvM mb) (.int s)).map (fun o => PyData.bool o.isSome) = _
    rw [dfind_M hmb, lb]
    cases webB b s g g s <;> rfl
  have i3 : ixA S (.dat (.dict (kvM mb))) (.dat (.int s)) = (webB b s g g s).map .int := by
    show dgetD (kvM mb) (.int s) = _
    rw [dget_M, lb]
  refine ⟨_, _, ⟨rfl, rfl⟩, _, a1, _, i1, _, a0, _, i2, ?_⟩
  rw [e1] at q
  cases c : webB b s g g s with
  | none =>
    rw [c] at q
    refine .inl ⟨rfl, by decide, ?_⟩
    simpa [optD, negO] using q
  | some i =>
    rw [c] at q i3
    refine .inr ⟨rfl, _, a0, _, i3, _, rfl, by decide, ?_⟩
    simpa [optD, negO] using q
end

end K11
set_option Elab.async false
set_option linter.all false
set_option maxRecDepth 100000
set_option maxHeartbeats 1000000
namespace K11
open PySem PySem.Spec L2 Dk
theorem drawn_ok {most far wide slips : Int} {b : Bk} (h : DrawnBook most far wide slips b) (h1 : most ≤ 6) (h2 : far ≤ 1000000000) (h3 : 4 * wide + slips + 2 ≤ 1000000000) (h4 : slips ≤ 1000000000) : OkBook b := ⟨h.d1, h.d2, fun p hp => by
  obtain ⟨a, c, d, e⟩ := h.d p hp
  exact ⟨a, by omega, d, by omega⟩, by have := h.n; omega, fun r hr => by
  obtain ⟨a, c, d, e, f, g, i⟩ := h.r r hr
  exact ⟨a, c, d, e, by omega, g, by omega⟩⟩
theorem ok_of (b : Bk) (h : (decide (1 ≤ b.1.length) && decide (b.1.length ≤ 3) && (b.1.all fun p => decide (0 ≤ p.1 ∧ p.1 ≤ 1000000000 ∧ 0 ≤ p.2 ∧ p.2 ≤ 1000000000)) && decide (b.2.length ≤ 6) && (b.2.all fun r => decide (0 ≤ r.1 ∧ r.1 ≤ (b.1.length : Int) - 1 ∧ 0 ≤ r.2.1 ∧ r.2.1 < r.2.2.1 ∧ r.2.2.1 ≤ 1000000000000000000000000000000 ∧ 0 ≤ r.2.2.2 ∧ r.2.2.2 ≤ 1000000000000000000000000000000))) = true) : OkBook b := by
  simp only [Bool.and_eq_true, decide_eq_true_eq, List.all_eq_true] at h
  obtain ⟨⟨⟨⟨h1, h2⟩, h3⟩, h4⟩, h5⟩ := h
  exact ⟨h1, h2, h3, h4, h5⟩

def canK (b : Bk) : Bool := Bd.canB (timesB b []) (Bd.fw (timesB b []) (grB b []))
theorem canK_iff {b : Bk} : canK b = true ↔ ¬ Bd.Pos (grB b []) := Bd.fw_noPos (Bd.gr_ends (times_ends b []))

def numB : D → Int → Int → Bool
  | .int i, lo, hi => decide (lo ≤ i) && decide (i ≤ hi)
  | _, _, _ => false
section
variable {S : Sto} {Q : OV → Sto → Prop} {X : Exn → Sto → Prop}
theorem is_number_v {d : D} {lo hi : Int} (q : Q (.dat (.bool (numB d lo hi))) S) : Ok (F_is_number [.dat d, .dat (.int lo), .dat (.int hi)] S) Q X := by
  refine ok_run rfl ?_
  cases d with
  | int i =>
    by_cases c : lo ≤ i
    · simp [numB, c] at q
      simp [g_is_number, tyName, isTy, c, q]
    · simp [numB, c] at q
      simp [g_is_number, tyName, isTy, c, q]
  | _ => simp [numB] at q; simp [g_is_number, tyName, isTy, q]
end

end K11
set_option Elab.async false
set_option linter.all false
set_option maxRecDepth 100000
set_option maxHeartbeats 1000000
namespace K11
open PySem PySem.Spec L2 Dk
/-! small things for laws without claims and joins -/
theorem notN (S : Sto) : isNotS S (.dat .none) (.dat .none) = some (.bool false) := rfl
theorem notI (S : Sto) (i : Int) : isNotS S (.dat (.int i)) (.dat .none) = some (.bool true) := rfl
theorem nice_pair {p : Int × Int} : niceD 1 (pairD p) := nice_tuple (k := 0) fun d hd => by
  simp at hd
  rcases hd with rfl | rfl <;> exact nice_int

/-! the best stretch -/
def optL (o : Option Int) (f : Int) : List (Int × Int) := match o with
  | some v => [(v, f)]
  | none => []
def piK (W : Bd.Web) (a b s g : Int) : List (Int × Int) := optL (W a b) 0 ++ optL (Bd.addO (W a s) (W g b)) 1 ++ optL (Bd.addO (W a g) (W s b)) (-1)
def valK (rows : List (Int × Int)) (n : Int) : Option Int := lmax (rows.map fun p => p.1 + p.2 * n)
def cor1 (p q : Int × Int) : List Int := if p.2 = q.2 then [] else [(q.1 - p.1).fdiv (p.2 - q.2), (q.1 - p.1).fdiv (p.2 - q.2) + 1]
def cornK (rows : List (Int × Int)) : List Int := rows.flatMap fun p => rows.flatMap fun q => cor1 p q
section
variable {S : Sto} {Q : OV → Sto → Prop} {X : Exn → Sto → Prop}
def entD (p : Option Int × Int) : D := .tuple [optD p.1, .int p.2]
def entL (W : Bd.Web) (a b : Int) (us : List (Int × Int × Int)) : List (Option Int × Int) := (W a b, 0) :: (us.flatMap fun m => optL (Bd.addO (W a m.1) (W m.2.1 b)) m.2.2).map fun p => (some p.1, p.2)
theorem entL_snoc {W : Bd.Web} {a b : Int} {us : List (Int × Int × Int)} {m : Int × Int × Int} : entL W a b (us ++ [m]) = entL W a b us ++ (optL (Bd.addO (W a m.1) (W m.2.1 b)) m.2.2).map fun p => (some p.1, p.2) := by
  simp [entL]
theorem entL_len (W : Bd.Web) (a b : Int) (us : List (Int × Int × Int)) : (entL W a b us).length ≤ us.length + 1 := by
  induction us with
  | nil => simp [entL]
  | cons m r ih =>
    simp only [entL, List.length_cons, List.length_map, List.flatMap_cons, List.length_append] at ih ⊢
    have : (optL (Bd.addO (W a m.1) (W m.2.1 b)) m.2.2).length ≤ 1 := by
      unfold optL
      split <;> simp
    omega
def tripD (m : Int × Int × Int) : D := .tuple [.int m.1, .int m.2.1, .int m.2.2]
def pcI (ts : List Int) (W : Bd.Web) (a b s g : Int) (S : Sto) (ds : List D) (ρ : Env1) (S' : Sto) : Prop := ∃ (us vs : List (Int × Int × Int)) (x6 x7 x8 x9 : Option OV), [(s, g, 1), (g, s, -1)] = us ++ vs ∧ ds = vs.map tripD ∧ S' = S ++ [.list ((entL W a b us).map entD)] ∧
  ρ = [some (.dat (.dict (webL ts W))), some (.dat (.int a)), some (.dat (.int b)), some (.dat (.int s)), some (.dat (.int g)), some (.own S.length), x6, x7, x8, x9]
theorem pieces_t {ts : List Int} {W : Bd.Web} {a b s g : Int} (ha : a ∈ ts) (hb : b ∈ ts) (hs : s ∈ ts) (hg : g ∈ ts) (q : Q (.dat (.list ((piK W a b s g).map pairD))) S) :
    Ok (F_pieces [.dat (.dict (webL ts W)), .dat (.int a), .dat (.int b), .dat (.int s), .dat (.int g)] S) Q X := by
  refine ok_run (n := 5) (m := 10) (g := g_pieces) rfl ?_
  have gab := ixA_web (S := S) (o := .dat (.dict (webL ts W))) rfl ha hb
  simp [g_pieces]
  refine ⟨by decide, _, gab, by decide, by decide, by decide, by decide, ?_⟩
  refine for_inv (I := pcI ts W a b s g S) (fun d r ρ S' hI => ?_) (fun ρ S' hI => ?_) _ ⟨[], [(s, g, 1), (g, s, -1)], none, none, none, none, rfl, rfl, rfl, rfl⟩
  · obtain ⟨us, vs, x6, x7, x8, x9, e1, e2, rfl, rfl⟩ := hI
    cases vs with
    | nil => cases e2
    | cons m vs =>
      cases e2
      have hm : m ∈ [(s, g, (1 : Int)), (g, s, -1)] := by rw [e1]; simp
      have hm2 : m.1 ∈ ts ∧ m.2.1 ∈ ts := by
        simp at hm
        rcases hm with rfl | rfl
        · exact ⟨hs, hg⟩
        · exact ⟨hg, hs⟩
      have hu : us.length ≤ 2 := by
        have := congrArg List.length e1
        simp at this
        omega
      have g1 : ∀ T, ixA T (.dat (.dict (webL ts W))) (.dat (.tuple [.int a, .int m.1])) = some (optD (W a m.1)) := fun T => ixA_web (S := T) (o := .dat (.dict (webL ts W))) rfl ha hm2.1
      have g2 : ∀ T, ixA T (.dat (.dict (webL ts W))) (.dat (.tuple [.int m.2.1, .int b])) = some (optD (W m.2.1 b)) := fun T => ixA_web (S := T) (o := .dat (.dict (webL ts W))) rfl hm2.2 hb
      refine ⟨by simp [srcOf], _, rfl, ?_⟩
      simp
      refine ⟨by decide, _, g1 _, ?_⟩
      cases c1 : W a m.1 with
      | none =>
        refine ⟨.bool false, rfl, .inl ⟨rfl, us ++ [m], vs, _, _, _, _, by rw [e1]; simp, rfl, ?_, rfl⟩⟩
        rw [entL_snoc]
        simp [c1, Bd.addO, optL]
      | some u =>
        refine ⟨.bool true, rfl, .inr ⟨rfl, by decide, _, g2 _, ?_⟩⟩
        cases c2 : W m.2.1 b with
        | none =>
          refine ⟨.bool false, rfl, .inl ⟨rfl, us ++ [m], vs, _, _, _, _, by rw [e1]; simp, rfl, ?_, rfl⟩⟩
          rw [entL_snoc]
          simp [c1, c2, Bd.addO, optL]
        | some v =>
          rw [c1] at g1
          rw [c2] at g2
          have le := entL_len W a b us
          refine ⟨.bool true, rfl, .inr ⟨rfl, ⟨(entL W a b us).map entD, by simp [viewL, view]⟩, by decide, _, g1 _, by decide, _, g2 _, .int (u + v), rfl, by decide, by unfold sizeLine; omega, us ++ [m], vs, _, _, _, _, by rw [e1]; simp, rfl, ?_, rfl⟩⟩
          rw [entL_snoc]
          simp [c1, c2, Bd.addO, optL, entD, optD]
  · obtain ⟨us, vs, x6, x7, x8, x9, e1, e2, rfl, rfl⟩ := hI
    cases vs with
    | cons m vs => cases e2
    | nil =>
      rw [List.append_nil] at e1
      subst e1
      refine ⟨by simp [srcOf], ?_⟩
      simp
      have le := entL_len W a b [(s, g, 1), (g, s, -1)]
      refine lc_mapF entD (entL W a b [(s, g, 1), (g, s, -1)]) (p := fun p => p.1.isSome) (φ := entD) (by have h2 : [(s, g, (1 : Int)), (g, s, -1)].length = 2 := rfl; unfold sizeLine; omega) (fun acc => by simp) (fun p hp T => ⟨_, rfl, ?_⟩) ?_
      · cases c : p.1 with
        | none => simp [entD, c, atI, ixN, optD, notN]
        | some v => simp [entD, c, atI, ixN, optD, notI]
      · have e : ((entL W a b [(s, g, 1), (g, s, -1)]).filter fun p => p.1.isSome).map entD = (piK W a b s g).map pairD := by
          have f1 : ∀ (l : List (Int × Int)), ((l.map fun p => (some p.1, p.2)).filter fun p : Option Int × Int => p.1.isSome).map entD = l.map pairD := fun l => by
            induction l with
            | nil => rfl
            | cons x r ih => simpa [entD, optD, pairD] using ih
          unfold entL piK
          cases c : W a b with
          | none =>
            rw [List.filter_cons]
            simp only [Option.isSome_none, Bool.false_eq_true, if_false]
            rw [f1]
            simp [optL]
          | some v =>
            rw [List.filter_cons]
            simp only [Option.isSome_some, if_true, List.map_cons]
            rw [f1]
            simp [optL, entD, optD, pairD]
        rw [e]
        simpa using q
theorem value_at_t {rows : List (Int × Int)} (hl : rows.length ≤ 3) (hf : ∀ p ∈ rows, -1 ≤ p.2 ∧ p.2 ≤ 1) {n v : Int} (e : valK rows n = some v) (q : Q (.dat (.int v)) S) : Ok (F_value_at [.dat (.list (rows.map pairD)), .dat (.int n)] S) Q X := by
  refine ok_run (n := 2) (m := 4) (g := g_value_at) rfl ?_
  simp [g_value_at]
  refine lc_mapT pairD rows (fun p => .int (p.1 + p.2 * n)) (by unfold sizeLine; omega) (fun acc => by simp [srcOk]) (fun p hp acc => ?_) ?_
  · obtain ⟨f1, f2⟩ := hf p hp
    refine ⟨_, rfl, ?_⟩
    have hb : (-big < p.2 ∧ p.2 < big) ∨ (-big < n ∧ n < big) := .inl ⟨by unfold big; omega, by unfold big; omega⟩
    simp [hb]
  · have e2 : maxLS S [.dat (.list (rows.map fun p => .int (p.1 + p.2 * n)))] = some (.int v) := by
      show (asInts (rows.map fun p => PyData.int (p.1 + p.2 * n))).bind (fun ns => (lmax ns).map PyData.int) = _
      have e3 : (rows.map fun p => PyData.int (p.1 + p.2 * n)) = (rows.map fun p => p.1 + p.2 * n).map PyData.int := by simp
      rw [e3, asInts_map]
      show (lmax _).map PyData.int = _
      unfold valK at e
      rw [List.map_id', e]
      rfl
    exact ⟨_, e2, by simpa using q⟩
def coI (rows : List (Int × Int)) (S : Sto) (ds : List D) (ρ : Env1) (S' : Sto) : Prop := S' = S ∧ ∃ (us vs : List (Int × Int)) (x2 x3 x4 x5 x6 : Option OV), rows = us ++ vs ∧ ds = vs.map pairD ∧
  ρ = [some (.dat (.list (rows.map pairD))), some (.dat (.list ((us.flatMap fun p => rows.flatMap (cor1 p)).map .int))), x2, x3, x4, x5, x6]
def ciI (rows us : List (Int × Int)) (p : Int × Int) (S : Sto) (ds : List D) (ρ : Env1) (S' : Sto) : Prop := S' = S ∧ ∃ (u2 v2 : List (Int × Int)) (x4 x5 x6 : Option OV), rows = u2 ++ v2 ∧ ds = v2.map pairD ∧
  ρ = [some (.dat (.list (rows.map pairD))), some (.dat (.list (((us.flatMap fun p => rows.flatMap (cor1 p)) ++ u2.flatMap (cor1 p)).map .int))), some (.dat (.int p.1)), some (.dat (.int p.2)), x4, x5, x6]
theorem flat_len2 {α β : Type} {f : α → List β} {k : Nat} : ∀ (l : List α), (∀ a ∈ l, (f a).length ≤ k) → (l.flatMap f).length ≤ k * l.length
  | [], _ => by simp
  | a :: l, h => by
    have h1 := h a (by simp)
    have h2 := flat_len2 l fun x hx => h x (by simp [hx])
    rw [List.flatMap_cons, List.length_append, List.length_cons, Nat.mul_add]
    omega
theorem cor1_len (p q : Int × Int) : (cor1 p q).length ≤ 2 := by
  unfold cor1
  split <;> simp
theorem corners_t {rows : List (Int × Int)} (hl : rows.length ≤ 3) (hf : ∀ p ∈ rows, -1 ≤ p.2 ∧ p.2 ≤ 1) (q : Q (.dat (.list ((cornK rows).map .int))) S) : Ok (F_corners [.dat (.list (rows.map pairD))] S) Q X := by
  refine ok_run (n := 1) (m := 7) (g := g_corners) rfl ?_
  simp [g_corners]
  refine for_inv (I := coI rows S) (fun d r ρ S' hI => ?_) (fun ρ S' hI => ?_) _ ⟨rfl, [], rows, none, none, none, none, none, rfl, rfl, rfl⟩
  · obtain ⟨rfl, us, vs, x2, x3, x4, x5, x6, e1, e2, rfl⟩ := hI
    cases vs with
    | nil => cases e2
    | cons p vs =>
      cases e2
      have l1 : us.length ≤ 3 := by rw [e1] at hl; simp at hl; omega
      have l2 : (us.flatMap fun p => rows.flatMap (cor1 p)).length ≤ 18 := by
        have := flat_len2 (k := 6) us (f := fun p => rows.flatMap (cor1 p)) fun p _ => by
          have := flat_len2 (k := 2) rows (f := cor1 p) fun q _ => cor1_len p q
          omega
        omega
      have fp := hf p (by rw [e1]; simp)
      refine ⟨by simp [srcOf], _, rfl, ?_⟩
      simp
      refine for_inv (I := ciI rows us p S') (fun d r ρ S2 hI => ?_) (fun ρ S2 hI => ?_) _ ⟨rfl, [], rows, x4, x5, x6, rfl, rfl, by simp⟩
      · obtain ⟨rfl, u2, v2, x4, x5, x6, e3, e4, rfl⟩ := hI
        cases v2 with
        | nil => cases e4
        | cons q2 v2 =>
          cases e4
          have l3 : u2.length ≤ 3 := by rw [e3] at hl; simp at hl; omega
          have l4 := flat_len2 (k := 2) u2 (f := cor1 p) fun q _ => cor1_len p q
          have fq := hf q2 (by rw [e3]; simp)
          refine ⟨by simp [srcOf], _, rfl, ?_⟩
          simp
          by_cases c : p.2 = q2.2
          · refine .inl ⟨c, rfl, u2 ++ [q2], v2, some (.dat (.int q2.1)), some (.dat (.int q2.2)), x6, by rw [e3]; simp, rfl, ?_⟩
            simp [cor1, c]
          · refine .inr ⟨c, _, ⟨⟨by omega, .inl (by omega)⟩, rfl⟩, _, rfl, by decide, _, ⟨?_, rfl⟩, ?_⟩
            · simp only [List.length_flatMap] at l2 l4
              unfold sizeLine
              omega
            · refine ⟨rfl, u2 ++ [q2], v2, some (.dat (.int q2.1)), some (.dat (.int q2.2)), some (.dat (.int ((q2.1 - p.1).fdiv (p.2 - q2.2)))), by rw [e3]; simp, rfl, ?_⟩
              simp [cor1, c]
      · obtain ⟨rfl, u2, v2, x4, x5, x6, e3, e4, rfl⟩ := hI
        cases v2 with
        | cons q2 v2 => cases e4
        | nil =>
          rw [List.append_nil] at e3
          subst e3
          exact ⟨by simp [srcOf], rfl, us ++ [p], vs, some (.dat (.int p.1)), some (.dat (.int p.2)), x4, x5, x6, by rw [e1]; simp, rfl, by simp⟩
  · obtain ⟨rfl, us, vs, x2, x3, x4, x5, x6, e1, e2, rfl⟩ := hI
    cases vs with
    | cons p vs => cases e2
    | nil =>
      rw [List.append_nil] at e1
      subst e1
      refine ⟨by simp [srcOf], ?_⟩
      simp
      simpa [cornK] using q
theorem counts_of_t {ts : List Int} {W : Bd.Web} {s g low u : Int} (hs : s ∈ ts) (hg : g ∈ ts) (e1 : W s g = some low) (e2 : W g s = some u) (q : Q (.dat (.tuple [.int low, .int (-u)])) S) : Ok (F_counts_of [.dat (.dict (webL ts W)), .dat (.tuple [.int s, .int g])] S) Q X := by
  refine ok_run (n := 2) (m := 3) (g := g_counts_of) rfl ?_
  have g1 := ixA_web (S := S) (o := .dat (.dict (webL ts W))) rfl hs hg
  have g2 := ixA_web (S := S) (o := .dat (.dict (webL ts W))) rfl hg hs
  rw [e1] at g1
  rw [e2] at g2
  simp [g_counts_of, atI, ixN]
  exact ⟨by decide, _, g2, _, g1, .bool false, rfl, .inl ⟨rfl, .int (-u), by simp [optD], by decide, by simpa [optD] using q⟩⟩
end
/-! the width at worst -/
def somK (W : Bd.Web) (ah bk : List (Int × Int)) (low high : Int) : List Int := (([low] ++ [high] ++ cornK ah ++ cornK bk).filter fun c => decide (low ≤ c) && decide (c ≤ high))
def widK (ah bk : List (Int × Int)) (c : Int) : Int := -((valK ah c).getD 0) - (valK bk c).getD 0
theorem lmax_some : ∀ {l : List Int}, l ≠ [] → ∃ m, lmax l = some m ∧ m ∈ l ∧ ∀ x ∈ l, x ≤ m
  | [], h => absurd rfl h
  | [x], _ => ⟨x, rfl, by simp, fun y hy => by rw [List.mem_singleton.mp hy]; exact Int.le_refl _⟩
  | x :: y :: r, _ => by
    obtain ⟨m, e, h1, h2⟩ := lmax_some (l := y :: r) (by simp)
    refine ⟨if m > x then m else x, by simp [lmax, e], ?_, fun z hz => ?_⟩
    · by_cases c : m > x
      · rw [if_pos c]
        simp only [List.mem_cons] at h1 ⊢
        exact .inr h1
      · rw [if_neg c]
        simp
    · rcases List.mem_cons.mp hz with rfl | hz
      · split <;> omega
      · have := h2 z hz
        split <;> omega
theorem val_some {rows : List (Int × Int)} (h : rows ≠ []) (c : Int) : valK rows c = some ((valK rows c).getD 0) := by
  obtain ⟨m, e, _⟩ := lmax_some (l := rows.map fun p => p.1 + p.2 * c) (by simpa using h)
  unfold valK
  rw [e]
  rfl
theorem pi_ok {W : Bd.Web} {a b s g : Int} : (piK W a b s g).length ≤ 3 ∧ ∀ p ∈ piK W a b s g, -1 ≤ p.2 ∧ p.2 ≤ 1 := by
  have o : ∀ (z : Option Int) (f : Int), -1 ≤ f → f ≤ 1 → (optL z f).length ≤ 1 ∧ ∀ p ∈ optL z f, -1 ≤ p.2 ∧ p.2 ≤ 1 := fun z f f1 f2 => by
    cases z with
    | none => simp [optL]
    | some v => simp [optL, f1, f2]
  obtain ⟨a1, a2⟩ := o (W a b) 0 (by decide) (by decide)
  obtain ⟨b1, b2⟩ := o (Bd.addO (W a s) (W g b)) 1 (by decide) (by decide)
  obtain ⟨c1, c2⟩ := o (Bd.addO (W a g) (W s b)) (-1) (by decide) (by decide)
  unfold piK
  constructor
  · simp only [List.length_append]
    omega
  · intro p hp
    rcases List.mem_append.mp hp with hp | hp
    · rcases List.mem_append.mp hp with hp | hp
      · exact a2 p hp
      · exact b2 p hp
    · exact c2 p hp
theorem corn_len {rows : List (Int × Int)} (h : rows.length ≤ 3) : (cornK rows).length ≤ 18 := by
  have := flat_len2 (k := 6) rows (f := fun p => rows.flatMap (cor1 p)) fun p _ => by
    have := flat_len2 (k := 2) rows (f := cor1 p) fun q _ => cor1_len p q
    omega
  have e : cornK rows = rows.flatMap (fun p => rows.flatMap (cor1 p)) := rfl
  rw [e]
  omega
section
variable {S : Sto} {Q : OV → Sto → Prop} {X : Exn → Sto → Prop}
theorem worst_width_t {ts : List Int} {W : Bd.Web} {a b s g low u m : Int} (ha : a ∈ ts) (hb : b ∈ ts) (hs : s ∈ ts) (hg : g ∈ ts) (e1 : W s g = some low) (e2 : W g s = some u) (ah : piK W a b s g ≠ []) (bk : piK W b a s g ≠ [])
    (e : lmax ((somK W (piK W a b s g) (piK W b a s g) low (-u)).map (widK (piK W a b s g) (piK W b a s g))) = some m) (q : Q (.dat (.int m)) S) :
    Ok (F_worst_width [.dat (.dict (webL ts W)), .dat (.tuple [.int a, .int b]), .dat (.tuple [.int s, .int g])] S) Q X := by
  refine ok_run (n := 3) (m := 9) (g := g_worst_width) rfl ?_
  obtain ⟨p1, p2⟩ := pi_ok (W := W) (a := a) (b := b) (s := s) (g := g)
  obtain ⟨r1, r2⟩ := pi_ok (W := W) (a := b) (b := a) (s := s) (g := g)
  simp [g_worst_width, atI, ixN]
  refine pieces_t ha hb hs hg ?_
  refine pieces_t hb ha hs hg ?_
  generalize piK W a b s g = A at *
  generalize piK W b a s g = B at *
  have eb : eqS S (.dat (.list (B.map pairD))) (.dat (.list [])) = some (.bool false) := by
    rw [eqS_dat, eqD_nice (k := 2) (m := 1) (nice_list fun d hd => by
      obtain ⟨p, _, rfl⟩ := List.mem_map.mp hd
      exact nice_pair) (nice_list (k := 0) fun d hd => by cases hd) (by decide) (by decide)]
    cases B with
    | nil => exact absurd rfl bk
    | cons x r => rfl
  refine ⟨_, eb, .inl ⟨rfl, ?_⟩⟩
  refine counts_of_t hs hg e1 e2 ?_
  refine ⟨_, rfl, ?_⟩
  have cA := corn_len p1
  have cB := corn_len r1
  refine ⟨_, rfl, .bool false, rfl, .inl ⟨rfl, _, rfl, _, rfl, by simp [sizeLine], _, rfl, .bool true, rfl, .inr ⟨rfl, _, rfl, _, rfl, by simp [sizeLine], _, ⟨by simp [sizeLine], rfl⟩, _, rfl, ?_⟩⟩⟩
  refine corners_t p1 p2 ?_
  refine ⟨.list ([low, -u] ++ cornK A |>.map .int), by simp; unfold sizeLine; omega, _, rfl, ?_⟩
  refine corners_t r1 r2 ?_
  refine ⟨.list ([low, -u] ++ cornK A ++ cornK B |>.map .int), by simp; unfold sizeLine; omega, ?_⟩
  simp
  have el : PyData.int low :: PyData.int (-u) :: ((cornK A).map PyData.int ++ (cornK B).map PyData.int) = ([low] ++ [-u] ++ cornK A ++ cornK B).map PyData.int := by simp
  rw [el]
  refine lc_mapF PyData.int ([low] ++ [-u] ++ cornK A ++ cornK B) (p := fun c => decide (low ≤ c) && decide (c ≤ -u)) (φ := PyData.int) (by simp; unfold sizeLine; omega) (by simp) (fun c hc T => ⟨_, rfl, ?_⟩) ?_
  · have i0 : isS T (.dat (.int (-u))) (.dat .none) = some (.bool false) := rfl
    by_cases c1 : low ≤ c
    · by_cases c2 : c ≤ -u
      · simp [c1, c2, i0]
      · simp [c1, c2, i0]
    · simp [c1]
  · show Ok (lcR none ((somK W A B low (-u)).map PyData.int) _ _ _ _ S) _ _
    have sl : (somK W A B low (-u)).length ≤ 38 := by
      have := List.length_filter_le (fun c => decide (low ≤ c) && decide (c ≤ -u)) ([low] ++ [-u] ++ cornK A ++ cornK B)
      unfold somK
      simp only [List.length_append, List.length_singleton] at this ⊢
      omega
    refine lc_mapT PyData.int (somK W A B low (-u)) (fun c => .int (widK A B c)) (by unfold sizeLine; omega) (by simp) (fun c hc T => ⟨_, rfl, ?_⟩) ?_
    · simp
      refine value_at_t p1 p2 (val_some ah c) ?_
      refine ⟨_, rfl, ?_⟩
      refine value_at_t r1 r2 (val_some bk c) ?_
      simp [widK]
    · have e2 : maxLS S [.dat (.list ((somK W A B low (-u)).map fun c => .int (widK A B c)))] = some (.int m) := by
        show (asInts ((somK W A B low (-u)).map fun c => PyData.int (widK A B c))).bind (fun ns => (lmax ns).map PyData.int) = _
        have e3 : ((somK W A B low (-u)).map fun c => PyData.int (widK A B c)) = ((somK W A B low (-u)).map (widK A B)).map PyData.int := by simp
        rw [e3, asInts_map]
        show (lmax _).map PyData.int = _
        rw [List.map_id', e]
        rfl
      exact ⟨_, e2, by simpa using q⟩
end

/-! the greatest width stands at an end or at a corner -/
def SlOk (rows : List (Int × Int)) : Prop := ∀ p ∈ rows, -1 ≤ p.2 ∧ p.2 ≤ 1
theorem val_ge {rows : List (Int × Int)} {p : Int × Int} (hp : p ∈ rows) (n : Int) : p.1 + p.2 * n ≤ (valK rows n).getD 0 := by
  obtain ⟨m, e, _, h⟩ := lmax_some (l := rows.map fun p => p.1 + p.2 * n) (List.ne_nil_of_mem (List.mem_map_of_mem hp))
  unfold valK
  rw [e]
  exact h _ (List.mem_map_of_mem (f := fun p : Int × Int => p.1 + p.2 * n) hp)
theorem val_at {rows : List (Int × Int)} (h : rows ≠ []) (n : Int) : ∃ p ∈ rows, (valK rows n).getD 0 = p.1 + p.2 * n := by
  obtain ⟨m, e, h1, _⟩ := lmax_some (l := rows.map fun p => p.1 + p.2 * n) (by simpa using h)
  obtain ⟨p, hp, e2⟩ := List.mem_map.mp h1
  refine ⟨p, hp, ?_⟩
  unfold valK
  rw [e, ← e2]
  rfl
theorem fdiv_up {x d m : Int} (hd : d = -2 ∨ d = -1 ∨ d = 1 ∨ d = 2) (h : x.fdiv d = m) : (0 < d → m * d ≤ x ∧ x < m * d + d) ∧ (d < 0 → m * d + d < x ∧ x ≤ m * d) := by
  subst h
  rcases hd with rfl | rfl | rfl | rfl
  · have e : x.fdiv (-2) = (-x).fdiv 2 := by
      rw [← Int.neg_fdiv_neg]
      simp
    rw [e, Int.fdiv_eq_ediv_of_nonneg _ (by decide)]
    omega
  · have e : x.fdiv (-1) = (-x).fdiv 1 := by
      rw [← Int.neg_fdiv_neg]
      simp
    rw [e, Int.fdiv_eq_ediv_of_nonneg _ (by decide)]
    omega
  · rw [Int.fdiv_eq_ediv_of_nonneg _ (by decide)]
    omega
  · rw [Int.fdiv_eq_ediv_of_nonneg _ (by decide)]
    omega
theorem corn_mem {rows : List (Int × Int)} {p q : Int × Int} (hp : p ∈ rows) (hq : q ∈ rows) {c : Int} (h : c ∈ cor1 p q) : c ∈ cornK rows :=
  List.mem_flatMap.mpr ⟨p, hp, List.mem_flatMap.mpr ⟨q, hq, h⟩⟩
/-- a place where the greatest of some lines bends is a corner -/
theorem bend_corn {rows : List (Int × Int)} (hs : SlOk rows) (h : rows ≠ []) {n : Int} (hb : 2 * (valK rows n).getD 0 < (valK rows (n - 1)).getD 0 + (valK rows (n + 1)).getD 0) : n ∈ cornK rows := by
  obtain ⟨p, hp, ep⟩ := val_at h n
  obtain ⟨q, hq, eq⟩ := val_at h (n + 1)
  obtain ⟨r, hr, er⟩ := val_at h (n - 1)
  have q1 := val_ge hq n
  have r1 := val_ge hr n
  obtain ⟨p2, p3⟩ := hs p hp
  obtain ⟨q2, q3⟩ := hs q hq
  obtain ⟨r2, r3⟩ := hs r hr
  have c : p.1 + p.2 * (n + 1) < q.1 + q.2 * (n + 1) ∨ p.1 + p.2 * (n - 1) < r.1 + r.2 * (n - 1) := by
    simp only [Int.mul_add, Int.mul_sub] at *
    omega
  rw [ep] at q1 r1
  rcases c with c | c
  · refine corn_mem hp hq ?_
    obtain ⟨p1, ps⟩ := p
    obtain ⟨q1', qs⟩ := q
    simp only at *
    have s1 : ps = -1 ∨ ps = 0 ∨ ps = 1 := by omega
    have s2 : qs = -1 ∨ qs = 0 ∨ qs = 1 := by omega
    unfold cor1
    simp only
    rcases s1 with rfl | rfl | rfl <;> rcases s2 with rfl | rfl | rfl <;> first
      | (exfalso; omega)
      | (rw [if_neg (by decide)]
         generalize hm : (q1' - p1).fdiv _ = m
         have f := fdiv_up (by decide) hm
         have e : n = m := by
           have f2 := f.2 (by decide)
           omega
         rw [e]
         simp)
  · refine corn_mem hp hr ?_
    obtain ⟨p1, ps⟩ := p
    obtain ⟨r1', rs⟩ := r
    simp only at *
    have s1 : ps = -1 ∨ ps = 0 ∨ ps = 1 := by omega
    have s2 : rs = -1 ∨ rs = 0 ∨ rs = 1 := by omega
    unfold cor1
    simp only
    rcases s1 with rfl | rfl | rfl <;> rcases s2 with rfl | rfl | rfl <;> first
      | (exfalso; omega)
      | (rw [if_neg (by decide)]
         generalize hm : (r1' - p1).fdiv _ = m
         have f := fdiv_up (by decide) hm
         have e : n = m ∨ n = m + 1 := by
           have f2 := f.1 (by decide)
           omega
         rcases e with e | e <;> rw [e] <;> simp)
/-- no bend: no place beside stands under the line -/
theorem val_conv {rows : List (Int × Int)} (h : rows ≠ []) (n : Int) : 2 * (valK rows n).getD 0 ≤ (valK rows (n - 1)).getD 0 + (valK rows (n + 1)).getD 0 := by
  obtain ⟨p, hp, ep⟩ := val_at h n
  have a := val_ge hp (n - 1)
  have b := val_ge hp (n + 1)
  rw [ep]
  simp only [Int.mul_add, Int.mul_sub] at a b
  omega
theorem wid_line {A B : List (Int × Int)} (sA : SlOk A) (sB : SlOk B) (hA : A ≠ []) (hB : B ≠ []) {n : Int} (cA : n ∉ cornK A) (cB : n ∉ cornK B) : 2 * widK A B n = widK A B (n - 1) + widK A B (n + 1) := by
  have a1 := val_conv hA n
  have b1 := val_conv hB n
  have a2 : ¬ 2 * (valK A n).getD 0 < (valK A (n - 1)).getD 0 + (valK A (n + 1)).getD 0 := fun z => cA (bend_corn sA hA z)
  have b2 : ¬ 2 * (valK B n).getD 0 < (valK B (n - 1)).getD 0 + (valK B (n + 1)).getD 0 := fun z => cB (bend_corn sB hB z)
  unfold widK
  omega
/-- C: the places that are looked at -/
structure Cand (A B : List (Int × Int)) (low high : Int) (C : Int → Prop) : Prop where
  atLow : C low
  atHigh : C high
  atCorn : ∀ n, low ≤ n → n ≤ high → n ∈ cornK A ∨ n ∈ cornK B → C n
section
variable {A B : List (Int × Int)} {low high : Int} {C : Int → Prop}
theorem wid_left (sA : SlOk A) (sB : SlOk B) (hA : A ≠ []) (hB : B ≠ []) (hc : Cand A B low high C) : ∀ (k : Nat) (n : Int), n = low + k → n ≤ high → widK A B (n + 1) ≤ widK A B n → ∃ c, C c ∧ widK A B n ≤ widK A B c
  | 0, n, e, _, _ => ⟨low, hc.atLow, by rw [e]; simp⟩
  | k + 1, n, e, h, hd => by
    by_cases c : n ∈ cornK A ∨ n ∈ cornK B
    · exact ⟨n, hc.atCorn n (by omega) h c, Int.le_refl _⟩
    · have l := wid_line sA sB hA hB (n := n) (fun z => c (.inl z)) (fun z => c (.inr z))
      have e2 : n - 1 + 1 = n := by omega
      obtain ⟨c2, k1, k2⟩ := wid_left sA sB hA hB hc k (n - 1) (by omega) (by omega) (by rw [e2]; omega)
      exact ⟨c2, k1, by omega⟩
theorem wid_right (sA : SlOk A) (sB : SlOk B) (hA : A ≠ []) (hB : B ≠ []) (hc : Cand A B low high C) : ∀ (k : Nat) (n : Int), n = high - k → low ≤ n → widK A B (n - 1) ≤ widK A B n → ∃ c, C c ∧ widK A B n ≤ widK A B c
  | 0, n, e, _, _ => ⟨high, hc.atHigh, by rw [e]; simp⟩
  | k + 1, n, e, h, hd => by
    by_cases c : n ∈ cornK A ∨ n ∈ cornK B
    · exact ⟨n, hc.atCorn n h (by omega) c, Int.le_refl _⟩
    · have l := wid_line sA sB hA hB (n := n) (fun z => c (.inl z)) (fun z => c (.inr z))
      have e2 : n + 1 - 1 = n := by omega
      obtain ⟨c2, k1, k2⟩ := wid_right sA sB hA hB hc k (n + 1) (by omega) (by omega) (by rw [e2]; omega)
      exact ⟨c2, k1, by omega⟩
theorem wid_cand (sA : SlOk A) (sB : SlOk B) (hA : A ≠ []) (hB : B ≠ []) (hc : Cand A B low high C) {n : Int} (h1 : low ≤ n) (h2 : n ≤ high) : ∃ c, C c ∧ widK A B n ≤ widK A B c := by
  by_cases c : n ∈ cornK A ∨ n ∈ cornK B
  · exact ⟨n, hc.atCorn n h1 h2 c, Int.le_refl _⟩
  · have l := wid_line sA sB hA hB (n := n) (fun z => c (.inl z)) (fun z => c (.inr z))
    by_cases d : widK A B (n + 1) ≤ widK A B n
    · exact wid_left sA sB hA hB hc (n - low).toNat n (by omega) h2 d
    · exact wid_right sA sB hA hB hc (high - n).toNat n (by omega) h1 (by omega)
end

end K11
set_option Elab.async false
set_option linter.all false
set_option maxRecDepth 100000
set_option maxHeartbeats 1000000
/-! Walks by their links, and how many links are enough. -/
namespace Bd
def wt (l : List Ed) : Int := (l.map (·.2.2)).sum
def Wk (es : List Ed) : List Ed → Int → Int → Prop
  | [], a, b => a = b
  | e :: r, a, b => e ∈ es ∧ e.1 = a ∧ Wk es r e.2.1 b
section
variable {es : List Ed} {ts : List Int}
theorem wt_app (l m : List Ed) : wt (l ++ m) = wt l + wt m := by simp [wt, List.sum_append]
theorem wt_cons (e : Ed) (l : List Ed) : wt (e :: l) = e.2.2 + wt l := by simp [wt]
theorem wk_app : ∀ {l m : List Ed} {a c : Int}, Wk es (l ++ m) a c ↔ ∃ b, Wk es l a b ∧ Wk es m b c
  | [], m, a, c => by simp [Wk]
  | e :: r, m, a, c => by
    have ih := wk_app (l := r) (m := m) (a := e.2.1) (c := c)
    simp only [List.cons_append, Wk, ih]
    constructor
    · rintro ⟨h1, h2, b, h3, h4⟩
      exact ⟨b, ⟨h1, h2, h3⟩, h4⟩
    · rintro ⟨b, ⟨h1, h2, h3⟩, h4⟩
      exact ⟨h1, h2, b, h3, h4⟩
theorem wk_path : ∀ {l : List Ed} {a b : Int}, Wk es l a b → Path es a b (wt l)
  | [], a, b, h => by
    have h : a = b := h
    subst h
    exact .refl a
  | e :: r, a, b, h => by
    obtain ⟨h1, h2, h3⟩ := h
    subst h2
    have p := wk_path h3
    have q : Path es e.1 e.2.1 e.2.2 := Path.one h1
    have := q.trans p
    simpa [wt] using this
theorem path_wk {a b v : Int} (h : Path es a b v) : ∃ l, Wk es l a b ∧ wt l = v := by
  induction h with
  | refl => exact ⟨[], rfl, rfl⟩
  | @step b c v w p m ih =>
    obtain ⟨l, h1, h2⟩ := ih
    refine ⟨l ++ [(b, c, w)], wk_app.mpr ⟨b, h1, m, rfl, rfl⟩, ?_⟩
    rw [wt_app, h2]
    simp [wt]
theorem nodup_len : ∀ {l ts : List Int}, l.Nodup → (∀ x ∈ l, x ∈ ts) → l.length ≤ ts.length
  | [], _, _, _ => by simp
  | a :: r, ts, h, hs => by
    obtain ⟨h1, h2⟩ := List.nodup_cons.mp h
    have ha := hs a (by simp)
    have := nodup_len (l := r) (ts := ts.erase a) h2 fun x hx => (List.mem_erase_of_ne fun e => h1 (by rw [← e]; exact hx)).mpr (hs x (by simp [hx]))
    rw [List.length_erase_of_mem ha] at this
    have : 0 < ts.length := List.length_pos_of_mem ha
    simp
    omega
theorem wk_reach {x : Int} : ∀ {l : List Ed} {s b : Int}, Wk es l s b → x ∈ l.map (·.2.1) → ∃ p q, l = p ++ q ∧ p ≠ [] ∧ Wk es p s x ∧ Wk es q x b
  | e :: r, s, b, h, hx => by
    obtain ⟨h1, h2, h3⟩ := h
    by_cases c : e.2.1 = x
    · subst c
      exact ⟨[e], r, rfl, by simp, ⟨h1, h2, rfl⟩, h3⟩
    · have hx' : x ∈ r.map (·.2.1) := by
        rcases List.mem_cons.mp hx with z | z
        · exact absurd z.symm c
        · exact z
      obtain ⟨p, q, k1, k2, k3, k4⟩ := wk_reach h3 hx'
      exact ⟨e :: p, q, by rw [k1]; rfl, by simp, ⟨h1, h2, k3⟩, k4⟩
theorem wk_dup : ∀ {l : List Ed} {a b : Int}, Wk es l a b → ¬ (a :: l.map (·.2.1)).Nodup → ∃ l1 l2 l3 x, l = l1 ++ l2 ++ l3 ∧ l2 ≠ [] ∧ Wk es l1 a x ∧ Wk es l2 x x ∧ Wk es l3 x b
  | [], a, b, h, nd => absurd (by simp) nd
  | e :: r, a, b, h, nd => by
    by_cases c : a ∈ (e :: r).map (·.2.1)
    · obtain ⟨p, q, k1, k2, k3, k4⟩ := wk_reach h c
      exact ⟨[], p, q, a, by rw [k1]; rfl, k2, rfl, k3, k4⟩
    · have nd' : ¬ (e.2.1 :: r.map (·.2.1)).Nodup := fun z => nd (List.nodup_cons.mpr ⟨c, z⟩)
      obtain ⟨h1, h2, h3⟩ := h
      obtain ⟨l1, l2, l3, x, k1, k2, k3, k4, k5⟩ := wk_dup h3 nd'
      exact ⟨e :: l1, l2, l3, x, by rw [k1]; rfl, k2, ⟨h1, h2, k3⟩, k4, k5⟩
theorem wk_ends (he : Ends ts es) : ∀ {l : List Ed} {a b : Int}, Wk es l a b → ∀ x ∈ l.map (·.2.1), x ∈ ts
  | e :: r, a, b, h, x, hx => by
    obtain ⟨h1, h2, h3⟩ := h
    rcases List.mem_cons.mp hx with z | z
    · rw [z]
      exact (he e h1).2
    · exact wk_ends he h3 x z
theorem wk_long (he : Ends ts es) {l : List Ed} {a b : Int} (h : Wk es l a b) (ha : a ∈ ts) (hl : ts.length ≤ l.length) : ∃ l1 l2 l3 x, l = l1 ++ l2 ++ l3 ∧ l2 ≠ [] ∧ Wk es l1 a x ∧ Wk es l2 x x ∧ Wk es l3 x b := by
  refine wk_dup h fun nd => ?_
  have := nodup_len nd fun x hx => by
    rcases List.mem_cons.mp hx with z | z
    · rw [z]; exact ha
    · exact wk_ends he h x z
  simp at this
  omega
/-- without rings that grow, few links are enough -/
theorem wk_short (he : Ends ts es) (hp : ¬ Pos es) : ∀ (n : Nat) {l : List Ed} {a b : Int}, l.length ≤ n → Wk es l a b → a ∈ ts → ∃ l', l'.length < ts.length ∧ Wk es l' a b ∧ wt l ≤ wt l' := by
  intro n
  induction n with
  | zero =>
    intro l a b hn h ha
    have : l = [] := List.eq_nil_of_length_eq_zero (by omega)
    subst this
    exact ⟨[], List.length_pos_of_mem ha, h, Int.le_refl _⟩
  | succ n ih =>
    intro l a b hn h ha
    by_cases c : l.length < ts.length
    · exact ⟨l, c, h, Int.le_refl _⟩
    · obtain ⟨l1, l2, l3, x, k1, k2, k3, k4, k5⟩ := wk_long he h ha (by omega)
      have p2 : 0 < l2.length := by cases l2 <;> simp at k2 ⊢
      have lens := congrArg List.length k1
      simp at lens
      have hw : wt l2 ≤ 0 := by
        rcases Int.lt_or_le 0 (wt l2) with z | z
        · exact absurd ⟨x, _, z, wk_path k4⟩ hp
        · exact z
      obtain ⟨l', m1, m2, m3⟩ := ih (l := l1 ++ l3) (by simp; omega) (wk_app.mpr ⟨x, k3, k5⟩) ha
      refine ⟨l', m1, m2, ?_⟩
      rw [k1, wt_app, wt_app]
      rw [wt_app] at m3
      omega
/-- a ring that grows, of few links -/
theorem ring_short (he : Ends ts es) : ∀ (n : Nat) {l : List Ed} {a : Int}, l.length ≤ n → Wk es l a a → 0 < wt l → ∃ l' x, x ∈ ts ∧ l'.length ≤ ts.length ∧ Wk es l' x x ∧ 0 < wt l' := by
  intro n
  induction n with
  | zero =>
    intro l a hn h hw
    have : l = [] := List.eq_nil_of_length_eq_zero (by omega)
    subst this
    simp [wt] at hw
  | succ n ih =>
    intro l a hn h hw
    cases l with
    | nil => simp [wt] at hw
    | cons e r =>
      obtain ⟨h1, h2, h3⟩ := id h
      by_cases c : (e :: r).length ≤ ts.length
      · exact ⟨e :: r, a, by rw [← h2]; exact (he e h1).1, c, h, hw⟩
      · simp at c hn
        obtain ⟨l1, l2, l3, x, k1, k2, k3, k4, k5⟩ := wk_long he h3 (he e h1).2 (by omega)
        have p2 : 0 < l2.length := by cases l2 <;> simp at k2 ⊢
        have lens := congrArg List.length k1
        simp at lens
        rcases Int.lt_or_le 0 (wt l2) with z | z
        · exact ih (l := l2) (by omega) k4 z
        · refine ih (l := e :: (l1 ++ l3)) (by simp; omega) ⟨h1, h2, wk_app.mpr ⟨x, k3, k5⟩⟩ ?_
          have e1 : wt (e :: r) = e.2.2 + (wt l1 + wt l2 + wt l3) := by
            rw [k1, wt_cons, wt_app, wt_app]
          have e2 : wt (e :: (l1 ++ l3)) = e.2.2 + (wt l1 + wt l3) := by
            rw [wt_cons, wt_app]
          omega
theorem pos_ring (he : Ends ts es) (hp : Pos es) : ∃ l x, x ∈ ts ∧ l.length ≤ ts.length ∧ Wk es l x x ∧ 0 < wt l := by
  obtain ⟨a, v, hv, p⟩ := hp
  obtain ⟨l, h1, h2⟩ := path_wk p
  exact ring_short he l.length (Nat.le_refl _) h1 (by rw [h2]; exact hv)
end
end Bd
set_option Elab.async false
set_option linter.all false
set_option maxRecDepth 100000
set_option maxHeartbeats 1000000
/-! A reading that is counted exactly; bounds do not hang on which moments are looked at. -/
namespace Bd
section
variable {ts us : List Int} {L : List Rd} {s g : Int}
/-- the bounds of a stretch are the same at any moments -/
theorem best_any (hs : ts.Pairwise (· < ·)) (ks : us.Pairwise (· < ·)) (h : okL L) (he : EndsL ts L) (ke : EndsL us L) (hp : ¬ Pos (gr ts L)) (kp : ¬ Pos (gr us L)) {B C : Web} (hB : ∀ x ∈ ts, ∀ y, Best (gr ts L) x y (B x y)) (hC : ∀ x ∈ us, ∀ y, Best (gr us L) x y (C x y))
    (h1 : s ∈ ts) (h2 : g ∈ ts) (k1 : s ∈ us) (k2 : g ∈ us) (hl : s < g) : B s g = C s g ∧ B g s = C g s := by
  constructor
  · obtain ⟨l, e1, _⟩ := low_some hs hB h1 h2 (Int.le_of_lt hl)
    obtain ⟨m, e2, _⟩ := low_some ks hC k1 k2 (Int.le_of_lt hl)
    obtain ⟨⟨w, a1, a2, a3⟩, a4⟩ := low_is hs h he hp hB h1 h2 hl e1
    obtain ⟨⟨v, b1, b2, b3⟩, b4⟩ := low_is ks h ke kp hC k1 k2 hl e2
    have c1 := a4 v b1 b2
    have c2 := b4 w a1 a2
    rw [e1, e2]
    congr 1
    omega
  · cases e1 : B g s with
    | none =>
      cases e2 : C g s with
      | none => rfl
      | some u =>
        obtain ⟨_, b4⟩ := high_is ks h ke kp hC k1 k2 hl e2
        obtain ⟨w, a1, a2, a3⟩ := high_no hs h he hp hB h1 h2 hl e1 (1 - u)
        have := b4 w a1 a2
        omega
    | some z =>
      obtain ⟨⟨w, a1, a2, a3⟩, a4⟩ := high_is hs h he hp hB h1 h2 hl e1
      cases e2 : C g s with
      | none =>
        obtain ⟨v, b1, b2, b3⟩ := high_no ks h ke kp hC k1 k2 hl e2 (1 - z)
        have := a4 v b1 b2
        omega
      | some u =>
        obtain ⟨⟨v, b1, b2, b3⟩, b4⟩ := high_is ks h ke kp hC k1 k2 hl e2
        have c1 := a4 v b1 b2
        have c2 := b4 w a1 a2
        congr 1
        omega
theorem Best.mem {es fs : List Ed} (h : ∀ e, e ∈ es ↔ e ∈ fs) {x y : Int} {o : Option Int} (k : Best es x y o) : Best fs x y o :=
  ⟨fun v p => k.1 v (p.mono fun e he => (h e).mpr he), fun u e => (k.2 u e).mono fun e he => (h e).mp he⟩
/-- with one more reading that is counted exactly -/
theorem exact_rd (he : EndsL ts L) (hp : ¬ Pos (gr ts L)) {B : Web} (hB : ∀ x ∈ ts, ∀ y, Best (gr ts L) x y (B x y)) (hs : s ∈ ts) (hg : g ∈ ts) {n : Int} (k1 : leO (B s g) (some n)) (k2 : leO (addO (B g s) (some n)) (some 0)) :
    ¬ Pos (gr ts (L ++ [(s, g, n, n)])) ∧ ∀ x ∈ ts, ∀ y, Best (gr ts (L ++ [(s, g, n, n)])) x y (addB (addB B s g n) g s (-n) x y) := by
  have he1 := gr_ends he
  obtain ⟨a1, a2⟩ := add1_no he1 hp hB hs hg k2
  have he2 : Ends ts ((s, g, n) :: gr ts L) := fun e h => by
    rcases List.mem_cons.mp h with rfl | h
    · exact ⟨hs, hg⟩
    · exact he1 e h
  have e1 : addB B s g n s g = maxO (B s g) (some n) := by
    unfold addB
    rw [best_diag hp hB hs, best_diag hp hB hg]
    simp [addO]
  have k3 : leO (addO (addB B s g n s g) (some (-n))) (some 0) := by
    rw [e1]
    cases c : B s g with
    | none =>
      simp only [maxO, addO, leO]
      omega
    | some z =>
      rw [c] at k1
      simp only [leO] at k1
      simp only [maxO, addO, leO]
      split <;> omega
  obtain ⟨b1, b2⟩ := add1_no he2 a1 a2 hg hs k3
  have m : ∀ e, e ∈ (g, s, -n) :: (s, g, n) :: gr ts L ↔ e ∈ gr ts (L ++ [(s, g, n, n)]) := fun e => by
    rw [gr_snoc]
    simp
  refine ⟨fun z => b1 (z.mono fun e h => (m e).mpr h), fun x hx y => (b2 x hx y).mem m⟩
end
end Bd
set_option Elab.async false
set_option linter.all false
set_option maxRecDepth 100000
set_option maxHeartbeats 1000000
/-! How great a sum along a walk without repeated moments gets. -/
namespace Bd
theorem perm_sum {l m : List Int} (p : l.Perm m) : l.sum = m.sum := by
  induction p with
  | nil => rfl
  | cons x _ ih => simp [ih]
  | swap a b l =>
    simp
    omega
  | trans _ _ a b => rw [a, b]
theorem sub_sum {f : Ed → Int} (hf : ∀ e, 0 ≤ f e) : ∀ {l es : List Ed}, l.Nodup → (∀ e ∈ l, e ∈ es) → (l.map f).sum ≤ (es.map f).sum
  | [], es, _, _ => by
    have : ∀ es : List Ed, 0 ≤ (es.map f).sum := fun es => by
      induction es with
      | nil => simp
      | cons e r ih =>
        have := hf e
        simp only [List.map_cons, List.sum_cons]
        omega
    simpa using this es
  | a :: r, es, h, hs => by
    obtain ⟨h1, h2⟩ := List.nodup_cons.mp h
    have ha := hs a (by simp)
    have ih := sub_sum hf (l := r) (es := es.erase a) h2 fun x hx => (List.mem_erase_of_ne fun e => h1 (by rw [← e]; exact hx)).mpr (hs x (by simp [hx]))
    have pm := perm_sum ((List.perm_cons_erase ha).map f)
    simp only [List.map_cons, List.sum_cons] at pm ⊢
    omega
section
variable {es : List Ed} {ts : List Int}
theorem wk_simple (hp : ¬ Pos es) : ∀ (n : Nat) {l : List Ed} {a b : Int}, l.length ≤ n → Wk es l a b → ∃ l', Wk es l' a b ∧ wt l ≤ wt l' ∧ (l'.map (·.2.1)).Nodup := by
  intro n
  induction n with
  | zero =>
    intro l a b hn h
    have : l = [] := List.eq_nil_of_length_eq_zero (by omega)
    subst this
    exact ⟨[], h, Int.le_refl _, by simp⟩
  | succ n ih =>
    intro l a b hn h
    by_cases c : (a :: l.map (·.2.1)).Nodup
    · exact ⟨l, h, Int.le_refl _, (List.nodup_cons.mp c).2⟩
    · obtain ⟨l1, l2, l3, x, k1, k2, k3, k4, k5⟩ := wk_dup h c
      have p2 : 0 < l2.length := by cases l2 <;> simp at k2 ⊢
      have lens := congrArg List.length k1
      simp at lens
      have hw : wt l2 ≤ 0 := by
        rcases Int.lt_or_le 0 (wt l2) with z | z
        · exact absurd ⟨x, _, z, wk_path k4⟩ hp
        · exact z
      obtain ⟨l', m1, m2, m3⟩ := ih (l := l1 ++ l3) (by simp; omega) (wk_app.mpr ⟨x, k3, k5⟩)
      refine ⟨l', m1, ?_, m3⟩
      rw [k1, wt_app, wt_app]
      rw [wt_app] at m2
      omega
theorem wk_in : ∀ {l : List Ed} {a b : Int}, Wk es l a b → ∀ e ∈ l, e ∈ es
  | e :: r, a, b, h, x, hx => by
    rcases List.mem_cons.mp hx with z | z
    · rw [z]
      exact h.1
    · exact wk_in h.2.2 x z
theorem map_nodup {α β : Type} {f : α → β} : ∀ {l : List α}, (l.map f).Nodup → l.Nodup
  | [], _ => by simp
  | a :: r, h => by
    obtain ⟨h1, h2⟩ := List.nodup_cons.mp h
    exact List.nodup_cons.mpr ⟨fun z => h1 (List.mem_map_of_mem z), map_nodup h2⟩
/-- what a walk that starts, and goes on, in a region comes to at most -/
def upS (Z : Int → Bool) (es : List Ed) : Int := (es.map fun e => if Z e.1 then max e.2.2 0 else 0).sum
def dnS (Z : Int → Bool) (es : List Ed) : Int := (es.map fun e => if Z e.1 then max (-e.2.2) 0 else 0).sum
theorem wt_hi {Z : Int → Bool} {l : List Ed} (hn : l.Nodup) (hm : ∀ e ∈ l, e ∈ es) (hz : ∀ e ∈ l, Z e.1 = true) : wt l ≤ upS Z es := by
  have h1 := sub_sum (f := fun e => if Z e.1 then max e.2.2 0 else 0) (fun e => by split <;> omega) hn hm
  have h2 : ∀ l : List Ed, (∀ e ∈ l, Z e.1 = true) → wt l ≤ (l.map fun e => if Z e.1 then max e.2.2 0 else 0).sum := fun l => by
    induction l with
    | nil => simp [wt]
    | cons e r ih =>
      intro h
      have a := ih fun x hx => h x (by simp [hx])
      rw [wt_cons]
      simp only [List.map_cons, List.sum_cons]
      rw [if_pos (h e (by simp))]
      omega
  have := h2 l hz
  unfold upS
  omega
theorem wt_lo {Z : Int → Bool} {l : List Ed} (hn : l.Nodup) (hm : ∀ e ∈ l, e ∈ es) (hz : ∀ e ∈ l, Z e.1 = true) : -(dnS Z es) ≤ wt l := by
  have h1 := sub_sum (f := fun e => if Z e.1 then max (-e.2.2) 0 else 0) (fun e => by split <;> omega) hn hm
  have h2 : ∀ l : List Ed, (∀ e ∈ l, Z e.1 = true) → -wt l ≤ (l.map fun e => if Z e.1 then max (-e.2.2) 0 else 0).sum := fun l => by
    induction l with
    | nil => simp [wt]
    | cons e r ih =>
      intro h
      have a := ih fun x hx => h x (by simp [hx])
      rw [wt_cons]
      simp only [List.map_cons, List.sum_cons]
      rw [if_pos (h e (by simp))]
      omega
  have := h2 l hz
  unfold dnS
  omega
/-- R is never left again -/
def Shut (es : List Ed) (R : Int → Bool) : Prop := ∀ e ∈ es, R e.1 = true → R e.2.1 = true
theorem wk_stay {R : Int → Bool} (h : Shut es R) : ∀ {l : List Ed} {a b : Int}, Wk es l a b → R a = true → ∀ e ∈ l, R e.1 = true
  | e :: r, a, b, w, ha, x, hx => by
    obtain ⟨w1, w2, w3⟩ := w
    subst w2
    rcases List.mem_cons.mp hx with z | z
    · rw [z]
      exact ha
    · exact wk_stay h w3 (h e w1 ha) x z
theorem wk_left {R : Int → Bool} (h : Shut es R) : ∀ {l : List Ed} {a b : Int}, Wk es l a b → R b = false → ∀ e ∈ l, R e.1 = false
  | e :: r, a, b, w, hb, x, hx => by
    obtain ⟨w1, w2, w3⟩ := w
    have k : ∀ {l : List Ed} {a b : Int}, Wk es l a b → R a = true → R b = true := fun {l} => by
      induction l with
      | nil =>
        intro a b w ha
        have : a = b := w
        rw [← this]
        exact ha
      | cons e r ih =>
        intro a b w ha
        obtain ⟨w1, w2, w3⟩ := w
        subst w2
        exact ih w3 (h e w1 ha)
    rcases List.mem_cons.mp hx with z | z
    · rw [z]
      cases c : R e.1 with
      | false => rfl
      | true =>
        have := k w3 (h e w1 c)
        rw [hb] at this
        cases this
    · exact wk_left h w3 hb x z
/-- the best sums within a region -/
theorem best_in {R : Int → Bool} (h : Shut es R) (hp : ¬ Pos es) {x y v : Int} {o : Option Int} (hb : Best es x y o) (e : o = some v) (hz : R x = true) : v ≤ upS R es ∧ -(dnS R es) ≤ v := by
  obtain ⟨l, w1, w2⟩ := path_wk (hb.2 v e)
  obtain ⟨l', m1, m2, m3⟩ := wk_simple hp l.length (Nat.le_refl _) w1
  have hi : wt l' ≤ v := by
    have := hb.1 _ (wk_path m1)
    rw [e] at this
    exact this
  have nd := map_nodup m3
  have st := wk_stay h m1 hz
  have a := wt_hi nd (wk_in m1) st
  have b := wt_lo nd (wk_in m1) st
  omega
theorem best_out {R : Int → Bool} (h : Shut es R) (hp : ¬ Pos es) {x y v : Int} {o : Option Int} (hb : Best es x y o) (e : o = some v) (hz : R y = false) : v ≤ upS (fun z => !R z) es ∧ -(dnS (fun z => !R z) es) ≤ v := by
  obtain ⟨l, w1, w2⟩ := path_wk (hb.2 v e)
  obtain ⟨l', m1, m2, m3⟩ := wk_simple hp l.length (Nat.le_refl _) w1
  have hi : wt l' ≤ v := by
    have := hb.1 _ (wk_path m1)
    rw [e] at this
    exact this
  have nd := map_nodup m3
  have st := wk_left h m1 hz
  have a := wt_hi (Z := fun z => !R z) nd (wk_in m1) fun e he => by rw [st e he]; rfl
  have b := wt_lo (Z := fun z => !R z) nd (wk_in m1) fun e he => by rw [st e he]; rfl
  omega
end
end Bd
set_option Elab.async false
set_option linter.all false
set_option maxRecDepth 100000
set_option maxHeartbeats 1000000
/-! A stretch of which no greatest number is told: where readings stop to overlap. -/
namespace Bd
theorem onE_adj : ∀ {ts : List Int} {e : Ed}, ts.Pairwise (· < ·) → e ∈ onE ts → e.1 < e.2.1 ∧ ∀ t ∈ ts, t ≤ e.1 ∨ e.2.1 ≤ t
  | [], e, _, h => by cases h
  | [a], e, _, h => by cases h
  | a :: b :: r, e, hs, h => by
    obtain ⟨h1, h2⟩ := List.pairwise_cons.mp hs
    obtain ⟨h3, h4⟩ := List.pairwise_cons.mp h2
    rcases List.mem_cons.mp h with rfl | h
    · refine ⟨h1 b (by simp), fun t ht => ?_⟩
      rcases List.mem_cons.mp ht with rfl | ht
      · exact .inl (Int.le_refl _)
      · rcases List.mem_cons.mp ht with rfl | ht
        · exact .inr (Int.le_refl _)
        · have := h3 t ht
          exact .inr (by show b ≤ t; omega)
    · obtain ⟨k1, k2⟩ := onE_adj h2 h
      refine ⟨k1, fun t ht => ?_⟩
      rcases List.mem_cons.mp ht with z | ht
      · have := h1 e.1 (onE_mem h).1
        exact .inl (by omega)
      · exact k2 t ht
/-- a walk out of the rest into R crosses once -/
theorem wk_cross {es : List Ed} {R : Int → Bool} : ∀ {l : List Ed} {x y : Int}, Wk es l x y → R x = false → R y = true → ∃ l1 e l2, l = l1 ++ e :: l2 ∧ Wk es l1 x e.1 ∧ e ∈ es ∧ Wk es l2 e.2.1 y ∧ R e.1 = false ∧ R e.2.1 = true
  | [], x, y, w, hx, hy => by
    have : x = y := w
    rw [this, hy] at hx
    cases hx
  | e :: r, x, y, w, hx, hy => by
    obtain ⟨w1, w2, w3⟩ := w
    subst w2
    cases c : R e.2.1 with
    | true => exact ⟨[], e, r, rfl, rfl, w1, w3, hx, c⟩
    | false =>
      obtain ⟨l1, e2, l2, k1, k2, k3, k4, k5, k6⟩ := wk_cross w3 c hy
      exact ⟨e :: l1, e2, l2, by rw [k1]; rfl, ⟨w1, rfl, k2⟩, k3, k4, k5, k6⟩
structure Gap (ts : List Int) (L : List Rd) (B : Web) (s g : Int) : Prop where
  srt : ts.Pairwise (· < ·)
  ends : EndsL ts L
  nopos : ¬ Pos (gr ts L)
  best : ∀ x ∈ ts, ∀ y, Best (gr ts L) x y (B x y)
  ms : s ∈ ts
  mg : g ∈ ts
  lt : s < g
  none : B g s = none
section
variable {ts : List Int} {L : List Rd} {B : Web} {s g : Int}
def Rg (B : Web) (g : Int) (z : Int) : Bool := (B g z).isSome
theorem Gap.tri (h : Gap ts L B s g) {x y z v w : Int} (hx : x ∈ ts) (hy : y ∈ ts) (e1 : B x y = some v) (e2 : B y z = some w) : ∃ u, B x z = some u ∧ v + w ≤ u := by
  have := best_tri (gr_ends h.ends) h.best hx hy (z := z)
  rw [e1, e2] at this
  cases c : B x z with
  | none =>
    rw [c] at this
    cases this
  | some u =>
    rw [c] at this
    exact ⟨u, rfl, this⟩
theorem Gap.fwd (h : Gap ts L B s g) {x y : Int} (hx : x ∈ ts) (hy : y ∈ ts) (l : x ≤ y) : ∃ u, B x y = some u ∧ 0 ≤ u := low_some h.srt h.best hx hy l
theorem Gap.shut (h : Gap ts L B s g) : Shut (gr ts L) (Rg B g) := fun e he k => by
  unfold Rg at k ⊢
  obtain ⟨v, e1⟩ := Option.isSome_iff_exists.mp k
  have p := ((h.best g h.mg e.1).2 v e1).step (show (e.1, e.2.1, e.2.2) ∈ gr ts L from he)
  have := (h.best g h.mg e.2.1).1 _ p
  cases c : B g e.2.1 with
  | none => rw [c] at this; cases this
  | some u => rfl
theorem Gap.rs (h : Gap ts L B s g) : Rg B g s = false := by
  unfold Rg
  rw [h.none]
  rfl
theorem Gap.rg (h : Gap ts L B s g) : Rg B g g = true := by
  unfold Rg
  rw [best_diag h.nopos h.best h.mg]
  rfl
theorem Gap.up (h : Gap ts L B s g) {x y v : Int} (hx : x ∈ ts) (e : B x y = some v) (r : Rg B g x = true) : Rg B g y = true := by
  unfold Rg at r
  obtain ⟨z, e1⟩ := Option.isSome_iff_exists.mp r
  obtain ⟨u, e2, _⟩ := h.tri h.mg hx e1 e
  unfold Rg
  rw [e2]
  rfl
/-- where it is crossed -/
structure Cut (ts : List Int) (L : List Rd) (B : Web) (g u v : Int) : Prop where
  mu : u ∈ ts
  mv : v ∈ ts
  ru : Rg B g u = false
  rv : Rg B g v = true
  lt : u < v
  adj : ∀ t ∈ ts, t ≤ u ∨ v ≤ t
  link : (u, v, 0) ∈ gr ts L
theorem Gap.edge (h : Gap ts L B s g) {e : Ed} (he : e ∈ gr ts L) (r1 : Rg B g e.1 = false) (r2 : Rg B g e.2.1 = true) : Cut ts L B g e.1 e.2.1 ∧ e.2.2 = 0 := by
  rcases List.mem_append.mp he with k | k
  · obtain ⟨a1, a2⟩ := onE_adj h.srt k
    obtain ⟨b1, b2, b3⟩ := onE_mem k
    refine ⟨⟨b1, b2, r1, r2, a1, a2, ?_⟩, b3⟩
    have : e = (e.1, e.2.1, 0) := by rw [← b3]
    rw [← this]
    exact he
  · exfalso
    obtain ⟨r, hr, z | z⟩ := rdE_mem.mp k
    · have back : (r.2.1, r.1, -r.2.2.2) ∈ gr ts L := List.mem_append.mpr (.inr (rdE_mem.mpr ⟨r, hr, .inr rfl⟩))
      subst z
      have := h.shut _ back r2
      rw [r1] at this
      cases this
    · have back : (r.1, r.2.1, r.2.2.1) ∈ gr ts L := List.mem_append.mpr (.inr (rdE_mem.mpr ⟨r, hr, .inl rfl⟩))
      subst z
      have := h.shut _ back r2
      rw [r1] at this
      cases this
theorem Gap.left (h : Gap ts L B s g) {u v : Int} (c : Cut ts L B g u v) {t : Int} (ht : t ∈ ts) : (Rg B g t = false ↔ t ≤ u) := by
  constructor
  · intro r
    rcases c.adj t ht with z | z
    · exact z
    · obtain ⟨w, e, _⟩ := h.fwd c.mv ht z
      have := h.up c.mv e c.rv
      rw [r] at this
      cases this
  · intro l
    cases k : Rg B g t with
    | false => rfl
    | true =>
      obtain ⟨w, e, _⟩ := h.fwd ht c.mu l
      have := h.up ht e k
      rw [c.ru] at this
      cases this
theorem Gap.uniq (h : Gap ts L B s g) {u v u2 v2 : Int} (c : Cut ts L B g u v) (d : Cut ts L B g u2 v2) : u2 = u ∧ v2 = v := by
  have a1 := (h.left c d.mu).mp d.ru
  have a2 := (h.left d c.mu).mp c.ru
  have b1 := c.adj v2 d.mv
  have b2 := d.adj v c.mv
  have := c.lt
  have := d.lt
  omega
/-- a best sum across the cut -/
theorem Gap.cross (h : Gap ts L B s g) {u v : Int} (c : Cut ts L B g u v) {x y w : Int} (hx : x ∈ ts) (e : B x y = some w) (rx : Rg B g x = false) (ry : Rg B g y = true) : ∃ a b, B x u = some a ∧ B v y = some b ∧ w = a + b := by
  obtain ⟨l, w1, w2⟩ := path_wk ((h.best x hx y).2 w e)
  obtain ⟨l1, f, l2, k1, k2, k3, k4, k5, k6⟩ := wk_cross w1 rx ry
  obtain ⟨d, z⟩ := h.edge k3 k5 k6
  obtain ⟨q1, q2⟩ := h.uniq c d
  rw [q1] at k2
  rw [q2] at k4
  have i1 := (h.best x hx u).1 _ (wk_path k2)
  have i2 := (h.best v c.mv y).1 _ (wk_path k4)
  cases e1 : B x u with
  | none => rw [e1] at i1; cases i1
  | some a =>
    cases e2 : B v y with
    | none => rw [e2] at i2; cases i2
    | some b =>
      rw [e1] at i1
      rw [e2] at i2
      have i1 : wt l1 ≤ a := i1
      have i2 : wt l2 ≤ b := i2
      have ew : w = wt l1 + wt l2 := by
        rw [← w2, k1, wt_app, wt_cons, z]
        omega
      have p := (((h.best x hx u).2 a e1).step c.link).trans ((h.best v c.mv y).2 b e2)
      have i3 := (h.best x hx y).1 _ p
      rw [e] at i3
      have i3 : a + 0 + b ≤ w := i3
      exact ⟨a, b, rfl, rfl, by omega⟩
theorem Gap.cut (h : Gap ts L B s g) : ∃ u v, Cut ts L B g u v := by
  obtain ⟨w, e, _⟩ := h.fwd h.ms h.mg (Int.le_of_lt h.lt)
  obtain ⟨l, w1, w2⟩ := path_wk ((h.best s h.ms g).2 w e)
  obtain ⟨l1, f, l2, k1, k2, k3, k4, k5, k6⟩ := wk_cross w1 h.rs h.rg
  exact ⟨_, _, (h.edge k3 k5 k6).1⟩
end
end Bd
set_option Elab.async false
set_option linter.all false
set_option maxRecDepth 100000
set_option maxHeartbeats 1000000
/-! How far a corner lies above the least number. -/
namespace Bd
section
variable {ts : List Int} {L : List Rd} {B : Web} {s g : Int}
def cL (ts : List Int) (L : List Rd) (B : Web) (g : Int) : Int := max (upS (fun z => !Rg B g z) (gr ts L)) (dnS (fun z => !Rg B g z) (gr ts L))
def cR (ts : List Int) (L : List Rd) (B : Web) (g : Int) : Int := max (upS (Rg B g) (gr ts L)) (dnS (Rg B g) (gr ts L))
theorem Gap.inL (h : Gap ts L B s g) {x y v : Int} (hx : x ∈ ts) (e : B x y = some v) (r : Rg B g y = false) : v ≤ cL ts L B g ∧ -(cL ts L B g) ≤ v := by
  obtain ⟨a, b⟩ := best_out h.shut h.nopos (h.best x hx y) e r
  unfold cL
  omega
theorem Gap.inR (h : Gap ts L B s g) {x y v : Int} (hx : x ∈ ts) (e : B x y = some v) (r : Rg B g x = true) : v ≤ cR ts L B g ∧ -(cR ts L B g) ≤ v := by
  obtain ⟨a, b⟩ := best_in h.shut h.nopos (h.best x hx y) e r
  unfold cR
  omega
theorem Gap.pos (h : Gap ts L B s g) : 0 ≤ cL ts L B g ∧ 0 ≤ cR ts L B g := by
  have a := h.inL h.ms (best_diag h.nopos h.best h.ms) h.rs
  have b := h.inR h.mg (best_diag h.nopos h.best h.mg) h.rg
  omega
theorem some_inj {o : Option Int} {a b : Int} (e : o = some a) (k : o = some b) : a = b := by
  rw [e] at k
  exact Option.some.inj k
theorem Gap.b1 (h : Gap ts L B s g) {x y a b low w : Int} (hx : x ∈ ts) (hy : y ∈ ts) (ea : B x s = some a) (eb : B g y = some b) (el : B s g = some low) (ew : B x y = some w) : w ≤ a + b + low + cL ts L B g + cR ts L B g := by
  have rx : Rg B g x = false := by
    cases c : Rg B g x with
    | false => rfl
    | true =>
      have := h.up hx ea c
      rw [h.rs] at this
      cases this
  have ry : Rg B g y = true := by
    unfold Rg
    rw [eb]
    rfl
  obtain ⟨u, v, c⟩ := h.cut
  obtain ⟨a1, b1, x1, x2, x3⟩ := h.cross c hx ew rx ry
  obtain ⟨a2, b2, y1, y2, y3⟩ := h.cross c h.ms el h.rs h.rg
  have su := (h.left c h.ms).mp h.rs
  have vg : v ≤ g := by
    rcases c.adj g h.mg with z | z
    · have := (h.left c h.mg).mpr z
      rw [h.rg] at this
      cases this
    · exact z
  have l : a1 - a - a2 ≤ cL ts L B g := by
    by_cases k : x ≤ s
    · obtain ⟨p, e1, p0⟩ := h.fwd hx h.ms k
      obtain ⟨q, e2, q0⟩ := h.fwd h.ms c.mu su
      have := some_inj e1 ea
      have := some_inj e2 y1
      have := (h.inL hx x1 c.ru).1
      omega
    · obtain ⟨p, e1, p0⟩ := h.fwd h.ms hx (by omega)
      obtain ⟨q, e2, q0⟩ := h.tri h.ms hx e1 x1
      have := some_inj e2 y1
      have := (h.inL hx ea h.rs).2
      omega
  have r : b1 - b - b2 ≤ cR ts L B g := by
    by_cases k : g ≤ y
    · obtain ⟨p, e1, p0⟩ := h.fwd h.mg hy k
      obtain ⟨q, e2, q0⟩ := h.fwd c.mv h.mg vg
      have := some_inj e1 eb
      have := some_inj e2 y2
      have := (h.inR c.mv x2 c.rv).1
      omega
    · obtain ⟨p, e1, p0⟩ := h.fwd hy h.mg (by omega)
      obtain ⟨q, e2, q0⟩ := h.tri c.mv hy x2 e1
      have := some_inj e2 y2
      have := (h.inR h.mg eb h.rg).2
      omega
  omega
theorem Gap.b2 (h : Gap ts L B s g) {x y a b low w : Int} (hx : x ∈ ts) (hy : y ∈ ts) (ea : B x g = some a) (eb : B s y = some b) (el : B s g = some low) (ew : B x y = some w) : a + b ≤ w + low + cL ts L B g + cR ts L B g := by
  obtain ⟨z1, z2⟩ := h.pos
  obtain ⟨u, v, c⟩ := h.cut
  obtain ⟨a2, c2, y1, y2, y3⟩ := h.cross c h.ms el h.rs h.rg
  have su := (h.left c h.ms).mp h.rs
  have vg : v ≤ g := by
    rcases c.adj g h.mg with z | z
    · have := (h.left c h.mg).mpr z
      rw [h.rg] at this
      cases this
    · exact z
  cases rx : Rg B g x with
  | false =>
    obtain ⟨a1, c3, x1, x2, x3⟩ := h.cross c hx ea rx h.rg
    have ec := some_inj x2 y2
    cases ry : Rg B g y with
    | true =>
      obtain ⟨a4, b4, w1, w2, w3⟩ := h.cross c h.ms eb h.rs ry
      obtain ⟨a5, b5, v1, v2, v3⟩ := h.cross c hx ew rx ry
      have := some_inj w1 y1
      have := some_inj v1 x1
      have := some_inj v2 w2
      omega
    | false =>
      have l : a1 + b - w - a2 ≤ cL ts L B g := by
        obtain ⟨q, e1, q0⟩ := h.fwd hy c.mu ((h.left c hy).mp ry)
        obtain ⟨q2, e2, q3⟩ := h.tri h.ms hy eb e1
        have k1 := some_inj e2 y1
        have k2 := (h.inL hx x1 c.ru).1
        by_cases k : x ≤ y
        · obtain ⟨p, e3, p0⟩ := h.fwd hx hy k
          have := some_inj e3 ew
          omega
        · by_cases k3 : s ≤ x
          · obtain ⟨p, e3, p0⟩ := h.fwd h.ms hx k3
            obtain ⟨p2, e4, p3⟩ := h.tri h.ms hx e3 x1
            have := some_inj e4 y1
            obtain ⟨r, e5, r0⟩ := h.fwd hy hx (by omega)
            obtain ⟨r2, e6, r3⟩ := h.tri h.ms hy eb e5
            have := some_inj e6 e3
            have := (h.inL hx ew ry).2
            omega
          · obtain ⟨p, e3, p0⟩ := h.fwd hx h.ms (by omega)
            obtain ⟨p2, e4, p3⟩ := h.tri hx h.ms e3 eb
            have := some_inj e4 ew
            obtain ⟨r, e5, r0⟩ := h.fwd h.ms c.mu su
            have := some_inj e5 y1
            omega
      omega
  | true =>
    have ry := h.up hx ew rx
    obtain ⟨a4, b4, w1, w2, w3⟩ := h.cross c h.ms eb h.rs ry
    have ec := some_inj w1 y1
    have vx : v ≤ x := by
      rcases c.adj x hx with z | z
      · have := (h.left c hx).mpr z
        rw [rx] at this
        cases this
      · exact z
    have r : a + b4 - w - c2 ≤ cR ts L B g := by
      obtain ⟨p, e1, p0⟩ := h.fwd c.mv hx vx
      obtain ⟨p2, e2, p3⟩ := h.tri c.mv hx e1 ea
      have k1 := some_inj e2 y2
      have k2 := (h.inR c.mv w2 c.rv).1
      by_cases k : x ≤ y
      · obtain ⟨q, e3, q0⟩ := h.fwd hx hy k
        have := some_inj e3 ew
        omega
      · by_cases k3 : y ≤ g
        · obtain ⟨q, e3, q0⟩ := h.fwd hy h.mg k3
          obtain ⟨q2, e4, q3⟩ := h.tri c.mv hy w2 e3
          have := some_inj e4 y2
          obtain ⟨r, e5, r0⟩ := h.fwd hy hx (by omega)
          obtain ⟨r2, e6, r3⟩ := h.tri hy hx e5 ea
          have := some_inj e6 e3
          have := (h.inR hx ew rx).2
          omega
        · obtain ⟨q, e3, q0⟩ := h.fwd h.mg hy (by omega)
          obtain ⟨q2, e4, q3⟩ := h.tri hx h.mg ea e3
          have := some_inj e4 ew
          obtain ⟨r, e5, r0⟩ := h.fwd c.mv h.mg vg
          have := some_inj e5 y2
          omega
    omega
end
end Bd
set_option Elab.async false
set_option linter.all false
set_option maxRecDepth 100000
set_option maxHeartbeats 1000000
/-! Small readings: how far. -/
namespace Bd
theorem upS_app (Z : Int → Bool) (a b : List Ed) : upS Z (a ++ b) = upS Z a + upS Z b := by simp [upS, List.sum_append]
theorem dnS_app (Z : Int → Bool) (a b : List Ed) : dnS Z (a ++ b) = dnS Z a + dnS Z b := by simp [dnS, List.sum_append]
theorem flat0 (Z : Int → Bool) : ∀ {l : List Ed}, (∀ e ∈ l, e.2.2 = 0) → upS Z l = 0 ∧ dnS Z l = 0
  | [], _ => ⟨rfl, rfl⟩
  | e :: r, h => by
    obtain ⟨a, b⟩ := flat0 Z (l := r) fun x hx => h x (by simp [hx])
    have e0 := h e (by simp)
    unfold upS dnS at *
    simp only [List.map_cons, List.sum_cons, a, b, e0]
    constructor <;> split <;> simp
def cntZ (Z : Int → Bool) (L : List Rd) : Int := ((L.filter fun r => Z r.1).length : Int)
def Small (L : List Rd) : Prop := ∀ r ∈ L, -1 ≤ r.2.2.1 ∧ r.2.2.1 ≤ 32 ∧ 0 ≤ r.2.2.2 ∧ r.2.2.2 ≤ 32
theorem rd_small (Z : Int → Bool) : ∀ {L : List Rd}, Small L → (∀ r ∈ L, Z r.1 = Z r.2.1) → upS Z (rdE L) ≤ 33 * cntZ Z L ∧ dnS Z (rdE L) ≤ 33 * cntZ Z L
  | [], _, _ => by simp [upS, dnS, rdE, cntZ]
  | r :: L, h, k => by
    obtain ⟨a, b⟩ := rd_small Z (L := L) (fun x hx => h x (by simp [hx])) fun x hx => k x (by simp [hx])
    obtain ⟨h1, h2, h3, h4⟩ := h r (by simp)
    have k1 := k r (by simp)
    have e : rdE (r :: L) = [(r.1, r.2.1, r.2.2.1), (r.2.1, r.1, -r.2.2.2)] ++ rdE L := by simp [rdE]
    rw [e, upS_app, dnS_app]
    unfold cntZ at a b ⊢
    rw [List.filter_cons]
    cases c : Z r.1 with
    | true =>
      rw [c] at k1
      have u : upS Z [(r.1, r.2.1, r.2.2.1), (r.2.1, r.1, -r.2.2.2)] = max r.2.2.1 0 + max (-r.2.2.2) 0 := by simp [upS, c, ← k1]
      have d : dnS Z [(r.1, r.2.1, r.2.2.1), (r.2.1, r.1, -r.2.2.2)] = max (-r.2.2.1) 0 + max r.2.2.2 0 := by simp [dnS, c, ← k1]
      rw [u, d, if_pos rfl, List.length_cons]
      omega
    | false =>
      rw [c] at k1
      have u : upS Z [(r.1, r.2.1, r.2.2.1), (r.2.1, r.1, -r.2.2.2)] = 0 := by simp [upS, c, ← k1]
      have d : dnS Z [(r.1, r.2.1, r.2.2.1), (r.2.1, r.1, -r.2.2.2)] = 0 := by simp [dnS, c, ← k1]
      rw [u, d, if_neg (by decide)]
      omega
theorem cntZ_both (Z : Int → Bool) : ∀ L : List Rd, cntZ Z L + cntZ (fun z => !Z z) L = L.length
  | [] => rfl
  | r :: L => by
    have ih : ((L.filter fun r => Z r.1).length : Int) + ((L.filter fun r => !Z r.1).length : Int) = (L.length : Int) := cntZ_both Z L
    show (((r :: L).filter fun r => Z r.1).length : Int) + (((r :: L).filter fun r => !Z r.1).length : Int) = ((r :: L).length : Int)
    rw [List.filter_cons, List.filter_cons, List.length_cons]
    cases c : Z r.1
    · rw [if_neg (by decide), if_pos (by decide), List.length_cons]
      omega
    · rw [if_pos rfl, if_neg (by decide), List.length_cons]
      omega
theorem Gap.small {ts : List Int} {L : List Rd} {B : Web} {s g : Int} (h : Gap ts L B s g) (hs : Small L) : cL ts L B g + cR ts L B g ≤ 33 * L.length := by
  have z0 : ∀ e ∈ onE ts, e.2.2 = 0 := fun e he => (onE_mem he).2.2
  have same : ∀ r ∈ L, Rg B g r.1 = Rg B g r.2.1 := fun r hr => by
    have f := h.shut _ (List.mem_append.mpr (.inr (rdE_mem.mpr ⟨r, hr, .inl rfl⟩)) : (r.1, r.2.1, r.2.2.1) ∈ gr ts L)
    have b := h.shut _ (List.mem_append.mpr (.inr (rdE_mem.mpr ⟨r, hr, .inr rfl⟩)) : (r.2.1, r.1, -r.2.2.2) ∈ gr ts L)
    simp only at f b
    rw [Bool.eq_iff_iff]
    exact ⟨f, b⟩
  obtain ⟨a1, a2⟩ := rd_small (Rg B g) hs same
  obtain ⟨b1, b2⟩ := rd_small (fun z => !Rg B g z) hs fun r hr => by rw [same r hr]
  obtain ⟨c1, c2⟩ := flat0 (Rg B g) z0
  obtain ⟨d1, d2⟩ := flat0 (fun z => !Rg B g z) z0
  have n := cntZ_both (Rg B g) L
  unfold cL cR gr
  rw [upS_app, upS_app, dnS_app, dnS_app, c1, c2, d1, d2]
  omega
end Bd
set_option Elab.async false
set_option linter.all false
set_option maxRecDepth 100000
set_option maxHeartbeats 1000000
namespace K11
open PySem PySem.Spec L2 Dk
/-! the bounds once a stretch is counted -/
theorem exact_val {B : Bd.Web} {a b s g n : Int} (d1 : B s s = some 0) (d2 : B g g = some 0) (t1 : Bd.leO (Bd.addO (B a g) (B g b)) (B a b)) (t2 : Bd.leO (Bd.addO (B a s) (B s b)) (B a b)) :
    Bd.addB (Bd.addB B s g n) g s (-n) a b = valK (piK B a b s g) n := by
  unfold Bd.addB piK valK
  rw [d1, d2]
  cases c1 : B a b <;> cases c2 : B a s <;> cases c3 : B g b <;> cases c4 : B a g <;> cases c5 : B s b <;>
    simp only [c1, c2, c3, c4, c5, Bd.addO, Bd.maxO, Bd.leO, optL] at t1 t2 ⊢ <;>
    simp [lmax, Bd.maxO, Bd.addO] <;> omega

/-! widths where a count has no greatest number -/
def Ord (rows : List (Int × Int)) (N : Int) : Prop := ∀ p ∈ rows, ∀ q ∈ rows, p.2 < q.2 → p.1 + p.2 * N ≤ q.1 + q.2 * N
theorem optL_mem {o : Option Int} {f : Int} {p : Int × Int} (h : p ∈ optL o f) : ∃ v, o = some v ∧ p = (v, f) := by
  cases o with
  | none => cases h
  | some v => exact ⟨v, rfl, List.mem_singleton.mp h⟩
theorem addO_some {o p : Option Int} {v : Int} (h : Bd.addO o p = some v) : ∃ a b, o = some a ∧ p = some b ∧ v = a + b := by
  cases o with
  | none => cases h
  | some a =>
    cases p with
    | none => cases h
    | some b =>
      cases h
      exact ⟨a, b, rfl, rfl, rfl⟩
theorem ord_pi {ts : List Int} {L : List Bd.Rd} {B : Bd.Web} {s g low : Int} (h : Bd.Gap ts L B s g) (hs : Bd.Small L) (hl : L.length ≤ 4) (el : B s g = some low) {x y : Int} (hx : x ∈ ts) (hy : y ∈ ts) : Ord (piK B x y s g) (low + 232) := by
  have sm := h.small hs
  obtain ⟨z1, z2⟩ := h.pos
  intro p hp q hq hlt
  have mem : ∀ p ∈ piK B x y s g, (∃ w, B x y = some w ∧ p = (w, 0)) ∨ (∃ a b, B x s = some a ∧ B g y = some b ∧ p = (a + b, 1)) ∨ ∃ a b, B x g = some a ∧ B s y = some b ∧ p = (a + b, -1) := fun p hp => by
    unfold piK at hp
    rcases List.mem_append.mp hp with hp | hp
    · rcases List.mem_append.mp hp with hp | hp
      · exact .inl (optL_mem hp)
      · obtain ⟨v, e, rfl⟩ := optL_mem hp
        obtain ⟨a, b, e1, e2, rfl⟩ := addO_some e
        exact .inr (.inl ⟨a, b, e1, e2, rfl⟩)
    · obtain ⟨v, e, rfl⟩ := optL_mem hp
      obtain ⟨a, b, e1, e2, rfl⟩ := addO_some e
      exact .inr (.inr ⟨a, b, e1, e2, rfl⟩)
  rcases mem p hp with ⟨w, e, rfl⟩ | ⟨a, b, e1, e2, rfl⟩ | ⟨a, b, e1, e2, rfl⟩ <;> rcases mem q hq with ⟨w2, k, rfl⟩ | ⟨c, d, k1, k2, rfl⟩ | ⟨c, d, k1, k2, rfl⟩ <;> simp only at hlt ⊢ <;> try omega
  · have := h.b1 hx hy k1 k2 el e
    omega
  · have := h.b2 hx hy e1 e2 el k
    omega
  · obtain ⟨u, e3, u1⟩ := h.tri hx h.ms k1 el
    obtain ⟨v, e4, v1⟩ := h.tri hx h.mg e3 k2
    have a1 := h.b1 hx hy k1 k2 el e4
    have a2 := h.b2 hx hy e1 e2 el e4
    omega
theorem corn_le {rows : List (Int × Int)} (hs : SlOk rows) {N : Int} (hO : Ord rows N) {c : Int} (h : c ∈ cornK rows) : c ≤ N + 1 := by
  obtain ⟨p, hp, h⟩ := List.mem_flatMap.mp h
  obtain ⟨q, hq, h⟩ := List.mem_flatMap.mp h
  obtain ⟨p1, p2⟩ := hs p hp
  obtain ⟨q1, q2⟩ := hs q hq
  have o1 := hO p hp q hq
  have o2 := hO q hq p hp
  obtain ⟨pc, ps⟩ := p
  obtain ⟨qc, qs⟩ := q
  simp only at p1 p2 q1 q2 o1 o2
  unfold cor1 at h
  simp only at h
  have s1 : ps = -1 ∨ ps = 0 ∨ ps = 1 := by omega
  have s2 : qs = -1 ∨ qs = 0 ∨ qs = 1 := by omega
  by_cases e : ps = qs
  · rw [if_pos e] at h
    cases h
  · rw [if_neg e] at h
    generalize hm : (qc - pc).fdiv (ps - qs) = m at h
    have f := fdiv_up (by omega) hm
    have hc : c ≤ m + 1 := by
      simp at h
      omega
    have : m ≤ N := by
      rcases s1 with rfl | rfl | rfl <;> rcases s2 with rfl | rfl | rfl <;> first
        | (exfalso; omega)
        | (have f1 := f.1 (by decide)
           have g1 := o2 (by decide)
           omega)
        | (have f2 := f.2 (by decide)
           have g1 := o1 (by decide)
           omega)
    omega
/-- the greatest slope -/
def stK (rows : List (Int × Int)) : Int := (lmax (rows.map (·.2))).getD 0
theorem st_max {rows : List (Int × Int)} (h : rows ≠ []) : (∃ p ∈ rows, p.2 = stK rows) ∧ ∀ q ∈ rows, q.2 ≤ stK rows := by
  obtain ⟨m, e, h1, h2⟩ := lmax_some (l := rows.map (·.2)) (by simpa using h)
  have em : stK rows = m := by
    unfold stK
    rw [e]
    rfl
  rw [em]
  obtain ⟨p, hp, rfl⟩ := List.mem_map.mp h1
  exact ⟨⟨p, hp, rfl⟩, fun q hq => h2 _ (List.mem_map_of_mem hq)⟩
theorem inf_line {rows : List (Int × Int)} (hs : SlOk rows) {N : Int} (hO : Ord rows N) (h : rows ≠ []) {n : Int} (hn : N ≤ n) : (valK rows n).getD 0 = (valK rows N).getD 0 + stK rows * (n - N) := by
  obtain ⟨⟨p, hp, ep⟩, hm⟩ := st_max h
  obtain ⟨p0, hp0, e0⟩ := val_at h N
  obtain ⟨q, hq, eq⟩ := val_at h n
  have a3 := val_ge hq N
  have b2 := hm q hq
  have at_N : ∃ r ∈ rows, r.2 = stK rows ∧ (valK rows N).getD 0 = r.1 + r.2 * N := by
    rcases Int.lt_or_eq_of_le (hm p0 hp0) with z | z
    · have c := hO p0 hp0 p hp (by omega)
      have a1 := val_ge hp N
      exact ⟨p, hp, ep, by omega⟩
    · exact ⟨p0, hp0, z, e0⟩
  obtain ⟨r, hr, r1, r2⟩ := at_N
  have a4 := val_ge hr n
  have k : q.2 * (n - N) ≤ stK rows * (n - N) := Int.mul_le_mul_of_nonneg_right b2 (by omega)
  have k2 : r.2 * (n - N) = stK rows * (n - N) := by rw [r1]
  rw [Int.mul_sub] at k k2
  have k3 : stK rows * (n - N) = stK rows * n - stK rows * N := Int.mul_sub ..
  omega
theorem wid_inf {A B : List (Int × Int)} (sA : SlOk A) (sB : SlOk B) {N : Int} (oA : Ord A N) (oB : Ord B N) (hA : A ≠ []) (hB : B ≠ []) {n : Int} (hn : N ≤ n) : widK A B n = widK A B N - (stK A + stK B) * (n - N) := by
  unfold widK
  rw [inf_line sA oA hA hn, inf_line sB oB hB hn, Int.add_mul]
  omega
theorem left_cand {A B : List (Int × Int)} {low high : Int} {C : Int → Prop} (sA : SlOk A) (sB : SlOk B) (hA : A ≠ []) (hB : B ≠ []) (c0 : C low) (cc : ∀ n, low ≤ n → n ≤ high → n ∈ cornK A ∨ n ∈ cornK B → C n) : ∀ (k : Nat) (n : Int), n = low + k → n ≤ high → widK A B (n + 1) ≤ widK A B n → ∃ c, C c ∧ widK A B n ≤ widK A B c
  | 0, n, e, _, _ => ⟨low, c0, by rw [e]; simp⟩
  | k + 1, n, e, h, hd => by
    by_cases c : n ∈ cornK A ∨ n ∈ cornK B
    · exact ⟨n, cc n (by omega) h c, Int.le_refl _⟩
    · have l := wid_line sA sB hA hB (n := n) (fun z => c (.inl z)) (fun z => c (.inr z))
      have e2 : n - 1 + 1 = n := by omega
      obtain ⟨c2, k1, k2⟩ := left_cand sA sB hA hB c0 cc k (n - 1) (by omega) (by omega) (by rw [e2]; omega)
      exact ⟨c2, k1, by omega⟩
/-- no greatest count: the greatest width stands at the least count or at a corner -/
theorem inf_cand {A B : List (Int × Int)} {low N : Int} {C : Int → Prop} (sA : SlOk A) (sB : SlOk B) (oA : Ord A N) (oB : Ord B N) (hA : A ≠ []) (hB : B ≠ []) (hl : low ≤ N) (hst : 0 ≤ stK A + stK B) (c0 : C low) (cc : ∀ n, low ≤ n → n ∈ cornK A ∨ n ∈ cornK B → C n) {n : Int} (h1 : low ≤ n) : ∃ c, C c ∧ widK A B n ≤ widK A B c := by
  have atN : ∃ c, C c ∧ widK A B N ≤ widK A B c := by
    refine left_cand sA sB hA hB (high := N) c0 (fun n a _ k => cc n a k) (N - low).toNat N (by omega) (Int.le_refl _) ?_
    have := wid_inf sA sB oA oB hA hB (n := N + 1) (by omega)
    have e : (stK A + stK B) * (N + 1 - N) = stK A + stK B := by
      rw [show N + 1 - N = 1 by omega, Int.mul_one]
    omega
  by_cases k : n ≤ N
  · obtain ⟨c, k1, k2⟩ := wid_cand (low := low) (high := N) (C := fun c => C c ∨ c = N) sA sB hA hB ⟨.inl c0, .inr rfl, fun n a _ k => .inl (cc n a k)⟩ h1 k
    rcases k1 with k1 | rfl
    · exact ⟨c, k1, k2⟩
    · obtain ⟨c3, m1, m2⟩ := atN
      exact ⟨c3, m1, by omega⟩
  · have := wid_inf sA sB oA oB hA hB (n := n) (by omega)
    have e : 0 ≤ (stK A + stK B) * (n - N) := Int.mul_nonneg hst (by omega)
    obtain ⟨c3, m1, m2⟩ := atN
    exact ⟨c3, m1, by omega⟩
/-- it grows at the far end just if it grows for ever -/
theorem inf_grow {A B : List (Int × Int)} {N : Int} (sA : SlOk A) (sB : SlOk B) (oA : Ord A N) (oB : Ord B N) (hA : A ≠ []) (hB : B ≠ []) : widK A B N < widK A B (N + 8) ↔ stK A + stK B < 0 := by
  have := wid_inf sA sB oA oB hA hB (n := N + 8) (by omega)
  have e : (stK A + stK B) * (N + 8 - N) = (stK A + stK B) * 8 := by rw [show N + 8 - N = 8 by omega]
  omega

/-! the width at worst where there is no greatest count, or no width -/
def somN (A B : List (Int × Int)) (low : Int) : List Int := ([low] ++ cornK A ++ cornK B).filter fun c => decide (low ≤ c)
section
variable {S : Sto} {Q : OV → Sto → Prop} {X : Exn → Sto → Prop}
theorem notN2 (S : Sto) : isS S (.dat .none) (.dat .none) = some (.bool true) := rfl
theorem steepest_t {rows : List (Int × Int)} (hl : rows.length ≤ 3) (h : rows ≠ []) (q : Q (.dat (.int (stK rows))) S) : Ok (F_steepest [.dat (.list (rows.map pairD))] S) Q X := by
  refine ok_run (n := 1) (m := 3) (g := g_steepest) rfl ?_
  simp [g_steepest]
  refine lc_mapT pairD rows (fun p => .int p.2) (by unfold sizeLine; omega) (by simp) (fun p hp T => ⟨_, rfl, by simp⟩) ?_
  have e2 : maxLS S [.dat (.list (rows.map fun p => .int p.2))] = some (.int (stK rows)) := by
    show (asInts (rows.map fun p => PyData.int p.2)).bind (fun ns => (lmax ns).map PyData.int) = _
    have e3 : (rows.map fun p => PyData.int p.2) = (rows.map (·.2)).map PyData.int := by simp
    rw [e3, asInts_map]
    show (lmax _).map PyData.int = _
    rw [List.map_id']
    obtain ⟨m, e, _⟩ := lmax_some (l := rows.map (·.2)) (by simpa using h)
    unfold stK
    rw [e]
    rfl
  exact ⟨_, e2, by simpa using q⟩
theorem counts_of_n {ts : List Int} {W : Bd.Web} {s g low : Int} (hs : s ∈ ts) (hg : g ∈ ts) (e1 : W s g = some low) (e2 : W g s = none) (q : Q (.dat (.tuple [.int low, .none])) S) : Ok (F_counts_of [.dat (.dict (webL ts W)), .dat (.tuple [.int s, .int g])] S) Q X := by
  refine ok_run (n := 2) (m := 3) (g := g_counts_of) rfl ?_
  have g1 := ixA_web (S := S) (o := .dat (.dict (webL ts W))) rfl hs hg
  have g2 := ixA_web (S := S) (o := .dat (.dict (webL ts W))) rfl hg hs
  rw [e1] at g1
  rw [e2] at g2
  simp [g_counts_of, atI, ixN]
  exact ⟨by decide, _, g2, _, g1, .bool true, rfl, .inr ⟨rfl, by decide, by simpa [optD] using q⟩⟩
theorem worst_none {ts : List Int} {W : Bd.Web} {a b s g : Int} (ha : a ∈ ts) (hb : b ∈ ts) (hs : s ∈ ts) (hg : g ∈ ts) (bk : piK W b a s g = []) (q : Q (.dat .none) S) :
    Ok (F_worst_width [.dat (.dict (webL ts W)), .dat (.tuple [.int a, .int b]), .dat (.tuple [.int s, .int g])] S) Q X := by
  refine ok_run (n := 3) (m := 9) (g := g_worst_width) rfl ?_
  simp [g_worst_width, atI, ixN]
  refine pieces_t ha hb hs hg ?_
  refine pieces_t hb ha hs hg ?_
  rw [bk]
  exact ⟨.bool true, rfl, .inr ⟨rfl, by simpa using q⟩⟩
theorem worst_inf {ts : List Int} {W : Bd.Web} {a b s g low : Int} (ha : a ∈ ts) (hb : b ∈ ts) (hs : s ∈ ts) (hg : g ∈ ts) (e1 : W s g = some low) (e2 : W g s = none) (ah : piK W a b s g ≠ []) (bk : piK W b a s g ≠ [])
    (q1 : stK (piK W a b s g) + stK (piK W b a s g) < 0 → Q (.dat .none) S)
    (q2 : ¬ stK (piK W a b s g) + stK (piK W b a s g) < 0 → ∀ m, lmax ((somN (piK W a b s g) (piK W b a s g) low).map (widK (piK W a b s g) (piK W b a s g))) = some m → Q (.dat (.int m)) S) :
    Ok (F_worst_width [.dat (.dict (webL ts W)), .dat (.tuple [.int a, .int b]), .dat (.tuple [.int s, .int g])] S) Q X := by
  refine ok_run (n := 3) (m := 9) (g := g_worst_width) rfl ?_
  obtain ⟨p1, p2⟩ := pi_ok (W := W) (a := a) (b := b) (s := s) (g := g)
  obtain ⟨r1, r2⟩ := pi_ok (W := W) (a := b) (b := a) (s := s) (g := g)
  simp [g_worst_width, atI, ixN]
  refine pieces_t ha hb hs hg ?_
  refine pieces_t hb ha hs hg ?_
  generalize piK W a b s g = A at *
  generalize piK W b a s g = B at *
  have eb : eqS S (.dat (.list (B.map pairD))) (.dat (.list [])) = some (.bool false) := by
    rw [eqS_dat, eqD_nice (k := 2) (m := 1) (nice_list fun d hd => by
      obtain ⟨p, _, rfl⟩ := List.mem_map.mp hd
      exact nice_pair) (nice_list (k := 0) fun d hd => by cases hd) (by decide) (by decide)]
    cases B with
    | nil => exact absurd rfl bk
    | cons x r => rfl
  refine ⟨_, eb, .inl ⟨rfl, ?_⟩⟩
  refine counts_of_n hs hg e1 e2 ?_
  refine ⟨_, rfl, ?_⟩
  have cA := corn_len p1
  have cB := corn_len r1
  refine ⟨_, rfl, .bool true, rfl, .inr ⟨rfl, _, rfl, ?_⟩⟩
  refine steepest_t p1 ah ?_
  refine ⟨_, rfl, ?_⟩
  refine steepest_t r1 bk ?_
  by_cases c : stK A + stK B < 0
  · exact ⟨_, rfl, .bool true, by simp [c], .inr ⟨rfl, by simpa using q1 c⟩⟩
  · refine ⟨_, rfl, .bool false, by simp [c], .inl ⟨rfl, _, rfl, _, rfl, by simp [sizeLine], _, rfl, .bool false, rfl, .inl ⟨rfl, ?_⟩⟩⟩
    refine ⟨_, ⟨by simp [sizeLine], rfl⟩, _, rfl, ?_⟩
    refine corners_t p1 p2 ?_
    refine ⟨.list ([low] ++ cornK A |>.map .int), by simp; unfold sizeLine; omega, _, rfl, ?_⟩
    refine corners_t r1 r2 ?_
    refine ⟨.list ([low] ++ cornK A ++ cornK B |>.map .int), by simp; unfold sizeLine; omega, ?_⟩
    simp
    have el : PyData.int low :: ((cornK A).map PyData.int ++ (cornK B).map PyData.int) = ([low] ++ cornK A ++ cornK B).map PyData.int := by simp
    rw [el]
    refine lc_mapF PyData.int ([low] ++ cornK A ++ cornK B) (p := fun c => decide (low ≤ c)) (φ := PyData.int) (by simp; unfold sizeLine; omega) (by simp) (fun c hc T => ⟨_, rfl, ?_⟩) ?_
    · by_cases c1 : low ≤ c
      · simp [c1, notN2]
      · simp [c1]
    · show Ok (lcR none ((somN A B low).map PyData.int) _ _ _ _ S) _ _
      have sl : (somN A B low).length ≤ 37 := by
        have := List.length_filter_le (fun c => decide (low ≤ c)) ([low] ++ cornK A ++ cornK B)
        unfold somN
        simp only [List.length_append, List.length_singleton] at this ⊢
        omega
      refine lc_mapT PyData.int (somN A B low) (fun c => .int (widK A B c)) (by unfold sizeLine; omega) (by simp) (fun c hc T => ⟨_, rfl, ?_⟩) ?_
      · simp
        refine value_at_t p1 p2 (val_some ah c) ?_
        refine ⟨_, rfl, ?_⟩
        refine value_at_t r1 r2 (val_some bk c) ?_
        simp [widK]
      · have mem : widK A B low ∈ (somN A B low).map (widK A B) := List.mem_map_of_mem (by
          unfold somN
          rw [List.mem_filter]
          exact ⟨by simp, by simp⟩)
        obtain ⟨m, em, _⟩ := lmax_some (List.ne_nil_of_mem mem)
        have e2 : maxLS S [.dat (.list ((somN A B low).map fun c => .int (widK A B c)))] = some (.int m) := by
          show (asInts ((somN A B low).map fun c => PyData.int (widK A B c))).bind (fun ns => (lmax ns).map PyData.int) = _
          have e3 : ((somN A B low).map fun c => PyData.int (widK A B c)) = ((somN A B low).map (widK A B)).map PyData.int := by simp
          rw [e3, asInts_map]
          show (lmax _).map PyData.int = _
          rw [List.map_id', em]
          rfl
        exact ⟨_, e2, by simpa using q2 c m em⟩
end

end K11
set_option Elab.async false
set_option linter.all false
set_option maxRecDepth 100000
set_option maxHeartbeats 1000000
namespace K11
open PySem PySem.Spec L2 Dk
/-! the best stretch: the end -/
def moreM (menu : List (Int × Int)) (w : Int × Int) : List Int := (menu ++ [w]).flatMap fun p => [p.1, p.2]
def webM (b : Bk) (more : List Int) : Bd.Web := Bd.fw (timesB b more) (grB b more)
def bstK (wf : Int × Int → Int) : List (Int × Int) → Nat → Option (Int × Nat) → Option (Int × Nat)
  | [], _, b => b
  | p :: r, n, none => bstK wf r (n + 1) (some (wf p, n))
  | p :: r, n, some b => bstK wf r (n + 1) (if wf p < b.1 then some (wf p, n) else some b)
def bestD : Option (Int × Nat) → D
  | none => .none
  | some b => .tuple [.int b.1, .int (b.2 : Int)]
def boI (b : Bk) (w : Int × Int) (menu : List (Int × Int)) (ts : List Int) (W : Bd.Web) (wf : Int × Int → Int) (S : Sto) (ds : List D) (ρ : Env1) (S' : Sto) : Prop := S' = S ∧ ∃ (us vs : List (Int × Int)) (best : Option (Int × Nat)) (x6 x7 x8 : Option OV), menu = us ++ vs ∧ ds = enumD us.length (vs.map pairD) ∧
  bstK wf vs us.length best = bstK wf menu 0 none ∧ ρ = [some (.dat (bookD b)), some (.dat (pairD w)), some (.dat (.tuple (menu.map pairD))), some (.dat (.list (ts.map .int))), some (.dat (.dict (webL ts W))), some (.dat (bestD best)), x6, x7, x8, none]
section
variable {S : Sto} {Q : OV → Sto → Prop} {X : Exn → Sto → Prop}
theorem is_better_t {i j : Int} (q : Q (.dat (.bool (decide (i < j)))) S) : Ok (F_is_better [.dat (.int i), .dat (.int j)] S) Q X := by
  refine ok_run (n := 2) (m := 2) (g := g_is_better) rfl ?_
  simp [g_is_better, notI]
  exact ⟨.bool false, rfl, .inl ⟨rfl, by simpa using q⟩⟩
theorem need_menu_t {menu : List (Int × Int)} (h1 : 1 ≤ menu.length) (h2 : menu.length ≤ 5) (hv : ∀ p ∈ menu, 0 ≤ p.1 ∧ p.1 < p.2 ∧ p.2 ≤ 1000000000000000000000000000000) (q : Q (.dat .none) S) : Ok (F_need_menu [.dat (.tuple (menu.map pairD))] S) Q X := by
  refine ok_run (n := 1) (m := 2) (g := g_need_menu) rfl ?_
  simp [g_need_menu, tyName, isTy]
  refine .inr ⟨by omega, .inr ⟨by omega, ?_⟩⟩
  refine lc_mapT pairD menu (fun _ => .bool true) (by unfold sizeLine; omega) (by simp) (fun p hp T => ⟨_, rfl, ?_⟩) ?_
  · obtain ⟨k1, k2, k3⟩ := hv p hp
    simp
    refine is_stretch_t k1 k2 k3 ?_
    exact ⟨rfl, rfl⟩
  · have e : (menu.map fun _ => PyData.bool true) = (menu.map fun _ => true).map PyData.bool := by simp
    rw [e, asBools_map]
    refine ⟨_, ⟨_, rfl, rfl⟩, .inr ⟨?_, by simpa using q⟩⟩
    simp
theorem best_of_t {b : Bk} (h : OkBook b) {w : Int × Int} {menu : List (Int × Int)} (hl : menu.length ≤ 5) (wf : Int × Int → Int)
    (hw : ∀ p ∈ menu, ∀ (S : Sto) (Q : OV → Sto → Prop) (X : Exn → Sto → Prop), Q (.dat (.int (wf p))) S → Ok (F_worst_width [.dat (.dict (webL (timesB b (moreM menu w)) (webM b (moreM menu w)))), .dat (pairD w), .dat (pairD p)] S) Q X)
    (q : Q (.dat (bestD (bstK wf menu 0 none))) S) : Ok (F_best_of [.dat (bookD b), .dat (pairD w), .dat (.tuple (menu.map pairD))] S) Q X := by
  refine ok_run (n := 3) (m := 10) (g := g_best_of) rfl ?_
  have hn := h.n
  have ml : (moreM menu w).length ≤ 12 := by
    have := flat_len2 (k := 2) (menu ++ [w]) (f := fun p => [p.1, p.2]) fun p _ => by simp
    unfold moreM
    simp only [List.length_append, List.length_singleton] at this
    omega
  have hlen := times_len b (moreM menu w)
  simp [g_best_of]
  have e0 : menu.map pairD ++ [pairD w] = (menu ++ [w]).map pairD := by simp
  rw [e0]
  refine ⟨by decide, _, ⟨by unfold sizeLine; omega, rfl⟩, .inr (.inl ⟨_, rfl, ?_⟩)⟩
  refine lc2_map pairD (menu ++ [w]) (fun p => [p.1, p.2]) (fun _ t => PyData.int t) (p := fun _ _ => true) (φ := fun _ t => .int t) (by show (moreM menu w).length ≤ sizeLine; unfold sizeLine; omega) (fun e he => ⟨_, rfl, fun T hT => ⟨Ok.eq ?_, fun t ht T => ⟨_, rfl, ?_⟩⟩⟩) ?_
  · simp [pairD]
  · simp
  · have em : ((menu ++ [w]).flatMap fun d => ([d.1, d.2].filter fun _ => true).map fun t => PyData.int t) = (moreM menu w).map PyData.int := by
      unfold moreM
      rw [List.map_flatMap]
      rfl
    rw [em]
    refine moments_of_t h (c := .list) (.inr rfl) (by omega) ?_
    refine web_of_t h (timesB_nodup b _) (by omega) (times_ends b _) (told := []) (by simp) (fun e he => by cases he) ?_
    refine ⟨_, _, ⟨rfl, rfl⟩, ?_⟩
    refine for_inv (I := boI b w menu (timesB b (moreM menu w)) (webM b (moreM menu w)) wf S) (fun d r ρ S' hI => ?_) (fun ρ S' hI => ?_) _ ⟨rfl, [], menu, none, none, none, none, rfl, rfl, rfl, rfl⟩
    · obtain ⟨rfl, us, vs, best, x6, x7, x8, e1, e2, e3, rfl⟩ := hI
      cases vs with
      | nil => cases e2
      | cons p vs =>
        cases e2
        refine ⟨by simp [srcOf], _, rfl, ?_⟩
        simp
        refine hw p (by rw [e1]; simp) _ _ _ ?_
        cases best with
        | none =>
          refine ⟨.bool true, rfl, .inr ⟨rfl, ?_⟩⟩
          exact ⟨_, rfl, by simp [sizeLine], rfl, us ++ [p], vs, some (wf p, us.length), _, _, _, by rw [e1]; simp, by simp, by rw [← e3]; simp [bstK], rfl⟩
        | some z =>
          refine ⟨.bool false, rfl, .inl ⟨rfl, .int z.1, rfl, ?_⟩⟩
          refine is_better_t ?_
          by_cases c : wf p < z.1
          · refine .inr ⟨by simp [c], _, rfl, by simp [sizeLine], rfl, us ++ [p], vs, some (wf p, us.length), _, _, _, by rw [e1]; simp, by simp, ?_, rfl⟩
            rw [← e3]
            simp [bstK, c]
          · refine .inl ⟨by simp [c], rfl, us ++ [p], vs, some z, _, _, _, by rw [e1]; simp, by simp, ?_, rfl⟩
            rw [← e3]
            simp [bstK, c]
    · obtain ⟨rfl, us, vs, best, x6, x7, x8, e1, e2, e3, rfl⟩ := hI
      cases vs with
      | cons p vs => cases e2
      | nil =>
        refine ⟨by simp [srcOf], ?_⟩
        simp
        have e3 : best = bstK wf menu 0 none := e3
        rw [← e3] at q
        simpa using q
theorem best_stretch_t {b : Bk} (h : OkBook b) (hp : ¬ Bd.Pos (grB b [])) {w : Int × Int} (w1 : 0 ≤ w.1) (w2 : w.1 < w.2) (w3 : w.2 ≤ 1000000000000000000000000000000) {menu : List (Int × Int)} (h1 : 1 ≤ menu.length) (hl : menu.length ≤ 5) (hv : ∀ p ∈ menu, 0 ≤ p.1 ∧ p.1 < p.2 ∧ p.2 ≤ 1000000000000000000000000000000) (wf : Int × Int → Int)
    (hw : ∀ p ∈ menu, ∀ (S : Sto) (Q : OV → Sto → Prop) (X : Exn → Sto → Prop), Q (.dat (.int (wf p))) S → Ok (F_worst_width [.dat (.dict (webL (timesB b (moreM menu w)) (webM b (moreM menu w)))), .dat (pairD w), .dat (pairD p)] S) Q X)
    (q : Q (.dat (bestD (bstK wf menu 0 none))) S) : Ok (F_best_stretch [.dat (bookD b), .dat (pairD w), .dat (.tuple (menu.map pairD))] S) Q X := by
  refine ok_run (n := 3) (m := 3) (g := g_best_stretch) rfl ?_
  simp [g_best_stretch]
  refine need_book_t h ?_
  refine need_stretch_t w1 w2 w3 ?_
  refine need_menu_t h1 hl hv ?_
  refine need_possible_t h hp ?_
  refine best_of_t h hl wf hw ?_
  simpa using q
end

end K11
set_option Elab.async false
set_option linter.all false
set_option maxRecDepth 100000
set_option maxHeartbeats 1000000
namespace K11
open PySem PySem.Spec L2 Dk
/-! the best stretch, widths that may be none -/
def betO : Option Int → Option Int → Bool
  | none, _ => false
  | some _, none => true
  | some a, some b => decide (a < b)
def bsoK (wf : Int × Int → Option Int) : List (Int × Int) → Nat → Option (Option Int × Nat) → Option (Option Int × Nat)
  | [], _, b => b
  | p :: r, n, none => bsoK wf r (n + 1) (some (wf p, n))
  | p :: r, n, some b => bsoK wf r (n + 1) (if betO (wf p) b.1 then some (wf p, n) else some b)
def bsoD : Option (Option Int × Nat) → D
  | none => .none
  | some b => .tuple [optD b.1, .int (b.2 : Int)]
def WidO (ts : List Int) (Z : Bd.Web) (w p : Int × Int) (o : Option Int) : Prop := ∀ (S : Sto) (Q : OV → Sto → Prop) (X : Exn → Sto → Prop), Q (.dat (optD o)) S → Ok (F_worst_width [.dat (.dict (webL ts Z)), .dat (pairD w), .dat (pairD p)] S) Q X
def bqI (b : Bk) (w : Int × Int) (menu : List (Int × Int)) (ts : List Int) (W : Bd.Web) (wf : Int × Int → Option Int) (S : Sto) (ds : List D) (ρ : Env1) (S' : Sto) : Prop := S' = S ∧ ∃ (us vs : List (Int × Int)) (best : Option (Option Int × Nat)) (x6 x7 x8 : Option OV), menu = us ++ vs ∧ ds = enumD us.length (vs.map pairD) ∧
  bsoK wf vs us.length best = bsoK wf menu 0 none ∧ ρ = [some (.dat (bookD b)), some (.dat (pairD w)), some (.dat (.tuple (menu.map pairD))), some (.dat (.list (ts.map .int))), some (.dat (.dict (webL ts W))), some (.dat (bsoD best)), x6, x7, x8, none]
section
variable {S : Sto} {Q : OV → Sto → Prop} {X : Exn → Sto → Prop}
theorem is_better_o {o p : Option Int} (q : Q (.dat (.bool (betO o p))) S) : Ok (F_is_better [.dat (optD o), .dat (optD p)] S) Q X := by
  refine ok_run (n := 2) (m := 2) (g := g_is_better) rfl ?_
  cases o with
  | none =>
    simp [g_is_better, optD, notN]
    simpa [betO] using q
  | some i =>
    cases p with
    | none =>
      simp [g_is_better, optD, notI]
      exact ⟨.bool true, rfl, .inr ⟨rfl, by simpa [betO] using q⟩⟩
    | some j =>
      simp [g_is_better, optD, notI]
      exact ⟨.bool false, rfl, .inl ⟨rfl, by simpa [betO] using q⟩⟩
theorem dats_o (o : Option Int) (n : Nat) : dats [.dat (optD o), .dat (.int (n : Int))] = some [optD o, .int (n : Int)] := rfl
theorem best_of_o {b : Bk} (h : OkBook b) {w : Int × Int} {menu : List (Int × Int)} (hl : menu.length ≤ 5) (wf : Int × Int → Option Int)
    (hw : ∀ p ∈ menu, WidO (timesB b (moreM menu w)) (webM b (moreM menu w)) w p (wf p))
    (q : Q (.dat (bsoD (bsoK wf menu 0 none))) S) : Ok (F_best_of [.dat (bookD b), .dat (pairD w), .dat (.tuple (menu.map pairD))] S) Q X := by
  refine ok_run (n := 3) (m := 10) (g := g_best_of) rfl ?_
  have hn := h.n
  have ml : (moreM menu w).length ≤ 12 := by
    have := flat_len2 (k := 2) (menu ++ [w]) (f := fun p => [p.1, p.2]) fun p _ => by simp
    unfold moreM
    simp only [List.length_append, List.length_singleton] at this
    omega
  have hlen := times_len b (moreM menu w)
  simp [g_best_of]
  have e0 : menu.map pairD ++ [pairD w] = (menu ++ [w]).map pairD := by simp
  rw [e0]
  refine ⟨by decide, _, ⟨by unfold sizeLine; omega, rfl⟩, .inr (.inl ⟨_, rfl, ?_⟩)⟩
  refine lc2_map pairD (menu ++ [w]) (fun p => [p.1, p.2]) (fun _ t => PyData.int t) (p := fun _ _ => true) (φ := fun _ t => .int t) (by show (moreM menu w).length ≤ sizeLine; unfold sizeLine; omega) (fun e he => ⟨_, rfl, fun T hT => ⟨Ok.eq ?_, fun t ht T => ⟨_, rfl, ?_⟩⟩⟩) ?_
  · simp [pairD]
  · simp
  · have em : ((menu ++ [w]).flatMap fun d => ([d.1, d.2].filter fun _ => true).map fun t => PyData.int t) = (moreM menu w).map PyData.int := by
      unfold moreM
      rw [List.map_flatMap]
      rfl
    rw [em]
    refine moments_of_t h (c := .list) (.inr rfl) (by omega) ?_
    refine web_of_t h (timesB_nodup b _) (by omega) (times_ends b _) (told := []) (by simp) (fun e he => by cases he) ?_
    refine ⟨_, _, ⟨rfl, rfl⟩, ?_⟩
    refine for_inv (I := bqI b w menu (timesB b (moreM menu w)) (webM b (moreM menu w)) wf S) (fun d r ρ S' hI => ?_) (fun ρ S' hI => ?_) _ ⟨rfl, [], menu, none, none, none, none, rfl, rfl, rfl, rfl⟩
    · obtain ⟨rfl, us, vs, best, x6, x7, x8, e1, e2, e3, rfl⟩ := hI
      cases vs with
      | nil => cases e2
      | cons p vs =>
        cases e2
        refine ⟨by simp [srcOf], _, rfl, ?_⟩
        simp
        refine hw p (by rw [e1]; simp) _ _ _ ?_
        cases best with
        | none =>
          refine ⟨.bool true, rfl, .inr ⟨rfl, ?_⟩⟩
          exact ⟨_, dats_o _ _, by simp [sizeLine], rfl, us ++ [p], vs, some (wf p, us.length), _, _, _, by rw [e1]; simp, by simp, by rw [← e3]; simp [bsoK], rfl⟩
        | some z =>
          refine ⟨.bool false, rfl, .inl ⟨rfl, optD z.1, rfl, ?_⟩⟩
          refine is_better_o ?_
          cases c : betO (wf p) z.1 with
          | true =>
            refine .inr ⟨rfl, _, dats_o _ _, by simp [sizeLine], rfl, us ++ [p], vs, some (wf p, us.length), _, _, _, by rw [e1]; simp, by simp, ?_, rfl⟩
            rw [← e3]
            simp [bsoK, c]
          | false =>
            refine .inl ⟨rfl, rfl, us ++ [p], vs, some z, _, _, _, by rw [e1]; simp, by simp, ?_, rfl⟩
            rw [← e3]
            simp [bsoK, c]
    · obtain ⟨rfl, us, vs, best, x6, x7, x8, e1, e2, e3, rfl⟩ := hI
      cases vs with
      | cons p vs => cases e2
      | nil =>
        refine ⟨by simp [srcOf], ?_⟩
        simp
        have e3 : best = bsoK wf menu 0 none := e3
        rw [← e3] at q
        simpa using q
theorem best_str_o {b : Bk} (h : OkBook b) (hp : ¬ Bd.Pos (grB b [])) {w : Int × Int} (w1 : 0 ≤ w.1) (w2 : w.1 < w.2) (w3 : w.2 ≤ 1000000000000000000000000000000) {menu : List (Int × Int)} (h1 : 1 ≤ menu.length) (hl : menu.length ≤ 5) (hv : ∀ p ∈ menu, 0 ≤ p.1 ∧ p.1 < p.2 ∧ p.2 ≤ 1000000000000000000000000000000) (wf : Int × Int → Option Int)
    (hw : ∀ p ∈ menu, WidO (timesB b (moreM menu w)) (webM b (moreM menu w)) w p (wf p))
    (q : Q (.dat (bsoD (bsoK wf menu 0 none))) S) : Ok (F_best_stretch [.dat (bookD b), .dat (pairD w), .dat (.tuple (menu.map pairD))] S) Q X := by
  refine ok_run (n := 3) (m := 3) (g := g_best_stretch) rfl ?_
  simp [g_best_stretch]
  refine need_book_t h ?_
  refine need_stretch_t w1 w2 w3 ?_
  refine need_menu_t h1 hl hv ?_
  refine need_possible_t h hp ?_
  refine best_of_o h hl wf hw ?_
  simpa using q
end

end K11
set_option Elab.async false
set_option linter.all false
set_option maxRecDepth 100000
set_option maxHeartbeats 1000000
namespace K11
open PySem PySem.Spec L2 Dk
/-! the width that the program tells, and the one that the law looks for -/
def wwK (W : Bd.Web) (w p : Int × Int) : Option Int :=
  if piK W w.2 w.1 p.1 p.2 = [] then none else match W p.2 p.1 with
    | some u => lmax ((somK W (piK W w.1 w.2 p.1 p.2) (piK W w.2 w.1 p.1 p.2) ((W p.1 p.2).getD 0) (-u)).map (widK (piK W w.1 w.2 p.1 p.2) (piK W w.2 w.1 p.1 p.2)))
    | none => if stK (piK W w.1 w.2 p.1 p.2) + stK (piK W w.2 w.1 p.1 p.2) < 0 then none else lmax ((somN (piK W w.1 w.2 p.1 p.2) (piK W w.2 w.1 p.1 p.2) ((W p.1 p.2).getD 0)).map (widK (piK W w.1 w.2 p.1 p.2) (piK W w.2 w.1 p.1 p.2)))
theorem low_in2 {W : Bd.Web} {A B : List (Int × Int)} {low high : Int} (h : low ≤ high) : low ∈ somK W A B low high := by
  unfold somK
  rw [List.mem_filter]
  exact ⟨by simp, by simp [h]⟩
theorem width_o {ts : List Int} {W : Bd.Web} {a b s g low : Int} (ha : a ∈ ts) (hb : b ∈ ts) (hs : s ∈ ts) (hg : g ∈ ts) (e1 : W s g = some low) (hu : ∀ u, W g s = some u → low ≤ -u) (hA : piK W a b s g ≠ []) : WidO ts W (a, b) (s, g) (wwK W (a, b) (s, g)) := by
  intro S Q X q
  have e : wwK W (a, b) (s, g) = if piK W b a s g = [] then none else match W g s with
    | some u => lmax ((somK W (piK W a b s g) (piK W b a s g) ((W s g).getD 0) (-u)).map (widK (piK W a b s g) (piK W b a s g)))
    | none => if stK (piK W a b s g) + stK (piK W b a s g) < 0 then none else lmax ((somN (piK W a b s g) (piK W b a s g) ((W s g).getD 0)).map (widK (piK W a b s g) (piK W b a s g))) := rfl
  rw [e, e1] at q
  by_cases k : piK W b a s g = []
  · rw [if_pos k] at q
    exact worst_none ha hb hs hg k (by simpa [optD] using q)
  · rw [if_neg k] at q
    cases e2 : W g s with
    | some u =>
      rw [e2] at q
      simp only [Option.getD_some] at q
      obtain ⟨m, em, _⟩ := lmax_some (List.ne_nil_of_mem (List.mem_map_of_mem (f := widK (piK W a b s g) (piK W b a s g)) (low_in2 (W := W) (A := piK W a b s g) (B := piK W b a s g) (hu u e2))))
      rw [em] at q
      exact worst_width_t ha hb hs hg e1 e2 hA k em (by simpa [optD] using q)
    | none =>
      rw [e2] at q
      simp only [Option.getD_some] at q
      refine worst_inf ha hb hs hg e1 e2 hA k (fun c => ?_) (fun c m em => ?_)
      · rw [if_pos c] at q
        simpa [optD] using q
      · rw [if_neg c, em] at q
        simpa [optD] using q
/-- from a number on, so many -/
def fromL (low : Int) (k : Nat) : List Int := (List.range k).map fun i : Nat => low + (i : Int)
theorem from_mem {low n : Int} {k : Nat} : n ∈ fromL low k ↔ low ≤ n ∧ n < low + k := by
  unfold fromL
  rw [List.mem_map]
  constructor
  · rintro ⟨i, hi, rfl⟩
    have := List.mem_range.mp hi
    omega
  · rintro ⟨h1, h2⟩
    exact ⟨(n - low).toNat, List.mem_range.mpr (by omega), by omega⟩
theorem lmax_eq {l m : List Int} (hl : l ≠ []) (hm : m ≠ []) (h1 : ∀ x ∈ l, ∃ y ∈ m, x ≤ y) (h2 : ∀ y ∈ m, ∃ x ∈ l, y ≤ x) : lmax l = lmax m := by
  obtain ⟨a, e1, a1, a2⟩ := lmax_some hl
  obtain ⟨b, e2, b1, b2⟩ := lmax_some hm
  obtain ⟨y, y1, y2⟩ := h1 a a1
  obtain ⟨x, x1, x2⟩ := h2 b b1
  have := b2 y y1
  have := a2 x x1
  rw [e1, e2]
  congr 1
  omega
/-- the width by all counts -/
def lawW (A B : List (Int × Int)) (low : Int) (high : Option Int) : Option Int :=
  if B = [] then none else match high with
    | some h => lmax ((fromL low (h + 1 - low).toNat).map (widK A B))
    | none => if widK A B (low + 232) < widK A B (low + 240) then none else lmax ((fromL low 241).map (widK A B))
theorem law_fin {W : Bd.Web} {A B : List (Int × Int)} {low high : Int} (sA : SlOk A) (sB : SlOk B) (hA : A ≠ []) (hB : B ≠ []) (hl : low ≤ high) : lmax ((somK W A B low high).map (widK A B)) = lmax ((fromL low (high + 1 - low).toNat).map (widK A B)) := by
  have hc : Cand A B low high (fun c => c ∈ somK W A B low high) := by
    refine ⟨low_in2 hl, ?_, fun n h1 h2 k => ?_⟩
    · unfold somK
      rw [List.mem_filter]
      exact ⟨by simp, by simp [hl]⟩
    · unfold somK
      rw [List.mem_filter]
      refine ⟨?_, by simp [h1, h2]⟩
      rcases k with k | k
      · exact List.mem_append.mpr (.inl (List.mem_append.mpr (.inr k)))
      · exact List.mem_append.mpr (.inr k)
  have lf : low ∈ fromL low (high + 1 - low).toNat := from_mem.mpr (by omega)
  refine lmax_eq (List.ne_nil_of_mem (List.mem_map_of_mem (low_in2 hl))) (List.ne_nil_of_mem (List.mem_map_of_mem lf)) (fun x hx => ?_) (fun y hy => ?_)
  · obtain ⟨c, c1, rfl⟩ := List.mem_map.mp hx
    have c2 : low ≤ c ∧ c ≤ high := by
      unfold somK at c1
      simpa using (List.mem_filter.mp c1).2
    exact ⟨_, List.mem_map_of_mem (from_mem.mpr (by omega : low ≤ c ∧ c < low + (high + 1 - low).toNat)), Int.le_refl _⟩
  · obtain ⟨n, n1, rfl⟩ := List.mem_map.mp hy
    have n2 := from_mem.mp n1
    obtain ⟨c, c1, c2⟩ := wid_cand sA sB hA hB hc (n := n) (by omega) (by omega)
    exact ⟨_, List.mem_map_of_mem c1, c2⟩
theorem law_inf {A B : List (Int × Int)} {low : Int} (sA : SlOk A) (sB : SlOk B) (hA : A ≠ []) (hB : B ≠ []) (oA : Ord A (low + 232)) (oB : Ord B (low + 232)) :
    (if stK A + stK B < 0 then none else lmax ((somN A B low).map (widK A B))) = (if widK A B (low + 232) < widK A B (low + 240) then none else lmax ((fromL low 241).map (widK A B))) := by
  have g := inf_grow sA sB oA oB hA hB
  have e : low + 232 + 8 = low + 240 := by omega
  rw [e] at g
  by_cases k : stK A + stK B < 0
  · rw [if_pos k, if_pos (g.mpr k)]
  · rw [if_neg k, if_neg fun z => k (g.mp z)]
    have l1 : low ∈ somN A B low := by
      unfold somN
      rw [List.mem_filter]
      exact ⟨by simp, by simp⟩
    have l2 : low ∈ fromL low 241 := from_mem.mpr (by omega)
    refine lmax_eq (List.ne_nil_of_mem (List.mem_map_of_mem l1)) (List.ne_nil_of_mem (List.mem_map_of_mem l2)) (fun x hx => ?_) (fun y hy => ?_)
    · obtain ⟨c, c1, rfl⟩ := List.mem_map.mp hx
      unfold somN at c1
      obtain ⟨c2, c3⟩ := List.mem_filter.mp c1
      have c3 : low ≤ c := by simpa using c3
      have c4 : c ≤ low + 240 := by
        rcases List.mem_append.mp c2 with z | z
        · rcases List.mem_append.mp z with z | z
          · rw [List.mem_singleton.mp z]
            omega
          · have := corn_le sA oA z
            omega
        · have := corn_le sB oB z
          omega
      exact ⟨_, List.mem_map_of_mem (from_mem.mpr (by omega : low ≤ c ∧ c < low + (241 : Nat))), Int.le_refl _⟩
    · obtain ⟨n, n1, rfl⟩ := List.mem_map.mp hy
      have n2 := from_mem.mp n1
      obtain ⟨c, c1, c2⟩ := inf_cand (C := fun c => c ∈ somN A B low) sA sB oA oB hA hB (by omega) (by omega) l1 (fun n a k => by
        unfold somN
        rw [List.mem_filter]
        refine ⟨?_, by simpa using a⟩
        rcases k with k | k
        · exact List.mem_append.mpr (.inl (List.mem_append.mpr (.inr k)))
        · exact List.mem_append.mpr (.inr k)) (n := n) (by omega)
      exact ⟨_, List.mem_map_of_mem c1, c2⟩

end K11
set_option Elab.async false
set_option linter.all false
set_option maxRecDepth 100000
set_option maxHeartbeats 1000000
namespace K11
open PySem PySem.Spec L2 Dk
/-! the law's bounds for books of up to four devices -/
structure OkWide (b : Bk) : Prop where
  n : b.2.length ≤ 6
  r : ∀ r ∈ b.2, okRow b.1.length r
section
variable {S : Sto} {Q : OV → Sto → Prop} {X : Exn → Sto → Prop}
theorem rdL_okw {b : Bk} (h : OkWide b) : Bd.okL (rdL b) := fun r hr => by
  obtain ⟨q, hq, rfl⟩ := List.mem_map.mp hr
  exact (h.r q hq).2.2.2.1
theorem pos_anyw {b : Bk} (h : OkWide b) {m1 m2 : List Int} (p : ¬ Bd.Pos (grB b m1)) : ¬ Bd.Pos (grB b m2) :=
  (Bd.can_walk (times_sorted b m2) (rdL_okw h) (times_ends b m2)).mpr ((Bd.can_walk (times_sorted b m1) (rdL_okw h) (times_ends b m1)).mp p)
theorem webB_bestw {b : Bk} (h : OkWide b) {s g : Int} (hp : ¬ Bd.Pos (grB b [])) : ∀ x ∈ timesB b [s, g], ∀ y, Bd.Best (Bd.gr (timesB b [s, g]) (rdL b)) x y (webB b s g x y) :=
  fun x hx y => Bd.fw_best (Bd.gr_ends (times_ends b [s, g])) (pos_anyw h hp) hx
theorem times_w {b : Bk} (h : OkWide b) {more : List Int} (hm : more.length ≤ 50) (q : Q (.dat (.list ((timesB b more).map .int))) S) : Ok (F__law_times [.dat (bookD b), .dat (.list (more.map .int))] S) Q X := by
  refine ok_run (n := 2) (m := 7) (g := g__law_times) rfl ?_
  simp [g__law_times]
  refine ⟨_, rfl, ?_⟩
  refine ⟨_, ixS_book1 b, .inr (.inl ⟨_, rfl, ?_⟩)⟩
  refine for_inv (I := ltI b more S) (fun d r ρ S' hI => ?_) (fun ρ S' hI => ?_) _ ⟨rfl, [], b.2, none, none, none, none, rfl, rfl, by simp⟩
  · obtain ⟨rfl, us, vs, x3, x4, x5, x6, e1, e2, rfl⟩ := hI
    cases vs with
    | nil => cases e2
    | cons v vs =>
      cases e2
      have hn := h.n
      have lu := congrArg List.length e1
      simp at lu
      have : (us.flatMap fun r : Int × Int × Int × Int => [r.2.1, r.2.2.1]).length = 2 * us.length := by
        rw [List.length_flatMap]
        simp [List.map_const', List.sum_replicate_nat]
        omega
      have s2 : (List.map (fun _ : Int × Int × Int × Int => 2) us).sum = 2 * us.length := by
        simp [List.map_const', List.sum_replicate_nat]
        omega
      refine ⟨by simp, _, rfl, ?_⟩
      simp
      refine ⟨by decide, _, ⟨by rw [s2]; unfold sizeLine; omega, rfl⟩, rfl, us ++ [v], vs, some (.dat (.int v.1)), some (.dat (.int v.2.1)), some (.dat (.int v.2.2.1)), some (.dat (.int v.2.2.2)), by rw [e1]; simp, rfl, ?_⟩
      simp
  · obtain ⟨rfl, us, vs, x3, x4, x5, x6, e1, e2, rfl⟩ := hI
    cases vs with
    | cons v vs => cases e2
    | nil =>
      rw [List.append_nil] at e1
      refine ⟨by simp, ?_⟩
      rw [← e1]
      simp only [thenS_nx, ok_sRet, ok_frz, ok_fSortSet, ok_fVar]
      have l1 : (more ++ b.2.flatMap fun r => [r.2.1, r.2.2.1]).length < 64 := by
        have := h.n
        rw [List.length_append, List.length_flatMap]
        simp [List.map_const', List.sum_replicate_nat]
        omega
      refine ⟨_, rfl, _, rfl, _, asInts_ints _, l1, ?_⟩
      simpa [timesB] using q
theorem bows_w {b : Bk} (h : OkWide b) {told : List Bd.Ed} (ht : told.length ≤ 4) (q : Q (.dat (.list ((told ++ Bd.gr (timesB b (toldE told)) (rdL b)).map edD))) S) : Ok (F__law_bows [.dat (bookD b), .dat (.list (told.map edD))] S) Q X := by
  refine ok_run (n := 2) (m := 10) (g := g__law_bows) rfl ?_
  simp [g__law_bows]
  refine for_inv (I := bw1 b told S) (fun d r ρ S' hI => ?_) (fun ρ S' hI => ?_) _ ⟨rfl, [], told, none, rfl, rfl, rfl⟩
  · obtain ⟨rfl, us, vs, x, e1, e2, rfl⟩ := hI
    cases vs with
    | nil => cases e2
    | cons v vs =>
      cases e2
      refine ⟨by simp, _, rfl, ?_⟩
      have e3 : slS S' (.dat (edD v)) none (some 2) = some (.tuple [.int v.1, .int v.2.1]) := by
        show some (PyData.tuple (cutD [PyData.int v.1, .int v.2.1, .int v.2.2] none (some ((2 : Nat) : Int)))) = _
        rw [cut_to]
        rfl
      have e4 : listS S' [.dat (.tuple [.int v.1, .int v.2.1])] = some [.int v.1, .int v.2.1] := rfl
      have lu := congrArg List.length e1
      simp at lu
      have lt := toldE_len us
      simp [e3, e4]
      refine ⟨_, ⟨by rw [lt]; unfold sizeLine; omega, rfl⟩, rfl, us ++ [v], vs, some (.dat (edD v)), by rw [e1]; simp, rfl, ?_⟩
      simp [toldE]
  · obtain ⟨rfl, us, vs, x, e1, e2, rfl⟩ := hI
    cases vs with
    | cons v vs => cases e2
    | nil =>
      rw [List.append_nil] at e1
      subst e1
      refine ⟨by simp, ?_⟩
      simp
      refine times_w h (by rw [toldE_len]; omega) ?_
      have lt := times_len b (toldE told)
      have lt2 := toldE_len told
      have hn := h.n
      generalize timesB b (toldE told) = ts at lt q
      refine ⟨told.map edD, rfl, _, _, ⟨rfl, rfl⟩, .int (ts.length : Int), by simp [lenS, view], .int ((ts.length : Int) - 1), rfl, _, rfl, by unfold lim62; omega, by unfold lim62; omega, ?_⟩
      rw [show ((ts.length : Int) - 1).toNat = ts.length - 1 by omega]
      refine okS_cut (bw2 b told (toldE told) ts x S' []) ?_ fun ρ S2 hI => ?_
      · refine for_inv (I := bw2 b told (toldE told) ts x S') (fun d r ρ S2 hI => ?_) (fun ρ S2 hI => ⟨by simp, hI⟩) _ ⟨0, none, by simp, rfl, by omega, rfl⟩
        obtain ⟨a, x6, rfl, e1, e2, rfl⟩ := hI
        have ha : a < ts.length - 1 := by
          by_cases z : a < ts.length - 1
          · exact z
          · rw [List.drop_eq_nil_of_le (by simp; omega)] at e1
            cases e1
        rw [drop_range ha, List.map_cons] at e1
        injection e1 with e1 e3
        subst e1
        subst e3
        refine ⟨by simp, _, rfl, ?_⟩
        have i1 : atI (ts.map PyData.int) (a : Int) = some (.int (ts.getD a 0)) := by
          rw [Dk.atI_nat (by simp; omega)]
          have : a < ts.length := by omega
          simp [this]
        have i2 : atI (ts.map PyData.int) ((a : Int) + 1) = some (.int (ts.getD (a + 1) 0)) := by
          rw [show (a : Int) + 1 = ((a + 1 : Nat) : Int) from rfl, Dk.atI_nat (by simp; omega)]
          have : a + 1 < ts.length := by omega
          simp [this]
        have i3 := onE_at ts a (by omega)
        have i4 : (Bd.onE ts).take (a + 1) = (Bd.onE ts).take a ++ [(ts.getD a 0, ts.getD (a + 1) 0, 0)] := by
          rw [List.take_succ, i3]
          rfl
        have lo := onE_len ts
        simp
        refine ⟨⟨_, by simp [viewL]; rfl⟩, _, i1, _, i2, by decide, by unfold sizeLine; omega, a + 1, some (.dat (.int (a : Int))), ?_, by simp, by omega, rfl⟩
        rw [i4]
        simp [edD]
      · obtain ⟨a, x6, rfl, e1, e2, rfl⟩ := hI
        have lo := onE_len ts
        have ea : (Bd.onE ts).take a = Bd.onE ts := by
          refine List.take_of_length_le ?_
          have := congrArg List.length e1
          simp at this
          omega
        rw [ea]
        simp
        refine ⟨_, ixS_book1 b, .inr (.inl ⟨_, rfl, ?_⟩)⟩
        refine okS_cut (bw3 b told (toldE told) ts x (told ++ Bd.onE ts) S' []) ?_ fun ρ S2 hI => ?_
        · refine for_inv (I := bw3 b told (toldE told) ts x (told ++ Bd.onE ts) S') (fun d r ρ S2 hI => ?_) (fun ρ S2 hI => ⟨by simp, hI⟩) _ ⟨[], b.2, .own S'.length, x6, none, none, none, rfl, rfl, by simp, rfl, by simp [Bd.rdE, rdOf], .inl ⟨rfl, rfl⟩⟩
          obtain ⟨us, vs, o5, x6, x7, x8, x9, f1, f2, rfl, rfl, hv, _⟩ := hI
          cases vs with
          | nil => cases f2
          | cons v vs =>
            cases f2
            have lu := congrArg List.length f1
            simp at lu
            generalize hT : S' ++ [PyData.list ((told ++ Bd.onE ts).map edD)] = T at hv ⊢
            refine ⟨by simp, _, rfl, ?_⟩
            simp
            refine lim_t (h.r v (by rw [f1]; simp)) ?_
            refine ⟨_, rfl, ?_⟩
            obtain ⟨r1, r2, _, _⟩ := ixS_row (S := T) v
            have ad : addS T o5 (.dat (.list [.tuple [.int v.2.1, .int v.2.2.1, .int (limD b v).1], .tuple [.int v.2.2.1, .int v.2.1, .int (-(limD b v).2)]])) = some (.list ((told ++ Bd.onE ts ++ Bd.rdE (rdOf b (us ++ [v]))).map edD)) := by
              unfold addS
              rw [hv]
              have l1 : ((told ++ Bd.onE ts ++ Bd.rdE (rdOf b us)).map edD).length + 2 ≤ sizeLine := by
                rw [List.length_map, List.length_append, List.length_append, rdOf_len, lo]
                unfold sizeLine
                omega
              show (if ((told ++ Bd.onE ts ++ Bd.rdE (rdOf b us)).map edD).length + 2 ≤ sizeLine then _ else none) = _
              rw [if_pos l1]
              simp [rdOf, Bd.rdE, edD]
            simp
            exact ⟨_, r1, _, r2, by decide, _, r2, _, r1, by decide, by decide, _, ad, us ++ [v], vs, _, _, _, _, _, by rw [f1]; simp, rfl, hT.symm, rfl, rfl, .inr ⟨_, rfl⟩⟩
        · obtain ⟨us, vs, o5, x6, x7, x8, x9, f1, f2, rfl, rfl, hv, ho⟩ := hI
          cases vs with
          | cons v vs => cases f2
          | nil =>
            rw [List.append_nil] at f1
            subst f1
            have q2 : Q (.dat (.list ((told ++ Bd.onE ts ++ Bd.rdE (rdOf b b.2)).map edD))) S' := by
              rw [List.append_assoc]
              exact q
            simp only [thenS_nx, ok_sRet, ok_fVar]
            rcases ho with ⟨rfl, e⟩ | ⟨d, rfl⟩
            · rw [view_own, st1_get] at hv
              refine ⟨_, rfl, ?_⟩
              show (if S'.length < S'.length then _ else _)
              rw [if_neg (Nat.lt_irrefl _)]
              refine ⟨_, st1_get _ _, ?_⟩
              injection hv with hv
              injection hv with hv
              rw [hv, List.take_left']
              · exact q2
              · rfl
            · injection hv with hv
              refine ⟨_, rfl, ?_⟩
              show Q (.dat d) (List.take S'.length (S' ++ _))
              rw [hv, List.take_left']
              · exact q2
              · rfl
theorem lawE_lenw {b : Bk} (h : OkWide b) {told : List Bd.Ed} (ht : told.length ≤ 4) : (lawE b told).length ≤ 40 ∧ (timesB b (toldE told)).length ≤ 30 := by
  have h1 := linksL_len (timesB b (toldE told)) (rdL b)
  have h2 := times_len b (toldE told)
  have h3 := toldE_len told
  have h4 := h.n
  have h5 : (rdL b).length = b.2.length := by simp [rdL]
  unfold lawE
  rw [List.length_append]
  omega
theorem lawFarw {b : Bk} (h : OkWide b) {told : List Bd.Ed} (ht : told.length ≤ 4) (hp : ¬ Bd.Pos (lawE b told)) {s : Int} (hs : s ∈ timesB b (toldE told)) (q : ∀ m, m ≠ [] → (∀ t, look m t = Bd.fw (timesB b (toldE told)) (lawE b told) s t) → Q (.dat (.dict (kvM m))) S) :
    Ok (F__law_far_from [.dat (.list ((lawE b told).map edD)), .dat (.int s)] S) Q X := by
  obtain ⟨l1, l2⟩ := lawE_lenw h ht
  obtain ⟨d, hd, hf⟩ := Bd.far_fw (lawE_ends b told) hp hs l2
  refine far_from_t (by omega) (fun e => ?_) (fun m hm e => ?_)
  · rw [hd] at e
    cases e
  · rw [hd] at e
    cases e
    exact q m hm hf
theorem law_bounds_w {b : Bk} (h : OkWide b) {s g : Int} (hl : s < g) (hp : ¬ Bd.Pos (grB b [])) (q : Q (.dat (.tuple [optD (webB b s g s g), optD (negO (webB b s g g s))])) S) : Ok (F__law_bounds [.dat (bookD b), .dat (.tuple [.int s, .int g])] S) Q X := by
  refine ok_run (n := 2) (m := 5) (g := g__law_bounds) rfl ?_
  have m1 : s ∈ timesB b [s, g] := times_mem.mpr (.inl (by simp))
  have m2 : g ∈ timesB b [s, g] := times_mem.mpr (.inl (by simp))
  have hp0 : ¬ Bd.Pos (grB b [s, g]) := pos_anyw h hp
  have hpath : Bd.Path (Bd.gr (timesB b [s, g]) (rdL b)) s g 0 := Bd.onE_path (times_sorted b _) (fun e h => List.mem_append.mpr (.inl h)) m1 m2 (by omega)
  have hp1 : ¬ Bd.Pos (lawE b [(s, g, 0)]) := by
    obtain ⟨w, hw, k⟩ := (Bd.can_walk (times_sorted b [s, g]) (rdL_okw h) (times_ends b [s, g])).mp hp0
    have p1 := Bd.keep_pot (times_sorted b [s, g]) (rdL_okw h) hw k
    refine Bd.Pot.noPos (x := Bd.cum w) (Bd.pot_app.mpr ⟨fun e he => ?_, p1⟩)
    rw [List.mem_singleton.mp he]
    have := Bd.cum_mono hw (show s ≤ g by omega)
    show Bd.cum w s + 0 ≤ Bd.cum w g
    omega
  have same : ∀ x ∈ timesB b [s, g], ∀ y, Bd.fw (timesB b [s, g]) (lawE b [(s, g, 0)]) x y = webB b s g x y := fun x hx y => by
    refine (Bd.fw_best (lawE_ends b [(s, g, 0)]) hp1 hx).uniq ((webB_bestw h hp x hx y).over (fun e he => ⟨e.2.2, Int.le_refl _, Bd.Path.one (List.mem_append.mpr (.inr he))⟩) (fun e he => ?_))
    rcases List.mem_append.mp he with he | he
    · rw [List.mem_singleton.mp he]
      exact ⟨0, Int.le_refl _, hpath⟩
    · exact ⟨e.2.2, Int.le_refl _, Bd.Path.one he⟩
  have a0 : atI [PyData.int s, .int g] 0 = some (.int s) := by simp [atI, ixN]
  have a1 : atI [PyData.int s, .int g] 1 = some (.int g) := by simp [atI, ixN]
  simp [g__law_bounds]
  refine ⟨_, a0, _, a1, by decide, by decide, ?_⟩
  refine bows_w h (told := [(s, g, 0)]) (by simp) ?_
  refine ⟨_, a0, lawFarw h (told := [(s, g, 0)]) (by simp) hp1 m1 fun ma hma fa => ⟨_, a1, lawFarw h (told := [(s, g, 0)]) (by simp) hp1 m2 fun mb hmb fb => ?_⟩⟩
  obtain ⟨l, e1, _⟩ := Bd.low_some (times_sorted b _) (webB_bestw h (s := s) (g := g) hp) m1 m2 (by omega)
  have la : look ma g = some l := (fa g).trans ((same s m1 g).trans e1)
  have lb : look mb s = webB b s g g s := (fb s).trans (same g m2 s)
  have i1 : ixA S (.dat (.dict (kvM ma))) (.dat (.int g)) = some (.int l) := by
    show dgetD (kvM ma) (.int g) = _
    rw [dget_M, la]
    rfl
  have i2 : inA S (.dat (.int s)) (.dat (.dict (kvM mb))) = some (.bool (webB b s g g s).isSome) := by
    show (dfindD (kvM mb) (.int s)).map (fun o => PyData.bool o.isSome) = _
    rw [dfind_M hmb, lb]
    cases webB b s g g s <;> rfl
  have i3 : ixA S (.dat (.dict (kvM mb))) (.dat (.int s)) = (webB b s g g s).map .int := by
    show dgetD (kvM mb) (.int s) = _
    rw [dget_M, lb]
  refine ⟨_, _, ⟨rfl, rfl⟩, _, a1, _, i1, _, a0, _, i2, ?_⟩
  rw [e1] at q
  cases c : webB b s g g s with
  | none =>
    rw [c] at q
    refine .inl ⟨rfl, by decide, ?_⟩
    simpa [optD, negO] using q
  | some i =>
    rw [c] at q i3
    refine .inr ⟨rfl, _, a0, _, i3, _, rfl, by decide, ?_⟩
    simpa [optD, negO] using q
end

end K11
set_option Elab.async false
set_option linter.all false
set_option maxRecDepth 100000
set_option maxHeartbeats 1000000
namespace K11
open PySem PySem.Spec L2 Dk
/-! a book with one more reading that is counted exactly -/
def moreB (b : Bk) (s g n : Int) : Bk := (b.1 ++ [(0, 0)], b.2 ++ [((b.1.length : Int), s, g, n)])
theorem lim_more {b : Bk} {s g n : Int} {r : Int × Int × Int × Int} (h : okRow b.1.length r) : limD (moreB b s g n) r = limD b r := by
  obtain ⟨h1, h2, _⟩ := h
  unfold limD moreB
  simp only
  rw [List.getElem?_append_left (by omega)]
theorem lim_new {b : Bk} {s g n : Int} : limD (moreB b s g n) ((b.1.length : Int), s, g, n) = (n, n) := by
  unfold limD moreB
  simp
theorem rdL_more {b : Bk} (h : OkBook b) {s g n : Int} : rdL (moreB b s g n) = rdL b ++ [(s, g, n, n)] := by
  unfold rdL
  have e : (moreB b s g n).2 = b.2 ++ [((b.1.length : Int), s, g, n)] := rfl
  rw [e, List.map_append]
  congr 1
  · refine List.map_congr_left fun r hr => ?_
    rw [lim_more (h.r r hr)]
  · simp only [List.map_cons, List.map_nil, lim_new]
theorem wide_more {b : Bk} (h : OkBook b) (hn : b.2.length ≤ 5) {s g n : Int} (h1 : 0 ≤ s) (h2 : s < g) (h3 : g ≤ 1000000000000000000000000000000) (h4 : 0 ≤ n) (h5 : n ≤ 1000000000000000000000000000000) : OkWide (moreB b s g n) := by
  refine ⟨by simp [moreB]; omega, fun r hr => ?_⟩
  rcases List.mem_append.mp (show r ∈ b.2 ++ [((b.1.length : Int), s, g, n)] from hr) with hr | hr
  · obtain ⟨a1, a2, a3⟩ := h.r r hr
    refine ⟨a1, ?_, a3⟩
    simp [moreB]
    omega
  · rw [List.mem_singleton.mp hr]
    refine ⟨by show 0 ≤ (b.1.length : Int); omega, ?_, h1, h2, h3, h4, h5⟩
    simp [moreB]
/-- two webs tell the same at moments that both have -/
theorem web_same {b : Bk} (h : OkBook b) {ts us : List Int} (hs : ts.Pairwise (· < ·)) (ks : us.Pairwise (· < ·)) (he : Bd.EndsL ts (rdL b)) (ke : Bd.EndsL us (rdL b)) (hp : ¬ Bd.Pos (Bd.gr ts (rdL b))) (kp : ¬ Bd.Pos (Bd.gr us (rdL b))) {B C : Bd.Web} (hB : ∀ x ∈ ts, ∀ y, Bd.Best (Bd.gr ts (rdL b)) x y (B x y)) (hC : ∀ x ∈ us, ∀ y, Bd.Best (Bd.gr us (rdL b)) x y (C x y)) {x y : Int} (x1 : x ∈ ts) (x2 : x ∈ us) (y1 : y ∈ ts) (y2 : y ∈ us) : B x y = C x y := by
  rcases Int.lt_trichotomy x y with k | k | k
  · exact (Bd.best_any hs ks (rdL_ok h) he ke hp kp hB hC x1 y1 x2 y2 k).1
  · subst k
    rw [Bd.best_diag hp hB x1, Bd.best_diag kp hC x2]
  · exact (Bd.best_any hs ks (rdL_ok h) he ke hp kp hB hC y1 x1 y2 x2 k).2
theorem more_best {b : Bk} (h : OkBook b) (hp : ¬ Bd.Pos (grB b [])) {W : Bd.Web} {us : List Int} (ks : us.Pairwise (· < ·)) (ke : Bd.EndsL us (rdL b)) (kp : ¬ Bd.Pos (Bd.gr us (rdL b))) (hC : ∀ x ∈ us, ∀ y, Bd.Best (Bd.gr us (rdL b)) x y (W x y))
    {a c s g n : Int} (ma : a ∈ us) (mc : c ∈ us) (ms : s ∈ us) (mg : g ∈ us) (hw : OkWide (moreB b s g n)) (k1 : Bd.leO (W s g) (some n)) (k2 : Bd.leO (Bd.addO (W g s) (some n)) (some 0)) :
    ¬ Bd.Pos (grB (moreB b s g n) []) ∧ webB (moreB b s g n) a c a c = valK (piK W a c s g) n ∧ webB (moreB b s g n) a c c a = valK (piK W c a s g) n := by
  have hs := times_sorted (moreB b s g n) [a, c]
  have he0 := times_ends (moreB b s g n) [a, c]
  have rn : ((b.1.length : Int), s, g, n) ∈ (moreB b s g n).2 := by simp [moreB]
  have aT : a ∈ timesB (moreB b s g n) [a, c] := times_mem.mpr (.inl (by simp))
  have cT : c ∈ timesB (moreB b s g n) [a, c] := times_mem.mpr (.inl (by simp))
  have sT : s ∈ timesB (moreB b s g n) [a, c] := times_mem.mpr (.inr ⟨_, rn, .inl rfl⟩)
  have gT : g ∈ timesB (moreB b s g n) [a, c] := times_mem.mpr (.inr ⟨_, rn, .inr rfl⟩)
  have pm : ¬ Bd.Pos (grB (moreB b s g n) [a, c]) → ¬ Bd.Pos (grB (moreB b s g n) []) := fun z => pos_anyw hw z
  have bm : ¬ Bd.Pos (grB (moreB b s g n) []) → ∀ x ∈ timesB (moreB b s g n) [a, c], ∀ y, Bd.Best (Bd.gr (timesB (moreB b s g n) [a, c]) (rdL (moreB b s g n))) x y (webB (moreB b s g n) a c x y) := fun z => webB_bestw hw z
  have pe : grB (moreB b s g n) [a, c] = Bd.gr (timesB (moreB b s g n) [a, c]) (rdL (moreB b s g n)) := rfl
  rw [pe] at pm
  rw [rdL_more h] at he0 pm bm
  generalize timesB (moreB b s g n) [a, c] = ts at *
  have he : Bd.EndsL ts (rdL b) := fun r hr => he0 r (List.mem_append.mpr (.inl hr))
  have hpT : ¬ Bd.Pos (Bd.gr ts (rdL b)) := (Bd.can_walk hs (rdL_ok h) he).mpr ((Bd.can_walk (times_sorted b []) (rdL_ok h) (times_ends b [])).mp hp)
  have hB : ∀ x ∈ ts, ∀ y, Bd.Best (Bd.gr ts (rdL b)) x y (Bd.fw ts (Bd.gr ts (rdL b)) x y) := fun x hx y => Bd.fw_best (Bd.gr_ends he) hpT hx
  generalize Bd.fw ts (Bd.gr ts (rdL b)) = B at *
  have sm : ∀ x y, x ∈ ts → x ∈ us → y ∈ ts → y ∈ us → B x y = W x y := fun x y x1 x2 y1 y2 => web_same h hs ks he ke hpT kp hB hC x1 x2 y1 y2
  rw [← sm s g sT ms gT mg] at k1
  rw [← sm g s gT mg sT ms] at k2
  obtain ⟨x1, x2⟩ := Bd.exact_rd he hpT hB sT gT k1 k2
  have pos := pm x1
  have d1 := Bd.best_diag hpT hB sT
  have d2 := Bd.best_diag hpT hB gT
  have tri : ∀ x y z, x ∈ ts → y ∈ ts → Bd.leO (Bd.addO (B x y) (B y z)) (B x z) := fun x y z hx hy => Bd.best_tri (Bd.gr_ends he) hB hx hy
  refine ⟨pos, ?_, ?_⟩
  · rw [(bm pos a aT c).uniq (x2 a aT c), exact_val d1 d2 (tri a g c aT gT) (tri a s c aT sT)]
    unfold piK
    rw [sm a c aT ma cT mc, sm a s aT ma sT ms, sm g c gT mg cT mc, sm a g aT ma gT mg, sm s c sT ms cT mc]
  · rw [(bm pos c cT a).uniq (x2 c cT a), exact_val d1 d2 (tri c g a cT gT) (tri c s a cT sT)]
    unfold piK
    rw [sm c a cT mc aT ma, sm c s cT mc sT ms, sm g a gT mg aT ma, sm c g cT mc gT mg, sm s a sT ms aT ma]

end K11
set_option Elab.async false
set_option linter.all false
set_option maxRecDepth 100000
set_option maxHeartbeats 1000000
namespace K11
open PySem PySem.Spec L2 Dk
/-! the law's width -/
def exD (b : Bk) : D := .tuple [.tuple ((b.1 ++ [(0, 0)]).map pairD), .tuple (b.2.map rowD)]
def lwI (b : Bk) (w p : Int × Int) (lo : D) (hi : D) (A K : List (Int × Int)) (S : Sto) (ds : List D) (ρ : Env1) (S' : Sto) : Prop := ∃ (us vs : List Int) (x7 x8 x9 x10 : Option OV), ds = vs.map .int ∧ S' = S ++ [.list ((us.map (widK A K)).map .int)] ∧
  ρ = [some (.dat (bookD b)), some (.dat (pairD w)), some (.dat (pairD p)), some (.dat lo), some (.dat hi), some (.dat (exD b)), some (.own S.length), x7, x8, x9, x10]
section
variable {S : Sto} {Q : OV → Sto → Prop} {X : Exn → Sto → Prop}
theorem max_own (S : Sto) (f : Int → Int) (l : List Int) {m : Int} (e : lmax (l.map f) = some m) : maxLS (S ++ [PyData.list (l.map (PyData.int ∘ f))]) [.own S.length] = some (.int m) := by
  have v : viewL (S ++ [PyData.list (l.map (PyData.int ∘ f))]) (.own S.length) = some ((l.map f).map PyData.int) := by
    simp [viewL, view]
  show (viewL _ _).bind (fun ds => (asInts ds).bind fun ns => (lmax ns).map PyData.int) = _
  rw [v]
  show (asInts ((l.map f).map PyData.int)).bind _ = _
  rw [asInts_map]
  show (lmax _).map PyData.int = _
  rw [List.map_id', e]
  rfl
theorem at_m1 (S : Sto) (f : Int → Int) (low : Int) : ixS (S ++ [PyData.list ((fromL low 241).map (PyData.int ∘ f))]) (.own S.length) (.dat (.int (-1))) = some (.int (f (low + 240))) := by
  simp [ixS, view, atI, ixN, fromL]
theorem at_m9 (S : Sto) (f : Int → Int) (low : Int) : ixS (S ++ [PyData.list ((fromL low 241).map (PyData.int ∘ f))]) (.own S.length) (.dat (.int (-9))) = some (.int (f (low + 232))) := by
  simp [ixS, view, atI, ixN, fromL]
/-- the loop's body, as it is printed -/
noncomputable def wBody : SS := (sSeq (sAsg (fTup (aCons (op2 ixS (fVar 5) (fC (.int 0))) (aCons (op2 addS (op2 ixS (fVar 5) (fC (.int 1))) (fTup (aCons (fTup (aCons (opL lenS (aCons (op2 ixS (fVar 0) (fC (.int 0))) aNil)) (aCons (op2 ixS (fVar 2) (fC (.int 0))) (aCons (op2 ixS (fVar 2) (fC (.int 1))) (aCons (fVar 7) aNil))))) aNil))) aNil))) (tgN 8))
  (sSeq (sAsg (fCall F__law_bounds (aCons (fVar 8) (aCons (fVar 1) aNil))) (tgTup 2 (tgCons (tgN 9) (tgCons (tgN 10) tgNil))))
  (sSeq (sIf (bOf (op2 isS (fVar 10) (fC .none))) (sRet (fC .none)) sNx)
  (sExpr (fApp (fVar 6) (aCons (op2 subS (fVar 10) (fVar 9)) aNil))))))
theorem width_loop {b : Bk} (h : OkBook b) (hn : b.2.length ≤ 4) (hp : ¬ Bd.Pos (grB b [])) {a c s g : Int} (a2 : a < c) (s1 : 0 ≤ s) (s2 : s < g) (s3 : g ≤ 100)
    {W : Bd.Web} {us : List Int} (ks : us.Pairwise (· < ·)) (ke : Bd.EndsL us (rdL b)) (kp : ¬ Bd.Pos (Bd.gr us (rdL b))) (hC : ∀ x ∈ us, ∀ y, Bd.Best (Bd.gr us (rdL b)) x y (W x y)) (ma : a ∈ us) (mc : c ∈ us) (ms : s ∈ us) (mg : g ∈ us) (hA : piK W a c s g ≠ [])
    {lo hi : D} (items : List Int) (hi0 : items ≠ []) (hil : items.length ≤ 20000) (hit : ∀ n ∈ items, 0 ≤ n ∧ n ≤ 1000000 ∧ Bd.leO (W s g) (some n) ∧ Bd.leO (Bd.addO (W g s) (some n)) (some 0)) {QS : Fl → Env1 → Sto → Prop}
    (q0 : piK W c a s g = [] → ∀ ρ S', S'.take S.length = S → QS (.rt (.dat .none)) ρ S')
    (q1 : piK W c a s g ≠ [] → ∀ x7 x8 x9 x10, QS .nx [some (.dat (bookD b)), some (.dat (pairD (a, c))), some (.dat (pairD (s, g))), some (.dat lo), some (.dat hi), some (.dat (exD b)), some (.own S.length), x7, x8, x9, x10] (S ++ [.list ((items.map (widK (piK W a c s g) (piK W c a s g))).map .int)])) :
    OkS (forL none (items.map .int) (tgN 7) wBody (items.map .int) [some (.dat (bookD b)), some (.dat (pairD (a, c))), some (.dat (pairD (s, g))), some (.dat lo), some (.dat hi), some (.dat (exD b)), some (.own S.length), none, none, none, none] (S ++ [.list []])) QS := by
  refine for_inv (I := fun ds ρ S' => (piK W c a s g = [] → ds ≠ []) ∧ ∃ (u v : List Int) (x7 x8 x9 x10 : Option OV), items = u ++ v ∧ ds = v.map .int ∧ S' = S ++ [.list ((u.map (widK (piK W a c s g) (piK W c a s g))).map .int)] ∧
    ρ = [some (.dat (bookD b)), some (.dat (pairD (a, c))), some (.dat (pairD (s, g))), some (.dat lo), some (.dat hi), some (.dat (exD b)), some (.own S.length), x7, x8, x9, x10]) (fun d r ρ S' hI => ?_) (fun ρ S' hI => ?_) _ ⟨fun _ => by simpa using hi0, [], items, none, none, none, none, rfl, rfl, rfl, rfl⟩
  · obtain ⟨hk, u, v, x7, x8, x9, x10, e1, e2, rfl, rfl⟩ := hI
    cases v with
    | nil => cases e2
    | cons n v =>
      cases e2
      obtain ⟨n0, n1, k1, k2⟩ := hit n (by rw [e1]; simp)
      have hu : u.length ≤ 20000 := by rw [e1] at hil; simp at hil; omega
      have hw : OkWide (moreB b s g n) := wide_more h (by omega) s1 s2 (by omega) n0 (by omega)
      obtain ⟨m1, m2, m3⟩ := more_best h hp ks ke kp hC ma mc ms mg hw k1 k2
      refine ⟨by simp [srcOf], _, rfl, ?_⟩
      simp [wBody]
      have eb : PyData.tuple [.tuple ((b.1 ++ [(0, 0)]).map pairD), .tuple (b.2.map rowD ++ [rowD ((b.1.length : Int), s, g, n)])] = bookD (moreB b s g n) := by simp [bookD, moreB]
      refine ⟨.tuple ((b.1 ++ [(0, 0)]).map pairD), by simp [exD, atI, ixN], .tuple (b.2.map rowD), by simp [exD, atI, ixN], .tuple (b.1.map pairD), by simp [bookD, atI, ixN], .int (b.1.length : Int), by rw [lenS_tuple, List.length_map], .int s, by simp [pairD, atI, ixN], .int g, by simp [pairD, atI, ixN], by decide, by decide, .tuple (b.2.map rowD ++ [rowD ((b.1.length : Int), s, g, n)]), ?_, by decide, ?_⟩
      · rw [addS_tuple, if_pos (by simp; unfold sizeLine; omega)]
        rfl
      rw [eb]
      refine law_bounds_w hw a2 m1 ?_
      rw [m2, m3, val_some hA n]
      refine ⟨_, rfl, ?_⟩
      by_cases kk : piK W c a s g = []
      · rw [kk]
        refine ⟨_, rfl, .bool true, rfl, .inr ⟨rfl, ?_⟩⟩
        exact q0 kk _ _ (by simp)
      · rw [val_some kk n]
        refine ⟨_, rfl, .bool false, rfl, .inl ⟨rfl, ?_⟩⟩
        refine ⟨_, rfl, ⟨_, by simp [viewL, view]; rfl⟩, _, rfl, _, rfl, .int (widK (piK W a c s g) (piK W c a s g) n), ?_, _, rfl, _, by simp; rfl, by simp; unfold sizeLine; omega, ?_⟩
        · simp [optD, negO, widK]
          omega
        · exact ⟨fun z => absurd z kk, u ++ [n], v, by rw [e1]; simp, rfl, by simp, _, _, _, _, rfl⟩
  · obtain ⟨hk, u, v, x7, x8, x9, x10, e1, e2, rfl, rfl⟩ := hI
    cases v with
    | cons n v => cases e2
    | nil =>
      rw [List.append_nil] at e1
      subst e1
      refine ⟨by simp [srcOf], q1 (fun z => hk z rfl) _ _ _ _⟩
theorem law_width_t {b : Bk} (h : OkBook b) (hn : b.2.length ≤ 4) (hsm : Bd.Small (rdL b)) (hp : ¬ Bd.Pos (grB b [])) {a c s g : Int} (a1 : 0 ≤ a) (a2 : a < c) (a3 : c ≤ 100) (s1 : 0 ≤ s) (s2 : s < g) (s3 : g ≤ 100)
    {W : Bd.Web} {us : List Int} (ks : us.Pairwise (· < ·)) (ke : Bd.EndsL us (rdL b)) (kp : ¬ Bd.Pos (Bd.gr us (rdL b))) (hC : ∀ x ∈ us, ∀ y, Bd.Best (Bd.gr us (rdL b)) x y (W x y)) (ma : a ∈ us) (mc : c ∈ us) (ms : s ∈ us) (mg : g ∈ us)
    {low : Int} (el : W s g = some low) (l0 : 0 ≤ low) (l1 : low ≤ 1000) (hu : ∀ u, W g s = some u → low ≤ -u ∧ -u ≤ 10000)
    (q : Q (.dat (optD (lawW (piK W a c s g) (piK W c a s g) low (negO (W g s))))) S) : Ok (F__law_width [.dat (bookD b), .dat (pairD (a, c)), .dat (pairD (s, g))] S) Q X := by
  refine ok_run (n := 3) (m := 11) (g := g__law_width) rfl ?_
  have e1 : webB b s g s g = W s g ∧ webB b s g g s = W g s := by
    have k1 : s ∈ timesB b [s, g] := times_mem.mpr (.inl (by simp))
    have k2 : g ∈ timesB b [s, g] := times_mem.mpr (.inl (by simp))
    exact ⟨web_same h (times_sorted b _) ks (times_ends b _) ke (pos_any h hp) kp (webB_best h hp) hC k1 ms k2 mg, web_same h (times_sorted b _) ks (times_ends b _) ke (pos_any h hp) kp (webB_best h hp) hC k2 mg k1 ms⟩
  simp [g__law_width]
  refine law_bounds_t h s2 hp ?_
  rw [e1.1, e1.2, el]
  refine ⟨_, rfl, ?_⟩
  have hA : piK W a c s g ≠ [] := by
    obtain ⟨z, ez, _⟩ := Bd.low_some ks hC ma mc (Int.le_of_lt a2)
    unfold piK
    rw [ez]
    simp [optL]
  have ea : addS S (.dat (.tuple (b.1.map pairD))) (.dat (.tuple [.tuple [.int 0, .int 0]])) = some (.tuple ((b.1 ++ [(0, 0)]).map pairD)) := by
    have := h.d2
    rw [addS_tuple, if_pos (by simp; unfold sizeLine; omega)]
    simp [pairD]
  simp [optD]
  refine ⟨.tuple (b.1.map pairD), by simp [bookD, atI, ixN], by decide, by decide, _, ea, _, ixS_book1 b, by decide, _, _, ⟨rfl, rfl⟩, ?_⟩
  have lim : lim62 = 4611686018427387904 := rfl
  cases e2 : W g s with
  | none =>
    rw [e2] at q
    have eq : lawW (piK W a c s g) (piK W c a s g) low (negO none) = if piK W c a s g = [] then none else if widK (piK W a c s g) (piK W c a s g) (low + 232) < widK (piK W a c s g) (piK W c a s g) (low + 240) then none else lmax ((fromL low 241).map (widK (piK W a c s g) (piK W c a s g))) := rfl
    rw [eq] at q
    refine ⟨.bool true, rfl, .inr ⟨rfl, low, low + 240 + 1, ⟨rfl, rfl⟩, by rw [lim]; omega, by rw [lim]; omega, by rw [lim]; omega, by rw [lim]; omega, ?_⟩⟩
    have e3 : (List.range (low + 240 + 1 - low).toNat).map (fun k : Nat => PyData.int (low + (k : Int))) = (fromL low 241).map .int := by
      rw [show (low + 240 + 1 - low).toNat = 241 by omega]
      unfold fromL
      rw [List.map_map]
      rfl
    rw [e3]
    refine width_loop (lo := .int low) (hi := .none) h hn hp a2 s1 s2 s3 ks ke kp hC ma mc ms mg hA (fromL low 241) (List.ne_nil_of_mem (from_mem.mpr (by omega : low ≤ low ∧ low < low + (241 : Nat)))) (by simp [fromL]) (fun n hn2 => ?_) (fun k ρ S' hS => ?_) (fun k x7 x8 x9 x10 => ?_)
    · have := from_mem.mp hn2
      rw [el, e2]
      exact ⟨by omega, by omega, by show low ≤ n; omega, trivial⟩
    · show Q (.dat .none) (S'.take S.length)
      rw [hS]
      rw [if_pos k] at q
      exact q
    · simp
      rw [if_neg k] at q
      refine ⟨.bool true, rfl, .inr ⟨rfl, _, at_m1 _ _ _, _, at_m9 _ _ _, ?_⟩⟩
      by_cases z : widK (piK W a c s g) (piK W c a s g) (low + 232) < widK (piK W a c s g) (piK W c a s g) (low + 240)
      · rw [if_pos z] at q
        exact ⟨.bool true, by simp [z], .inr ⟨rfl, q⟩⟩
      · rw [if_neg z] at q
        have mem : widK (piK W a c s g) (piK W c a s g) low ∈ (fromL low 241).map (widK (piK W a c s g) (piK W c a s g)) := List.mem_map_of_mem (from_mem.mpr (by omega : low ≤ low ∧ low < low + (241 : Nat)))
        obtain ⟨m, em, _⟩ := lmax_some (List.ne_nil_of_mem mem)
        rw [em] at q
        exact ⟨.bool false, by simp; omega, .inl ⟨rfl, _, max_own _ _ _ em, q⟩⟩
  | some u =>
    obtain ⟨u1, u2⟩ := hu u e2
    rw [e2] at q
    have eq : lawW (piK W a c s g) (piK W c a s g) low (negO (some u)) = if piK W c a s g = [] then none else lmax ((fromL low (-u + 1 - low).toNat).map (widK (piK W a c s g) (piK W c a s g))) := rfl
    rw [eq] at q
    refine ⟨.bool false, rfl, .inl ⟨rfl, .int (-u + 1), rfl, low, -u + 1, ⟨rfl, rfl⟩, by rw [lim]; omega, by rw [lim]; omega, by rw [lim]; omega, by rw [lim]; omega, ?_⟩⟩
    have e3 : (List.range (-u + 1 - low).toNat).map (fun k : Nat => PyData.int (low + (k : Int))) = (fromL low (-u + 1 - low).toNat).map .int := by
      unfold fromL
      rw [List.map_map]
      rfl
    rw [e3]
    have lf : low ∈ fromL low (-u + 1 - low).toNat := from_mem.mpr (by omega)
    refine width_loop (lo := .int low) (hi := .int (-u)) h hn hp a2 s1 s2 s3 ks ke kp hC ma mc ms mg hA (fromL low (-u + 1 - low).toNat) (List.ne_nil_of_mem lf) (by simp [fromL]; omega) (fun n hn2 => ?_) (fun k ρ S' hS => ?_) (fun k x7 x8 x9 x10 => ?_)
    · have := from_mem.mp hn2
      rw [el, e2]
      exact ⟨by omega, by omega, by show low ≤ n; omega, by show u + n ≤ 0; omega⟩
    · show Q (.dat .none) (S'.take S.length)
      rw [hS]
      rw [if_pos k] at q
      exact q
    · simp
      rw [if_neg k] at q
      obtain ⟨m, em, _⟩ := lmax_some (List.ne_nil_of_mem (List.mem_map_of_mem (f := widK (piK W a c s g) (piK W c a s g)) lf))
      rw [em] at q
      exact ⟨.bool false, rfl, .inl ⟨rfl, _, max_own _ _ _ em, q⟩⟩
end

end K11
set_option Elab.async false
set_option linter.all false
set_option maxRecDepth 100000
set_option maxHeartbeats 1000000
namespace K11
open PySem PySem.Spec L2 Dk
/-! what is due -/
theorem bet_cases {o p q : Option Int} : (betO o p = true → betO p q = true → betO o q = true) ∧ (betO o q = true → betO p q = false → betO o p = true) ∧ (betO o p = true → betO p o = false) ∧ betO o o = false ∧ (betO o p = true → p ≠ o) := by
  refine ⟨?_, ?_, ?_, ?_, ?_⟩ <;> cases o <;> cases p <;> cases q <;> simp [betO] <;> omega
theorem bso_spec (wf : Int × Int → Option Int) : ∀ (vs : List (Int × Int)) (n : Nat) (o : Option Int) (j : Nat), ∃ o' j', bsoK wf vs n (some (o, j)) = some (o', j') ∧ (∀ p ∈ vs, betO (wf p) o' = false) ∧ betO o o' = false ∧
    ((o' = o ∧ j' = j) ∨ (betO o' o = true ∧ ∃ us p ws, vs = us ++ p :: ws ∧ wf p = o' ∧ j' = n + us.length ∧ ∀ q ∈ us, betO o' (wf q) = true))
  | [], n, o, j => ⟨o, j, rfl, by simp, (bet_cases (p := o) (q := o)).2.2.2.1, .inl ⟨rfl, rfl⟩⟩
  | p :: r, n, o, j => by
    cases c : betO (wf p) o with
    | true =>
      obtain ⟨o', j', e, h1, h2, h3⟩ := bso_spec wf r (n + 1) (wf p) n
      have ee : bsoK wf (p :: r) n (some (o, j)) = some (o', j') := by
        rw [← e]
        simp [bsoK, c]
      rcases h3 with ⟨rfl, rfl⟩ | ⟨k1, us, p2, ws, k2, k3, k4, k5⟩
      · refine ⟨_, _, ee, fun q hq => ?_, (bet_cases (q := o)).2.2.1 c, .inr ⟨c, [], p, r, rfl, rfl, by simp, by simp⟩⟩
        rcases List.mem_cons.mp hq with rfl | hq
        · exact h2
        · exact h1 q hq
      · have t := (bet_cases (o := o') (p := wf p) (q := o)).1 k1 c
        refine ⟨_, _, ee, fun q hq => ?_, (bet_cases (q := o)).2.2.1 t, .inr ⟨t, p :: us, p2, ws, by rw [k2]; rfl, k3, by rw [k4, List.length_cons]; omega, fun q hq => ?_⟩⟩
        · rcases List.mem_cons.mp hq with rfl | hq
          · exact h2
          · exact h1 q hq
        · rcases List.mem_cons.mp hq with rfl | hq
          · exact k1
          · exact k5 q hq
    | false =>
      obtain ⟨o', j', e, h1, h2, h3⟩ := bso_spec wf r (n + 1) o j
      have ee : bsoK wf (p :: r) n (some (o, j)) = some (o', j') := by
        rw [← e]
        simp [bsoK, c]
      rcases h3 with ⟨rfl, rfl⟩ | ⟨k1, us, p2, ws, k2, k3, k4, k5⟩
      · refine ⟨_, _, ee, fun q hq => ?_, h2, .inl ⟨rfl, rfl⟩⟩
        rcases List.mem_cons.mp hq with rfl | hq
        · exact c
        · exact h1 q hq
      · have t := (bet_cases (o := o') (p := wf p) (q := o)).2.1 k1 c
        refine ⟨_, _, ee, fun q hq => ?_, h2, .inr ⟨k1, p :: us, p2, ws, by rw [k2]; rfl, k3, by rw [k4, List.length_cons]; omega, fun q hq => ?_⟩⟩
        · rcases List.mem_cons.mp hq with rfl | hq
          · exact (bet_cases (q := o)).2.2.1 t
          · exact h1 q hq
        · rcases List.mem_cons.mp hq with rfl | hq
          · exact t
          · exact k5 q hq
theorem bso_first (wf : Int × Int → Option Int) {menu : List (Int × Int)} (h : menu ≠ []) : ∃ o us p ws, bsoK wf menu 0 none = some (o, us.length) ∧ menu = us ++ p :: ws ∧ wf p = o ∧ (∀ q ∈ us, wf q ≠ o) ∧ ∀ q ∈ menu, betO (wf q) o = false := by
  cases menu with
  | nil => exact absurd rfl h
  | cons p0 r =>
    obtain ⟨o', j', e, h1, h2, h3⟩ := bso_spec wf r 1 (wf p0) 0
    have ee : bsoK wf (p0 :: r) 0 none = some (o', j') := e
    have all : ∀ q ∈ p0 :: r, betO (wf q) o' = false := fun q hq => by
      rcases List.mem_cons.mp hq with rfl | hq
      · exact h2
      · exact h1 q hq
    rcases h3 with ⟨rfl, rfl⟩ | ⟨k1, us, p2, ws, k2, k3, k4, k5⟩
    · exact ⟨_, [], p0, r, ee, rfl, rfl, by simp, all⟩
    · refine ⟨o', p0 :: us, p2, ws, by rw [ee, k4, List.length_cons, Nat.add_comm], by rw [k2]; rfl, k3, fun q hq => ?_, all⟩
      rcases List.mem_cons.mp hq with rfl | hq
      · exact (bet_cases (q := o')).2.2.2.2 k1
      · exact (bet_cases (q := o')).2.2.2.2 (k5 q hq)
theorem eqv_opt (x y : Option Int) : PyData.eqv (optD x) (optD y) = decide (x = y) := by
  cases x <;> cases y <;> simp [PyData.eqv, optD]
  rw [Bool.eq_iff_iff]
  simp
theorem find_at {α : Type} (f : α → Bool) : ∀ (us : List α) (p : α) (ws : List α), f p = true → (∀ q ∈ us, f q = false) → (us ++ p :: ws).findIdx? f = some us.length
  | [], p, ws, h, _ => by simp [List.findIdx?_cons, h]
  | a :: us, p, ws, h, k => by
    have := find_at f us p ws h fun q hq => k q (by simp [hq])
    simp [List.findIdx?_cons, k a (by simp), this]
theorem lmin_at {l : List Int} {m : Int} (h : m ∈ l) (h2 : ∀ y ∈ l, m ≤ y) : lmin l = some m := by
  obtain ⟨k, u, v, e, e2, h3, h4⟩ := lmin_split l (List.ne_nil_of_mem h)
  obtain ⟨a, b⟩ := lmin_ok e
  have := b m h
  have := h2 k a
  rw [e]
  congr 1
  omega
theorem nice_opt (o : Option Int) : niceD 0 (optD o) := by
  cases o with
  | none => exact nice_none
  | some i => exact nice_int
section
variable {S : Sto} {Q : OV → Sto → Prop} {X : Exn → Sto → Prop}
theorem law_due_t {b : Bk} {w : Int × Int} {menu : List (Int × Int)} (hl : menu.length ≤ 5) (h1 : 1 ≤ menu.length) (wf : Int × Int → Option Int)
    (hw : ∀ p ∈ menu, ∀ (S : Sto) (Q : OV → Sto → Prop) (X : Exn → Sto → Prop), Q (.dat (optD (wf p))) S → Ok (F__law_width [.dat (bookD b), .dat (pairD w), .dat (pairD p)] S) Q X)
    (q : Q (.dat (bsoD (bsoK wf menu 0 none))) S) : Ok (F__law_due [.dat (bookD b), .dat (pairD w), .dat (.tuple (menu.map pairD))] S) Q X := by
  refine ok_run (n := 3) (m := 8) (g := g__law_due) rfl ?_
  simp [g__law_due]
  refine lc_mapT pairD menu (fun p => optD (wf p)) (by unfold sizeLine; omega) (by simp) (fun p hp T => ⟨_, rfl, ?_⟩) ?_
  · simp
    refine hw p hp _ _ _ ?_
    exact ⟨rfl, rfl⟩
  · refine lc_mapF (fun p => optD (wf p)) menu (p := fun p => (wf p).isSome) (φ := fun p => optD (wf p)) (by unfold sizeLine; omega) (by simp) (fun p hp T => ⟨_, rfl, ?_⟩) ?_
    · cases c : wf p <;> simp [c, optD, notN, notI]
    · obtain ⟨o, us, p, ws, e, em, ep, hu, all⟩ := bso_first wf (menu := menu) (by intro z; rw [z] at h1; simp at h1)
      rw [e] at q
      have q : Q (.dat (.tuple [optD o, .int (us.length : Int)])) S := q
      have fi : (menu.map fun p => optD (wf p)).findIdx? (fun z => PyData.eqv z (optD o)) = some us.length := by
        rw [em, List.map_append, List.map_cons]
        have := find_at (fun z => PyData.eqv z (optD o)) (us.map fun p => optD (wf p)) (optD (wf p)) (ws.map fun p => optD (wf p)) (by show PyData.eqv (optD (wf p)) (optD o) = true; rw [eqv_opt, ep]; simp) (fun z hz => by
          obtain ⟨q2, hq2, rfl⟩ := List.mem_map.mp hz
          show PyData.eqv (optD (wf q2)) (optD o) = false
          rw [eqv_opt]
          simpa using hu q2 hq2)
        rw [this, List.length_map]
      have idx : indexS S (.dat (.list (menu.map fun p => optD (wf p)))) (.dat (optD o)) = some (.int (us.length : Int)) := by
        show (if SeqAt.shaped (.list (menu.map fun p => optD (wf p))) = true ∧ SeqAt.shaped (optD o) = true then _ else _) = _
        rw [if_pos ⟨nice_shaped (nice_list (k := 0) fun d hd => by
          obtain ⟨p2, _, rfl⟩ := List.mem_map.mp hd
          exact nice_opt _) (by decide), nice_shaped (nice_opt o) (by decide)⟩, fi]
        rfl
      have pm : p ∈ menu := by rw [em]; simp
      by_cases hF : menu.filter (fun p => (wf p).isSome) = []
      · have on : o = none := by
          cases c : o with
          | none => rfl
          | some v =>
            have : p ∈ menu.filter (fun p => (wf p).isSome) := List.mem_filter.mpr ⟨pm, by rw [ep, c]; rfl⟩
            rw [hF] at this
            cases this
        rw [hF]
        rw [on] at idx q
        exact ⟨.bool false, .inr ⟨rfl, rfl⟩, .inl ⟨rfl, _, idx, by decide, by simpa [optD] using q⟩⟩
      · obtain ⟨p2, hp2⟩ := List.exists_mem_of_ne_nil _ hF
        obtain ⟨v, rfl⟩ : ∃ v, o = some v := by
          cases c : o with
          | some v => exact ⟨v, rfl⟩
          | none =>
            obtain ⟨a1, a2⟩ := List.mem_filter.mp hp2
            have := all p2 a1
            obtain ⟨y, ey⟩ := Option.isSome_iff_exists.mp a2
            rw [ey, c] at this
            cases this
        have eI : ((menu.filter fun p => (wf p).isSome).map fun p => optD (wf p)) = ((menu.filter fun p => (wf p).isSome).map fun p => (wf p).getD 0).map PyData.int := by
          rw [List.map_map]
          refine List.map_congr_left fun p3 hp3 => ?_
          obtain ⟨y, ey⟩ := Option.isSome_iff_exists.mp (List.mem_filter.mp hp3).2
          simp [ey, optD]
        have mn : lmin ((menu.filter fun p => (wf p).isSome).map fun p => (wf p).getD 0) = some v := by
          refine lmin_at (List.mem_map.mpr ⟨p, List.mem_filter.mpr ⟨pm, by rw [ep]; rfl⟩, by rw [ep]; rfl⟩) (fun y hy => ?_)
          obtain ⟨p3, hp3, rfl⟩ := List.mem_map.mp hy
          obtain ⟨a1, a2⟩ := List.mem_filter.mp hp3
          obtain ⟨y, ey⟩ := Option.isSome_iff_exists.mp a2
          have := all p3 a1
          rw [ey] at this ⊢
          simp [betO] at this
          simpa using this
        have eM : minLS S [.dat (.list ((menu.filter fun p => (wf p).isSome).map fun p => optD (wf p)))] = some (.int v) := by
          show (asInts ((menu.filter fun p => (wf p).isSome).map fun p => optD (wf p))).bind (fun ns => (lmin ns).map PyData.int) = _
          rw [eI, asInts_map]
          show (lmin _).map PyData.int = _
          rw [List.map_id', mn]
          rfl
        have eq0 : eqD (.list ((menu.filter fun p => (wf p).isSome).map fun p => optD (wf p))) (.list []) = some false := by
          rw [eqD_nice (k := 1) (m := 1) (nice_list (k := 0) fun d hd => by
            obtain ⟨p3, _, rfl⟩ := List.mem_map.mp hd
            exact nice_opt _) (nice_list (k := 0) fun d hd => by cases hd) (by decide) (by decide)]
          cases cF : menu.filter (fun p => (wf p).isSome) with
          | nil => exact absurd cF hF
          | cons x r => rfl
        exact ⟨.bool true, .inl ⟨eq0, rfl⟩, .inr ⟨rfl, _, eM, _, idx, by decide, by simpa [optD] using q⟩⟩
end

end K11
set_option Elab.async false
set_option linter.all false
set_option maxRecDepth 100000
set_option maxHeartbeats 1000000
namespace K11
open PySem PySem.Spec L2 Dk
/-! one width, told and looked for -/
theorem drawn_small {b : Bk} (h : DrawnBook 4 8 7 1 b) : Bd.Small (rdL b) := fun r hr => by
  obtain ⟨q, hq, rfl⟩ := List.mem_map.mp hr
  obtain ⟨h1, h2, h3, h4, h5, h6, h7⟩ := h.r q hq
  show -1 ≤ (limD b q).1 ∧ (limD b q).1 ≤ 32 ∧ 0 ≤ (limD b q).2 ∧ (limD b q).2 ≤ 32
  unfold limD
  cases e : b.1[q.1.toNat]? with
  | none => exact ⟨by show (-1 : Int) ≤ 0; decide, by show (0 : Int) ≤ _; decide, Int.le_refl _, by show (0 : Int) ≤ _; decide⟩
  | some p =>
    obtain ⟨k1, k2, k3, k4⟩ := h.d p (List.mem_of_getElem? e)
    exact ⟨by show _ ≤ q.2.2.2 - p.1; omega, by show q.2.2.2 - p.1 ≤ _; omega, by show _ ≤ q.2.2.2 + p.2; omega, by show q.2.2.2 + p.2 ≤ _; omega⟩
theorem any_small {ts : List Int} {L : List Bd.Rd} {W : Bd.Web} (hs : Bd.Small L) (hl : L.length ≤ 4) (hp : ¬ Bd.Pos (Bd.gr ts L)) (hC : ∀ x ∈ ts, ∀ y, Bd.Best (Bd.gr ts L) x y (W x y)) {x y v : Int} (hx : x ∈ ts) (e : W x y = some v) : -132 ≤ v ∧ v ≤ 132 := by
  have sh : Bd.Shut (Bd.gr ts L) (fun _ => true) := fun _ _ _ => rfl
  obtain ⟨a, b⟩ := Bd.best_in sh hp (hC x hx y) e rfl
  obtain ⟨c, d⟩ := Bd.rd_small (fun _ => true) hs fun _ _ => rfl
  obtain ⟨f, g⟩ := Bd.flat0 (fun _ => true) (l := Bd.onE ts) fun e he => (Bd.onE_mem he).2.2
  have n : Bd.cntZ (fun _ => true) L ≤ 4 := by
    unfold Bd.cntZ
    have := List.length_filter_le (fun r : Bd.Rd => (fun _ : Int => true) r.1) L
    omega
  unfold Bd.gr at a b
  rw [Bd.upS_app] at a
  rw [Bd.dnS_app] at b
  omega
theorem width_both {b : Bk} (hd : DrawnBook 4 8 7 1 b) (h : OkBook b) (hp : ¬ Bd.Pos (grB b [])) {us : List Int} {W : Bd.Web} (ks : us.Pairwise (· < ·)) (ke : Bd.EndsL us (rdL b)) (kp : ¬ Bd.Pos (Bd.gr us (rdL b))) (hC : ∀ x ∈ us, ∀ y, Bd.Best (Bd.gr us (rdL b)) x y (W x y))
    {a c s g : Int} (a1 : 0 ≤ a) (a2 : a < c) (a3 : c ≤ 100) (s1 : 0 ≤ s) (s2 : s < g) (s3 : g ≤ 100) (ma : a ∈ us) (mc : c ∈ us) (ms : s ∈ us) (mg : g ∈ us) :
    WidO us W (a, c) (s, g) (wwK W (a, c) (s, g)) ∧ ∀ (S : Sto) (Q : OV → Sto → Prop) (X : Exn → Sto → Prop), Q (.dat (optD (wwK W (a, c) (s, g)))) S → Ok (F__law_width [.dat (bookD b), .dat (pairD (a, c)), .dat (pairD (s, g))] S) Q X := by
  have hsm := drawn_small hd
  have hn : b.2.length ≤ 4 := by have := hd.n; omega
  have hnL : (rdL b).length ≤ 4 := by simpa [rdL] using hn
  obtain ⟨low, el, l0⟩ := Bd.low_some ks hC ms mg (Int.le_of_lt s2)
  obtain ⟨wid, ew, _⟩ := Bd.low_some ks hC ma mc (Int.le_of_lt a2)
  have l1 := (any_small hsm hnL kp hC ms el).2
  have hu : ∀ u, W g s = some u → low ≤ -u ∧ -u ≤ 10000 := fun u e => by
    have t := Bd.best_tri (Bd.gr_ends ke) hC ms mg (z := s)
    rw [el, e, Bd.best_diag kp hC ms] at t
    have t : low + u ≤ 0 := t
    have := (any_small hsm hnL kp hC mg e).1
    omega
  have hA : piK W a c s g ≠ [] := by
    unfold piK
    rw [ew]
    simp [optL]
  have sA := (pi_ok (W := W) (a := a) (b := c) (s := s) (g := g)).2
  have sB := (pi_ok (W := W) (a := c) (b := a) (s := s) (g := g)).2
  have same : wwK W (a, c) (s, g) = lawW (piK W a c s g) (piK W c a s g) low (negO (W g s)) := by
    have e1 : wwK W (a, c) (s, g) = if piK W c a s g = [] then none else match W g s with
      | some u => lmax ((somK W (piK W a c s g) (piK W c a s g) ((W s g).getD 0) (-u)).map (widK (piK W a c s g) (piK W c a s g)))
      | none => if stK (piK W a c s g) + stK (piK W c a s g) < 0 then none else lmax ((somN (piK W a c s g) (piK W c a s g) ((W s g).getD 0)).map (widK (piK W a c s g) (piK W c a s g))) := rfl
    rw [e1, el]
    unfold lawW
    by_cases k : piK W c a s g = []
    · rw [if_pos k, if_pos k]
    · rw [if_neg k, if_neg k]
      cases e2 : W g s with
      | some u =>
        exact law_fin sA sB hA k (hu u e2).1
      | none =>
        have G : Bd.Gap us (rdL b) W s g := ⟨ks, ke, kp, hC, ms, mg, s2, e2⟩
        exact law_inf sA sB hA k (ord_pi G hsm hnL el ma mc) (ord_pi G hsm hnL el mc ma)
  refine ⟨width_o ma mc ms mg el (fun u e => (hu u e).1) hA, fun S Q X q => ?_⟩
  rw [same] at q
  exact law_width_t h hn hsm hp a1 a2 a3 s1 s2 s3 ks ke kp hC ma mc ms mg el l0 (by omega) hu q

end K11
set_option Elab.async false
set_option linter.all false
set_option maxRecDepth 100000
set_option maxHeartbeats 1000000
namespace K11
open PySem PySem.Spec L2 Dk
/-! k11: drawn books and menus -/
theorem lam_word11 {S : Sto} {Q : OV → Sto → Prop} {X : Exn → Sto → Prop} {f : E1} {ρ : Env1} (q : Ok (f ρ S) (fun _ S1 => Q (.dat (.str "fine")) S1) (fun e S1 => ∃ d, catchD [(mtOf tab_Impossible, .str "impossible"), (mtOf tab_InvalidMenu, .str "menu"), (mtOf tab_InvalidStretch, .str "stretch"), (mtOf tab_WalkError, .str "else")] e.cls = some d ∧ Q (.dat d) S1)) : Ok (fLam H__law_word f ρ S) Q X := by
  unfold H__law_word
  rw [ok_lam]
  exact q
theorem both11 {b : Bk} (hd : DrawnBook 4 8 7 1 b) (h : OkBook b) (hp : ¬ Bd.Pos (grB b [])) {w : Int × Int} (w1 : 0 ≤ w.1) (w2 : w.1 < w.2) (w3 : w.2 ≤ 100) {menu : List (Int × Int)} (h1 : 1 ≤ menu.length) (hl : menu.length ≤ 5) (hv : ∀ p ∈ menu, 0 ≤ p.1 ∧ p.1 < p.2 ∧ p.2 ≤ 100) :
    ∃ d : D, (∀ (S : Sto) (Q : OV → Sto → Prop) (X : Exn → Sto → Prop), Q (.dat d) S → Ok (F_best_stretch [.dat (bookD b), .dat (pairD w), .dat (.tuple (menu.map pairD))] S) Q X) ∧ (∀ (S : Sto) (Q : OV → Sto → Prop) (X : Exn → Sto → Prop), Q (.dat d) S → Ok (F__law_due [.dat (bookD b), .dat (pairD w), .dat (.tuple (menu.map pairD))] S) Q X) ∧ niceD 1 d := by
  have ks := times_sorted b (moreM menu w)
  have ke := times_ends b (moreM menu w)
  have kp : ¬ Bd.Pos (Bd.gr (timesB b (moreM menu w)) (rdL b)) := pos_any h hp
  have hC : ∀ x ∈ timesB b (moreM menu w), ∀ y, Bd.Best (Bd.gr (timesB b (moreM menu w)) (rdL b)) x y (webM b (moreM menu w) x y) := fun x hx y => Bd.fw_best (Bd.gr_ends ke) kp hx
  have mw : w.1 ∈ timesB b (moreM menu w) ∧ w.2 ∈ timesB b (moreM menu w) := by
    constructor <;> exact times_mem.mpr (.inl (by simp [moreM]))
  have mp : ∀ p ∈ menu, p.1 ∈ timesB b (moreM menu w) ∧ p.2 ∈ timesB b (moreM menu w) := fun p hp => by
    have e : p ∈ menu ++ [w] := List.mem_append.mpr (.inl hp)
    exact ⟨times_mem.mpr (.inl (List.mem_flatMap.mpr ⟨p, e, by simp⟩)), times_mem.mpr (.inl (List.mem_flatMap.mpr ⟨p, e, by simp⟩))⟩
  have wid := fun p (hp2 : p ∈ menu) => width_both hd h hp ks ke kp hC (a := w.1) (c := w.2) (s := p.1) (g := p.2) w1 w2 w3 (hv p hp2).1 (hv p hp2).2.1 (hv p hp2).2.2 mw.1 mw.2 (mp p hp2).1 (mp p hp2).2
  refine ⟨bsoD (bsoK (fun p => wwK (webM b (moreM menu w)) w p) menu 0 none), fun S Q X q => ?_, fun S Q X q => ?_, ?_⟩
  · exact best_str_o h hp w1 w2 (by omega) h1 hl (fun p hp2 => ⟨(hv p hp2).1, (hv p hp2).2.1, by have := (hv p hp2).2.2; omega⟩) (fun p => wwK (webM b (moreM menu w)) w p) (fun p hp2 => (wid p hp2).1) q
  · exact law_due_t hl h1 (fun p => wwK (webM b (moreM menu w)) w p) (fun p hp2 => (wid p hp2).2) q
  · cases bsoK (fun p => wwK (webM b (moreM menu w)) w p) menu 0 none with
    | none => exact ⟨by decide +kernel, by decide +kernel⟩
    | some z =>
      refine nice_tuple (k := 0) fun d hd => ?_
      · simp at hd
        rcases hd with rfl | rfl
        · exact nice_opt _
        · exact nice_int
section
variable {S : Sto} {Q : OV → Sto → Prop} {X : Exn → Sto → Prop}
theorem best_x {b : Bk} (h : OkBook b) (hp : Bd.Pos (grB b [])) {w : Int × Int} (w1 : 0 ≤ w.1) (w2 : w.1 < w.2) (w3 : w.2 ≤ 1000000000000000000000000000000) {menu : List (Int × Int)} (h1 : 1 ≤ menu.length) (hl : menu.length ≤ 5) (hv : ∀ p ∈ menu, 0 ≤ p.1 ∧ p.1 < p.2 ∧ p.2 ≤ 1000000000000000000000000000000) (q : X ⟨"Impossible", none⟩ S) : Ok (F_best_stretch [.dat (bookD b), .dat (pairD w), .dat (.tuple (menu.map pairD))] S) Q X := by
  refine ok_run (n := 3) (m := 3) (g := g_best_stretch) rfl ?_
  simp [g_best_stretch]
  refine need_book_t h ?_
  refine need_stretch_t w1 w2 w3 ?_
  refine need_menu_t h1 hl hv ?_
  refine need_possible_x h hp ?_
  simpa using q
end

end K11
set_option Elab.async false
set_option linter.all false
set_option maxRecDepth 100000
set_option maxHeartbeats 1000000
namespace K11
open PySem PySem.Spec L2 Dk
/-! k11: what is no menu, no stretch -/
section
variable {S : Sto} {Q : OV → Sto → Prop} {X : Exn → Sto → Prop}
theorem stretch_int {i : Int} (q : Q (.dat (.bool false)) S) : Ok (F_is_stretch [.dat (.int i)] S) Q X := by
  refine ok_run (n := 1) (m := 2) (g := g_is_stretch) rfl ?_
  simp [g_is_stretch, tyName, isTy]
  simpa using q
theorem stretch_pair {x y : Int} (hf : ¬ (0 ≤ x ∧ x < y ∧ y ≤ 1000000000000000000000000000000)) (q : Q (.dat (.bool false)) S) : Ok (F_is_stretch [.dat (.tuple [.int x, .int y])] S) Q X := by
  refine ok_run (n := 1) (m := 2) (g := g_is_stretch) rfl ?_
  simp [g_is_stretch, tyName, isTy]
  refine lc_mapT PyData.int [x, y] (fun i => .bool (numB (.int i) 0 1000000000000000000000000000000)) (by simp [sizeLine]) (by simp) (fun i hi T => ⟨_, rfl, ?_⟩) ?_
  · simp
    refine is_number_v ?_
    exact ⟨rfl, rfl⟩
  · refine ⟨_, ⟨[numB (.int x) 0 1000000000000000000000000000000, numB (.int y) 0 1000000000000000000000000000000], rfl, rfl⟩, ?_⟩
    by_cases c : 0 ≤ x ∧ x ≤ 1000000000000000000000000000000 ∧ 0 ≤ y ∧ y ≤ 1000000000000000000000000000000
    · obtain ⟨c1, c2, c3, c4⟩ := c
      have c5 : ¬ x < y := by omega
      refine .inr ⟨by simp [numB, c1, c2, c3, c4], _, rfl, _, rfl, .bool false, by simp; omega, by simpa using q⟩
    · refine .inl ⟨?_, by simpa using q⟩
      simp [numB]
      omega
theorem stretch_none (q : Q (.dat (.bool false)) S) : Ok (F_is_stretch [.dat .none] S) Q X := by
  refine ok_run (n := 1) (m := 2) (g := g_is_stretch) rfl ?_
  simp [g_is_stretch, tyName, isTy]
  simpa using q
theorem stretch_nil (q : Q (.dat (.bool false)) S) : Ok (F_is_stretch [.dat (.tuple [])] S) Q X := by
  refine ok_run (n := 1) (m := 2) (g := g_is_stretch) rfl ?_
  simp [g_is_stretch, tyName, isTy]
  simpa using q
theorem stretch_list {ds : List D} (q : Q (.dat (.bool false)) S) : Ok (F_is_stretch [.dat (.list ds)] S) Q X := by
  refine ok_run (n := 1) (m := 2) (g := g_is_stretch) rfl ?_
  simp [g_is_stretch, tyName, isTy]
  simpa using q
def NoStr (d : D) : Prop := ∀ (S : Sto) (Q : OV → Sto → Prop) (X : Exn → Sto → Prop), Q (.dat (.bool false)) S → Ok (F_is_stretch [.dat d] S) Q X
def NoMenu (d : D) : Prop := ∀ (S : Sto) (Q : OV → Sto → Prop) (X : Exn → Sto → Prop), X ⟨"InvalidMenu", none⟩ S → Ok (F_need_menu [.dat d] S) Q X
theorem best_odd_w {b : Bk} (h : OkBook b) {d e : D} (hd : NoStr d) (q : X ⟨"InvalidStretch", none⟩ S) : Ok (F_best_stretch [.dat (bookD b), .dat d, .dat e] S) Q X := by
  refine ok_run (n := 3) (m := 3) (g := g_best_stretch) rfl ?_
  simp [g_best_stretch]
  refine need_book_t h ?_
  refine ok_run (n := 1) (m := 1) (g := g_need_stretch) rfl ?_
  simp [g_need_stretch]
  refine hd _ _ _ ?_
  simpa using q
theorem best_odd_m {b : Bk} (h : OkBook b) {d : D} (hd : NoMenu d) (q : X ⟨"InvalidMenu", none⟩ S) : Ok (F_best_stretch [.dat (bookD b), .dat (.tuple [.int 0, .int 5]), .dat d] S) Q X := by
  refine ok_run (n := 3) (m := 3) (g := g_best_stretch) rfl ?_
  simp [g_best_stretch]
  refine need_book_t h ?_
  refine need_stretch_t (by decide) (by decide) (by decide) ?_
  refine hd _ _ _ ?_
  simpa using q
theorem menu_none (q : X ⟨"InvalidMenu", none⟩ S) : Ok (F_need_menu [.dat .none] S) Q X := by
  refine ok_run (n := 1) (m := 2) (g := g_need_menu) rfl ?_
  simp [g_need_menu, tyName, isTy]
  simpa using q
theorem menu_nil (q : X ⟨"InvalidMenu", none⟩ S) : Ok (F_need_menu [.dat (.tuple [])] S) Q X := by
  refine ok_run (n := 1) (m := 2) (g := g_need_menu) rfl ?_
  simp [g_need_menu, tyName, isTy]
  simpa using q
theorem menu_list {ds : List D} (q : X ⟨"InvalidMenu", none⟩ S) : Ok (F_need_menu [.dat (.list ds)] S) Q X := by
  refine ok_run (n := 1) (m := 2) (g := g_need_menu) rfl ?_
  simp [g_need_menu, tyName, isTy]
  simpa using q
theorem menu_six {a b c d e f : D} (q : X ⟨"InvalidMenu", none⟩ S) : Ok (F_need_menu [.dat (.tuple [a, b, c, d, e, f])] S) Q X := by
  refine ok_run (n := 1) (m := 2) (g := g_need_menu) rfl ?_
  simp [g_need_menu, tyName, isTy]
  simpa using q
/-- a menu of one to five things that are none -/
theorem menu_bad {ds : List D} (h1 : 1 ≤ ds.length) (h2 : ds.length ≤ 5) (hf : ∀ d ∈ ds, ∀ (S : Sto) (Q : OV → Sto → Prop) (X : Exn → Sto → Prop), Q (.dat (.bool false)) S → Ok (F_is_stretch [.dat d] S) Q X) (q : X ⟨"InvalidMenu", none⟩ S) : Ok (F_need_menu [.dat (.tuple ds)] S) Q X := by
  refine ok_run (n := 1) (m := 2) (g := g_need_menu) rfl ?_
  simp [g_need_menu, tyName, isTy]
  refine .inr ⟨by omega, .inr ⟨by omega, ?_⟩⟩
  have e0 : ds.map (fun d : D => d) = ds := List.map_id' _
  have := lc_mapT (QF := fun ds S1 => ∃ d, (∃ a, asBools ds = some a ∧ PyData.bool (a.all id) = d) ∧ (d = PyData.bool false ∧ X ⟨"InvalidMenu", none⟩ (S1.take S.length) ∨ d = PyData.bool true ∧ Q (.dat .none) (S1.take S.length))) (X := fun e S1 => X e (S1.take S.length)) (src := none) (tg := tgN 1) (elt := fCall F_is_stretch (aCons (fVar 1) aNil)) (σ := [some (.dat (.tuple ds)), none]) (S := S) (fun d : D => d) ds (fun _ => .bool false) (by unfold sizeLine; omega) (by simp) (fun d hd T => ⟨_, rfl, by
    simp
    exact hf d hd _ _ _ ⟨rfl, rfl⟩⟩) (by
    have e : (ds.map fun _ => PyData.bool false) = (ds.map fun _ => false).map PyData.bool := by simp
    rw [e, asBools_map]
    refine ⟨_, ⟨_, rfl, rfl⟩, .inl ⟨?_, by simpa using q⟩⟩
    cases ds with
    | nil => simp at h1
    | cons d r => simp)
  rw [e0] at this
  exact this
def odW : List D := [.none, .tuple [], .tuple [.int 5, .int 5], .tuple [.int (-1), .int 5], .list [.int 0, .int 5], .tuple [.int 0, .int 1000000000000000000000000000001]]
def p05 : D := .tuple [.int 0, .int 5]
def odM : List D := [.none, .tuple [], .list [p05], .tuple [.tuple [.int 5, .int 5]], .tuple [p05, p05, p05, p05, p05, p05], p05]
theorem odW_no : ∀ d ∈ odW, NoStr d := by
  intro d hd
  simp [odW] at hd
  rcases hd with rfl | rfl | rfl | rfl | rfl | rfl <;> intro S Q X q
  · exact stretch_none q
  · exact stretch_nil q
  · exact stretch_pair (by decide) q
  · exact stretch_pair (by decide) q
  · exact stretch_list q
  · exact stretch_pair (by decide) q
theorem odM_no : ∀ d ∈ odM, NoMenu d := by
  intro d hd
  simp [odM] at hd
  rcases hd with rfl | rfl | rfl | rfl | rfl | rfl <;> intro S Q X q
  · exact menu_none q
  · exact menu_nil q
  · exact menu_list q
  · refine menu_bad (by decide) (by decide) (fun d hd S Q X q => ?_) q
    rw [List.mem_singleton.mp hd]
    exact stretch_pair (by decide) q
  · exact menu_six q
  · refine menu_bad (ds := [.int 0, .int 5]) (by decide) (by decide) (fun d hd S Q X q => ?_) q
    simp at hd
    rcases hd with rfl | rfl <;> exact stretch_int q
end

end K11
set_option Elab.async false
set_option linter.all false
set_option maxRecDepth 100000
set_option maxHeartbeats 1000000
namespace K11
open PySem PySem.Spec L2 Dk
/-! k11: one drawn turn -/
section
variable {S : Sto} {Q : OV → Sto → Prop} {X : Exn → Sto → Prop}
theorem word_x {b : Bk} (h : OkBook b) (hp : Bd.Pos (grB b [])) {w : Int × Int} (w1 : 0 ≤ w.1) (w2 : w.1 < w.2) (w3 : w.2 ≤ 100) {menu : List (Int × Int)} (h1 : 1 ≤ menu.length) (hl : menu.length ≤ 5) (hv : ∀ p ∈ menu, 0 ≤ p.1 ∧ p.1 < p.2 ∧ p.2 ≤ 100) {ρ : Env1} (e4 : ρ[4]?.join = some (.dat (bookD b))) (e5 : ρ[5]?.join = some (.dat (pairD w))) (e6 : ρ[6]?.join = some (.dat (.tuple (menu.map pairD)))) (q : Q (.dat (.str "impossible")) S) :
    Ok (fLam H__law_word (fCall F_best_stretch (aCons (fVar 4) (aCons (fVar 5) (aCons (fVar 6) aNil)))) ρ S) Q X := by
  refine lam_word11 ?_
  simp [e4, e5, e6]
  refine best_x h hp w1 w2 (by omega) h1 hl (fun p hp => ⟨(hv p hp).1, (hv p hp).2.1, by have := (hv p hp).2.2; omega⟩) ?_
  exact ⟨_, rfl, q⟩
theorem due_eq {b : Bk} (hd : DrawnBook 4 8 7 1 b) (h : OkBook b) (hp : ¬ Bd.Pos (grB b [])) {w : Int × Int} (w1 : 0 ≤ w.1) (w2 : w.1 < w.2) (w3 : w.2 ≤ 100) {menu : List (Int × Int)} (h1 : 1 ≤ menu.length) (hl : menu.length ≤ 5) (hv : ∀ p ∈ menu, 0 ≤ p.1 ∧ p.1 < p.2 ∧ p.2 ≤ 100) {ρ : Env1} (e4 : ρ[4]?.join = some (.dat (bookD b))) (e5 : ρ[5]?.join = some (.dat (pairD w))) (e6 : ρ[6]?.join = some (.dat (.tuple (menu.map pairD)))) (q : Q (.dat (.bool false)) S) :
    Ok (op2 neS (fCall F_best_stretch (aCons (fVar 4) (aCons (fVar 5) (aCons (fVar 6) aNil)))) (fCall F__law_due (aCons (fVar 4) (aCons (fVar 5) (aCons (fVar 6) aNil)))) ρ S) Q X := by
  obtain ⟨dd, q1, q2, nd⟩ := both11 hd h hp w1 w2 w3 h1 hl hv
  simp [e4, e5, e6]
  refine q1 _ _ _ ?_
  refine q2 _ _ _ ?_
  refine ⟨.bool false, ?_, q⟩
  rw [neS_dat, eqD_refl (nice_shaped nd (by decide))]
  rfl
theorem seq_cut {a b : SS} {ρ : Env1} {S : Sto} {QS : Fl → Env1 → Sto → Prop} (I : Env1 → Sto → Prop) (h1 : OkS (a ρ S) (fun fl ρ1 S1 => fl = .nx ∧ I ρ1 S1)) (h2 : ∀ ρ1 S1, I ρ1 S1 → OkS (b ρ1 S1) QS) : OkS (sSeq a b ρ S) QS := by
  rw [ok_sSeq]
  refine h1.imp fun fl ρ1 S1 hh => ?_
  obtain ⟨rfl, hI⟩ := hh
  exact h2 ρ1 S1 hI
theorem law_can11 {b : Bk} (h : OkBook b) (q : Q (.dat (.bool (canK b))) S) : Ok (F__law_can_be [.dat (bookD b), .dat (.list [])] S) Q X := by
  refine can_be_t2 (told := []) h (by decide) fun k hk => ?_
  have e : k = canK b := by
    rw [Bool.eq_iff_iff, canK_iff]
    exact hk
  rw [e]
  exact q
theorem if_can {b : Bk} (h : OkBook b) {T E : SS} {ρ : Env1} {QS : Fl → Env1 → Sto → Prop} (e4 : ρ[4]?.join = some (.dat (bookD b))) (hn : canK b = false → OkS (T ρ S) QS) (hy : canK b = true → OkS (E ρ S) QS) : OkS (sIf (bNot (bOf (fCall F__law_can_be (aCons (fVar 4) (aCons (frz (fLst aNil)) aNil))))) T E ρ S) QS := by
  simp [e4]
  refine law_can11 h ?_
  cases c : canK b with
  | false => exact .inl ⟨rfl, hn c⟩
  | true => exact .inr ⟨rfl, hy c⟩
theorem if_word {F : E1} {ρ : Env1} {QS : Fl → Env1 → Sto → Prop} (hF : ∀ (Q : OV → Sto → Prop) (X : Exn → Sto → Prop), Q (.dat (.str "impossible")) S → Ok (F ρ S) Q X) (q : QS .nx ρ S) : OkS (sIf (bOf (op2 neS F (fC (.str "impossible")))) (sRet (fC (.bool false))) sNx ρ S) QS := by
  simp
  refine hF _ _ ?_
  exact ⟨.bool false, by rw [neS_dat, eqD_str]; simp, .inl ⟨rfl, q⟩⟩
theorem if_due {F : E1} {ρ : Env1} {QS : Fl → Env1 → Sto → Prop} (hF : ∀ (Q : OV → Sto → Prop) (X : Exn → Sto → Prop), Q (.dat (.bool false)) S → Ok (F ρ S) Q X) (q : QS .nx ρ S) : OkS (sIf (bOf F) (sRet (fC (.bool false))) sNx ρ S) QS := by
  simp
  refine hF _ _ ?_
  exact .inl ⟨rfl, q⟩
end

end K11
set_option Elab.async false
set_option linter.all false
set_option maxRecDepth 100000
set_option maxHeartbeats 1000000
namespace K11
open PySem PySem.Spec L2 Dk
/-! k11: the written books -/
theorem width_gen {b : Bk} (h : OkBook b) {us : List Int} {W : Bd.Web} (ks : us.Pairwise (· < ·)) (ke : Bd.EndsL us (rdL b)) (kp : ¬ Bd.Pos (Bd.gr us (rdL b))) (hC : ∀ x ∈ us, ∀ y, Bd.Best (Bd.gr us (rdL b)) x y (W x y))
    {a c s g : Int} (a2 : a < c) (s2 : s < g) (ma : a ∈ us) (mc : c ∈ us) (ms : s ∈ us) (mg : g ∈ us) : WidO us W (a, c) (s, g) (wwK W (a, c) (s, g)) := by
  obtain ⟨low, el, l0⟩ := Bd.low_some ks hC ms mg (Int.le_of_lt s2)
  obtain ⟨wid, ew, _⟩ := Bd.low_some ks hC ma mc (Int.le_of_lt a2)
  have hu : ∀ u, W g s = some u → low ≤ -u := fun u e => by
    have t := Bd.best_tri (Bd.gr_ends ke) hC ms mg (z := s)
    rw [el, e, Bd.best_diag kp hC ms] at t
    have t : low + u ≤ 0 := t
    omega
  have hA : piK W a c s g ≠ [] := by
    unfold piK
    rw [ew]
    simp [optL]
  exact width_o ma mc ms mg el hu hA
def dueK (b : Bk) (w : Int × Int) (menu : List (Int × Int)) : Option (Option Int × Nat) := bsoK (fun p => wwK (webM b (moreM menu w)) w p) menu 0 none
theorem best_gen {b : Bk} (h : OkBook b) (hp : canK b = true) {w : Int × Int} (w1 : 0 ≤ w.1) (w2 : w.1 < w.2) (w3 : w.2 ≤ 1000000000000000000000000000000) {menu : List (Int × Int)} (h1 : 1 ≤ menu.length) (hl : menu.length ≤ 5) (hv : ∀ p ∈ menu, 0 ≤ p.1 ∧ p.1 < p.2 ∧ p.2 ≤ 1000000000000000000000000000000)
    {o : Option Int} {n : Nat} (e : dueK b w menu = some (o, n)) {S : Sto} {Q : OV → Sto → Prop} {X : Exn → Sto → Prop} (q : Q (.dat (.tuple [optD o, .int (n : Int)])) S) : Ok (F_best_stretch [.dat (bookD b), .dat (pairD w), .dat (.tuple (menu.map pairD))] S) Q X := by
  have hp := canK_iff.mp hp
  have ks := times_sorted b (moreM menu w)
  have ke := times_ends b (moreM menu w)
  have kp : ¬ Bd.Pos (Bd.gr (timesB b (moreM menu w)) (rdL b)) := pos_any h hp
  have hC : ∀ x ∈ timesB b (moreM menu w), ∀ y, Bd.Best (Bd.gr (timesB b (moreM menu w)) (rdL b)) x y (webM b (moreM menu w) x y) := fun x hx y => Bd.fw_best (Bd.gr_ends ke) kp hx
  have mw : w.1 ∈ timesB b (moreM menu w) ∧ w.2 ∈ timesB b (moreM menu w) := by
    constructor <;> exact times_mem.mpr (.inl (by simp [moreM]))
  have mp : ∀ p ∈ menu, p.1 ∈ timesB b (moreM menu w) ∧ p.2 ∈ timesB b (moreM menu w) := fun p hp => by
    have e : p ∈ menu ++ [w] := List.mem_append.mpr (.inl hp)
    exact ⟨times_mem.mpr (.inl (List.mem_flatMap.mpr ⟨p, e, by simp⟩)), times_mem.mpr (.inl (List.mem_flatMap.mpr ⟨p, e, by simp⟩))⟩
  refine best_str_o h hp w1 w2 w3 h1 hl hv (fun p => wwK (webM b (moreM menu w)) w p) (fun p hp2 => width_gen h ks ke kp hC w2 (hv p hp2).2.1 mw.1 mw.2 (mp p hp2).1 (mp p hp2).2) ?_
  have e' : bsoK (fun p => wwK (webM b (moreM menu w)) w p) menu 0 none = some (o, n) := e
  rw [e']
  exact q
def twoB : Bk := ([(0, 0)], [(0, 0, 10, 100000000000000000000000000000), (0, 5, 20, 150000000000000000000000000000)])
def bareB : Bk := ([(0, 0)], [])
def nineB : Bk := ([(1, 2)], [(0, 0, 10, 9)])
theorem two1 : dueK twoB (0, 20) [(12, 15), (0, 5)] = some (some 0, 1) := by decide +kernel
theorem two2 : dueK twoB (0, 30) [(0, 5)] = some (none, 0) := by decide +kernel
theorem two3 : dueK twoB (0, 20) [(12, 15)] = some (some 100000000000000000000000000000, 0) := by decide +kernel
theorem two4 : dueK twoB (0, 20) [(5, 10), (0, 5)] = some (some 0, 0) := by decide +kernel
theorem two5 : dueK twoB (0, 5) [(0, 3), (2, 8)] = some (some 100000000000000000000000000000, 0) := by decide +kernel
theorem two6 : dueK twoB (0, 10) [(0, 30), (9, 10)] = some (some 0, 0) := by decide +kernel
theorem bare1 : dueK bareB (0, 5) [(0, 10)] = some (none, 0) := by decide +kernel
theorem bare2 : dueK bareB (0, 5) [(0, 10), (0, 5)] = some (some 0, 1) := by decide +kernel
theorem nine1 : dueK nineB (0, 10) [(0, 5), (0, 10), (0, 11)] = some (some 0, 1) := by decide +kernel
theorem can2 : canK twoB = true := by decide +kernel
theorem can0 : canK bareB = true := by decide +kernel
theorem can9 : canK nineB = true := by decide +kernel
theorem two_ok : OkBook twoB := ⟨by decide, by decide, by simp [twoB, okDev], by decide, by simp [twoB, okRow]⟩
theorem bare_ok : OkBook bareB := ⟨by decide, by decide, by simp [bareB, okDev], by decide, by simp [bareB]⟩
theorem nine_ok : OkBook nineB := ⟨by decide, by decide, by simp [nineB, okDev], by decide, by simp [nineB, okRow]⟩
theorem res_shaped (o : Option Int) (n : Int) : eqD (.tuple [optD o, .int n]) (.tuple [optD o, .int n]) = some true := eqD_refl (nice_shaped (k := 1) (nice_tuple (k := 0) fun d hd => by
  simp only [List.mem_cons, List.not_mem_nil, or_false] at hd
  rcases hd with rfl | rfl
  · exact nice_opt _
  · exact nice_int) (by decide))
theorem ne_res (S : Sto) (o : Option Int) (n : Int) : neS S (.dat (.tuple [optD o, .int n])) (.dat (.tuple [optD o, .int n])) = some (.bool false) := by
  rw [neS_dat, res_shaped]
  rfl
theorem eq_res (S : Sto) (o : Option Int) (n : Int) : eqS S (.dat (.tuple [optD o, .int n])) (.dat (.tuple [optD o, .int n])) = some (.bool true) := by
  rw [eqS_dat, res_shaped]
  rfl

end K11
set_option Elab.async false
set_option linter.all false
set_option maxRecDepth 100000
set_option maxHeartbeats 1000000
namespace K11
open PySem PySem.Spec L2 Dk
/-! k11: the law -/
def ceK (ns : List Int) (ds : List D) (ρ : Env1) (_ : Sto) : Prop := ∃ (cs : List Int) (x1 x2 x3 x4 x5 x6 x7 : Option OV), ds = cs.map .int ∧ ρ = [some (.dat (.list (ns.map .int))), x1, x2, x3, x4, x5, x6, x7, none, none, none, none]
def tuK (ns : List Int) (cell : Int) (k : Nat) (U : Sto) (ds : List D) (ρ : Env1) (S' : Sto) : Prop := ∃ (g n : Int) (x3 x4 x5 x6 x7 : Option OV), S' = fl U k g n ∧ (ds.length = 3 ∨ ∃ b, OkBook b ∧ x4 = some (.dat (bookD b))) ∧
  ρ = [some (.dat (.list (ns.map .int))), some (.dat (.int cell)), some (.own k), x3, x4, x5, x6, x7, none, none, none, none]
def oK (ns : List Int) (b : Bk) (P : D → Prop) (x1 x2 x3 x5 x6 : Option OV) (T : Sto) (ds : List D) (ρ : Env1) (S' : Sto) : Prop := ∃ (x7 : Option OV), S' = T ∧ (∀ d ∈ ds, P d) ∧
  ρ = [some (.dat (.list (ns.map .int))), x1, x2, x3, some (.dat (bookD b)), x5, x6, x7, none, none, none, none]
theorem law_plain : ∀ ns : List Int, ns.length ≤ 63 → F_law [.dat (.list (ns.map .int))] [] = some (.inl (.dat (.bool true)), []) := by
  intro ns hn
  refine Ok.eq ?_
  refine ok_run (n := 1) (m := 12) (g := g_law) rfl ?_
  unfold g_law
  rw [ok_sSeq, ok_sFor]
  simp
  refine ⟨by decide, _, ⟨by simp [sizeLine]; omega, rfl⟩, _, rfl, .inl ⟨_, rfl, ?_⟩⟩
  have e0 : cutD (PyData.int 0 :: ns.map PyData.int) none (some 4) = (0 :: ns.take 3).map PyData.int := by
    rw [show (4 : Int) = ((4 : Nat) : Int) from rfl, cut_to]
    simp
  rw [e0]
  refine okS_cut (ceK ns []) ?_ fun ρ S' hI => ?_
  · refine for_inv (I := ceK ns) (fun d r ρ S' hI => ?_) (fun ρ S' hI => ⟨by simp [srcOf], hI⟩) _ ⟨_, none, none, none, none, none, none, none, rfl, rfl⟩
    obtain ⟨cs, a1, a2, a3, a4, a5, a6, a7, e, rfl⟩ := hI
    cases cs with
    | nil => cases e
    | cons c cs =>
      cases e
      refine ⟨by simp [srcOf], _, rfl, ?_⟩
      simp
      refine flask_t fun g n => ?_
      rw [fl_new]
      have hk : S'.length < (S' ++ [(PyData.none : D)]).length := by simp
      generalize S' ++ [(PyData.none : D)] = U at hk ⊢
      generalize S'.length = k at hk ⊢
      simp [lim62]
      refine for_inv (I := tuK ns c k U) (fun d r ρ S2 hI => ?_) (fun ρ S2 hI => ?_) _ ⟨g, n, _, _, _, _, _, rfl, .inl rfl, rfl⟩
      · obtain ⟨g1, n1, x3, x4, x5, x6, x7, rfl, _, rfl⟩ := hI
        refine ⟨by simp [srcOf], _, rfl, ?_⟩
        refine seq_cut (fun ρ S2 => ∃ (b : Bk) (g2 n2 : Int), DrawnBook 4 8 7 1 b ∧ S2 = fl U k g2 n2 ∧ ρ = [some (.dat (.list (ns.map .int))), some (.dat (.int c)), some (.own k), some (.dat d), some (.dat (bookD b)), x5, x6, x7, none, none, none, none]) ?_ fun ρ S2 hI => ?_
        · simp
          refine any_book_t hk (by decide) (by decide) (by decide) (by decide) (by decide) (by decide) (by decide) (by decide) fun b g2 n2 hb => ?_
          exact ⟨b.1, b.2, hb, ⟨_, _, rfl⟩, rfl⟩
        obtain ⟨b, g2, n2, hb, rfl, rfl⟩ := hI
        have hB : OkBook b := drawn_ok hb (by decide) (by decide) (by decide) (by decide)
        refine seq_cut (fun ρ S2 => ∃ (s e g3 n3 : Int), 0 ≤ s ∧ s < e ∧ e ≤ 8 ∧ S2 = fl U k g3 n3 ∧ ρ = [some (.dat (.list (ns.map .int))), some (.dat (.int c)), some (.own k), some (.dat d), some (.dat (bookD b)), some (.dat (pairD (s, e))), x6, x7, none, none, none, none]) ?_ fun ρ S2 hI => ?_
        · simp
          refine any_stretch_t hk (by decide) (by decide) fun s e g3 n3 i1 i2 i3 => ?_
          exact ⟨s, i1, e, i2, i3, ⟨_, _, rfl⟩, rfl⟩
        obtain ⟨s, e, g3, n3, i1, i2, i3, rfl, rfl⟩ := hI
        refine seq_cut (fun ρ S2 => ∃ (us : List (Int × Int)) (g3 n3 : Int), (∀ p ∈ us, 0 ≤ p.1 ∧ p.1 < p.2 ∧ p.2 ≤ 9) ∧ 1 ≤ us.length ∧ us.length ≤ 3 ∧ S2 = fl U k g3 n3 ∧ ρ = [some (.dat (.list (ns.map .int))), some (.dat (.int c)), some (.own k), some (.dat d), some (.dat (bookD b)), some (.dat (pairD (s, e))), some (.dat (.tuple (us.map pairD))), x7, none, none, none, none]) ?_ fun ρ S2 hI => ?_
        · simp
          refine sip_t hk (by decide) (by decide) fun r1 g4 n4 r0 r2 => ?_
          refine ⟨.int (1 + r1), rfl, 1 + r1, rfl, by unfold lim62; omega, by unfold lim62; omega, ?_⟩
          refine lc_fold (I := fun ds acc S' => ∃ (g n : Int) (us : List (Int × Int)), S' = fl U k g n ∧ acc = us.map pairD ∧ (∀ p ∈ us, 0 ≤ p.1 ∧ p.1 < p.2 ∧ p.2 ≤ 9) ∧ us.length + ds.length = (1 + r1).toNat) ⟨g4, n4, [], rfl, rfl, by simp, by simp⟩ (fun d2 rr acc S' hI => ?_) (fun acc S' hI => ?_)
          · obtain ⟨g5, n5, us, rfl, rfl, u1, u2⟩ := hI
            simp at u2
            refine ⟨by simp, by simp [sizeLine]; omega, by simp, _, rfl, ?_⟩
            simp
            rw [fl_app hk]
            have hk2 : k < (U ++ [PyData.list (us.map pairD)]).length := by simp; omega
            refine any_stretch_t hk2 (by decide) (by decide) fun s2 e2 g6 n6 j1 j2 j3 => ?_
            refine ⟨_, rfl, fl U k g6 n6, (fl_app hk).symm, by simp, ⟨g6, n6, rfl⟩, us ++ [(s2, e2)], by simp [pairD], fun x y hp => ?_, by simp; omega⟩
            rcases List.mem_append.mp hp with hp | hp
            · exact u1 (x, y) hp
            · have := List.mem_singleton.mp hp
              cases this
              exact ⟨j1, j2, j3⟩
          · obtain ⟨g5, n5, us, rfl, rfl, u1, u2⟩ := hI
            simp at u2
            refine ⟨by simp, by simp, ?_⟩
            exact ⟨us, fun x y hp => u1 (x, y) hp, by omega, by omega, ⟨_, _, rfl⟩, rfl⟩
        obtain ⟨us, g5, n5, u1, u2, u3, rfl, rfl⟩ := hI
        have fine : ∀ ρ S2, ρ = [some (.dat (.list (ns.map .int))), some (.dat (.int c)), some (.own k), some (.dat d), some (.dat (bookD b)), some (.dat (pairD (s, e))), some (.dat (.tuple (us.map pairD))), x7, none, none, none, none] → S2 = fl U k g5 n5 → tuK ns c k U r ρ S2 := fun ρ S2 hρ hS => ⟨g5, n5, _, _, _, _, _, hS, .inr ⟨b, hB, rfl⟩, hρ⟩
        have hv : ∀ p ∈ us, 0 ≤ p.1 ∧ p.1 < p.2 ∧ p.2 ≤ 100 := fun p hp => ⟨(u1 p hp).1, (u1 p hp).2.1, by have := (u1 p hp).2.2; omega⟩
        refine if_can hB rfl (fun cK => ?_) (fun cK => ?_)
        · have pos : Bd.Pos (grB b []) := by
            by_cases z : Bd.Pos (grB b [])
            · exact z
            · rw [canK_iff.mpr z] at cK
              cases cK
          exact if_word (fun Q X q => word_x hB pos (w := (s, e)) i1 i2 (by show e ≤ 100; omega) u2 (by omega) hv rfl rfl rfl q) (fine _ _ rfl rfl)
        · exact if_due (fun Q X q => due_eq hb hB (canK_iff.mp cK) (w := (s, e)) i1 i2 (by show e ≤ 100; omega) u2 (by omega) hv rfl rfl rfl q) (fine _ _ rfl rfl)
      · obtain ⟨g1, n1, x3, x4, x5, x6, x7, rfl, hx, rfl⟩ := hI
        refine ⟨by simp [srcOf], ?_⟩
        rcases hx with hx | ⟨b, hB, rfl⟩
        · cases hx
        simp
        have em : mulS (fl U k g1 n1) (.dat (.tuple [.tuple [.int 0, .int 5]])) (.dat (.int 6)) = some (.tuple [p05, p05, p05, p05, p05, p05]) := by
          simp [mulS, view, p05]
        refine ⟨by decide, by decide, by decide, by decide, by decide, by decide, _, em, by decide, by decide, ?_⟩
        refine for_inv (I := oK ns b NoMenu (some (.dat (.int c))) (some (.own k)) x3 x5 x6 (fl U k g1 n1)) (fun d2 r2 ρ S2 hI => ?_) (fun ρ S2 hI => ?_) _ ⟨_, rfl, odM_no, rfl⟩
        · obtain ⟨y7, rfl, hall, rfl⟩ := hI
          refine ⟨by simp [srcOf], _, rfl, ?_⟩
          simp
          refine lam_word11 ?_
          simp
          refine ⟨by decide, ?_⟩
          refine best_odd_m hB (hall d2 (by simp)) ?_
          exact ⟨_, rfl, .bool false, .inr ⟨by rw [eqD_str]; simp, rfl⟩, .inl ⟨rfl, _, rfl, fun x hx => hall x (by simp [hx]), rfl⟩⟩
        · obtain ⟨y7, rfl, hall, rfl⟩ := hI
          refine ⟨by simp [srcOf], ?_⟩
          simp
          repeat refine ⟨by decide, ?_⟩
          refine for_inv (I := oK ns b NoStr (some (.dat (.int c))) (some (.own k)) x3 x5 x6 (fl U k g1 n1)) (fun d2 r2 ρ S2 hI => ?_) (fun ρ S2 hI => ?_) _ ⟨_, rfl, odW_no, rfl⟩
          · obtain ⟨y7, rfl, hall, rfl⟩ := hI
            refine ⟨by simp [srcOf], _, rfl, ?_⟩
            simp
            refine lam_word11 ?_
            simp
            refine best_odd_w hB (hall d2 (by simp)) ?_
            exact ⟨_, rfl, .bool false, .inr ⟨by rw [eqD_str]; simp, rfl⟩, .inl ⟨rfl, _, rfl, fun x hx => hall x (by simp [hx]), rfl⟩⟩
          · obtain ⟨y7, rfl, hall, rfl⟩ := hI
            exact ⟨by simp [srcOf], cs, _, _, _, _, _, _, _, rfl, rfl⟩
  · obtain ⟨cs, a1, a2, a3, a4, a5, a6, a7, e, rfl⟩ := hI
    simp
    refine ⟨by decide, by decide, _, ⟨by unfold big; decide, rfl⟩, by decide, _, ⟨by unfold big; decide, rfl⟩, ?_⟩
    repeat refine ⟨by decide, ?_⟩
    refine best_gen (b := twoB) (w := (0, 20)) (menu := [(12, 15), (0, 5)]) two_ok can2 (by decide) (by decide) (by decide) (by decide) (by decide) (by decide) two1 ?_
    refine ⟨by decide, .bool false, ne_res _ (some 0) 1, rfl, ?_⟩
    repeat refine ⟨by decide, ?_⟩
    refine best_gen (b := twoB) (w := (0, 30)) (menu := [(0, 5)]) two_ok can2 (by decide) (by decide) (by decide) (by decide) (by decide) (by decide) two2 ?_
    refine ⟨by decide, .bool false, ne_res _ none 0, rfl, ?_⟩
    repeat refine ⟨by decide, ?_⟩
    refine best_gen (b := twoB) (w := (0, 20)) (menu := [(12, 15)]) two_ok can2 (by decide) (by decide) (by decide) (by decide) (by decide) (by decide) two3 ?_
    refine ⟨_, ⟨by unfold big; decide, rfl⟩, by decide, .bool false, ne_res _ (some 100000000000000000000000000000) 0, rfl, ?_⟩
    repeat refine ⟨by decide, ?_⟩
    refine best_gen (b := twoB) (w := (0, 20)) (menu := [(5, 10), (0, 5)]) two_ok can2 (by decide) (by decide) (by decide) (by decide) (by decide) (by decide) two4 ?_
    refine ⟨by decide, .bool false, ne_res _ (some 0) 0, rfl, ?_⟩
    repeat refine ⟨by decide, ?_⟩
    refine best_gen (b := twoB) (w := (0, 5)) (menu := [(0, 3), (2, 8)]) two_ok can2 (by decide) (by decide) (by decide) (by decide) (by decide) (by decide) two5 ?_
    refine ⟨_, ⟨by unfold big; decide, rfl⟩, by decide, .bool false, ne_res _ (some 100000000000000000000000000000) 0, rfl, ?_⟩
    repeat refine ⟨by decide, ?_⟩
    refine best_gen (b := bareB) (w := (0, 5)) (menu := [(0, 10)]) bare_ok can0 (by decide) (by decide) (by decide) (by decide) (by decide) (by decide) bare1 ?_
    refine ⟨by decide, .bool false, ne_res _ none 0, rfl, ?_⟩
    repeat refine ⟨by decide, ?_⟩
    refine best_gen (b := bareB) (w := (0, 5)) (menu := [(0, 10), (0, 5)]) bare_ok can0 (by decide) (by decide) (by decide) (by decide) (by decide) (by decide) bare2 ?_
    refine ⟨by decide, .bool false, ne_res _ (some 0) 1, rfl, ?_⟩
    repeat refine ⟨by decide, ?_⟩
    refine best_gen (b := twoB) (w := (0, 10)) (menu := [(0, 30), (9, 10)]) two_ok can2 (by decide) (by decide) (by decide) (by decide) (by decide) (by decide) two6 ?_
    refine ⟨by decide, .bool false, ne_res _ (some 0) 0, rfl, ?_⟩
    repeat refine ⟨by decide, ?_⟩
    refine best_gen (b := nineB) (w := (0, 10)) (menu := [(0, 5), (0, 10), (0, 11)]) nine_ok can9 (by decide) (by decide) (by decide) (by decide) (by decide) (by decide) nine1 ?_
    exact ⟨by decide, eq_res _ (some 0) 1⟩

end K11
open PySem PySem.W PyProof.Rows
set_option maxRecDepth 100000 in
set_option maxHeartbeats 0 in
theorem PySem.Challenge.cw_walkcounts_k11_whole_stretches_best_coun_holds : PySem.Challenge.rw_walkcounts_k11_whole_stretches_best_coun.Holds := by
  w_on; o_law; k_head; (case hw => w_witness2)
  k_fill
  refine Dk.walk_ofL (l := PySem.Challenge.rw_walkcounts_k11_whole_stretches_best_coun) (n := 63) (k := 9) (x := "_law_script") (C := Dk.cOf) (F := K11.F_law) rfl (by decide) rfl ⟨rfl, by decide, by decide⟩ _ (fun w h Y => ⟨PySem.W.km_in_of Y, PySem.W.km_tabs_of Y⟩) ?T ?F K11.law_plain
  · intro w
    kernel_rfl
  intro w mg fa h KX G XP hmg
  exact K11.law_ok KX G (by show He.obsE _ _ _ = He.valE _; kernel_rfl) (by kernel_rfl) (by kernel_rfl) (by kernel_rfl) (by kernel_rfl) (by kernel_rfl) (by kernel_rfl) (by kernel_rfl) (by kernel_rfl) (by kernel_rfl) (Dk.loose_int XP (by simp)) (Dk.loose_int XP (by simp)) (by kernel_rfl) hmg

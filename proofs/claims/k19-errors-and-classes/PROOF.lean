import PyProof.Rows.All
import Wide.All
import OpenK.AllK
import Wide.FinOn
import HandS.ForMost
import HandS.ForExc
import HandS.Lambda
import HandS.ExcInit
import HandS.EndTab
import HandS.HeadHook3
import KE.KNest
import HandS.Deep
import HandS.TupAny
import HandS.TupMul
import HandS.IsInst
import HandS.Conv
import HandS.SortInts
import HandS.Strs
import HandS.Set
import KE.SortData
import HandS.Walk
import HandS.Zip
import HandS.SetFor
import HandS.WrittenGet
import Wide.Loose
import HandS.Ends
import HandS.TryMany
import HandS.Dict
import PyProof.EnumMake
import PyProof.Draws
import PyProof.TupleIter
import KE.GoesMore
import HandS.Iter
import KE.KDictPairs
import HandS.Style
import HandS.Small
import HandS.CallLocal
import HandS.CallSlots
import KE.SortCalls
import KE.LtData
import HandS.More
import HandS.ExcField
import HandS.ExcValue
import KE.KExcIs
import KE.KExcStr
import PySem.Challenge.RW_walkcounts_k19_errors_and_their_classes
import HandS.Text
set_option Elab.async false
set_option linter.all false
set_option maxRecDepth 100000
set_option maxHeartbeats 4000000
/-! Data over the heap: what a value bears as plain data, frozen or owned; the basic relations. -/
namespace Dk
open PySem PySem.Spec L2

abbrev D := PyData
/-- a value that is held: plain data, or one of the owned (changing) objects -/
inductive OV where
  | dat (d : D)
  | own (n : Nat)
structure Exn where
  cls : Str
  arg : Option (Str × D)
/-- an answer: a value or an error, with the owned objects behind it -/
abbrev Rs (α : Type) := Option (Sum α Exn × List D)
abbrev Sto := List D
abbrev Env1 := List (Option OV)
def Rs.bind {α β : Type} (r : Rs α) (k : α → Sto → Rs β) : Rs β :=
  match r with
  | none => none
  | some (.inr e, S) => some (.inr e, S)
  | some (.inl a, S) => k a S
def ret {α : Type} (a : α) (S : Sto) : Rs α := some (.inl a, S)

/-! ### the frozen part of a heap: what is not owned, and no table of code objects -/
def noTb : Option HO → Option HO
  | some (.tbl _) => none
  | o => o
theorem noTb_some {x : Option HO} {o : HO} (h : noTb x = some o) : x = some o ∧ ∀ ps, o ≠ .tbl ps := by
  unfold noTb at h
  split at h
  · cases h
  · rename_i n
    refine ⟨h, fun ps z => ?_⟩
    subst z
    exact n ps h
theorem noTb_of {x : Option HO} {o : HO} (h : x = some o) (n : ∀ ps, o ≠ .tbl ps) : noTb x = some o := by
  subst h
  unfold noTb
  split
  · rename_i ps z
    exact absurd (Option.some.inj z) (n ps)
  · rfl
def mask (L : List Addr) (H : Hp) : Hp := fun a => if a ∈ L then none else noTb (H a)
theorem mask_some {L : List Addr} {H : Hp} {a : Addr} {o : HO} (h : mask L H a = some o) : a ∉ L ∧ H a = some o := by
  unfold mask at h
  split at h
  · cases h
  · exact ⟨by assumption, (noTb_some h).1⟩
theorem mask_nt {L : List Addr} {H : Hp} {a : Addr} {o : HO} (h : mask L H a = some o) : ∀ ps, o ≠ .tbl ps := by
  unfold mask at h
  split at h
  · cases h
  · exact (noTb_some h).2
theorem mask_of {L : List Addr} {H : Hp} {a : Addr} {o : HO} (h : a ∉ L) (e : H a = some o) (n : ∀ ps, o ≠ .tbl ps := by intro _ z; cases z) : mask L H a = some o := by
  unfold mask
  rw [if_neg h]
  exact noTb_of e n
theorem mask_same (L : List Addr) (H : Hp) : Same (mask L H) H := fun a o h => (mask_some h).2
theorem mask_less {L M : List Addr} {H : Hp} (h : ∀ a ∈ M, a ∈ L) : Same (mask L H) (mask M H) := fun a o e => by
  obtain ⟨h1, h2⟩ := mask_some e
  exact mask_of (fun z => h1 (h a z)) h2 (mask_nt e)

/-! ### the tables of the defs that make lambdas -/
def tabNames : List Str := ["law", "_law_right", "_law_judged", "_law_refuses", "_law_both", "_law_trials_right", "_law_full_right", "_law_booked", "_law_others", "_law_told_right", "_law_inward"]
def lamQ (x : Str) : Str := x ++ ".<locals>." ++ "<lambda>"
def tabCs (K : PySem.W.Frag) : List (Str × Addr × Addr) := tabNames.filterMap fun x => (PySem.W.tabIn K x).map fun cp => (x, cp)
def tabsOf (K : PySem.W.Frag) : List (Addr × Str) := (tabCs K).map fun p => (p.2.2, lamQ p.1)
theorem tabs_but {T : List (Addr × Str)} {H H' : Hp} {p : Addr} {z : HO} (t : LamX.Tabs T H) (hp : H p = some z) (n1 : ∀ ps, z ≠ .tbl ps) (n2 : ∀ c q, z ≠ LamX.CodeO c q) (e : ∀ b o, b ≠ p → H b = some o → H' b = some o) : LamX.Tabs T H' := fun x hx => by
  obtain ⟨ps, h1, h2, h3⟩ := t x hx
  refine ⟨ps, e _ _ (fun q => ?_) h1, h2, fun pos cv hc => ?_⟩
  · rw [q, hp] at h1
    exact n1 ps (Option.some.inj h1)
  · obtain ⟨c, e1, e2⟩ := h3 pos cv hc
    refine ⟨c, e1, e _ _ (fun q => ?_) e2⟩
    rw [q, hp] at e2
    exact n2 _ _ (Option.some.inj e2)
theorem same_rd {H H' : Hp} {a : Addr} {u : HO} (e : Same H H') (h : Rd H a u) : Rd H' a u := by
  rcases h with h | ⟨o, h⟩
  · exact .inl (e _ _ h)
  · exact .inr ⟨o, e _ _ h⟩
theorem same_l {K : PySem.W.Frag} {H H' : Hp} {a : Addr} {xs : List V} (e : Same H H') (h : SqL K H a xs) : SqL K H' a xs := by
  rcases h with h | h
  · exact .inl (same_rd e h)
  · exact .inr h
theorem same_t {K : PySem.W.Frag} {H H' : Hp} {a : Addr} {xs : List V} (e : Same H H') (h : SqT K H a xs) : SqT K H' a xs := by
  rcases h with h | h
  · exact .inl (same_rd e h)
  · exact .inr h

/-! ### a value bears data -/
def keyD : Key → D
  | .inl i => .int i
  | .inr x => .str x
def keysD (ks : List Key) : D := .tuple (ks.map keyD)

/-- a value that no operator touches: a def of the module -/
def opD (y : D) : D := .dict [(.none, y)]
def isOpD : D → Bool
  | .dict ((.none, _) :: _) => true
  | _ => false
/-- an exception of the class at A, its arguments in the tuple at t0, no dict -/
def ExAO (A t0 a : Addr) : HO := .ext fun h => h.get? a = some ({ cls := .ref A, dict := none, data := .fields #[.ref t0, .none, .none, .none, .bool false, .none] } : Obj)
theorem exAO_ok {P : Program} {w : World} {H : Hp} {h : Heap} {A t0 a : Addr} (e : h.get? a = some ({ cls := .ref A, dict := none, data := .fields #[.ref t0, .none, .none, .none, .bool false, .none] } : Obj)) : ObjOk P w H h a (ExAO A t0 a) := ⟨e, ⟨_, e⟩, fun h1 h2 z k => k _ z⟩
/-- what an opaque value is: a def of the module, an exception (of one text; with one field) -/
inductive Opq (K : PySem.W.Frag) (G : Hp) : V → D → Prop
  | fn (x : Str) : Opq K G (.ref (He.ga K x)) (.str x)
  | exS {a t0 : Addr} (x t : Str) : G a = some (ExAO (He.ga K x) t0 a) → G t0 = some (.tup [.str t]) → Opq K G (.ref a) (.tuple [.str x, .str t])
  | exF {a dx : Addr} (x f : Str) (n : Int) : G a = some (exo a (He.ga K x) (some dx)) → G dx = some (exd dx [(f, .int n)]) → Opq K G (.ref a) (.tuple [.str x, .str f, .int n])
theorem Opq.mono {K : PySem.W.Frag} {G G' : Hp} (e : Same G G') {v : V} {y : D} (h : Opq K G v y) : Opq K G' v y := by
  cases h with
  | fn x => exact .fn x
  | exS x t h1 h2 => exact .exS x t (e _ _ h1) (e _ _ h2)
  | exF x f n h1 h2 => exact .exF x f n (e _ _ h1) (e _ _ h2)
theorem Opq.ref {K : PySem.W.Frag} {G : Hp} {v : V} {y : D} (h : Opq K G v y) : ∃ a, v = .ref a := by
  cases h <;> exact ⟨_, rfl⟩
mutual
inductive Rep (K : PySem.W.Frag) (G : Hp) : V → D → Prop
  | non : Rep K G .non .none
  | bl (b : Bool) : Rep K G (.bl b) (.bool b)
  | int (i : Int) : Rep K G (.int i) (.int i)
  | str (x : Str) : Rep K G (.str x) (.str x)
  | lst {a : Addr} {vs : List V} {ds : List D} : SqL K G a vs → Reps K G vs ds → Rep K G (.ref a) (.list ds)
  | tup {a : Addr} {vs : List V} {ds : List D} : G a = some (.tup vs) → Reps K G vs ds → Rep K G (.ref a) (.tuple ds)
  | dk {a : Addr} {ks : List Key} {vs : List V} {ds : List D} : ks.length = vs.length → G a = some (.dK (ks.zip vs)) → Reps K G vs ds → Rep K G (.ref a) (.dict ((ks.map keyD).zip ds))
  | dt {a : Addr} {ks : List (List Key)} {vs : List V} {ds : List D} : ks.length = vs.length → G a = some (.dT (ks.zip vs)) → Reps K G vs ds → Rep K G (.ref a) (.dict ((ks.map keysD).zip ds))
  | op {v : V} {y : D} : Opq K G v y → Rep K G v (opD y)
inductive Reps (K : PySem.W.Frag) (G : Hp) : List V → List D → Prop
  | nil : Reps K G [] []
  | cons {v : V} {vs : List V} {d : D} {ds : List D} : Rep K G v d → Reps K G vs ds → Reps K G (v :: vs) (d :: ds)
end

section
variable {K : PySem.W.Frag} {G G' : Hp}
mutual
theorem Rep.mono (e : Same G G') : ∀ {v : V} {d : D}, Rep K G v d → Rep K G' v d
  | _, _, .non => .non
  | _, _, .bl b => .bl b
  | _, _, .int i => .int i
  | _, _, .str x => .str x
  | _, _, .lst h r => .lst (same_l e h) (Reps.mono e r)
  | _, _, .tup h r => .tup (e _ _ h) (Reps.mono e r)
  | _, _, .dk hl h r => .dk hl (e _ _ h) (Reps.mono e r)
  | _, _, .dt hl h r => .dt hl (e _ _ h) (Reps.mono e r)
  | _, _, .op h => .op (h.mono e)
theorem Reps.mono (e : Same G G') : ∀ {vs : List V} {ds : List D}, Reps K G vs ds → Reps K G' vs ds
  | _, _, .nil => .nil
  | _, _, .cons h r => .cons (Rep.mono e h) (Reps.mono e r)
end
theorem Reps.length : ∀ {vs : List V} {ds : List D}, Reps K G vs ds → vs.length = ds.length
  | _, _, .nil => rfl
  | _, _, .cons _ r => congrArg (· + 1) (Reps.length r)
theorem Reps.get : ∀ {vs : List V} {ds : List D} {i : Nat} {v : V}, Reps K G vs ds → vs[i]? = some v → ∃ d, ds[i]? = some d ∧ Rep K G v d
  | _, _, _, _, .nil, e => by simp at e
  | _, _, 0, _, .cons h _, e => by simp at e; subst e; exact ⟨_, rfl, h⟩
  | _, _, i + 1, v, .cons _ r, e => by
    obtain ⟨d, h1, h2⟩ := Reps.get (i := i) (v := v) r (by simpa using e)
    exact ⟨d, by simpa using h1, h2⟩
theorem Reps.at_ : ∀ {vs : List V} {ds : List D} {i : Nat} {d : D}, Reps K G vs ds → ds[i]? = some d → ∃ v, vs[i]? = some v ∧ Rep K G v d
  | _, _, _, _, .nil, e => by simp at e
  | _, _, 0, _, .cons h _, e => by simp at e; subst e; exact ⟨_, rfl, h⟩
  | _, _, i + 1, d, .cons _ r, e => by
    obtain ⟨v, h1, h2⟩ := Reps.at_ (i := i) (d := d) r (by simpa using e)
    exact ⟨v, by simpa using h1, h2⟩
theorem Reps.append : ∀ {vs ws : List V} {ds es : List D}, Reps K G vs ds → Reps K G ws es → Reps K G (vs ++ ws) (ds ++ es)
  | _, _, _, _, .nil, s => s
  | _, _, _, _, .cons h r, s => .cons h (Reps.append r s)
theorem Reps.take : ∀ {vs : List V} {ds : List D} (n : Nat), Reps K G vs ds → Reps K G (vs.take n) (ds.take n)
  | _, _, 0, _ => .nil
  | _, _, _ + 1, .nil => .nil
  | _, _, n + 1, .cons h r => .cons h (Reps.take n r)
theorem Reps.drop : ∀ {vs : List V} {ds : List D} (n : Nat), Reps K G vs ds → Reps K G (vs.drop n) (ds.drop n)
  | _, _, 0, r => r
  | _, _, _ + 1, .nil => .nil
  | _, _, n + 1, .cons _ r => Reps.drop n r
theorem Reps.set {v : V} {d : D} (h : Rep K G v d) : ∀ {vs : List V} {ds : List D} (i : Nat), Reps K G vs ds → Reps K G (vs.set i v) (ds.set i d)
  | _, _, _, .nil => .nil
  | _, _, 0, .cons _ r => .cons h r
  | _, _, i + 1, .cons q r => .cons q (Reps.set h i r)
theorem Reps.eraseIdx : ∀ {vs : List V} {ds : List D} (i : Nat), Reps K G vs ds → Reps K G (vs.eraseIdx i) (ds.eraseIdx i)
  | _, _, _, .nil => .nil
  | _, _, 0, .cons _ r => r
  | _, _, i + 1, .cons q r => .cons q (Reps.eraseIdx i r)
theorem Reps.one {v : V} {d : D} (h : Rep K G v d) : Reps K G [v] [d] := .cons h .nil

/-- plain data as the layer's own reading has it -/
theorem canLayAll_cons {x : D} {xs : List D} (h : PyData.canLayAll0 (x :: xs) = true) : PyData.canLay0 x = true ∧ PyData.canLayAll0 xs = true := by
  simpa [PyData.canLayAll0] using h
mutual
theorem Rep.dp : ∀ {v : V} {d : D}, Rep K G v d → PyData.canLay0 d = true → Dp K G v d
  | _, _, .non, _ => .non
  | _, _, .bl b, _ => .bl b
  | _, _, .int i, _ => .int i
  | _, _, .str x, _ => .str x
  | _, _, .lst h r, c => .lst h (Reps.dp r (by simpa [PyData.canLay0] using c))
  | _, _, .tup h r, c => .tup (SqT.of h) (Reps.dp r (by simpa [PyData.canLay0] using c))
  | _, _, .dk _ _ _, c => by simp [PyData.canLay0] at c
  | _, _, .dt _ _ _, c => by simp [PyData.canLay0] at c
  | _, _, .op _, c => by simp [opD, PyData.canLay0] at c
theorem Reps.dp : ∀ {vs : List V} {ds : List D}, Reps K G vs ds → PyData.canLayAll0 ds = true → DpAll K G vs ds
  | _, _, .nil, _ => .nil
  | _, _, .cons h r, c => .cons (Rep.dp h (canLayAll_cons c).1) (Reps.dp r (canLayAll_cons c).2)
end
/-- ints, texts, bools in a row -/
theorem Reps.ints : ∀ {vs : List V} {ns : List Int}, Reps K G vs (ns.map .int) → vs = ns.map V.int
  | _, [], .nil => rfl
  | _, _ :: _, .cons (.int _) r => congrArg (V.int _ :: ·) (Reps.ints r)
theorem Reps.of_ints : ∀ ns : List Int, Reps K G (ns.map V.int) (ns.map .int)
  | [] => .nil
  | n :: ns => .cons (.int n) (Reps.of_ints ns)
theorem Reps.bools : ∀ {vs : List V} {bs : List Bool}, Reps K G vs (bs.map .bool) → vs = bs.map V.bl
  | _, [], .nil => rfl
  | _, _ :: _, .cons (.bl _) r => congrArg (V.bl _ :: ·) (Reps.bools r)
theorem Reps.strs : ∀ {vs : List V} {xs : List Str}, Reps K G vs (xs.map .str) → vs = xs.map V.str
  | _, [], .nil => rfl
  | _, _ :: _, .cons (.str _) r => congrArg (V.str _ :: ·) (Reps.strs r)
theorem Reps.of_strs : ∀ ns : List Str, Reps K G (ns.map V.str) (ns.map .str)
  | [] => .nil
  | n :: ns => .cons (.str n) (Reps.of_strs ns)
end

/-! ### what is owned, and a step from one heap to the next -/
/-- the mark of a dict that is walked just now -/
def lockD : D × D := (.none, .none)
def isLk : List (D × D) → Bool
  | (.none, _) :: _ => true
  | _ => false
def ObjR (K : PySem.W.Frag) (G H : Hp) (a : Addr) : D → Prop
  | .list ds => ∃ vs, H a = some (.lst vs) ∧ Reps K G vs ds
  | .dict kvs => (∃ (ks : List Key) (vs : List V) (ds : List D), ks.length = vs.length ∧ H a = some (.dK (ks.zip vs)) ∧ Reps K G vs ds ∧ kvs = (ks.map keyD).zip ds ∧ ks ≠ []) ∨
      (∃ (ks : List (List Key)) (vs : List V) (ds : List D), ks.length = vs.length ∧ H a = some (.dT (ks.zip vs)) ∧ Reps K G vs ds ∧ kvs = (ks.map keysD).zip ds) ∨
      (∃ (ob : Obj) (ks : List Key) (vs : List V) (ds : List D), ks.length = vs.length ∧ H a = some (.frz ob (.dK (ks.zip vs))) ∧ Reps K G vs ds ∧ kvs = lockD :: (ks.map keyD).zip ds ∧ ks ≠ []) ∨
      ∃ (ob : Obj) (ks : List (List Key)) (vs : List V) (ds : List D), ks.length = vs.length ∧ H a = some (.frz ob (.dT (ks.zip vs))) ∧ Reps K G vs ds ∧ kvs = lockD :: (ks.map keysD).zip ds
  | _ => False
structure StoR (K : PySem.W.Frag) (L : List Addr) (H : Hp) (S : Sto) : Prop where
  nd : L.Nodup
  len : L.length = S.length
  obj : ∀ (n : Nat) (a : Addr) (d : D), L[n]? = some a → S[n]? = some d → ObjR K (mask L H) H a d
  tb : LamX.Tabs (tabsOf K) H
structure Step (L : List Addr) (H : Hp) (L' : List Addr) (H' : Hp) : Prop where
  frz : Same (mask L H) (mask L' H')
  pre : ∃ M, L' = L ++ M
  fz : ∀ b ob u, H b = some (.frz ob u) → H' b = some (.frz ob u)
def RepO (K : PySem.W.Frag) (L : List Addr) (H : Hp) (v : V) : OV → Prop
  | .dat d => Rep K (mask L H) v d
  | .own n => ∃ a, v = .ref a ∧ L[n]? = some a
def EnvR (K : PySem.W.Frag) (L : List Addr) (H : Hp) (σ : St) (ρ : Env1) : Prop :=
  σ.length = ρ.length ∧ ∀ (i : Nat) (o : OV), ρ[i]? = some (some o) → ∃ v, σ[i]? = some (some v) ∧ RepO K L H v o
inductive RepOs (K : PySem.W.Frag) (L : List Addr) (H : Hp) : List V → List OV → Prop
  | nil : RepOs K L H [] []
  | cons {v : V} {vs : List V} {o : OV} {os : List OV} : RepO K L H v o → RepOs K L H vs os → RepOs K L H (v :: vs) (o :: os)

section
variable {K : PySem.W.Frag} {L L' L3 : List Addr} {H H' H2 : Hp} {S : Sto}
theorem Step.refl : Step L H L H := ⟨Same.refl _, ⟨[], by simp⟩, fun _ _ _ e => e⟩
theorem Step.trans (a : Step L H L' H') (b : Step L' H' L3 H2) : Step L H L3 H2 := by
  obtain ⟨M, rfl⟩ := a.pre
  obtain ⟨N, rfl⟩ := b.pre
  exact ⟨a.frz.trans b.frz, ⟨M ++ N, by simp⟩, fun c ob u h => b.fz c ob u (a.fz c ob u h)⟩
theorem Step.get (a : Step L H L' H') {n : Nat} {x : Addr} (h : L[n]? = some x) : L'[n]? = some x := by
  obtain ⟨M, rfl⟩ := a.pre
  have hn : n < L.length := by
    rcases Nat.lt_or_ge n L.length with q | q
    · exact q
    · rw [List.getElem?_eq_none q] at h
      cases h
  rw [List.getElem?_append_left hn]
  exact h
theorem RepO.step (a : Step L H L' H') {v : V} : ∀ {o : OV}, RepO K L H v o → RepO K L' H' v o
  | .dat _, h => Rep.mono a.frz h
  | .own _, ⟨x, h1, h2⟩ => ⟨x, h1, a.get h2⟩
theorem RepOs.step (a : Step L H L' H') : ∀ {vs : List V} {os : List OV}, RepOs K L H vs os → RepOs K L' H' vs os
  | _, _, .nil => .nil
  | _, _, .cons h r => .cons (h.step a) (RepOs.step a r)
theorem RepOs.length : ∀ {vs : List V} {os : List OV}, RepOs K L H vs os → vs.length = os.length
  | _, _, .nil => rfl
  | _, _, .cons _ r => congrArg (· + 1) (RepOs.length r)
theorem EnvR.step (a : Step L H L' H') {σ : St} {ρ : Env1} (h : EnvR K L H σ ρ) : EnvR K L' H' σ ρ :=
  ⟨h.1, fun i o e => by
    obtain ⟨v, h1, h2⟩ := h.2 i o e
    exact ⟨v, h1, h2.step a⟩⟩
theorem EnvR.set {σ : St} {ρ : Env1} (h : EnvR K L H σ ρ) {v : V} {o : OV} (r : RepO K L H v o) (i : Nat) : EnvR K L H (σ.set i (some v)) (ρ.set i (some o)) := by
  refine ⟨by rw [List.length_set, List.length_set]; exact h.1, fun j o' e => ?_⟩
  by_cases hij : i = j
  · subst hij
    by_cases hl : i < ρ.length
    · rw [List.getElem?_set_self hl] at e
      cases e
      exact ⟨v, List.getElem?_set_self (by rw [h.1]; exact hl), r⟩
    · rw [List.getElem?_eq_none (by rw [List.length_set]; omega)] at e
      cases e
  · rw [List.getElem?_set_ne hij] at e ⊢
    exact h.2 j o' e
theorem EnvR.get {σ : St} {ρ : Env1} (h : EnvR K L H σ ρ) {i : Nat} {o : OV} (e : ρ[i]? = some (some o)) : ∃ v, σ[i]? = some (some v) ∧ RepO K L H v o := h.2 i o e
theorem EnvR.wipe {σ : St} {ρ : Env1} (h : EnvR K L H σ ρ) (i : Nat) : EnvR K L H (σ.set i none) (ρ.set i none) := by
  refine ⟨by rw [List.length_set, List.length_set]; exact h.1, fun j o' e => ?_⟩
  by_cases hij : i = j
  · subst hij
    by_cases hl : i < ρ.length
    · rw [List.getElem?_set_self hl] at e
      cases e
    · rw [List.getElem?_eq_none (by rw [List.length_set]; omega)] at e
      cases e
  · rw [List.getElem?_set_ne hij] at e ⊢
    exact h.2 j o' e

theorem ObjR.some {G : Hp} {a : Addr} : ∀ {d : D}, ObjR K G H a d → ∃ o, H a = some o
  | .list _, ⟨_, h, _⟩ => ⟨_, h⟩
  | .dict _, .inl ⟨_, _, _, _, h, _⟩ => ⟨_, h⟩
  | .dict _, .inr (.inl ⟨_, _, _, _, h, _⟩) => ⟨_, h⟩
  | .dict _, .inr (.inr (.inl ⟨_, _, _, _, _, h, _⟩)) => ⟨_, h⟩
  | .dict _, .inr (.inr (.inr ⟨_, _, _, _, _, h, _⟩)) => ⟨_, h⟩
theorem objR_kind {G : Hp} {a : Addr} : ∀ {d : D}, ObjR K G H a d → ∃ o, H a = some o ∧ (∀ ps, o ≠ .tbl ps) ∧ ∀ c q, o ≠ LamX.CodeO c q
  | .list _, ⟨_, h, _⟩ => ⟨_, h, fun _ z => (by cases z), fun _ _ z => (by unfold LamX.CodeO at z; cases z)⟩
  | .dict _, .inl ⟨_, _, _, _, h, _⟩ => ⟨_, h, fun _ z => (by cases z), fun _ _ z => (by unfold LamX.CodeO at z; cases z)⟩
  | .dict _, .inr (.inl ⟨_, _, _, _, h, _⟩) => ⟨_, h, fun _ z => (by cases z), fun _ _ z => (by unfold LamX.CodeO at z; cases z)⟩
  | .dict _, .inr (.inr (.inl ⟨_, _, _, _, _, h, _⟩)) => ⟨_, h, fun _ z => (by cases z), fun _ _ z => (by unfold LamX.CodeO at z; cases z)⟩
  | .dict _, .inr (.inr (.inr ⟨_, _, _, _, _, h, _⟩)) => ⟨_, h, fun _ z => (by cases z), fun _ _ z => (by unfold LamX.CodeO at z; cases z)⟩
/-- an owned address is tracked -/
theorem StoR.there (s : StoR K L H S) {a : Addr} (h : a ∈ L) : ∃ o, H a = some o := by
  obtain ⟨n, hn, e⟩ := List.mem_iff_getElem.mp h
  have h1 : L[n]? = some a := by rw [List.getElem?_eq_getElem hn, e]
  have h2 : S[n]? = some (S[n]'(by rw [← s.len]; exact hn)) := List.getElem?_eq_getElem _
  exact (s.obj n a _ h1 h2).some
theorem StoR.new (s : StoR K L H S) {p : Addr} (h : H p = none) : p ∉ L := fun z => by
  obtain ⟨o, e⟩ := s.there z
  rw [h] at e
  cases e
theorem ObjR.mono {G G' : Hp} {a : Addr} (e : Same G G') (k : H' a = H a) : ∀ {d : D}, ObjR K G H a d → ObjR K G' H' a d
  | .list _, ⟨vs, h, r⟩ => ⟨vs, k.trans h, Reps.mono e r⟩
  | .dict _, .inl ⟨ks, vs, ds, h1, h, r, q⟩ => .inl ⟨ks, vs, ds, h1, k.trans h, Reps.mono e r, q⟩
  | .dict _, .inr (.inl ⟨ks, vs, ds, h1, h, r, q⟩) => .inr (.inl ⟨ks, vs, ds, h1, k.trans h, Reps.mono e r, q⟩)
  | .dict _, .inr (.inr (.inl ⟨ob, ks, vs, ds, h1, h, r, q⟩)) => .inr (.inr (.inl ⟨ob, ks, vs, ds, h1, k.trans h, Reps.mono e r, q⟩))
  | .dict _, .inr (.inr (.inr ⟨ob, ks, vs, ds, h1, h, r, q⟩)) => .inr (.inr (.inr ⟨ob, ks, vs, ds, h1, k.trans h, Reps.mono e r, q⟩))
/-- a new object is laid -/
theorem mask_upd_new {p : Addr} {o : HO} (h : H p = none) : Same (mask L H) (mask L (upd H p o)) := fun a u e => by
  obtain ⟨h1, h2⟩ := mask_some e
  refine mask_of h1 ?_ (mask_nt e)
  rw [upd_ne (ne_of_none h2 h)]
  exact h2
theorem step_new {p : Addr} {o : HO} (h : H p = none) : Step L H L (upd H p o) := ⟨mask_upd_new h, ⟨[], by simp⟩, fun b ob u e => by rw [upd_ne (ne_of_none e h)]; exact e⟩
theorem StoR.laid (s : StoR K L H S) {p : Addr} {o : HO} (h : H p = none) : StoR K L (upd H p o) S :=
  ⟨s.nd, s.len, fun n a d h1 h2 => (s.obj n a d h1 h2).mono (mask_upd_new h) (upd_ne fun e => by
    have := s.there (List.mem_of_getElem? h1)
    rw [e, h] at this
    obtain ⟨_, z⟩ := this
    cases z), s.tb.ext fun b u e => by rw [upd_ne (ne_of_none e h)]; exact e⟩
/-- a new owned object -/
theorem mask_own_new {p : Addr} {o : HO} (h : H p = none) : mask (L ++ [p]) (upd H p o) = mask L H := by
  funext a
  unfold mask
  by_cases hp : a = p
  · subst hp
    by_cases ha : a ∈ L
    · rw [if_pos ha, if_pos (by simp [ha])]
    · rw [if_neg ha, if_pos (by simp), h]
      rfl
  · by_cases ha : a ∈ L
    · rw [if_pos ha, if_pos (by simp [ha])]
    · rw [if_neg ha, if_neg (by simp [ha, hp]), upd_ne hp]
theorem StoR.own (s : StoR K L H S) {p : Addr} {o : HO} (h : H p = none) {d : D} (od : ObjR K (mask L H) (upd H p o) p d) : Step L H (L ++ [p]) (upd H p o) ∧ StoR K (L ++ [p]) (upd H p o) (S ++ [d]) := by
  have hp := s.new h
  refine ⟨⟨by rw [mask_own_new h]; exact Same.refl _, ⟨[p], rfl⟩, fun b ob u e => by rw [upd_ne (ne_of_none e h)]; exact e⟩, ?_, by simp [s.len], fun n a e h1 h2 => ?_, s.tb.ext fun b u e => by rw [upd_ne (ne_of_none e h)]; exact e⟩
  · rw [List.nodup_append]
    exact ⟨s.nd, by simp, fun x hx y hy e => by
      simp at hy
      subst hy
      subst e
      exact hp hx⟩
  · rw [mask_own_new h]
    rcases Nat.lt_or_ge n L.length with q | q
    · rw [List.getElem?_append_left q] at h1
      rw [List.getElem?_append_left (by rw [← s.len]; exact q)] at h2
      refine (s.obj n a e h1 h2).mono (Same.refl _) (upd_ne fun z => ?_)
      exact hp (z ▸ List.mem_of_getElem? h1)
    · rw [List.getElem?_append_right q] at h1
      rw [List.getElem?_append_right (by rw [← s.len]; exact q)] at h2
      have e1 : n - L.length = 0 := by
        cases hz : n - L.length with
        | zero => rfl
        | succ k =>
          rw [hz] at h1
          simp at h1
      rw [e1] at h1
      rw [← s.len, e1] at h2
      simp at h1 h2
      subst h1
      subst h2
      exact od
/-- an owned object is changed -/
theorem mask_upd_own {p : Addr} {o : HO} (h : p ∈ L) : mask L (upd H p o) = mask L H := by
  funext a
  unfold mask
  by_cases ha : a ∈ L
  · rw [if_pos ha, if_pos ha]
  · have hne : a ≠ p := fun e => ha (by rw [e]; exact h)
    rw [if_neg ha, if_neg ha, upd_ne hne]
theorem nf_of {p : Addr} {o : HO} (e : H p = some o) (n : ∀ ob u, o ≠ .frz ob u := by intro _ _ z; cases z) : ∀ ob u, H p ≠ some (.frz ob u) := fun ob u z => by
  rw [e] at z
  exact n _ _ (Option.some.inj z)
theorem StoR.wr (s : StoR K L H S) {n : Nat} {p : Addr} {o : HO} (hp : L[n]? = some p) {d : D} (od : ObjR K (mask L H) (upd H p o) p d) : StoR K L (upd H p o) (S.set n d) := by
  have hm := List.mem_of_getElem? hp
  obtain ⟨u, hu, n1, n2⟩ : ∃ u, H p = some u ∧ (∀ ps, u ≠ .tbl ps) ∧ ∀ c q, u ≠ LamX.CodeO c q := by
    have hl : n < S.length := by
      rw [← s.len]
      exact (List.getElem?_eq_some_iff.mp hp).1
    exact objR_kind (s.obj n p _ hp (List.getElem?_eq_getElem hl))
  refine ⟨s.nd, by simp [s.len], fun j a e h1 h2 => ?_, tabs_but s.tb hu n1 n2 fun b v hb e => by rw [upd_ne hb]; exact e⟩
  rw [mask_upd_own hm]
  by_cases hj : n = j
  · subst hj
    rw [hp] at h1
    cases h1
    have hl : n < S.length := by
      rw [← s.len]
      exact (List.getElem?_eq_some_iff.mp hp).1
    rw [List.getElem?_set_self hl] at h2
    cases h2
    exact od
  · rw [List.getElem?_set_ne hj] at h2
    refine (s.obj j a e h1 h2).mono (Same.refl _) (upd_ne fun z => ?_)
    subst z
    have q1 := (List.getElem?_eq_some_iff.mp hp)
    have q2 := (List.getElem?_eq_some_iff.mp h1)
    exact hj (List.getElem_inj s.nd |>.mp (q1.2.trans q2.2.symm))
theorem StoR.write (s : StoR K L H S) {n : Nat} {p : Addr} {o : HO} (hp : L[n]? = some p) {d : D} (od : ObjR K (mask L H) (upd H p o) p d) (nf : ∀ ob u, H p ≠ some (.frz ob u)) : Step L H L (upd H p o) ∧ StoR K L (upd H p o) (S.set n d) :=
  ⟨⟨by rw [mask_upd_own (List.mem_of_getElem? hp)]; exact Same.refl _, ⟨[], by simp⟩, fun b ob u e => by
    rw [upd_ne (show b ≠ p from fun z => nf ob u (by rw [← z]; exact e))]
    exact e⟩, s.wr hp od⟩

/-! ### looking at a held value -/
def view (S : Sto) : OV → Option D
  | .dat d => some d
  | .own n => S[n]?
theorem view_list {v : V} {ds : List D} : ∀ {o : OV}, view S o = some (.list ds) → RepO K L H v o → StoR K L H S → ∃ a vs, v = .ref a ∧ SqL K H a vs ∧ Reps K (mask L H) vs ds
  | .dat d, e, r, s => by
    cases e
    cases r with
    | lst h1 h2 => exact ⟨_, _, rfl, same_l (mask_same L H) h1, h2⟩
  | .own n, e, ⟨a, h1, h2⟩, s => by
    obtain ⟨vs, q1, q2⟩ := (s.obj n a _ h2 e : ObjR K (mask L H) H a (.list ds))
    exact ⟨a, vs, h1, SqL.of q1, q2⟩
theorem view_tup {v : V} {ds : List D} : ∀ {o : OV}, view S o = some (.tuple ds) → RepO K L H v o → StoR K L H S → ∃ a vs, v = .ref a ∧ SqT K H a vs ∧ Reps K (mask L H) vs ds
  | .dat d, e, r, s => by
    cases e
    cases r with
    | tup h1 h2 => exact ⟨_, _, rfl, SqT.of (mask_same L H _ _ h1), h2⟩
  | .own n, e, ⟨a, h1, h2⟩, s => by
    exact (s.obj n a _ h2 e : ObjR K (mask L H) H a (.tuple ds)).elim
theorem view_int {v : V} {i : Int} : ∀ {o : OV}, view S o = some (.int i) → RepO K L H v o → StoR K L H S → v = .int i
  | .dat d, e, r, s => by
    cases e
    cases r
    rfl
  | .own n, e, ⟨a, h1, h2⟩, s => (s.obj n a _ h2 e : ObjR K (mask L H) H a (.int i)).elim
theorem view_str {v : V} {x : Str} : ∀ {o : OV}, view S o = some (.str x) → RepO K L H v o → StoR K L H S → v = .str x
  | .dat d, e, r, s => by
    cases e
    cases r
    rfl
  | .own n, e, ⟨a, h1, h2⟩, s => (s.obj n a _ h2 e : ObjR K (mask L H) H a (.str x)).elim
theorem view_bool {v : V} {b : Bool} : ∀ {o : OV}, view S o = some (.bool b) → RepO K L H v o → StoR K L H S → v = .bl b
  | .dat d, e, r, s => by
    cases e
    cases r
    rfl
  | .own n, e, ⟨a, h1, h2⟩, s => (s.obj n a _ h2 e : ObjR K (mask L H) H a (.bool b)).elim
theorem view_none {v : V} : ∀ {o : OV}, view S o = some .none → RepO K L H v o → StoR K L H S → v = .non
  | .dat d, e, r, s => by
    cases e
    cases r
    rfl
  | .own n, e, ⟨a, h1, h2⟩, s => (s.obj n a _ h2 e : ObjR K (mask L H) H a .none).elim
/-- what is seen, as plain data over the whole heap -/
theorem view_rep {v : V} {d : D} : ∀ {o : OV}, view S o = some d → RepO K L H v o → StoR K L H S → PyData.canLay0 d = true → Dp K H v d
  | .dat d', e, r, s, c => by
    cases e
    exact Rep.dp (Rep.mono (mask_same L H) r) c
  | .own n, e, ⟨a, h1, h2⟩, s, c => by
    have q := s.obj n a _ h2 e
    subst h1
    cases d with
    | list ds =>
      obtain ⟨vs, q1, q2⟩ := (q : ObjR K (mask L H) H a (.list ds))
      exact .lst (SqL.of q1) (Reps.dp (Reps.mono (mask_same L H) q2) (by simpa [PyData.canLay0] using c))
    | dict _ => simp [PyData.canLay0] at c
    | none => exact q.elim
    | bool _ => exact q.elim
    | int _ => exact q.elim
    | str _ => exact q.elim
    | tuple _ => exact q.elim
theorem new_lst (s : StoR K L H S) {p : Addr} (h : H p = none) {vs : List V} {ds : List D} (r : Reps K (mask L H) vs ds) : Rep K (mask L (upd H p (.lst vs))) (.ref p) (.list ds) :=
  .lst (SqL.of (mask_of (s.new h) upd_same)) (Reps.mono (mask_upd_new h) r)
theorem new_tup (s : StoR K L H S) {p : Addr} (h : H p = none) {vs : List V} {ds : List D} (r : Reps K (mask L H) vs ds) : Rep K (mask L (upd H p (.tup vs))) (.ref p) (.tuple ds) :=
  .tup (mask_of (s.new h) upd_same) (Reps.mono (mask_upd_new h) r)
end
end Dk
set_option Elab.async false
set_option linter.all false
set_option maxRecDepth 100000
set_option maxHeartbeats 4000000
/-! Expressions over data: what a reading answers, and the rules. -/
namespace Dk
open PySem PySem.Spec L2

/-- an error, as it lies behind a raise -/
def ExcR (C : Str → Value) (K : PySem.W.Frag) (L : List Addr) (H : Hp) (e : Exn) (cls : Value) (d : Option Addr) : Prop :=
  cls = C e.cls ∧ match e.arg with
    | none => d = none
    | some (f, x) => ∃ da v, d = some da ∧ H da = some (.xd [(f, v)]) ∧ Rep K (mask L H) v x
structure Post {β : Type} (K : PySem.W.Frag) (C : Str → Value) (W : WX) (L : List Addr) (H : Hp) (σ : L2.St) (S' : Sto) (r : Sum β Exn) (ok : List Addr → Hp → β → Prop) : Prop where
  fine : ∀ b, r = .inl b → ∀ L' H', Step L H L' H' → StoR K L' H' S' → ok L' H' b
  bad : ∀ e, r = .inr e → ∀ L' H', Step L H L' H' → StoR K L' H' S' → ∀ cls d, ExcR C K L' H' e cls d → W cls d σ H'
theorem Post.step {β : Type} {K : PySem.W.Frag} {C : Str → Value} {W : WX} {L L1 : List Addr} {H H1 : Hp} {σ : L2.St} {S' : Sto} {r : Sum β Exn} {ok : List Addr → Hp → β → Prop}
    (p : Post K C W L H σ S' r ok) (a : Step L H L1 H1) : Post K C W L1 H1 σ S' r ok :=
  ⟨fun b e L' H' s => p.fine b e L' H' (a.trans s), fun e he L' H' s => p.bad e he L' H' (a.trans s)⟩

abbrev E1 := Env1 → Sto → Rs OV
abbrev EB := Env1 → Sto → Rs Bool
abbrev EL := Env1 → Sto → Rs (List OV)
/-- what gives a new list -/
abbrev EF := Env1 → Sto → Rs (List D)

section
variable (K : PySem.W.Frag) (C : Str → Value) (W : WX)
def SmE (t : TE) (f : E1) : Prop := ∀ ρ S r S', f ρ S = some (r, S') → ∀ L σ H (Q : VK), EnvR K L H σ ρ → StoR K L H S →
  Post K C W L H σ S' r (fun L' H' o => ∀ v, RepO K L' H' v o → Q v H') → t σ H Q
def SmT (t : TT) (f : EB) : Prop := ∀ ρ S r S', f ρ S = some (r, S') → ∀ L σ H (Q : Bool → Hp → Prop), EnvR K L H σ ρ → StoR K L H S →
  Post K C W L H σ S' r (fun _ H' b => Q b H') → t σ H Q
def SmA (t : TA) (f : EL) : Prop := ∀ ρ S r S', f ρ S = some (r, S') → ∀ L σ H (Q : List V → Hp → Prop), EnvR K L H σ ρ → StoR K L H S →
  Post K C W L H σ S' r (fun L' H' os => ∀ vs, RepOs K L' H' vs os → Q vs H') → t σ H Q
def SmF (t : TE) (f : EF) : Prop := ∀ ρ S r S', f ρ S = some (r, S') → ∀ L σ H (Q : VK), EnvR K L H σ ρ → StoR K L H S →
  Post K C W L H σ S' r (fun L' H' ds => ∀ p vs, H' p = none → Reps K (mask L' H') vs ds → Q (.ref p) (upd H' p (.lst vs))) → t σ H Q
end
section
variable {K : PySem.W.Frag} {C : Str → Value} {W : WX} {β : Type} {ρ : Env1} {S S' : Sto} {r : Sum β Exn} {L : List Addr} {H : Hp} {σ : L2.St} {ok : List Addr → Hp → β → Prop}
theorem SmE.bind {ta : TE} {fa : E1} (ha : SmE K C W ta fa) {k : OV → Sto → Rs β} (h : (fa ρ S).bind k = some (r, S')) (en : EnvR K L H σ ρ) (so : StoR K L H S) (po : Post K C W L H σ S' r ok) {R : VK}
    (go : ∀ a S1 L1 H1 v, k a S1 = some (r, S') → Step L H L1 H1 → StoR K L1 H1 S1 → RepO K L1 H1 v a → EnvR K L1 H1 σ ρ → Post K C W L1 H1 σ S' r ok → R v H1) : ta σ H R := by
  cases e : fa ρ S with
  | none => rw [e] at h; cases h
  | some q =>
    obtain ⟨q, S1⟩ := q
    rw [e] at h
    cases q with
    | inr x =>
      cases h
      exact ha ρ S _ _ e L σ H R en so ⟨fun b z => (by cases z), fun e' he L' H' st so' cls d x => po.bad e' (by cases he; rfl) L' H' st so' cls d x⟩
    | inl a =>
      refine ha ρ S _ _ e L σ H R en so ⟨fun b z L' H' st so' v rv => ?_, fun e' he => by cases he⟩
      cases z
      exact go a S1 L' H' v h st so' rv (en.step st) (po.step st)
theorem SmT.bind {ta : TT} {fa : EB} (ha : SmT K C W ta fa) {k : Bool → Sto → Rs β} (h : (fa ρ S).bind k = some (r, S')) (en : EnvR K L H σ ρ) (so : StoR K L H S) (po : Post K C W L H σ S' r ok) {R : Bool → Hp → Prop}
    (go : ∀ a S1 L1 H1, k a S1 = some (r, S') → Step L H L1 H1 → StoR K L1 H1 S1 → EnvR K L1 H1 σ ρ → Post K C W L1 H1 σ S' r ok → R a H1) : ta σ H R := by
  cases e : fa ρ S with
  | none => rw [e] at h; cases h
  | some q =>
    obtain ⟨q, S1⟩ := q
    rw [e] at h
    cases q with
    | inr x =>
      cases h
      exact ha ρ S _ _ e L σ H R en so ⟨fun b z => (by cases z), fun e' he L' H' st so' cls d x => po.bad e' (by cases he; rfl) L' H' st so' cls d x⟩
    | inl a =>
      refine ha ρ S _ _ e L σ H R en so ⟨fun b z L' H' st so' => ?_, fun e' he => by cases he⟩
      cases z
      exact go a S1 L' H' h st so' (en.step st) (po.step st)
theorem SmA.bind {ta : TA} {fa : EL} (ha : SmA K C W ta fa) {k : List OV → Sto → Rs β} (h : (fa ρ S).bind k = some (r, S')) (en : EnvR K L H σ ρ) (so : StoR K L H S) (po : Post K C W L H σ S' r ok) {R : List V → Hp → Prop}
    (go : ∀ a S1 L1 H1 vs, k a S1 = some (r, S') → Step L H L1 H1 → StoR K L1 H1 S1 → RepOs K L1 H1 vs a → EnvR K L1 H1 σ ρ → Post K C W L1 H1 σ S' r ok → R vs H1) : ta σ H R := by
  cases e : fa ρ S with
  | none => rw [e] at h; cases h
  | some q =>
    obtain ⟨q, S1⟩ := q
    rw [e] at h
    cases q with
    | inr x =>
      cases h
      exact ha ρ S _ _ e L σ H R en so ⟨fun b z => (by cases z), fun e' he L' H' st so' cls d x => po.bad e' (by cases he; rfl) L' H' st so' cls d x⟩
    | inl a =>
      refine ha ρ S _ _ e L σ H R en so ⟨fun b z L' H' st so' v rv => ?_, fun e' he => by cases he⟩
      cases z
      exact go a S1 L' H' v h st so' rv (en.step st) (po.step st)
theorem SmF.bind {ta : TE} {fa : EF} (ha : SmF K C W ta fa) {k : List D → Sto → Rs β} (h : (fa ρ S).bind k = some (r, S')) (en : EnvR K L H σ ρ) (so : StoR K L H S) (po : Post K C W L H σ S' r ok) {R : VK}
    (go : ∀ a S1 L1 H1 p vs, k a S1 = some (r, S') → Step L H L1 H1 → StoR K L1 H1 S1 → H1 p = none → Reps K (mask L1 H1) vs a → EnvR K L1 H1 σ ρ → Post K C W L1 H1 σ S' r ok → R (.ref p) (upd H1 p (.lst vs))) : ta σ H R := by
  cases e : fa ρ S with
  | none => rw [e] at h; cases h
  | some q =>
    obtain ⟨q, S1⟩ := q
    rw [e] at h
    cases q with
    | inr x =>
      cases h
      exact ha ρ S _ _ e L σ H R en so ⟨fun b z => (by cases z), fun e' he L' H' st so' cls d x => po.bad e' (by cases he; rfl) L' H' st so' cls d x⟩
    | inl a =>
      refine ha ρ S _ _ e L σ H R en so ⟨fun b z L' H' st so' p vs hp rv => ?_, fun e' he => by cases he⟩
      cases z
      exact go a S1 L' H' p vs h st so' hp rv (en.step st) (po.step st)
/-- the end of a bind -/
theorem Post.done {S0 : Sto} {b : β} (po : Post K C W L H σ S' r ok) (h : ret b S0 = some (r, S')) {L' : List Addr} {H' : Hp} (st : Step L H L' H') (so : StoR K L' H' S0) : ok L' H' b := by
  cases h
  exact po.fine b rfl L' H' st so
end

/-! ### the judgements: a piece of the text, and the function that it is -/
structure DE (X : Cx) (C : Str → Value) (W : WX) (e : Expr) (f : E1) : Prop where
  ex : ∃ t, PE X e t ∧ SmE X.K C W t f
structure DT (X : Cx) (C : Str → Value) (W : WX) (e : Expr) (f : EB) : Prop where
  ex : ∃ t, PT X e t ∧ SmT X.K C W t f
structure DW (X : Cx) (C : Str → Value) (W : WX) (e : Expr) (f : EB) : Prop where
  ex : ∃ t, PW X e t ∧ SmT X.K C W t f
structure DF (X : Cx) (C : Str → Value) (W : WX) (e : Expr) (f : EF) : Prop where
  ex : ∃ t, PE X e t ∧ SmF X.K C W t f
structure DA (X : Cx) (C : Str → Value) (W : WX) (es : List Expr) (f : EL) : Prop where
  ex : ∃ t, PA X es t ∧ SmA X.K C W t f

/-! ### names, constants -/
def fVar (i : Nat) : E1 := fun ρ S => (ρ[i]?.join).bind fun o => ret o S
def fC (d : D) : E1 := fun _ S => ret (.dat d) S
section
variable {X : Cx} {C : Str → Value} {W : WX}
theorem sm_var {K : PySem.W.Frag} {i : Nat} : SmE K C W (tVar i) (fVar i) := by
  intro ρ S r S' h L σ H Q en so po
  unfold fVar at h
  cases e : ρ[i]? with
  | none => rw [e] at h; cases h
  | some o =>
    cases o with
    | none => rw [e] at h; cases h
    | some o =>
      rw [e] at h
      obtain ⟨v, h1, h2⟩ := en.get e
      exact ⟨v, h1, po.done (S0 := S) h Step.refl so v h2⟩
theorem sm_c {K : PySem.W.Frag} {v : V} {d : D} (hd : ∀ G, Rep K G v d) : SmE K C W (tC v) (fC d) := by
  intro ρ S r S' h L σ H Q en so po
  exact po.done (S0 := S) h Step.refl so v (hd _)
theorem de_var (i : Nat) {x : Str} {pos : Pos} (hN : X.N[i]? = some x := by rfl) (hv : Vis X.env.scope x := by first | exact Or.inl rfl | exact Or.inr (Or.inl rfl) | exact Or.inr (Or.inr rfl)) (hd : (x == ("__debug__" : Str)) = false := by decide)
    (hcd : (x == ("__classdict__" : Str)) = false := by decide) : DE X C W (.Name x pos) (fVar i) := ⟨_, pe_var hN hv hd hcd, sm_var⟩
theorem de_int {i j pos} : DE X C W (.Constant (.int i) j pos) (fC (.int i)) := ⟨_, pe_int, sm_c fun _ => .int i⟩
theorem de_bl {b j pos} : DE X C W (.Constant (.bool b) j pos) (fC (.bool b)) := ⟨_, pe_bl, sm_c fun _ => .bl b⟩
theorem de_non {j pos} : DE X C W (.Constant .none j pos) (fC .none) := ⟨_, pe_non, sm_c fun _ => .non⟩
theorem de_str {x j pos} : DE X C W (.Constant (.str x) j pos) (fC (.str x)) := ⟨_, pe_str, sm_c fun _ => .str x⟩
theorem de_globI {x : Str} {i : Int} {t : Tok} {pos : Pos} (hg : Gl X x) (hm : X.mg x = some (.int i t)) (hd : (x == ("__debug__" : Str)) = false := by decide) : DE X C W (.Name x pos) (fC (.int i)) := ⟨_, pe_glob (v := .int i) hg hm ⟨t, rfl⟩ hd, sm_c fun _ => .int i⟩
end

/-! ### operators -/
def rOf (K : PySem.W.Frag) (g : Sto → OV → OV → Option D) : R2 := fun x y H Q => ∃ L S a b d, StoR K L H S ∧ RepO K L H x a ∧ RepO K L H y b ∧ g S a b = some d ∧
  ∀ v H', Step L H L H' → StoR K L H' S → Rep K (mask L H') v d → Q v H'
def op2 (g : Sto → OV → OV → Option D) (fa fb : E1) : E1 := fun ρ S => (fa ρ S).bind fun a S1 => (fb ρ S1).bind fun b S2 => (g S2 a b).bind fun d => ret (.dat d) S2
def rOf1 (K : PySem.W.Frag) (g : Sto → OV → Option D) : V → Hp → VK → Prop := fun x H Q => ∃ L S a d, StoR K L H S ∧ RepO K L H x a ∧ g S a = some d ∧
  ∀ v H', Step L H L H' → StoR K L H' S → Rep K (mask L H') v d → Q v H'
def op1 (g : Sto → OV → Option D) (fa : E1) : E1 := fun ρ S => (fa ρ S).bind fun a S1 => (g S1 a).bind fun d => ret (.dat d) S1
theorem opt_bind {α β : Type} {o : Option α} {k : α → Option β} {x : β} (h : o.bind k = some x) : ∃ a, o = some a ∧ k a = some x := by
  cases o with
  | none => cases h
  | some a => exact ⟨a, rfl, h⟩
section
variable {X : Cx} {C : Str → Value} {W : WX} {a b c : Expr} {pos : Pos} {fa fb fc : E1}
theorem sm_op {K : PySem.W.Frag} {g : Sto → OV → OV → Option D} {ta tb : TE} (ha : SmE K C W ta fa) (hb : SmE K C W tb fb) : SmE K C W (tOp (rOf K g) ta tb) (op2 g fa fb) := by
  intro ρ S r S' h L σ H Q en so po
  refine ha.bind h en so po fun x S1 L1 H1 v h1 st1 so1 r1 en1 po1 => ?_
  refine hb.bind h1 en1 so1 po1 fun y S2 L2 H2 u h2 st2 so2 r2 en2 po2 => ?_
  obtain ⟨d, e, h3⟩ := opt_bind h2
  exact ⟨L2, S2, x, y, d, so2, r1.step st2, r2, e, fun w H' st so' rw' => po2.done (S0 := S2) h3 st so' w rw'⟩
theorem sm_un {K : PySem.W.Frag} {g : Sto → OV → Option D} {ta : TE} (ha : SmE K C W ta fa) : SmE K C W (tUn (rOf1 K g) ta) (op1 g fa) := by
  intro ρ S r S' h L σ H Q en so po
  refine ha.bind h en so po fun x S1 L1 H1 v h1 st1 so1 r1 en1 po1 => ?_
  obtain ⟨d, e, h3⟩ := opt_bind h1
  exact ⟨L1, S1, x, d, so1, r1, e, fun w H' st so' rw' => po1.done (S0 := S1) h3 st so' w rw'⟩
theorem de_op {op : Operator} {g : Sto → OV → OV → Option D} (ho : OpR X (binaryOp op) (rOf X.K g)) (ha : DE X C W a fa) (hb : DE X C W b fb) : DE X C W (.BinOp a op b pos) (op2 g fa fb) := by
  obtain ⟨ta, p1, s1⟩ := ha.ex
  obtain ⟨tb, p2, s2⟩ := hb.ex
  exact ⟨_, pe_op ho p1 p2, sm_op s1 s2⟩
theorem de_un {op : UnaryOp} {g : Sto → OV → Option D} (ho : UnR X (unaryOp op) (rOf1 X.K g)) (ha : DE X C W a fa) : DE X C W (.UnaryOp op a pos) (op1 g fa) := by
  obtain ⟨ta, p1, s1⟩ := ha.ex
  exact ⟨_, pe_un ho p1, sm_un s1⟩
theorem de_cmp {op : CmpOp} {g : Sto → OV → OV → Option D} (ho : OpR X (compareOp op) (rOf X.K g)) (ha : DE X C W a fa) (hb : DE X C W b fb) (hm : behindInMarks op b = false) : DE X C W (.Compare a [op] [b] pos) (op2 g fa fb) := by
  obtain ⟨ta, p1, s1⟩ := ha.ex
  obtain ⟨tb, p2, s2⟩ := hb.ex
  exact ⟨_, pe_cmpR ho p1 p2 hm, sm_op s1 s2⟩
/-- a value that is a bool, as a test -/
def bOf (fa : E1) : EB := fun ρ S => (fa ρ S).bind fun a S1 => match a with
  | .dat (.bool k) => ret k S1
  | _ => none
theorem sm_test {K : PySem.W.Frag} {ta : TE} (ha : SmE K C W ta fa) : SmT K C W (tTest ta) (bOf fa) := by
  intro ρ S r S' h L σ H Q en so po
  refine ha.bind h en so po fun x S1 L1 H1 v h1 st1 so1 r1 en1 po1 => ?_
  cases x with
  | own n => cases h1
  | dat d =>
    cases d <;> try (cases h1; done)
    rename_i k
    cases (r1 : Rep K _ v (.bool k))
    exact ⟨k, rfl, po1.done (S0 := S1) h1 Step.refl so1⟩
theorem dt_cmp {op : CmpOp} {g : Sto → OV → OV → Option D} (ho : OpR X (compareOp op) (rOf X.K g)) (ha : DE X C W a fa) (hb : DE X C W b fb) (hm : behindInMarks op b = false) : DT X C W (.Compare a [op] [b] pos) (bOf (op2 g fa fb)) := by
  obtain ⟨ta, p1, s1⟩ := ha.ex
  obtain ⟨tb, p2, s2⟩ := hb.ex
  exact ⟨_, pt_cmpR ho p1 p2 hm, sm_test (sm_op s1 s2)⟩
theorem dt_val {e : Expr} (h : DE X C W e fa) (he : ∀ whole, isTrue e X.env whole = (do let v ← whole; standAt e.pos; holding [v] (truthy v)) := by intro _; rfl) : DT X C W e (bOf fa) := by
  obtain ⟨t, p, s⟩ := h.ex
  exact ⟨_, pt_val p he, fun ρ S r S' h L σ H Q en so po => sm_test s ρ S r S' h L σ H Q en so po⟩
/-- a chain of two comparisons -/
def chn (g g' : Sto → OV → OV → Option D) (fa fb fc : E1) : E1 := fun ρ S => (fa ρ S).bind fun a S1 => (fb ρ S1).bind fun b S2 => (g S2 a b).bind fun d => match d with
  | .bool true => (fc ρ S2).bind fun c S3 => (g' S3 b c).bind fun d => ret (.dat d) S3
  | .bool false => ret (.dat (.bool false)) S2
  | _ => none
theorem sm_chain {K : PySem.W.Frag} {g g' : Sto → OV → OV → Option D} {ta tb tc : TE} (ha : SmE K C W ta fa) (hb : SmE K C W tb fb) (hc : SmE K C W tc fc) : SmE K C W (tChain (rOf K g) (rOf K g') ta tb tc) (chn g g' fa fb fc) := by
  intro ρ S r S' h L σ H Q en so po
  refine ha.bind h en so po fun x S1 L1 H1 v h1 st1 so1 r1 en1 po1 => ?_
  refine hb.bind h1 en1 so1 po1 fun y S2 L2 H2 u h2 st2 so2 r2 en2 po2 => ?_
  obtain ⟨d, e, h3⟩ := opt_bind h2
  refine ⟨L2, S2, x, y, d, so2, r1.step st2, r2, e, fun w H3 st3 so3 rw' => ?_⟩
  cases d <;> try (cases h3; done)
  rename_i k
  cases (rw' : Rep K _ w (.bool k))
  refine ⟨k, rfl, ?_⟩
  cases k with
  | false => exact iteF ((po2.step st3).done (S0 := S2) h3 Step.refl so3 _ (.bl false))
  | true =>
    refine iteT ?_
    refine hc.bind (ρ := ρ) (S := S2) h3 (en2.step st3) so3 (po2.step st3) fun z S4 L4 H4 t h4 st4 so4 r4 en4 po4 => ?_
    obtain ⟨d', e', h5⟩ := opt_bind h4
    exact ⟨L4, S4, y, z, d', so4, (r2.step st3).step st4, r4, e', fun w H' st so' rw' => po4.done (S0 := S4) h5 st so' w rw'⟩
theorem de_chain {op op' : CmpOp} {g g' : Sto → OV → OV → Option D} (ho : OpR X (compareOp op) (rOf X.K g)) (ho' : OpR X (compareOp op') (rOf X.K g')) (ha : DE X C W a fa) (hb : DE X C W b fb) (hc : DE X C W c fc)
    (hm : lastMarks [op, op'] [b, c] = false := by with_unfolding_all rfl) : DE X C W (.Compare a [op, op'] [b, c] pos) (chn g g' fa fb fc) := by
  obtain ⟨ta, p1, s1⟩ := ha.ex
  obtain ⟨tb, p2, s2⟩ := hb.ex
  obtain ⟨tc, p3, s3⟩ := hc.ex
  exact ⟨_, pe_chain ho ho' p1 p2 p3 hm, sm_chain s1 s2 s3⟩
theorem dt_chain {op op' : CmpOp} {g g' : Sto → OV → OV → Option D} (ho : OpR X (compareOp op) (rOf X.K g)) (ho' : OpR X (compareOp op') (rOf X.K g')) (ha : DE X C W a fa) (hb : DE X C W b fb) (hc : DE X C W c fc)
    (hm : lastMarks [op, op'] [b, c] = false := by with_unfolding_all rfl) : DT X C W (.Compare a [op, op'] [b, c] pos) (bOf (chn g g' fa fb fc)) := by
  obtain ⟨ta, p1, s1⟩ := ha.ex
  obtain ⟨tb, p2, s2⟩ := hb.ex
  obtain ⟨tc, p3, s3⟩ := hc.ex
  exact ⟨_, pt_chain ho ho' p1 p2 p3 hm, sm_test (sm_chain s1 s2 s3)⟩
end

/-! ### and, or, not, if -/
def bAnd (f g : EB) : EB := fun ρ S => (f ρ S).bind fun k S1 => if k = true then g ρ S1 else ret false S1
def bOr (f g : EB) : EB := fun ρ S => (f ρ S).bind fun k S1 => if k = true then ret true S1 else g ρ S1
def bNot (f : EB) : EB := fun ρ S => (f ρ S).bind fun k S1 => ret (!k) S1
def vAnd (f g : E1) : E1 := fun ρ S => (bOf f ρ S).bind fun k S1 => if k = true then g ρ S1 else ret (.dat (.bool false)) S1
def vOr (f g : E1) : E1 := fun ρ S => (bOf f ρ S).bind fun k S1 => if k = true then ret (.dat (.bool true)) S1 else g ρ S1
def vNot (f : E1) : E1 := fun ρ S => (bOf f ρ S).bind fun k S1 => ret (.dat (.bool (!k))) S1
def vIf (t : EB) (f g : E1) : E1 := fun ρ S => (t ρ S).bind fun k S1 => if k = true then f ρ S1 else g ρ S1
section
variable {X : Cx} {C : Str → Value} {W : WX} {a b c : Expr} {rest : List Expr} {pos : Pos} {fa fb fc : E1} {ba bb : EB} {K : PySem.W.Frag}
theorem dw_and1 (ha : DT X C W a ba) : DW X C W (.BoolOp .And [a] pos) ba := by
  obtain ⟨t, p, s⟩ := ha.ex
  exact ⟨_, pw_and1 p, s⟩
theorem dw_or1 (ha : DT X C W a ba) : DW X C W (.BoolOp .Or [a] pos) ba := by
  obtain ⟨t, p, s⟩ := ha.ex
  exact ⟨_, pw_or1 p, s⟩
theorem dw_and (ha : DT X C W a ba) (hb : DW X C W (.BoolOp .And (b :: rest) pos) bb) : DW X C W (.BoolOp .And (a :: b :: rest) pos) (bAnd ba bb) := by
  obtain ⟨t, p, s⟩ := ha.ex
  obtain ⟨u, q, s2⟩ := hb.ex
  refine ⟨_, pw_and p q, fun ρ S r S' h L σ H Q en so po => ?_⟩
  refine s.bind h en so po fun k S1 L1 H1 h1 st1 so1 en1 po1 => ?_
  cases k with
  | true => exact iteT (s2 ρ S1 r S' h1 L1 σ H1 Q en1 so1 po1)
  | false => exact iteF (po1.done (S0 := S1) h1 Step.refl so1)
theorem dw_or (ha : DT X C W a ba) (hb : DW X C W (.BoolOp .Or (b :: rest) pos) bb) : DW X C W (.BoolOp .Or (a :: b :: rest) pos) (bOr ba bb) := by
  obtain ⟨t, p, s⟩ := ha.ex
  obtain ⟨u, q, s2⟩ := hb.ex
  refine ⟨_, pw_or p q, fun ρ S r S' h L σ H Q en so po => ?_⟩
  refine s.bind h en so po fun k S1 L1 H1 h1 st1 so1 en1 po1 => ?_
  cases k with
  | true => exact iteT (po1.done (S0 := S1) h1 Step.refl so1)
  | false => exact iteF (s2 ρ S1 r S' h1 L1 σ H1 Q en1 so1 po1)
theorem DW.dt {e : Expr} (h : DW X C W e ba) : DT X C W e ba := by
  obtain ⟨t, p, s⟩ := h.ex
  exact ⟨_, p.pt, s⟩
theorem dt_not (ha : DT X C W a ba) : DT X C W (.UnaryOp .Not a pos) (bNot ba) := by
  obtain ⟨t, p, s⟩ := ha.ex
  refine ⟨_, pt_not p, fun ρ S r S' h L σ H Q en so po => ?_⟩
  exact s.bind h en so po fun k S1 L1 H1 h1 st1 so1 en1 po1 => po1.done (S0 := S1) h1 Step.refl so1
theorem sm_b {ta : TE} (ha : SmE K C W ta fa) {β : Type} {ρ : Env1} {S S' : Sto} {r : Sum β Exn} {L : List Addr} {H : Hp} {σ : L2.St} {ok : List Addr → Hp → β → Prop} {k : Bool → Sto → Rs β} (h : (bOf fa ρ S).bind k = some (r, S')) (en : EnvR K L H σ ρ) (so : StoR K L H S)
    (po : Post K C W L H σ S' r ok) {R : Bool → Hp → Prop} (go : ∀ a S1 L1 H1, k a S1 = some (r, S') → Step L H L1 H1 → StoR K L1 H1 S1 → EnvR K L1 H1 σ ρ → Post K C W L1 H1 σ S' r ok → R a H1) : ta σ H (fun x H1 => ∃ c, x = .bl c ∧ R c H1) :=
  SmT.bind (sm_test ha) h en so po go
theorem de_one {op} (h : DE X C W a fa) : DE X C W (.BoolOp op [a] pos) fa := by
  obtain ⟨t, p, s⟩ := h.ex
  exact ⟨_, pe_one p, s⟩
theorem de_and (ha : DE X C W a fa) (hb : DE X C W (.BoolOp .And (b :: rest) pos) fb) : DE X C W (.BoolOp .And (a :: b :: rest) pos) (vAnd fa fb) := by
  obtain ⟨t, p, s⟩ := ha.ex
  obtain ⟨u, q, s2⟩ := hb.ex
  refine ⟨_, pe_and p q, fun ρ S r S' h L σ H Q en so po => ?_⟩
  refine sm_b s h en so po (R := fun c H1 => if c = true then u σ H1 Q else Q (.bl false) H1) fun k S1 L1 H1 h1 st1 so1 en1 po1 => ?_
  cases k with
  | true => exact iteT (s2 ρ S1 r S' h1 L1 σ H1 Q en1 so1 po1)
  | false => exact iteF (po1.done (S0 := S1) h1 Step.refl so1 _ (.bl false))
theorem de_or (ha : DE X C W a fa) (hb : DE X C W (.BoolOp .Or (b :: rest) pos) fb) : DE X C W (.BoolOp .Or (a :: b :: rest) pos) (vOr fa fb) := by
  obtain ⟨t, p, s⟩ := ha.ex
  obtain ⟨u, q, s2⟩ := hb.ex
  refine ⟨_, pe_or p q, fun ρ S r S' h L σ H Q en so po => ?_⟩
  refine sm_b s h en so po (R := fun c H1 => if c = true then Q (.bl true) H1 else u σ H1 Q) fun k S1 L1 H1 h1 st1 so1 en1 po1 => ?_
  cases k with
  | true => exact iteT (po1.done (S0 := S1) h1 Step.refl so1 _ (.bl true))
  | false => exact iteF (s2 ρ S1 r S' h1 L1 σ H1 Q en1 so1 po1)
theorem de_not (ha : DE X C W a fa) : DE X C W (.UnaryOp .Not a pos) (vNot fa) := by
  obtain ⟨t, p, s⟩ := ha.ex
  refine ⟨_, pe_not p, fun ρ S r S' h L σ H Q en so po => ?_⟩
  exact sm_b s h en so po (R := fun c H1 => Q (.bl (!c)) H1) fun k S1 L1 H1 h1 st1 so1 en1 po1 => po1.done (S0 := S1) h1 Step.refl so1 _ (.bl (!k))
theorem de_if (hc : DT X C W c ba) (ha : DE X C W a fa) (hb : DE X C W b fb) : DE X C W (.IfExp c a b pos) (vIf ba fa fb) := by
  obtain ⟨t, p, s⟩ := hc.ex
  obtain ⟨u, q, s2⟩ := ha.ex
  obtain ⟨v, q3, s3⟩ := hb.ex
  refine ⟨_, pe_ifExp p q q3, fun ρ S r S' h L σ H Q en so po => ?_⟩
  refine s.bind h en so po fun k S1 L1 H1 h1 st1 so1 en1 po1 => ?_
  cases k with
  | true => exact iteT (s2 ρ S1 r S' h1 L1 σ H1 Q en1 so1 po1)
  | false => exact iteF (s3 ρ S1 r S' h1 L1 σ H1 Q en1 so1 po1)
end

/-! ### arguments, displays, calls -/
def aNil : EL := fun _ S => ret [] S
def aCons (f : E1) (g : EL) : EL := fun ρ S => (f ρ S).bind fun a S1 => (g ρ S1).bind fun as S2 => ret (a :: as) S2
def dats : List OV → Option (List D)
  | [] => some []
  | .dat d :: r => (dats r).bind fun ds => some (d :: ds)
  | .own _ :: _ => none
/-- a display -/
def fTup (f : EL) : E1 := fun ρ S => (f ρ S).bind fun as S1 => (dats as).bind fun ds => if ds.length ≤ sizeLine then ret (.dat (.tuple ds)) S1 else none
def fLst (f : EL) : EF := fun ρ S => (f ρ S).bind fun as S1 => (dats as).bind fun ds => if ds.length ≤ sizeLine then ret ds S1 else none
theorem dats_reps {K : PySem.W.Frag} {L : List Addr} {H : Hp} : ∀ {vs : List V} {os : List OV} {ds : List D}, RepOs K L H vs os → dats os = some ds → Reps K (mask L H) vs ds
  | _, _, _, .nil, e => by cases e; exact .nil
  | _, .dat d :: _, _, .cons h r, e => by
    obtain ⟨es, e1, e2⟩ := opt_bind (show (dats _).bind _ = some _ from e)
    cases e2
    exact .cons h (dats_reps r e1)
  | _, .own n :: _, _, .cons h r, e => by cases e
section
variable {X : Cx} {C : Str → Value} {W : WX} {e : Expr} {es : List Expr} {pos : Pos} {fe : E1} {fs : EL} {K : PySem.W.Frag}
theorem da_nil : DA X C W [] aNil := ⟨_, pa_nil, fun ρ S r S' h L σ H Q en so po => po.done (S0 := S) h Step.refl so _ .nil⟩
theorem sm_cons {te : TE} {t : TA} (s : SmE K C W te fe) (s2 : SmA K C W t fs) : SmA K C W (tCons te t) (aCons fe fs) := fun ρ S r S' h L σ H Q en so po => by
  refine s.bind h en so po fun a S1 L1 H1 v h1 st1 so1 r1 en1 po1 => ?_
  refine s2.bind h1 en1 so1 po1 fun as S2 L2 H2 vs h2 st2 so2 r2 en2 po2 => ?_
  exact po2.done (S0 := S2) h2 Step.refl so2 _ (.cons (r1.step st2) r2)
theorem da_cons (ha : DE X C W e fe) (hr : DA X C W es fs) (hs : starEach (e :: es) X.env = (false, eval e X.env) :: starEach es X.env := by rfl) : DA X C W (e :: es) (aCons fe fs) := by
  obtain ⟨t, p, s⟩ := ha.ex
  obtain ⟨u, q, s2⟩ := hr.ex
  exact ⟨_, pa_cons p q hs, sm_cons s s2⟩
theorem de_tup {x1} (h : DA X C W es fs) : DE X C W (.Tuple es x1 pos) (fTup fs) := by
  obtain ⟨t, p, s⟩ := h.ex
  refine ⟨_, pe_tup p, fun ρ S r S' h L σ H Q en so po => ?_⟩
  refine s.bind h en so po fun as S1 L1 H1 vs h1 st1 so1 r1 en1 po1 => ?_
  obtain ⟨ds, e1, h2⟩ := opt_bind h1
  have rs := dats_reps r1 e1
  split at h2
  · rename_i hz
    exact ⟨by rw [rs.length]; exact hz, fun q hq => po1.done (S0 := S1) h2 (step_new hq) (so1.laid hq) _ (new_tup so1 hq rs)⟩
  · cases h2
theorem own_lst {L : List Addr} {H : Hp} {S : Sto} (so : StoR K L H S) {p : Addr} (hp : H p = none) {vs : List V} {ds : List D} (rs : Reps K (mask L H) vs ds) :
    Step L H (L ++ [p]) (upd H p (.lst vs)) ∧ StoR K (L ++ [p]) (upd H p (.lst vs)) (S ++ [.list ds]) ∧ RepO K (L ++ [p]) (upd H p (.lst vs)) (.ref p) (.own S.length) := by
  obtain ⟨h1, h2⟩ := so.own (o := .lst vs) hp (d := .list ds) ⟨vs, upd_same, rs⟩
  exact ⟨h1, h2, p, rfl, by rw [← so.len, List.getElem?_append_right (Nat.le_refl _), Nat.sub_self]; rfl⟩
theorem df_lst (h : DA X C W es fs) : DF X C W (.List es pos) (fLst fs) := by
  obtain ⟨t, p, s⟩ := h.ex
  refine ⟨_, pe_lst p, fun ρ S r S' h L σ H Q en so po => ?_⟩
  refine s.bind h en so po fun as S1 L1 H1 vs h1 st1 so1 r1 en1 po1 => ?_
  obtain ⟨ds, e1, h2⟩ := opt_bind h1
  have rs := dats_reps r1 e1
  split at h2
  · rename_i hz
    exact ⟨by rw [rs.length]; exact hz, fun q hq => po1.done (S0 := S1) h2 Step.refl so1 q vs hq rs⟩
  · cases h2
/-- a new list, as a value; owned from here on -/
def frz (f : EF) : E1 := fun ρ S => (f ρ S).bind fun ds S1 => ret (.dat (.list ds)) S1
def ownL (f : EF) : E1 := fun ρ S => (f ρ S).bind fun ds S1 => ret (.own S1.length) (S1 ++ [.list ds])
theorem DF.dat {f : EF} (h : DF X C W e f) : DE X C W e (frz f) := by
  obtain ⟨t, p, s⟩ := h.ex
  refine ⟨_, p, fun ρ S r S' h L σ H Q en so po => ?_⟩
  exact s.bind h en so po fun ds S1 L1 H1 q vs h1 st1 so1 hq rs en1 po1 => po1.done (S0 := S1) h1 (step_new hq) (so1.laid hq) _ (new_lst so1 hq rs)
theorem DF.own {f : EF} (h : DF X C W e f) : DE X C W e (ownL f) := by
  obtain ⟨t, p, s⟩ := h.ex
  refine ⟨_, p, fun ρ S r S' h L σ H Q en so po => ?_⟩
  refine s.bind h en so po fun ds S1 L1 H1 q vs h1 st1 so1 hq rs en1 po1 => ?_
  obtain ⟨k1, k2, k3⟩ := own_lst so1 hq rs
  exact po1.done (S0 := S1 ++ [.list ds]) h1 k1 k2 _ k3
end

/-! ### what a def is worth -/
def spD (K : PySem.W.Frag) (C : Str → Value) (n : Nat) (F : List OV → Sto → Rs OV) : Sp := fun vs H Q E => ∃ os L S r S', os.length = n ∧ RepOs K L H vs os ∧ StoR K L H S ∧ F os S = some (r, S') ∧
  ∀ L' H', Step L H L' H' → StoR K L' H' S' → (∀ o, r = .inl o → ∀ v, RepO K L' H' v o → Q v H') ∧ ∀ e, r = .inr e → ∀ cls d, ExcR C K L' H' e cls d → E cls d H'
structure FnD (P : Program) (w : World) (K : PySem.W.Frag) (mg : Str → Option Value) (base : Heap) (C : Str → Value) (k : Nat) (x : Str) (n : Nat) (F : List OV → Sto → Rs OV) : Prop where
  ex : ∃ (f : Addr) (fd : FuncData) (ps : List Str), ps.length = n ∧ mg x = some (.ref f) ∧ PySem.W.keepIn K (.ref f) = true ∧ Binds K fd ps [] ∧ FnOk P w K mg base (L2.CX P w) k f fd ps (spD K C n F)
def fCall (F : List OV → Sto → Rs OV) (fa : EL) : E1 := fun ρ S => (fa ρ S).bind fun os S1 => F os S1
section
variable {X : Cx} {C : Str → Value} {W : WX} {e : Expr} {es : List Expr} {x : Str} {p pos : Pos} {fe : E1} {fs : EL} {K : PySem.W.Frag} {k n : Nat} {F : List OV → Sto → Rs OV}
theorem de_call (G : FnD X.prog X.w X.K X.mg X.base C k x n F) (hr : Room k X.A) (tk : Takes X W) (hg : Gl X x) (ha : DA X C W (e :: es) fs) (hn : ∀ ρ S os S', fs ρ S = some (.inl os, S') → os.length = n)
    (hdb : (x == ("__debug__" : Str)) = false := by decide) (he : starEach (e :: es) X.env = (false, eval e X.env) :: starEach es X.env := by rfl) (hpl : (backTo pos (starEach es X.env)).any (·.1) = false := by rfl) :
    DE X C W (.Call (.Name x p) (e :: es) [] pos) (fCall F fs) := by
  obtain ⟨f, fd, ps, hps, hm, hk, hb, ok⟩ := G.ex
  obtain ⟨t, pa, s⟩ := ha.ex
  refine ⟨_, pe_callS ok hr hg hm hk hb (fun σ => passAt tk σ) pa hdb he hpl, fun ρ S r S' h L σ H Q en so po => ?_⟩
  have hlen := hn ρ S
  cases hq : fs ρ S with
  | none => unfold fCall at h; rw [hq] at h; cases h
  | some q =>
    obtain ⟨q, S1⟩ := q
    unfold fCall at h
    rw [hq] at h hlen
    cases q with
    | inr x =>
      cases h
      exact s ρ S _ _ hq L σ H _ en so ⟨fun b z => (by cases z), fun e' he' L' H' st so' cls d x => po.bad e' (by cases he'; rfl) L' H' st so' cls d x⟩
    | inl os =>
      refine s ρ S _ _ hq L σ H _ en so ⟨fun b z L1 H1 st1 so1 vs rv => ?_, fun e' he' => by cases he'⟩
      cases z
      refine ⟨os, L1, S1, r, S', hlen os S1 rfl, rv, so1, h, fun L' H' st so' => ⟨fun o ho v rvo => ?_, fun e' he' cls d xr => ?_⟩⟩
      · exact po.fine o ho L' H' (st1.trans st) so' v rvo
      · exact po.bad e' he' L' H' (st1.trans st) so' cls d xr
theorem len_nil (ρ : Env1) (S : Sto) (os : List OV) (S' : Sto) (h : aNil ρ S = some (.inl os, S')) : os.length = 0 := by
  cases h
  rfl
theorem len_cons {n : Nat} (hn : ∀ ρ S os S', fs ρ S = some (.inl os, S') → os.length = n) (ρ : Env1) (S : Sto) (os : List OV) (S' : Sto) (h : aCons fe fs ρ S = some (.inl os, S')) : os.length = n + 1 := by
  unfold aCons at h
  cases e1 : fe ρ S with
  | none => rw [e1] at h; cases h
  | some q =>
    obtain ⟨q, S1⟩ := q
    rw [e1] at h
    cases q with
    | inr x => cases h
    | inl a =>
      change (fs ρ S1).bind _ = _ at h
      cases e2 : fs ρ S1 with
      | none => rw [e2] at h; cases h
      | some q2 =>
        obtain ⟨q2, S2⟩ := q2
        rw [e2] at h
        cases q2 with
        | inr x => cases h
        | inl as =>
          cases h
          exact congrArg (· + 1) (hn _ _ _ _ e2)
end
end Dk
set_option Elab.async false
set_option linter.all false
set_option maxRecDepth 100000
set_option maxHeartbeats 4000000
/-! What operators and built-ins answer on data. -/
namespace Dk
open PySem PySem.Spec L2

/-! ### numbers, joining -/
def addS (S : Sto) (a b : OV) : Option D := match view S a, view S b with
  | some (.int i), some (.int j) => some (.int (i + j))
  | some (.str x), some (.str y) => if x.length + y.length ≤ sizeLine then some (.str (x ++ y)) else none
  | some (.list xs), some (.list ys) => if xs.length + ys.length ≤ sizeLine then some (.list (xs ++ ys)) else none
  | some (.tuple xs), some (.tuple ys) => if xs.length + ys.length ≤ sizeLine then some (.tuple (xs ++ ys)) else none
  | _, _ => none
def subS (S : Sto) (a b : OV) : Option D := match view S a, view S b with
  | some (.int i), some (.int j) => some (.int (i - j))
  | _, _ => none
def big : Int := 18446744073709551616
def mulS (S : Sto) (a b : OV) : Option D := match view S a, view S b with
  | some (.int i), some (.int j) => if (-big < i ∧ i < big) ∨ (-big < j ∧ j < big) then some (.int (i * j)) else none
  | some (.tuple xs), some (.int k) => if xs ≠ [] ∧ 2 ≤ k ∧ k ≤ 1000 ∧ xs.length ≤ 1000 then some (.tuple (List.replicate k.toNat xs).flatten) else none
  | _, _ => none
def fdivS (S : Sto) (a b : OV) : Option D := match view S a, view S b with
  | some (.int i), some (.int j) => if j ≠ 0 ∧ (j.natAbs < 1073741824 ∨ j.natAbs.log2 < 9000) then some (.int (i.fdiv j)) else none
  | _, _ => none
def modS (S : Sto) (a b : OV) : Option D := match view S a, view S b with
  | some (.int i), some (.int j) => if j ≠ 0 then some (.int (i.fmod j)) else none
  | _, _ => none
def powS (S : Sto) (a b : OV) : Option D := match view S a, view S b with
  | some (.int i), some (.int j) => if 0 ≤ j ∧ j ≤ 1000000 ∧ i.natAbs < 2 ^ 64 then some (.int (i ^ j.toNat)) else none
  | _, _ => none
def negS (S : Sto) (a : OV) : Option D := match view S a with
  | some (.int i) => some (.int (-i))
  | _ => none
def cmpS (p : Int → Int → Bool) (S : Sto) (a b : OV) : Option D := match view S a, view S b with
  | some (.int i), some (.int j) => some (.bool (p i j))
  | _, _ => none
abbrev ltS := cmpS fun i j => decide (i < j)
abbrev leS := cmpS fun i j => decide (i ≤ j)
abbrev gtS := cmpS fun i j => decide (j < i)
abbrev geS := cmpS fun i j => decide (j ≤ i)
def eqD (d e : D) : Option Bool := match d, e with
  | .int i, .int j => some (decide (i = j))
  | .str x, .str y => some (decide (x = y))
  | d, e => if SeqAt.shaped d = true ∧ SeqAt.shaped e = true then some (PyData.eqv d e) else none
def eqS (S : Sto) (a b : OV) : Option D := match view S a, view S b with
  | some d, some e => (eqD d e).map PyData.bool
  | _, _ => none
def neS (S : Sto) (a b : OV) : Option D := match view S a, view S b with
  | some d, some e => (eqD d e).map fun k => PyData.bool (!k)
  | _, _ => none
def isNoneD : D → Bool
  | .none => true
  | _ => false
def isS (S : Sto) (a b : OV) : Option D := match a, b with
  | .dat d, .dat .none => some (.bool (isNoneD d))
  | _, _ => none
def isNotS (S : Sto) (a b : OV) : Option D := match a, b with
  | .dat d, .dat .none => some (.bool (!isNoneD d))
  | _, _ => none
def flatD : D → Bool
  | .none => true
  | .bool _ => true
  | .int _ => true
  | .str _ => true
  | _ => false
def oneSign (x : Str) : Option Nat := match x.cps.toList with
  | [c] => some c
  | _ => none
def inD (d e : D) : Option Bool := match e with
  | .str z => match d with
    | .str x => (oneSign x).map fun c => decide (c ∈ z.cps.toList)
    | _ => none
  | .tuple ds => if flatD d = true ∧ ds.all flatD = true then some (ds.any fun z => PyData.eqv z d) else none
  | .list ds => if flatD d = true ∧ ds.all flatD = true then some (ds.any fun z => PyData.eqv z d) else if SeqAt.shaped d = true ∧ SeqAt.shaped (.list ds) = true then some (ds.any fun z => PyData.eqv z d) else none
  | _ => none
def inS (S : Sto) (a b : OV) : Option D := match view S a, view S b with
  | some d, some e => (inD d e).map PyData.bool
  | _, _ => none
def notInS (S : Sto) (a b : OV) : Option D := match view S a, view S b with
  | some d, some e => (inD d e).map fun k => PyData.bool (!k)
  | _, _ => none

section
variable {X : Cx}
theorem ro_add : OpR X (binaryOp .Add) (rOf X.K addS) := by
  intro pins s σ H x y v u Q I rx ry h
  obtain ⟨L, S, a, b, d, so, ra, rb, e, q⟩ := h
  unfold addS at e
  split at e
  · rename_i i j h1 h2
    cases e
    obtain rfl := view_int h1 ra so
    obtain rfl := view_int h2 rb so
    exact op_add pins s σ H _ _ v u Q I rx ry ⟨i, j, rfl, rfl, q _ _ Step.refl so (.int _)⟩
  · rename_i i j h1 h2
    split at e
    · rename_i hz
      cases e
      obtain rfl := view_str h1 ra so
      obtain rfl := view_str h2 rb so
      exact op_add_str pins s σ H _ _ v u Q I rx ry ⟨i, j, rfl, rfl, hz, q _ _ Step.refl so (.str _)⟩
    · cases e
  · rename_i i j h1 h2
    split at e
    · rename_i hz
      cases e
      obtain ⟨p1, vs, rfl, m1, r1⟩ := view_list h1 ra so
      obtain ⟨p2, ws, rfl, m2, r2⟩ := view_list h2 rb so
      cases rx
      cases ry
      obtain ⟨its, k1, ⟨⟨cl1, od1, dt1, sl1⟩, n1, e1, c1, d1, q1⟩, z1⟩ := I.list m1
      obtain ⟨its2, k2, ⟨⟨cl2, od2, dt2, sl2⟩, n2, e2, c2, d2, q2⟩, z2⟩ := I.list m2
      simp only at c1 d1 q1 c2 d2 q2
      subst c1 d1 q1 c2 d2 q2
      have hl1 := k1.length
      have hl2 := k2.length
      have hz' : vs.length + ws.length ≤ sizeLine := by rw [r1.length, r2.length]; exact hz
      have road := PyProof.Rows.list_addW p1 p2 its.toArray its2.toArray n1 n2 none none sl1 sl2 (by rw [List.size_toArray, List.size_toArray]; omega)
      refine concat_meets ⟨_, e1, rfl⟩ ⟨_, e2, rfl⟩ noFill_list_add seq_list_add F.slot_list_add F.entry_list_add (F.args_list_add_2 _ _) road ⟨e1, e2, ?_⟩
      rw [show its.toArray ++ its2.toArray = (its ++ its2).toArray by simp]
      exact ⟨.ref _, _, I.lnew (t' := s.toks) (k1.append k2) (by rw [List.length_append]; exact hz'), rfl, q _ _ (step_new I.fresh) (so.laid I.fresh) (new_lst so I.fresh (r1.append r2))⟩
    · cases e
  · rename_i i j h1 h2
    split at e
    · rename_i hz
      cases e
      obtain ⟨p1, vs, rfl, m1, r1⟩ := view_tup h1 ra so
      obtain ⟨p2, ws, rfl, m2, r2⟩ := view_tup h2 rb so
      refine op_catA pins s σ H _ _ v u Q I rx ry ⟨p1, p2, vs, ws, rfl, rfl, m1, m2, by rw [r1.length, r2.length]; exact hz, fun z => ?_, fun z z2 => ?_, fun z z2 p hp => ?_⟩
      · subst z
        cases r1
        refine q _ _ Step.refl so ?_
        cases b with
        | dat d => cases h2; exact rb
        | own n =>
          obtain ⟨c, h3, h4⟩ := rb
          exact (so.obj n c _ h4 h2 : ObjR X.K (mask L H) H c (.tuple j)).elim
      · subst z2
        cases r2
        rw [List.append_nil] at q
        refine q _ _ Step.refl so ?_
        cases a with
        | dat d => cases h1; exact ra
        | own n =>
          obtain ⟨c, h3, h4⟩ := ra
          exact (so.obj n c _ h4 h1 : ObjR X.K (mask L H) H c (.tuple i)).elim
      · exact q _ _ (step_new hp) (so.laid hp) (new_tup so hp (r1.append r2))
    · cases e
  · cases e
theorem ro_sub : OpR X (binaryOp .Sub) (rOf X.K subS) := by
  intro pins s σ H x y v u Q I rx ry h
  obtain ⟨L, S, a, b, d, so, ra, rb, e, q⟩ := h
  unfold subS at e
  split at e
  · rename_i i j h1 h2
    cases e
    obtain rfl := view_int h1 ra so
    obtain rfl := view_int h2 rb so
    exact op_sub pins s σ H _ _ v u Q I rx ry ⟨i, j, rfl, rfl, q _ _ Step.refl so (.int _)⟩
  · cases e
theorem ro_mul : OpR X (binaryOp .Mult) (rOf X.K mulS) := by
  intro pins s σ H x y v u Q I rx ry h
  obtain ⟨L, S, a, b, d, so, ra, rb, e, q⟩ := h
  unfold mulS at e
  split at e
  · rename_i i j h1 h2
    split at e
    · rename_i hz
      cases e
      obtain rfl := view_int h1 ra so
      obtain rfl := view_int h2 rb so
      refine op_mul pins s σ H _ _ v u Q I rx ry ⟨i, j, rfl, rfl, ?_, q _ _ Step.refl so (.int _)⟩
      unfold big at hz
      rcases hz with hz | hz
      · exact .inl ⟨by omega, by omega⟩
      · exact .inr ⟨by omega, by omega⟩
    · cases e
  · rename_i i j h1 h2
    split at e
    · rename_i hz
      cases e
      obtain ⟨p1, vs, rfl, m1, r1⟩ := view_tup h1 ra so
      obtain rfl := view_int h2 rb so
      have rr : ∀ m : Nat, Reps X.K (mask L H) (List.replicate m vs).flatten (List.replicate m i).flatten := fun m => by
        induction m with
        | zero => exact .nil
        | succ m ih => exact r1.append ih
      refine op_repT pins s σ H _ _ v u Q I rx ry ⟨p1, j, vs, rfl, rfl, m1, fun z => hz.1 ?_, hz.2.1, hz.2.2.1, by rw [r1.length]; exact hz.2.2.2, fun p hp => q _ _ (step_new hp) (so.laid hp) (new_tup so hp (rr _))⟩
      subst z
      cases r1
      rfl
    · cases e
  · cases e
theorem op_fdivB : OpR X (binaryOp .FloorDiv) (rI (fun _ j => j ≠ 0 ∧ (j.natAbs < 1073741824 ∨ j.natAbs.log2 < 9000)) fun i j => .int (i.fdiv j)) := opI fun _ _ _ _ _ _ _ hc q => PyProof.Rows.floordiv_int hc.1 q (.inl (hc.2.elim PyProof.noPylong_small PyProof.noPylong_of_log2))
theorem ro_fdiv : OpR X (binaryOp .FloorDiv) (rOf X.K fdivS) := by
  intro pins s σ H x y v u Q I rx ry h
  obtain ⟨L, S, a, b, d, so, ra, rb, e, q⟩ := h
  unfold fdivS at e
  split at e
  · rename_i i j h1 h2
    split at e
    · rename_i hz
      cases e
      obtain rfl := view_int h1 ra so
      obtain rfl := view_int h2 rb so
      exact op_fdivB pins s σ H _ _ v u Q I rx ry ⟨i, j, rfl, rfl, hz, q _ _ Step.refl so (.int _)⟩
    · cases e
  · cases e
theorem ro_mod : OpR X (binaryOp .Mod) (rOf X.K modS) := by
  intro pins s σ H x y v u Q I rx ry h
  obtain ⟨L, S, a, b, d, so, ra, rb, e, q⟩ := h
  unfold modS at e
  split at e
  · rename_i i j h1 h2
    split at e
    · rename_i hz
      cases e
      obtain rfl := view_int h1 ra so
      obtain rfl := view_int h2 rb so
      exact op_modN pins s σ H _ _ v u Q I rx ry ⟨i, j, rfl, rfl, hz, q _ _ Step.refl so (.int _)⟩
    · cases e
  · cases e
theorem ro_pow : OpR X (binaryOp .Pow) (rOf X.K powS) := by
  intro pins s σ H x y v u Q I rx ry h
  obtain ⟨L, S, a, b, d, so, ra, rb, e, q⟩ := h
  unfold powS at e
  split at e
  · rename_i i j h1 h2
    split at e
    · rename_i hz
      cases e
      obtain rfl := view_int h1 ra so
      obtain rfl := view_int h2 rb so
      exact op_pow pins s σ H _ _ v u Q I rx ry ⟨i, j, rfl, rfl, hz, q _ _ Step.refl so (.int _)⟩
    · cases e
  · cases e
theorem ru_neg : UnR X (unaryOp .USub) (rOf1 X.K negS) := by
  intro pins s σ H x v Q I rx h
  obtain ⟨L, S, a, d, so, ra, e, q⟩ := h
  unfold negS at e
  split at e
  · rename_i i h1
    cases e
    obtain rfl := view_int h1 ra so
    exact un_neg pins s σ H _ v Q I rx ⟨i, rfl, q _ _ Step.refl so (.int _)⟩
  · cases e
theorem ro_cmp {op : CmpOp} {p : Int → Int → Bool} (ho : OpR X (compareOp op) (rI0 fun i j => .bl (p i j))) : OpR X (compareOp op) (rOf X.K (cmpS p)) := by
  intro pins s σ H x y v u Q I rx ry h
  obtain ⟨L, S, a, b, d, so, ra, rb, e, q⟩ := h
  unfold cmpS at e
  split at e
  · rename_i i j h1 h2
    cases e
    obtain rfl := view_int h1 ra so
    obtain rfl := view_int h2 rb so
    exact ho pins s σ H _ _ v u Q I rx ry ⟨i, j, rfl, rfl, q _ _ Step.refl so (.bl _)⟩
  · cases e
theorem ro_lt : OpR X (compareOp .Lt) (rOf X.K ltS) := ro_cmp op_lt
theorem ro_le : OpR X (compareOp .LtE) (rOf X.K leS) := ro_cmp op_le
theorem ro_gt : OpR X (compareOp .Gt) (rOf X.K gtS) := ro_cmp op_gt
theorem ro_ge : OpR X (compareOp .GtE) (rOf X.K geS) := ro_cmp op_ge
theorem shaped_lay {d : D} (h : SeqAt.shaped d = true) : PyData.canLay0 d = true := SeqAt.canLay_of_shaped h
theorem ro_eq {k : Nat} (hr : Room k X.A) : OpR X (compareOp .Eq) (rOf X.K eqS) := by
  intro pins s σ H x y v u Q I rx ry h
  obtain ⟨L, S, a, b, d, so, ra, rb, e, q⟩ := h
  unfold eqS at e
  split at e
  · rename_i d1 d2 h1 h2
    unfold eqD at e
    split at e
    · cases e
      obtain rfl := view_int h1 ra so
      obtain rfl := view_int h2 rb so
      refine op_eq pins s σ H _ _ v u Q I rx ry ⟨rfl, ?_⟩
      have := q (.bl (decide (_ = _))) H Step.refl so (.bl _)
      simpa using this
    · cases e
      obtain rfl := view_str h1 ra so
      obtain rfl := view_str h2 rb so
      refine op_eq pins s σ H _ _ v u Q I rx ry ⟨rfl, ?_⟩
      have := q (.bl (decide (_ = _))) H Step.refl so (.bl _)
      simpa using this
    · split at e
      · rename_i hz
        cases e
        exact op_eqD hr.units pins s σ H _ _ v u Q I rx ry ⟨_, _, view_rep h1 ra so (shaped_lay hz.1), view_rep h2 rb so (shaped_lay hz.2), hz.1, hz.2, q _ _ Step.refl so (.bl _)⟩
      · cases e
  · cases e
theorem ro_ne {k : Nat} (hr : Room k X.A) : OpR X (compareOp .NotEq) (rOf X.K neS) := by
  intro pins s σ H x y v u Q I rx ry h
  obtain ⟨L, S, a, b, d, so, ra, rb, e, q⟩ := h
  unfold neS at e
  split at e
  · rename_i d1 d2 h1 h2
    unfold eqD at e
    split at e
    · cases e
      obtain rfl := view_int h1 ra so
      obtain rfl := view_int h2 rb so
      refine op_ne pins s σ H _ _ v u Q I rx ry ⟨rfl, ?_⟩
      have := q (.bl (!decide (_ = _))) H Step.refl so (.bl _)
      simpa using this
    · cases e
      obtain rfl := view_str h1 ra so
      obtain rfl := view_str h2 rb so
      refine op_ne pins s σ H _ _ v u Q I rx ry ⟨rfl, ?_⟩
      have := q (.bl (!decide (_ = _))) H Step.refl so (.bl _)
      simpa using this
    · split at e
      · rename_i hz
        cases e
        exact op_neD hr.units pins s σ H _ _ v u Q I rx ry ⟨_, _, view_rep h1 ra so (shaped_lay hz.1), view_rep h2 rb so (shaped_lay hz.2), hz.1, hz.2, q _ _ Step.refl so (.bl _)⟩
      · cases e
  · cases e
theorem isNone_rep {K : PySem.W.Frag} {G : Hp} {x : V} : ∀ {d : D}, Rep K G x d → decide (x = .non) = isNoneD d
  | _, .non => rfl
  | _, .bl _ => rfl
  | _, .int _ => rfl
  | _, .str _ => rfl
  | _, .lst _ _ => rfl
  | _, .tup _ _ => rfl
  | _, .dk _ _ _ => rfl
  | _, .dt _ _ _ => rfl
  | _, .op h => by
    obtain ⟨a, rfl⟩ := h.ref
    rfl
theorem ro_is : OpR X (compareOp .Is) (rOf X.K isS) := by
  intro pins s σ H x y v u Q I rx ry h
  obtain ⟨L, S, a, b, d, so, ra, rb, e, q⟩ := h
  unfold isS at e
  split at e
  · cases e
    cases rb
    refine op_isN pins s σ H _ _ v u Q I rx ry ⟨rfl, ?_⟩
    rw [isNone_rep ra]
    exact q _ _ Step.refl so (.bl _)
  · cases e
theorem ro_isNot : OpR X (compareOp .IsNot) (rOf X.K isNotS) := by
  intro pins s σ H x y v u Q I rx ry h
  obtain ⟨L, S, a, b, d, so, ra, rb, e, q⟩ := h
  unfold isNotS at e
  split at e
  · cases e
    cases rb
    refine op_notN pins s σ H _ _ v u Q I rx ry ⟨rfl, ?_⟩
    rw [isNone_rep ra]
    exact q _ _ Step.refl so (.bl _)
  · cases e
theorem flat_rep {K : PySem.W.Frag} {G : Hp} {x : V} : ∀ {d : D}, Rep K G x d → flatV x = flatD d
  | _, .non => rfl
  | _, .bl _ => rfl
  | _, .int _ => rfl
  | _, .str _ => rfl
  | _, .lst _ _ => rfl
  | _, .tup _ _ => rfl
  | _, .dk _ _ _ => rfl
  | _, .dt _ _ _ => rfl
  | _, .op h => by
    obtain ⟨a, rfl⟩ := h.ref
    rfl
theorem eqV_rep {K : PySem.W.Frag} {G : Hp} {x y : V} {d e : D} (r : Rep K G x d) (r2 : Rep K G y e) (f : flatD d = true) (f2 : flatD e = true) : eqV x y = PyData.eqv d e := by
  cases r <;> first | (cases f; done) | (cases r2 <;> first | (cases f2; done) | (simp [eqV, PyData.eqv]))
theorem inV_rep {K : PySem.W.Frag} {G : Hp} {x : V} {d : D} (r : Rep K G x d) (f : flatD d = true) : ∀ {vs : List V} {ds : List D}, Reps K G vs ds → ds.all flatD = true → vs.all flatV = true ∧ inV x vs = ds.any fun z => PyData.eqv z d
  | _, _, .nil, _ => ⟨rfl, rfl⟩
  | v :: vs, e :: ds, .cons h t, k => by
    rw [List.all_cons, Bool.and_eq_true] at k
    obtain ⟨h1, h2⟩ := inV_rep r f t k.2
    refine ⟨by rw [List.all_cons, h1, flat_rep h, k.1]; rfl, ?_⟩
    show (eqV v x || inV x vs) = (PyData.eqv e d || ds.any fun z => PyData.eqv z d)
    rw [h2, eqV_rep h r k.1 f]
theorem view_flat {K : PySem.W.Frag} {L : List Addr} {H : Hp} {S : Sto} {v : V} {d : D} (f : flatD d = true) : ∀ {o : OV}, view S o = some d → RepO K L H v o → StoR K L H S → Rep K (mask L H) v d
  | .dat d', e, r, s => by cases e; exact r
  | .own n, e, ⟨a, h1, h2⟩, s => by
    have q := s.obj n a _ h2 e
    cases d <;> first | (cases f; done) | exact q.elim
theorem sign_of {x : Str} {c : Nat} (h : oneSign x = some c) : x = ⟨#[c]⟩ := by
  unfold oneSign at h
  split at h
  · rename_i q
    cases h
    obtain ⟨cps⟩ := x
    have : cps = #[c] := by
      apply Array.toList_inj.mp
      exact q
    rw [this]
  · cases h
theorem in_run {op : CmpOp} {neg : Bool} (h1 : OpR X (compareOp op) (rIn X.K neg)) (h2 : OpR X (compareOp op) (fun x y H Q => ∃ (c : Nat) (z : Str), x = .str ⟨#[c]⟩ ∧ y = .str z ∧ Q (.bl (if neg then !decide (c ∈ z.cps.toList) else decide (c ∈ z.cps.toList))) H))
    (h3 : OpR X (compareOp op) (fun x y H Q => ∃ d ds, Dp X.K H x d ∧ Dp X.K H y (.list ds) ∧ SeqAt.shaped d = true ∧ SeqAt.shaped (.list ds) = true ∧ Q (.bl (if neg then !(ds.any fun z => PyData.eqv z d) else ds.any fun z => PyData.eqv z d)) H))
    {g : Sto → OV → OV → Option D} (hg : ∀ S a b d, g S a b = some d → ∃ d1 d2 k, view S a = some d1 ∧ view S b = some d2 ∧ inD d1 d2 = some k ∧ d = .bool (if neg then !k else k)) : OpR X (compareOp op) (rOf X.K g) := by
  intro pins s σ H x y v u Q I rx ry h
  obtain ⟨L, S, a, b, d, so, ra, rb, e, q⟩ := h
  obtain ⟨d1, d2, k, e1, e2, e3, rfl⟩ := hg S a b d e
  unfold inD at e3
  split at e3
  · rename_i z
    split at e3
    · rename_i x'
      cases hs : oneSign x' with
      | none => rw [hs] at e3; cases e3
      | some c =>
        rw [hs] at e3
        cases e3
        obtain rfl := view_str e1 ra so
        obtain rfl := view_str e2 rb so
        exact h2 pins s σ H _ _ v u Q I rx ry ⟨c, z, by rw [sign_of hs], rfl, q _ _ Step.refl so (.bl _)⟩
    · cases e3
  · rename_i ds
    split at e3
    · rename_i hz
      cases e3
      obtain ⟨p, vs, rfl, m, r⟩ := view_tup e2 rb so
      have rx' := view_flat hz.1 e1 ra so
      obtain ⟨k1, k2⟩ := inV_rep rx' hz.1 r hz.2
      refine h1 pins s σ H _ _ v u Q I rx ry ⟨p, vs, rfl, .inr m, by rw [flat_rep rx']; exact hz.1, k1, ?_⟩
      rw [k2]
      exact q _ _ Step.refl so (.bl _)
    · cases e3
  · rename_i ds
    split at e3
    · rename_i hz
      cases e3
      obtain ⟨p, vs, rfl, m, r⟩ := view_list e2 rb so
      have rx' := view_flat hz.1 e1 ra so
      obtain ⟨k1, k2⟩ := inV_rep rx' hz.1 r hz.2
      refine h1 pins s σ H _ _ v u Q I rx ry ⟨p, vs, rfl, .inl m, by rw [flat_rep rx']; exact hz.1, k1, ?_⟩
      rw [k2]
      exact q _ _ Step.refl so (.bl _)
    · split at e3
      · rename_i hz
        cases e3
        exact h3 pins s σ H _ _ v u Q I rx ry ⟨_, ds, view_rep e1 ra so (shaped_lay hz.1), view_rep e2 rb so (shaped_lay hz.2), hz.1, hz.2, q _ _ Step.refl so (.bl _)⟩
      · cases e3
  · cases e3
theorem room65 {k : Nat} {A : Around} (hr : Room k A) : A.units + 65 < cLine := by
  have := hr.un
  omega
theorem ro_in {k : Nat} (hr : Room k X.A) : OpR X (compareOp .In) (rOf X.K inS) := by
  refine in_run (neg := false) op_in_seq op_in_sign (op_inD (room65 hr)) fun S a b d e => ?_
  unfold inS at e
  split at e
  · rename_i d1 d2 h1 h2
    cases e3 : inD d1 d2 with
    | none => rw [e3] at e; cases e
    | some k =>
      rw [e3] at e
      cases e
      exact ⟨_, _, k, h1, h2, e3, rfl⟩
  · cases e
theorem ro_notIn {k : Nat} (hr : Room k X.A) : OpR X (compareOp .NotIn) (rOf X.K notInS) := by
  refine in_run (neg := true) op_notIn_seq op_notIn_sign (op_notInD (room65 hr)) fun S a b d e => ?_
  unfold notInS at e
  split at e
  · rename_i d1 d2 h1 h2
    cases e3 : inD d1 d2 with
    | none => rw [e3] at e; cases e
    | some k =>
      rw [e3] at e
      cases e
      exact ⟨_, _, k, h1, h2, e3, rfl⟩
  · cases e
end
end Dk
set_option Elab.async false
set_option linter.all false
set_option maxRecDepth 100000
set_option maxHeartbeats 4000000
/-! Subscripts, slices, built-ins, methods on data. -/
namespace Dk
open PySem PySem.Spec L2

/-! ### subscripts -/
def ixS (S : Sto) (a b : OV) : Option D := match view S a, view S b with
  | some (.list ds), some (.int i) => atI ds i
  | some (.tuple ds), some (.int i) => atI ds i
  | some (.str x), some (.int i) => if x.length ≤ sizeLine then (atI x.cps.toList i).map fun c => .str ⟨#[c]⟩ else none
  | _, _ => none
theorem Reps.atI {K : PySem.W.Frag} {G : Hp} {vs : List V} {ds : List D} (r : Reps K G vs ds) {i : Int} {d : D} (h : L2.atI ds i = some d) : ∃ v, L2.atI vs i = some v ∧ Rep K G v d := by
  unfold L2.atI at h ⊢
  rw [r.length]
  obtain ⟨j, h1, h2⟩ := opt_bind h
  obtain ⟨v, h3, h4⟩ := r.at_ h2
  exact ⟨v, by rw [h1]; exact h3, h4⟩
/-! dicts as data: keys that are ints and texts, or tuples of them -/
def keyOf1 : D → Option L2.Key
  | .int i => some (.inl i)
  | .str x => some (.inr x)
  | _ => none
def keysOf : List D → Option (List L2.Key)
  | [] => some []
  | d :: r => (keyOf1 d).bind fun k => (keysOf r).map (k :: ·)
def valD (ks : List (D × D)) (d : D) : Option D := (ks.find? fun p => PyData.eqv p.1 d).map (·.2)
theorem keyOf1_eq {d : D} {k : L2.Key} (h : keyOf1 d = some k) : d = keyD k := by
  cases d <;> cases h <;> rfl
theorem keysOf_eq : ∀ {ds : List D} {ks : List L2.Key}, keysOf ds = some ks → ds = ks.map keyD
  | [], _, h => by cases h; rfl
  | d :: r, _, h => by
    obtain ⟨k, e1, h1⟩ := opt_bind (show (keyOf1 d).bind _ = some _ from h)
    cases e2 : keysOf r with
    | none => rw [e2] at h1; cases h1
    | some l =>
      rw [e2] at h1
      cases h1
      rw [keyOf1_eq e1, keysOf_eq e2]
      rfl
theorem eqv_key (a b : L2.Key) : PyData.eqv (keyD a) (keyD b) = decide (a = b) := by
  rw [Bool.eq_iff_iff]
  cases a <;> cases b <;> simp [keyD, PyData.eqv]
theorem eqv_keysAll : ∀ a b : List L2.Key, PyData.eqvAll (a.map keyD) (b.map keyD) = decide (a = b)
  | [], [] => by simp [PyData.eqvAll]
  | [], _ :: _ => by simp [PyData.eqvAll]
  | _ :: _, [] => by simp [PyData.eqvAll]
  | a :: l, b :: m => by
    rw [List.map_cons, List.map_cons, PyData.eqvAll, eqv_key, eqv_keysAll l m]
    rw [Bool.eq_iff_iff]
    simp
theorem eqv_keys (a b : List L2.Key) : PyData.eqv (keysD a) (keysD b) = decide (a = b) := by
  unfold keysD
  rw [PyData.eqv]
  exact eqv_keysAll a b
theorem valD_rep {κ : Type} [DecidableEq κ] {K : PySem.W.Frag} {G : Hp} (f : κ → D) (hf : ∀ a b, PyData.eqv (f a) (f b) = decide (a = b)) (k : κ) : ∀ {ks : List κ} {vs : List V} {ds : List D}, ks.length = vs.length → Reps K G vs ds →
    (∀ d, valD ((ks.map f).zip ds) (f k) = some d → ∃ v, valV (ks.zip vs) k = some v ∧ Rep K G v d) ∧ ((valD ((ks.map f).zip ds) (f k)).isSome = (valV (ks.zip vs) k).isSome)
  | [], _, _, _, _ => ⟨fun d h => (by cases h), rfl⟩
  | _ :: _, [], _, hl, _ => (by simp at hl)
  | a :: ks, v :: vs, _, hl, r => by
    cases r with
    | cons h t =>
    rename_i d ds
    have ih := valD_rep f hf k (ks := ks) (by simpa using hl) t
    by_cases c : a = k
    · subst c
      have e1 : valD (((a :: ks).map f).zip (d :: ds)) (f a) = some d := by simp [valD, List.find?_cons, hf]
      have e2 : valV ((a :: ks).zip (v :: vs)) a = some v := by simp [valV, List.find?_cons]
      refine ⟨fun d' q => ?_, by rw [e1, e2]; rfl⟩
      rw [e1] at q
      cases q
      exact ⟨v, e2, h⟩
    · have e1 : valD (((a :: ks).map f).zip (d :: ds)) (f k) = valD ((ks.map f).zip ds) (f k) := by simp [valD, List.find?_cons, hf, c]
      have e2 : valV ((a :: ks).zip (v :: vs)) k = valV (ks.zip vs) k := by simp [valV, List.find?_cons, c]
      rw [e1, e2]
      exact ih
/-- what may be asked of a dict: its keys are of the kind of the one that is asked for -/
def isK1 : D → Bool
  | .int _ => true
  | .str _ => true
  | _ => false
def isKT : D → Bool
  | .tuple ds => (keysOf ds).isSome
  | _ => false
def dgetD (kvs : List (D × D)) (k : D) : Option D := if (isK1 k = true ∧ kvs.all fun p => isK1 p.1) ∨ (isKT k = true ∧ kvs.all fun p => isKT p.1) then valD kvs k else none
def ixA (S : Sto) (a b : OV) : Option D := match view S a with
  | some (.dict kvs) => (view S b).bind fun k => dgetD kvs k
  | _ => ixS S a b
section
variable {X : Cx} {C : Str → Value} {W : WX} {a b : Expr} {pos : Pos} {fa fb : E1}
theorem ri_ix : IxR X (rOf X.K ixS) := by
  intro value slice pins s σ H x y v u Q I rx ry h hs
  obtain ⟨L, S, a, b, d, so, ra, rb, e, q⟩ := h
  unfold ixS at e
  split at e
  · rename_i ds i h1 h2
    obtain ⟨p1, vs, rfl, m1, r1⟩ := view_list h1 ra so
    obtain rfl := view_int h2 rb so
    obtain ⟨w, k1, k2⟩ := r1.atI e
    exact ix_list value slice pins s σ H _ _ v u Q I rx ry ⟨p1, vs, i, w, rfl, rfl, m1, k1, q _ _ Step.refl so k2⟩ hs
  · rename_i ds i h1 h2
    obtain ⟨p1, vs, rfl, m1, r1⟩ := view_tup h1 ra so
    obtain rfl := view_int h2 rb so
    obtain ⟨w, k1, k2⟩ := r1.atI e
    exact ix_tup value slice pins s σ H _ _ v u Q I rx ry ⟨p1, vs, i, w, rfl, rfl, m1, k1, q _ _ Step.refl so k2⟩ hs
  · rename_i z i h1 h2
    split at e
    · rename_i hz
      obtain rfl := view_str h1 ra so
      obtain rfl := view_int h2 rb so
      cases k : L2.atI z.cps.toList i with
      | none => rw [k] at e; cases e
      | some c =>
        rw [k] at e
        cases e
        exact ix_str value slice pins s σ H _ _ v u Q I rx ry ⟨z, i, c, rfl, rfl, hz, k, q _ _ Step.refl so (.str _)⟩ hs
    · cases e
  · cases e
theorem de_ix (ha : DE X C W a fa) (hb : DE X C W b fb) (hs : PlainIx b) : DE X C W (.Subscript a b pos) (op2 ixS fa fb) := by
  obtain ⟨ta, p1, s1⟩ := ha.ex
  obtain ⟨tb, p2, s2⟩ := hb.ex
  exact ⟨_, pe_ix ri_ix p1 p2 hs, sm_op s1 s2⟩
end

/-! ### slices -/
abbrev EO := Env1 → Sto → Rs (Option Int)
def SmO (K : PySem.W.Frag) (C : Str → Value) (W : WX) (t : TO) (f : EO) : Prop := ∀ ρ S r S', f ρ S = some (r, S') → ∀ L σ H (Q : Option Int → Hp → Prop), EnvR K L H σ ρ → StoR K L H S →
  Post K C W L H σ S' r (fun _ H' b => Q b H') → t σ H Q
structure DO (X : Cx) (C : Str → Value) (W : WX) (e : Option Expr) (f : EO) : Prop where
  ex : ∃ t, PO X e t ∧ SmO X.K C W t f
def oNone : EO := fun _ S => ret none S
def oSome (f : E1) : EO := fun ρ S => (f ρ S).bind fun a S1 => match a with
  | .dat (.int i) => ret (some i) S1
  | _ => none
def cutD {α : Type} (xs : List α) (lo hi : Option Int) : List α := (xs.drop (HT.sIx xs.length 0 lo)).take (HT.sIx xs.length xs.length hi - HT.sIx xs.length 0 lo)
def slS (S : Sto) (a : OV) (lo hi : Option Int) : Option D := match view S a with
  | some (.list ds) => some (.list (cutD ds lo hi))
  | some (.tuple ds) => some (.tuple (cutD ds lo hi))
  | some (.str x) => if x.length ≤ sizeLine then some (.str (cutS x lo hi)) else none
  | _ => none
def slL (S : Sto) (a : OV) (lo hi : Option Int) : Option (List D) := match view S a with
  | some (.list ds) => some (cutD ds lo hi)
  | _ => none
theorem Reps.cut {K : PySem.W.Frag} {G : Hp} {vs : List V} {ds : List D} (r : Reps K G vs ds) (lo hi : Option Int) : Reps K G (cutV vs lo hi) (cutD ds lo hi) := by
  unfold cutV cutD
  rw [r.length]
  exact (r.drop _).take _
theorem cut_whole {α : Type} (xs : List α) (lo hi : Option Int) (h : HT.sIx xs.length 0 lo = 0 ∧ HT.sIx xs.length xs.length hi = xs.length) : cutD xs lo hi = xs := by
  unfold cutD
  rw [h.1, h.2]
  simp
def fSl (f : E1) (lo hi : EO) : E1 := fun ρ S => (f ρ S).bind fun a S1 => (lo ρ S1).bind fun l S2 => (hi ρ S2).bind fun h S3 => (slS S3 a l h).bind fun d => ret (.dat d) S3
def fSlL (f : E1) (lo hi : EO) : EF := fun ρ S => (f ρ S).bind fun a S1 => (lo ρ S1).bind fun l S2 => (hi ρ S2).bind fun h S3 => (slL S3 a l h).bind fun d => ret d S3
section
variable {X : Cx} {C : Str → Value} {W : WX} {e : Expr} {fe : E1} {lo hi : Option Expr} {fl fh : EO} {pos p2 : Pos}
theorem SmO.bind {K : PySem.W.Frag} {β : Type} {ρ : Env1} {S S' : Sto} {r : Sum β Exn} {L : List Addr} {H : Hp} {σ : L2.St} {ok : List Addr → Hp → β → Prop} {ta : TO} {fa : EO} (ha : SmO K C W ta fa) {k : Option Int → Sto → Rs β} (h : (fa ρ S).bind k = some (r, S')) (en : EnvR K L H σ ρ) (so : StoR K L H S) (po : Post K C W L H σ S' r ok) {R : Option Int → Hp → Prop}
    (go : ∀ a S1 L1 H1, k a S1 = some (r, S') → Step L H L1 H1 → StoR K L1 H1 S1 → EnvR K L1 H1 σ ρ → Post K C W L1 H1 σ S' r ok → R a H1) : ta σ H R := by
  cases e : fa ρ S with
  | none => rw [e] at h; cases h
  | some q =>
    obtain ⟨q, S1⟩ := q
    rw [e] at h
    cases q with
    | inr x =>
      cases h
      exact ha ρ S _ _ e L σ H R en so ⟨fun b z => (by cases z), fun e' he L' H' st so' cls d x => po.bad e' (by cases he; rfl) L' H' st so' cls d x⟩
    | inl a =>
      refine ha ρ S _ _ e L σ H R en so ⟨fun b z L' H' st so' => ?_, fun e' he => by cases he⟩
      cases z
      exact go a S1 L' H' h st so' (en.step st) (po.step st)
theorem do_none : DO X C W none oNone := ⟨_, po_none, fun ρ S r S' h L σ H Q en so po => po.done (S0 := S) h Step.refl so⟩
theorem do_some (h : DE X C W e fe) : DO X C W (some e) (oSome fe) := by
  obtain ⟨t, p, s⟩ := h.ex
  refine ⟨_, po_some p, fun ρ S r S' h L σ H Q en so po => ?_⟩
  refine s.bind h en so po fun a S1 L1 H1 v h1 st1 so1 r1 en1 po1 => ?_
  cases a with
  | own n => cases h1
  | dat d =>
    cases d <;> try (cases h1; done)
    rename_i k
    cases (r1 : Rep X.K _ v (.int k))
    exact ⟨k, rfl, po1.done (S0 := S1) h1 Step.refl so1⟩
def rOfSl (K : PySem.W.Frag) : V → Option Int → Option Int → Hp → VK → Prop := fun x lo hi H Q => ∃ L S a d, StoR K L H S ∧ RepO K L H x a ∧ slS S a lo hi = some d ∧
  ∀ v H', Step L H L H' → StoR K L H' S → Rep K (mask L H') v d → Q v H'
theorem rs_sl : SlR X (rOfSl X.K) := by
  intro pins s σ H x v vl vu lo hi sl Q I rx hs pl pu h
  obtain ⟨L, S, a, d, so, ra, e, q⟩ := h
  unfold slS at e
  split at e
  · rename_i ds h1
    cases e
    obtain ⟨p1, vs, rfl, m1, r1⟩ := view_list h1 ra so
    exact sl_list pins s σ H _ v vl vu lo hi sl Q I rx hs pl pu ⟨p1, vs, rfl, m1, fun p hp => q _ _ (step_new hp) (so.laid hp) (new_lst so hp (r1.cut lo hi))⟩
  · rename_i ds h1
    cases e
    obtain ⟨p1, vs, rfl, m1, r1⟩ := view_tup h1 ra so
    refine sl_tupA pins s σ H _ v vl vu lo hi sl Q I rx hs pl pu ⟨p1, vs, rfl, m1, fun z => ?_, fun z p hp => q _ _ (step_new hp) (so.laid hp) (new_tup so hp (r1.cut lo hi))⟩
    rw [cut_whole ds lo hi (by rw [← r1.length]; exact z)] at q
    refine q _ _ Step.refl so ?_
    cases a with
    | dat d => cases h1; exact ra
    | own n =>
      obtain ⟨c, h3, h4⟩ := ra
      exact (so.obj n c _ h4 h1 : ObjR X.K (mask L H) H c (.tuple ds)).elim
  · rename_i z h1
    split at e
    · rename_i hz
      cases e
      obtain rfl := view_str h1 ra so
      exact sl_str pins s σ H _ v vl vu lo hi sl Q I rx hs pl pu ⟨z, rfl, hz, q _ _ Step.refl so (.str _)⟩
    · cases e
  · cases e
theorem de_sl (h : DE X C W e fe) (hl : DO X C W lo fl) (hh : DO X C W hi fh) : DE X C W (.Subscript e (.Slice lo hi none p2) pos) (fSl fe fl fh) := by
  obtain ⟨t, p, s⟩ := h.ex
  obtain ⟨tl, q1, s1⟩ := hl.ex
  obtain ⟨th, q2, s2⟩ := hh.ex
  refine ⟨_, pe_slice rs_sl p q1 q2, fun ρ S r S' h L σ H Q en so po => ?_⟩
  refine s.bind h en so po fun a S1 L1 H1 v h1 st1 so1 r1 en1 po1 => ?_
  refine s1.bind h1 en1 so1 po1 fun l S2 L2 H2 h2 st2 so2 en2 po2 => ?_
  refine s2.bind h2 en2 so2 po2 fun l' S3 L3 H3 h3 st3 so3 en3 po3 => ?_
  obtain ⟨d, e1, h4⟩ := opt_bind h3
  exact ⟨L3, S3, a, d, so3, (r1.step st2).step st3, e1, fun w H' st so' rw' => po3.done (S0 := S3) h4 st so' w rw'⟩
theorem df_sl (h : DE X C W e fe) (hl : DO X C W lo fl) (hh : DO X C W hi fh) : DF X C W (.Subscript e (.Slice lo hi none p2) pos) (fSlL fe fl fh) := by
  obtain ⟨t, p, s⟩ := h.ex
  obtain ⟨tl, q1, s1⟩ := hl.ex
  obtain ⟨th, q2, s2⟩ := hh.ex
  refine ⟨_, pe_slice sl_list p q1 q2, fun ρ S r S' h L σ H Q en so po => ?_⟩
  refine s.bind h en so po fun a S1 L1 H1 v h1 st1 so1 r1 en1 po1 => ?_
  refine s1.bind h1 en1 so1 po1 fun l S2 L2 H2 h2 st2 so2 en2 po2 => ?_
  refine s2.bind h2 en2 so2 po2 fun l' S3 L3 H3 h3 st3 so3 en3 po3 => ?_
  obtain ⟨d, e1, h4⟩ := opt_bind h3
  unfold slL at e1
  split at e1
  · rename_i ds k1
    cases e1
    obtain ⟨p1, vs, rfl, m1, r1⟩ := view_list k1 ((r1.step st2).step st3) so3
    exact ⟨p1, vs, rfl, m1, fun w hw => po3.done (S0 := S3) h4 Step.refl so3 w _ hw (r1.cut _ _)⟩
  · cases e1
end

/-! ### built-ins by values -/
def rOfL (K : PySem.W.Frag) (g : Sto → List OV → Option D) : List V → Hp → VK → Prop := fun xs H Q => ∃ L S os d, StoR K L H S ∧ RepOs K L H xs os ∧ g S os = some d ∧
  ∀ v H', Step L H L H' → StoR K L H' S → Rep K (mask L H') v d → Q v H'
def opL (g : Sto → List OV → Option D) (fs : EL) : E1 := fun ρ S => (fs ρ S).bind fun os S1 => (g S1 os).bind fun d => ret (.dat d) S1
/-- .. that give a new list -/
def rOfF (K : PySem.W.Frag) (g : Sto → List OV → Option (List D)) : List V → Hp → VK → Prop := fun xs H Q => ∃ L S os ds, StoR K L H S ∧ RepOs K L H xs os ∧ g S os = some ds ∧
  ∀ p vs, H p = none → Reps K (mask L H) vs ds → Q (.ref p) (upd H p (.lst vs))
def opF (g : Sto → List OV → Option (List D)) (fs : EL) : EF := fun ρ S => (fs ρ S).bind fun os S1 => (g S1 os).bind fun ds => ret ds S1
section
variable {X : Cx} {C : Str → Value} {W : WX} {e : Expr} {es : List Expr} {fs : EL} {p pos : Pos} {x : Str} {K : PySem.W.Frag}
theorem sm_cb {g : Sto → List OV → Option D} {t : TA} (s : SmA K C W t fs) : SmE K C W (tCB (rOfL K g) t) (opL g fs) := fun ρ S r S' h L σ H Q en so po => by
  refine s.bind h en so po fun os S1 L1 H1 vs h1 st1 so1 r1 en1 po1 => ?_
  obtain ⟨d, e1, h2⟩ := opt_bind h1
  exact ⟨L1, S1, os, d, so1, r1, e1, fun w H' st so' rw' => po1.done (S0 := S1) h2 st so' w rw'⟩
theorem sm_cf {g : Sto → List OV → Option (List D)} {t : TA} (s : SmA K C W t fs) : SmF K C W (tCB (rOfF K g) t) (opF g fs) := fun ρ S r S' h L σ H Q en so po => by
  refine s.bind h en so po fun os S1 L1 H1 vs h1 st1 so1 r1 en1 po1 => ?_
  obtain ⟨ds, e1, h2⟩ := opt_bind h1
  exact ⟨L1, S1, os, ds, so1, r1, e1, fun q ws hq rs => po1.done (S0 := S1) h2 Step.refl so1 q ws hq rs⟩
theorem de_callB {id : String} {g : Sto → List OV → Option D} (hc : CallR X (.builtin id) (rOfL X.K g)) (hg : Gl X x) (hm : X.mg x = none) (hv : bootBuiltins x = some (.builtin id)) (ha : DA X C W (e :: es) fs) (hn : x ≠ "__name__" := by decide) (hdb : (x == ("__debug__" : Str)) = false := by decide)
    (he : starEach (e :: es) X.env = (false, eval e X.env) :: starEach es X.env := by rfl) (hpl : (backTo pos (starEach es X.env)).any (·.1) = false := by rfl) : DE X C W (.Call (.Name x p) (e :: es) [] pos) (opL g fs) := by
  obtain ⟨t, pa, s⟩ := ha.ex
  exact ⟨_, pe_callB hc hg hm hv pa hn hdb he hpl, sm_cb s⟩
theorem de_callTy {T : String} {g : Sto → List OV → Option D} (hc : CallR X (.type T) (rOfL X.K g)) (hg : Gl X x) (hm : X.mg x = none) (hv : bootBuiltins x = some (.type T)) (ha : DA X C W (e :: es) fs) (hn : x ≠ "__name__" := by decide) (hdb : (x == ("__debug__" : Str)) = false := by decide)
    (he : starEach (e :: es) X.env = (false, eval e X.env) :: starEach es X.env := by rfl) (hpl : (backTo pos (starEach es X.env)).any (·.1) = false := by rfl) : DE X C W (.Call (.Name x p) (e :: es) [] pos) (opL g fs) := by
  obtain ⟨t, pa, s⟩ := ha.ex
  exact ⟨_, pe_callTy hc hg hm hv pa hn hdb he hpl, sm_cb s⟩
theorem df_callB {id : String} {g : Sto → List OV → Option (List D)} (hc : CallR X (.builtin id) (rOfF X.K g)) (hg : Gl X x) (hm : X.mg x = none) (hv : bootBuiltins x = some (.builtin id)) (ha : DA X C W (e :: es) fs) (hn : x ≠ "__name__" := by decide) (hdb : (x == ("__debug__" : Str)) = false := by decide)
    (he : starEach (e :: es) X.env = (false, eval e X.env) :: starEach es X.env := by rfl) (hpl : (backTo pos (starEach es X.env)).any (·.1) = false := by rfl) : DF X C W (.Call (.Name x p) (e :: es) [] pos) (opF g fs) := by
  obtain ⟨t, pa, s⟩ := ha.ex
  exact ⟨_, pe_callB hc hg hm hv pa hn hdb he hpl, sm_cf s⟩
theorem df_callTy {T : String} {g : Sto → List OV → Option (List D)} (hc : CallR X (.type T) (rOfF X.K g)) (hg : Gl X x) (hm : X.mg x = none) (hv : bootBuiltins x = some (.type T)) (ha : DA X C W (e :: es) fs) (hn : x ≠ "__name__" := by decide) (hdb : (x == ("__debug__" : Str)) = false := by decide)
    (he : starEach (e :: es) X.env = (false, eval e X.env) :: starEach es X.env := by rfl) (hpl : (backTo pos (starEach es X.env)).any (·.1) = false := by rfl) : DF X C W (.Call (.Name x p) (e :: es) [] pos) (opF g fs) := by
  obtain ⟨t, pa, s⟩ := ha.ex
  exact ⟨_, pe_callTy hc hg hm hv pa hn hdb he hpl, sm_cf s⟩
end

def lenS (S : Sto) (os : List OV) : Option D := match os with
  | [o] => match view S o with
    | some (.list ds) => some (.int ds.length)
    | some (.tuple ds) => some (.int ds.length)
    | some (.str x) => if x.length ≤ sizeLine then some (.int x.length) else none
    | _ => none
  | _ => none
def intS (S : Sto) (os : List OV) : Option D := match os with
  | [o] => match view S o with
    | some (.int i) => some (.int i)
    | some (.bool k) => some (.int (if k then 1 else 0))
    | some (.str x) => if x.length ≤ 640 then (PySem.intText? x).map PyData.int else none
    | _ => none
  | _ => none
def strS (S : Sto) (os : List OV) : Option D := match os with
  | [o] => match view S o with
    | some (.int i) => if i.natAbs.log2 < 1920 then some (.str (toString i)) else none
    | _ => none
  | _ => none
def asInts : List D → Option (List Int)
  | [] => some []
  | .int i :: r => (asInts r).map (i :: ·)
  | _ => none
def asBools : List D → Option (List Bool)
  | [] => some []
  | .bool i :: r => (asBools r).map (i :: ·)
  | _ => none
def asStrs : List D → Option (List Str)
  | [] => some []
  | .str i :: r => (asStrs r).map (i :: ·)
  | _ => none
theorem asInts_eq : ∀ {ds : List D} {ns : List Int}, asInts ds = some ns → ds = ns.map .int
  | [], _, h => by cases h; rfl
  | .int i :: r, _, h => by
    unfold asInts at h
    cases e : asInts r with
    | none => rw [e] at h; cases h
    | some q => rw [e] at h; cases h; rw [asInts_eq e]; rfl
  | .none :: _, _, h => by cases h
  | .bool _ :: _, _, h => by cases h
  | .str _ :: _, _, h => by cases h
  | .list _ :: _, _, h => by cases h
  | .tuple _ :: _, _, h => by cases h
  | .dict _ :: _, _, h => by cases h
theorem asBools_eq : ∀ {ds : List D} {ns : List Bool}, asBools ds = some ns → ds = ns.map .bool
  | [], _, h => by cases h; rfl
  | .bool i :: r, _, h => by
    unfold asBools at h
    cases e : asBools r with
    | none => rw [e] at h; cases h
    | some q => rw [e] at h; cases h; rw [asBools_eq e]; rfl
  | .none :: _, _, h => by cases h
  | .int _ :: _, _, h => by cases h
  | .str _ :: _, _, h => by cases h
  | .list _ :: _, _, h => by cases h
  | .tuple _ :: _, _, h => by cases h
  | .dict _ :: _, _, h => by cases h
theorem asStrs_eq : ∀ {ds : List D} {ns : List Str}, asStrs ds = some ns → ds = ns.map .str
  | [], _, h => by cases h; rfl
  | .str i :: r, _, h => by
    unfold asStrs at h
    cases e : asStrs r with
    | none => rw [e] at h; cases h
    | some q => rw [e] at h; cases h; rw [asStrs_eq e]; rfl
  | .none :: _, _, h => by cases h
  | .int _ :: _, _, h => by cases h
  | .bool _ :: _, _, h => by cases h
  | .list _ :: _, _, h => by cases h
  | .tuple _ :: _, _, h => by cases h
  | .dict _ :: _, _, h => by cases h
def lmax : List Int → Option Int
  | [] => none
  | [x] => some x
  | x :: r => (lmax r).map fun m => if m > x then m else x
def lmin : List Int → Option Int
  | [] => none
  | [x] => some x
  | x :: r => (lmin r).map fun m => if m < x then m else x
theorem lmax_ok : ∀ {ns : List Int} {m : Int}, lmax ns = some m → m ∈ ns ∧ ∀ y ∈ ns, y ≤ m
  | [], _, h => by cases h
  | [x], m, h => by cases h; simp
  | x :: y :: r, m, h => by
    unfold lmax at h
    cases e : lmax (y :: r) with
    | none => rw [e] at h; cases h
    | some q =>
      rw [e] at h
      obtain ⟨h1, h2⟩ := lmax_ok e
      cases h
      by_cases c : q > x
      · simp only [c, if_true]
        refine ⟨List.mem_cons_of_mem _ h1, fun z hz => ?_⟩
        rcases List.mem_cons.mp hz with rfl | hz
        · omega
        · exact h2 z hz
      · simp only [c, if_false]
        refine ⟨List.mem_cons_self, fun z hz => ?_⟩
        rcases List.mem_cons.mp hz with rfl | hz
        · omega
        · have := h2 z hz
          omega
theorem lmin_ok : ∀ {ns : List Int} {m : Int}, lmin ns = some m → m ∈ ns ∧ ∀ y ∈ ns, m ≤ y
  | [], _, h => by cases h
  | [x], m, h => by cases h; simp
  | x :: y :: r, m, h => by
    unfold lmin at h
    cases e : lmin (y :: r) with
    | none => rw [e] at h; cases h
    | some q =>
      rw [e] at h
      obtain ⟨h1, h2⟩ := lmin_ok e
      cases h
      by_cases c : q < x
      · simp only [c, if_true]
        refine ⟨List.mem_cons_of_mem _ h1, fun z hz => ?_⟩
        rcases List.mem_cons.mp hz with rfl | hz
        · omega
        · exact h2 z hz
      · simp only [c, if_false]
        refine ⟨List.mem_cons_self, fun z hz => ?_⟩
        rcases List.mem_cons.mp hz with rfl | hz
        · omega
        · have := h2 z hz
          omega
def viewL (S : Sto) (o : OV) : Option (List D) := match view S o with
  | some (.list ds) => some ds
  | _ => none
def viewSeq (S : Sto) (o : OV) : Option (List D) := match view S o with
  | some (.list ds) => some ds
  | some (.tuple ds) => some ds
  | _ => none
theorem viewL_eq {S : Sto} {o : OV} {ds : List D} (h : viewL S o = some ds) : view S o = some (.list ds) := by
  unfold viewL at h
  split at h
  · cases h; assumption
  · cases h
def allS (S : Sto) (os : List OV) : Option D := match os with
  | [o] => (viewL S o).bind fun ds => (asBools ds).map fun bs => .bool (bs.all id)
  | _ => none
def anyS (S : Sto) (os : List OV) : Option D := match os with
  | [o] => (viewL S o).bind fun ds => (asBools ds).map fun bs => .bool (bs.any id)
  | _ => none
def sumS (S : Sto) (os : List OV) : Option D := match os with
  | [o] => (viewL S o).bind fun ds => (asInts ds).map fun ns => .int ns.sum
  | _ => none
def maxLS (S : Sto) (os : List OV) : Option D := match os with
  | [o] => (viewL S o).bind fun ds => (asInts ds).bind fun ns => (lmax ns).map PyData.int
  | _ => none
def minLS (S : Sto) (os : List OV) : Option D := match os with
  | [o] => (viewL S o).bind fun ds => (asInts ds).bind fun ns => (lmin ns).map PyData.int
  | _ => none
def max2S (S : Sto) (os : List OV) : Option D := match os with
  | [a, b] => match view S a, view S b with
    | some (.int i), some (.int j) => some (.int (if j > i then j else i))
    | _, _ => none
  | _ => none
def min2S (S : Sto) (os : List OV) : Option D := match os with
  | [a, b] => match view S a, view S b with
    | some (.int i), some (.int j) => some (.int (if j < i then j else i))
    | _, _ => none
  | _ => none
def tupleS (S : Sto) (os : List OV) : Option D := match os with
  | [o] => (viewSeq S o).map PyData.tuple
  | _ => none
def listS (S : Sto) (os : List OV) : Option (List D) := match os with
  | [o] => viewSeq S o
  | _ => none
theorem reps_one {K : PySem.W.Frag} {L : List Addr} {H : Hp} {xs : List V} {o : OV} (r : RepOs K L H xs [o]) : ∃ v, xs = [v] ∧ RepO K L H v o := by
  cases r with
  | cons h t => cases t; exact ⟨_, rfl, h⟩
theorem reps_two {K : PySem.W.Frag} {L : List Addr} {H : Hp} {xs : List V} {o o' : OV} (r : RepOs K L H xs [o, o']) : ∃ v w, xs = [v, w] ∧ RepO K L H v o ∧ RepO K L H w o' := by
  cases r with
  | cons h t =>
    cases t with
    | cons h2 t2 => cases t2; exact ⟨_, _, rfl, h, h2⟩
theorem opt_map {α β : Type} {o : Option α} {k : α → β} {x : β} (h : o.map k = some x) : ∃ a, o = some a ∧ k a = x := by
  cases o with
  | none => cases h
  | some a => exact ⟨a, rfl, Option.some.inj h⟩
section
variable {X : Cx}
theorem rc_len : CallR X (.builtin "len") (rOfL X.K lenS) := by
  intro pins s σ H xs us Q I r h
  obtain ⟨L, S, os, d, so, ro, e, q⟩ := h
  unfold lenS at e
  split at e
  · obtain ⟨v, rfl, rv⟩ := reps_one ro
    split at e
    · rename_i ds h1
      cases e
      obtain ⟨p1, vs, rfl, m1, r1⟩ := view_list h1 rv so
      refine call_len_seq pins s σ H _ us Q I r ⟨p1, vs, rfl, .inl m1, ?_⟩
      rw [r1.length]
      exact q _ _ Step.refl so (.int _)
    · rename_i ds h1
      cases e
      obtain ⟨p1, vs, rfl, m1, r1⟩ := view_tup h1 rv so
      refine call_len_seq pins s σ H _ us Q I r ⟨p1, vs, rfl, .inr m1, ?_⟩
      rw [r1.length]
      exact q _ _ Step.refl so (.int _)
    · rename_i z h1
      split at e
      · rename_i hz
        cases e
        obtain rfl := view_str h1 rv so
        exact call_len_str pins s σ H _ us Q I r ⟨z, rfl, hz, q _ _ Step.refl so (.int _)⟩
      · cases e
    · cases e
  · cases e
theorem rc_int : CallR X (.type "int") (rOfL X.K intS) := by
  intro pins s σ H xs us Q I r h
  obtain ⟨L, S, os, d, so, ro, e, q⟩ := h
  unfold intS at e
  split at e
  · obtain ⟨v, rfl, rv⟩ := reps_one ro
    split at e
    · rename_i i h1
      cases e
      obtain rfl := view_int h1 rv so
      exact call_int1 pins s σ H _ us Q I r (.inl ⟨i, rfl, q _ _ Step.refl so (.int _)⟩)
    · rename_i k h1
      cases e
      obtain rfl := view_bool h1 rv so
      exact call_int1 pins s σ H _ us Q I r (.inr ⟨k, rfl, q _ _ Step.refl so (.int _)⟩)
    · rename_i z h1
      split at e
      · rename_i hz
        obtain ⟨n, e1, rfl⟩ := opt_map e
        obtain rfl := view_str h1 rv so
        exact call_int_str pins s σ H _ us Q I r ⟨z, n, rfl, e1, hz, q _ _ Step.refl so (.int _)⟩
      · cases e
    · cases e
  · cases e
theorem rc_str : CallR X (.type "str") (rOfL X.K strS) := by
  intro pins s σ H xs us Q I r h
  obtain ⟨L, S, os, d, so, ro, e, q⟩ := h
  unfold strS at e
  split at e
  · obtain ⟨v, rfl, rv⟩ := reps_one ro
    split at e
    · rename_i i h1
      split at e
      · rename_i hz
        cases e
        obtain rfl := view_int h1 rv so
        exact call_str_int pins s σ H _ us Q I r ⟨i, rfl, hz, q _ _ Step.refl so (.str _)⟩
      · cases e
    · cases e
  · cases e
theorem rc_all (hc : X.calm = true) : CallR X (.builtin "all") (rOfL X.K allS) := by
  intro pins s σ H xs us Q I r h
  obtain ⟨L, S, os, d, so, ro, e, q⟩ := h
  unfold allS at e
  split at e
  · obtain ⟨v, rfl, rv⟩ := reps_one ro
    obtain ⟨ds, e1, e2⟩ := opt_bind e
    obtain ⟨bs, e3, rfl⟩ := opt_map e2
    obtain ⟨p1, vs, rfl, m1, r1⟩ := view_list (viewL_eq e1) rv so
    rw [asBools_eq e3] at r1
    rw [r1.bools] at m1
    exact cr_all hc pins s σ H _ us Q I r ⟨p1, bs, rfl, m1, q _ _ Step.refl so (.bl _)⟩
  · cases e
theorem rc_any (hc : X.calm = true) : CallR X (.builtin "any") (rOfL X.K anyS) := by
  intro pins s σ H xs us Q I r h
  obtain ⟨L, S, os, d, so, ro, e, q⟩ := h
  unfold anyS at e
  split at e
  · obtain ⟨v, rfl, rv⟩ := reps_one ro
    obtain ⟨ds, e1, e2⟩ := opt_bind e
    obtain ⟨bs, e3, rfl⟩ := opt_map e2
    obtain ⟨p1, vs, rfl, m1, r1⟩ := view_list (viewL_eq e1) rv so
    rw [asBools_eq e3] at r1
    rw [r1.bools] at m1
    exact cr_any hc pins s σ H _ us Q I r ⟨p1, bs, rfl, m1, q _ _ Step.refl so (.bl _)⟩
  · cases e
theorem rc_sum (hc : X.calm = true) : CallR X (.builtin "sum") (rOfL X.K sumS) := by
  intro pins s σ H xs us Q I r h
  obtain ⟨L, S, os, d, so, ro, e, q⟩ := h
  unfold sumS at e
  split at e
  · obtain ⟨v, rfl, rv⟩ := reps_one ro
    obtain ⟨ds, e1, e2⟩ := opt_bind e
    obtain ⟨bs, e3, rfl⟩ := opt_map e2
    obtain ⟨p1, vs, rfl, m1, r1⟩ := view_list (viewL_eq e1) rv so
    rw [asInts_eq e3] at r1
    rw [r1.ints] at m1
    exact cr_sum hc pins s σ H _ us Q I r ⟨p1, bs, rfl, m1, q _ _ Step.refl so (.int _)⟩
  · cases e
theorem rc_maxL (hc : X.calm = true) : CallR X (.builtin "max") (rOfL X.K maxLS) := by
  intro pins s σ H xs us Q I r h
  obtain ⟨L, S, os, d, so, ro, e, q⟩ := h
  unfold maxLS at e
  split at e
  · obtain ⟨v, rfl, rv⟩ := reps_one ro
    obtain ⟨ds, e1, e2⟩ := opt_bind e
    obtain ⟨ns, e3, e4⟩ := opt_bind e2
    obtain ⟨m, e5, rfl⟩ := opt_map e4
    obtain ⟨p1, vs, rfl, m1, r1⟩ := view_list (viewL_eq e1) rv so
    rw [asInts_eq e3] at r1
    rw [r1.ints] at m1
    obtain ⟨k1, k2⟩ := lmax_ok e5
    refine cr_max hc pins s σ H _ us Q I r ⟨p1, ns, rfl, m1, List.length_pos_of_mem k1, fun m' h1 h2 => ?_⟩
    have a1 := k2 m' h1
    have a2 := h2 m k1
    obtain rfl : m' = m := by omega
    exact q _ _ Step.refl so (.int _)
  · cases e
theorem rc_minL (hc : X.calm = true) : CallR X (.builtin "min") (rOfL X.K minLS) := by
  intro pins s σ H xs us Q I r h
  obtain ⟨L, S, os, d, so, ro, e, q⟩ := h
  unfold minLS at e
  split at e
  · obtain ⟨v, rfl, rv⟩ := reps_one ro
    obtain ⟨ds, e1, e2⟩ := opt_bind e
    obtain ⟨ns, e3, e4⟩ := opt_bind e2
    obtain ⟨m, e5, rfl⟩ := opt_map e4
    obtain ⟨p1, vs, rfl, m1, r1⟩ := view_list (viewL_eq e1) rv so
    rw [asInts_eq e3] at r1
    rw [r1.ints] at m1
    obtain ⟨k1, k2⟩ := lmin_ok e5
    refine cr_min hc pins s σ H _ us Q I r ⟨p1, ns, rfl, m1, List.length_pos_of_mem k1, fun m' h1 h2 => ?_⟩
    have a1 := k2 m' h1
    have a2 := h2 m k1
    obtain rfl : m' = m := by omega
    exact q _ _ Step.refl so (.int _)
  · cases e
theorem rc_max2 (hc : X.calm = true) : CallR X (.builtin "max") (rOfL X.K max2S) := by
  intro pins s σ H xs us Q I r h
  obtain ⟨L, S, os, d, so, ro, e, q⟩ := h
  unfold max2S at e
  split at e
  · obtain ⟨v, w, rfl, rv, rw'⟩ := reps_two ro
    split at e
    · rename_i i j h1 h2
      cases e
      obtain rfl := view_int h1 rv so
      obtain rfl := view_int h2 rw' so
      exact call_max2 hc pins s σ H _ us Q I r ⟨i, j, rfl, q _ _ Step.refl so (.int _)⟩
    · cases e
  · cases e
theorem rc_min2 (hc : X.calm = true) : CallR X (.builtin "min") (rOfL X.K min2S) := by
  intro pins s σ H xs us Q I r h
  obtain ⟨L, S, os, d, so, ro, e, q⟩ := h
  unfold min2S at e
  split at e
  · obtain ⟨v, w, rfl, rv, rw'⟩ := reps_two ro
    split at e
    · rename_i i j h1 h2
      cases e
      obtain rfl := view_int h1 rv so
      obtain rfl := view_int h2 rw' so
      exact call_min2 hc pins s σ H _ us Q I r ⟨i, j, rfl, q _ _ Step.refl so (.int _)⟩
    · cases e
  · cases e
theorem viewSeq_ok {K : PySem.W.Frag} {L : List Addr} {H : Hp} {S : Sto} {v : V} {ds : List D} {o : OV} (h : viewSeq S o = some ds) (r : RepO K L H v o) (so : StoR K L H S) :
    ∃ a vs, v = .ref a ∧ Reps K (mask L H) vs ds ∧ ((view S o = some (.list ds) ∧ SqL K H a vs) ∨ (view S o = some (.tuple ds) ∧ SqT K H a vs ∧ Rep K (mask L H) v (.tuple ds))) := by
  unfold viewSeq at h
  split at h
  · rename_i q
    cases h
    obtain ⟨a, vs, e, m, rs⟩ := view_list q r so
    exact ⟨a, vs, e, rs, .inl ⟨q, m⟩⟩
  · rename_i q
    cases h
    obtain ⟨a, vs, e, m, rs⟩ := view_tup q r so
    refine ⟨a, vs, e, rs, .inr ⟨q, m, ?_⟩⟩
    cases o with
    | dat d => cases q; exact r
    | own n =>
      obtain ⟨c, h3, h4⟩ := r
      exact (so.obj n c _ h4 q : ObjR K (mask L H) H c (.tuple _)).elim
  · cases h
theorem rc_tuple : CallR X (.type "tuple") (rOfL X.K tupleS) := by
  intro pins s σ H xs us Q I r h
  obtain ⟨L, S, os, d, so, ro, e, q⟩ := h
  unfold tupleS at e
  split at e
  · obtain ⟨v, rfl, rv⟩ := reps_one ro
    obtain ⟨ds, e1, rfl⟩ := opt_map e
    obtain ⟨a, vs, rfl, rs, m⟩ := viewSeq_ok e1 rv so
    rcases m with ⟨_, m⟩ | ⟨_, m, rt⟩
    · exact call_tuple_of pins s σ H _ us Q I r ⟨a, vs, rfl, .inl ⟨m, fun l hl => q _ _ (step_new hl) (so.laid hl) (new_tup so hl rs)⟩⟩
    · exact call_tuple_of pins s σ H _ us Q I r ⟨a, vs, rfl, .inr ⟨m, q _ _ Step.refl so rt⟩⟩
  · cases e
theorem rc_list : CallR X (.type "list") (rOfF X.K listS) := by
  intro pins s σ H xs us Q I r h
  obtain ⟨L, S, os, d, so, ro, e, q⟩ := h
  unfold listS at e
  split at e
  · obtain ⟨v, rfl, rv⟩ := reps_one ro
    obtain ⟨a, vs, rfl, rs, m⟩ := viewSeq_ok e rv so
    rcases m with ⟨_, m⟩ | ⟨_, m, rt⟩
    · exact call_list_of pins s σ H _ us Q I r ⟨a, vs, rfl, .inl m, fun l hl => q l vs hl rs⟩
    · exact call_list_of pins s σ H _ us Q I r ⟨a, vs, rfl, .inr m, fun l hl => q l vs hl rs⟩
  · cases e
end

/-! ### isinstance of built-in types -/
def tyName : D → String
  | .none => "NoneType"
  | .bool _ => "bool"
  | .int _ => "int"
  | .str _ => "str"
  | .list _ => "list"
  | .tuple _ => "tuple"
  | .dict _ => "dict"
def isTy (n T : String) : Bool := n == T || (n == "bool" && T == "int")
def tyNames : List String := ["NoneType", "bool", "int", "str", "list", "tuple", "dict"]
theorem kit_tab : (tyNames.all fun n => ["int", "bool", "str", "tuple", "list"].all fun T => decide (kitB n T = some (isTy n T))) = true := by decide +kernel
theorem kit_is {n T : String} (hn : n ∈ tyNames) (hT : T ∈ ["int", "bool", "str", "tuple", "list"]) : kitB n T = some (isTy n T) := by
  have h := kit_tab
  rw [List.all_eq_true] at h
  have h1 := h n hn
  rw [List.all_eq_true] at h1
  exact of_decide_eq_true (h1 T hT)
theorem tyName_mem (d : D) : tyName d ∈ tyNames := by cases d <;> simp [tyName, tyNames]
def viewI (S : Sto) : OV → Option D
  | .dat d => if isOpD d = true then none else some d
  | .own n => match S[n]? with
    | some (.dict kvs) => if isLk kvs = true then none else some (.dict kvs)
    | r => r
def isiF (T : String) (f : E1) : E1 := fun ρ S => (f ρ S).bind fun a S1 => (viewI S1 a).bind fun d => ret (.dat (.bool (isTy (tyName d) T))) S1
theorem rep_ty {K : PySem.W.Frag} {L : List Addr} {H : Hp} {x : V} {d : D} (r : Rep K (mask L H) x d) (nd : isOpD d = false) : TyX K H x (.type (tyName d)) := by
  cases r with
  | non => exact .base .non
  | bl b => exact .base (.bl b)
  | int i => exact .base (.int i)
  | str z => exact .base (.str z)
  | lst h _ =>
    rcases same_l (mask_same L H) h with (h | ⟨o, h⟩) | ⟨o, its, n, hk, hc, _⟩
    · exact .base (.lst h)
    · exact .base (.frz h)
    · exact .kList hk hc
  | tup h _ =>
    exact .base (.tup (mask_same L H _ _ h))
  | dk _ h _ => exact .base (.dK (mask_same L H _ _ h))
  | dt _ h _ => exact .base (.dT (mask_same L H _ _ h))
  | op h => cases nd
theorem repO_ty {K : PySem.W.Frag} {L : List Addr} {H : Hp} {S : Sto} {x : V} {d : D} : ∀ {o : OV}, viewI S o = some d → RepO K L H x o → StoR K L H S → TyX K H x (.type (tyName d))
  | .dat d0, e, r, s => by
    have e : (if isOpD d0 = true then none else some d0) = some d := e
    split at e
    · cases e
    · rename_i c
      cases e
      exact rep_ty r (by simpa using c)
  | .own n, e, ⟨a, h1, h2⟩, s => by
    have e' : S[n]? = some d ∧ ∀ kvs, d = .dict kvs → isLk kvs ≠ true := by
      have e : (match S[n]? with
        | some (.dict kvs) => if isLk kvs = true then none else some (.dict kvs)
        | r => r) = some d := e
      split at e
      · rename_i kvs hk
        split at e
        · cases e
        · rename_i hl
          cases e
          exact ⟨hk, fun k2 z => by cases z; exact hl⟩
      · rename_i hn
        exact ⟨e, fun k2 z => absurd (by rw [e, z]) (hn k2)⟩
    obtain ⟨e, hl⟩ := e'
    have q := s.obj n a _ h2 e
    subst h1
    cases d <;> try exact q.elim
    · obtain ⟨vs, q1, _⟩ := q
      exact .base (.lst q1)
    · rcases q with ⟨_, _, _, _, q1, _⟩ | ⟨_, _, _, _, q1, _⟩ | ⟨_, _, _, _, _, q1, _, rfl, _⟩ | ⟨_, _, _, _, _, q1, _, rfl⟩
      · exact .base (.dK q1)
      · exact .base (.dT q1)
      · exact absurd rfl (hl _ rfl)
      · exact absurd rfl (hl _ rfl)
section
variable {X : Cx} {C : Str → Value} {W : WX} {a : Expr} {fa : E1} {p p2 pos : Pos} {T : String} {x : Str}
theorem de_isi (ha : DE X C W a fa) (hT : T ∈ ["int", "bool", "str", "tuple", "list"]) (hg : Gl X "isinstance") (hm : X.mg "isinstance" = none) (hgT : Gl X x) (hmT : X.mg x = none) (hvT : bootBuiltins x = some (.type T)) (hnT : x ≠ "__name__" := by decide) (hdT : (x == ("__debug__" : Str)) = false := by decide)
    (hs1 : starEach [a, .Name x p2] X.env = (false, eval a X.env) :: starEach [.Name x p2] X.env := by rfl) (hs2 : starEach [.Name x p2] X.env = (false, eval (.Name x p2) X.env) :: starEach [] X.env := by rfl)
    (hpl : (backTo pos (starEach [.Name x p2] X.env)).any (·.1) = false := by rfl) : DE X C W (.Call (.Name "isinstance" p) [a, .Name x p2] [] pos) (isiF T fa) := by
  obtain ⟨t, pa, s⟩ := ha.ex
  refine ⟨_, pe_callB call_isi hg hm (by decide +kernel) (pa_cons pa (pa_cons (pe_bltn (v := .ty T) hgT hmT hvT rfl hnT hdT) pa_nil hs2) hs1) (by decide) (by decide) hs1 hpl, fun ρ S r S' h L σ H Q en so po => ?_⟩
  refine s.bind h en so po fun o S1 L1 H1 v h1 st1 so1 r1 en1 po1 => ?_
  obtain ⟨d, e1, h2⟩ := opt_bind h1
  exact ⟨v, .ty T, .type (tyName d), .type T, isTy (tyName d) T, rfl, .ty T, repO_ty e1 r1 so1, kit_ty (kit_is (tyName_mem d) hT), po1.done (S0 := S1) h2 Step.refl so1 _ (.bl _)⟩
end
end Dk
set_option Elab.async false
set_option linter.all false
set_option maxRecDepth 100000
set_option maxHeartbeats 4000000
/-! Statements over data; loops; a def. -/
namespace Dk
open PySem PySem.Spec L2

inductive Fl where
  | nx | bk | ct
  | rt (o : OV)
  | er (e : Exn)
abbrev SS := Env1 → Sto → Option (Fl × Env1 × Sto)
structure PostS (K : PySem.W.Frag) (C : Str → Value) (W : WX) (L : List Addr) (H : Hp) (D : Ends) (fl : Fl) (ρ' : Env1) (S' : Sto) : Prop where
  nx : fl = .nx → ∀ L' H' σ', Step L H L' H' → StoR K L' H' S' → EnvR K L' H' σ' ρ' → D.nx σ' H'
  bk : fl = .bk → ∀ L' H' σ', Step L H L' H' → StoR K L' H' S' → EnvR K L' H' σ' ρ' → D.bk σ' H'
  ct : fl = .ct → ∀ L' H' σ', Step L H L' H' → StoR K L' H' S' → EnvR K L' H' σ' ρ' → D.ct σ' H'
  rt : ∀ o, fl = .rt o → ∀ L' H' v, Step L H L' H' → StoR K L' H' S' → RepO K L' H' v o → D.rt v H'
  er : ∀ e, fl = .er e → ∀ L' H' σ' cls d, Step L H L' H' → StoR K L' H' S' → EnvR K L' H' σ' ρ' → ExcR C K L' H' e cls d → W cls d σ' H'
def SmS (K : PySem.W.Frag) (C : Str → Value) (W : WX) (t : TS) (g : SS) : Prop := ∀ ρ S fl ρ' S', g ρ S = some (fl, ρ', S') → ∀ L σ H D, EnvR K L H σ ρ → StoR K L H S → PostS K C W L H D fl ρ' S' → t D σ H
section
variable {K : PySem.W.Frag} {C : Str → Value} {W : WX} {L L1 : List Addr} {H H1 : Hp} {D : Ends} {fl : Fl} {ρ ρ' : Env1} {S S' : Sto} {σ : L2.St}
theorem PostS.step (p : PostS K C W L H D fl ρ' S') (a : Step L H L1 H1) : PostS K C W L1 H1 D fl ρ' S' :=
  ⟨fun e L' H' σ' s => p.nx e L' H' σ' (a.trans s), fun e L' H' σ' s => p.bk e L' H' σ' (a.trans s), fun e L' H' σ' s => p.ct e L' H' σ' (a.trans s), fun o e L' H' v s => p.rt o e L' H' v (a.trans s),
    fun e he L' H' σ' cls d s => p.er e he L' H' σ' cls d (a.trans s)⟩
/-- an expression first -/
def sE (f : E1) (k : OV → SS) : SS := fun ρ S => match f ρ S with
  | none => none
  | some (.inr e, S1) => some (.er e, ρ, S1)
  | some (.inl a, S1) => k a ρ S1
def sB (f : EB) (k : Bool → SS) : SS := fun ρ S => match f ρ S with
  | none => none
  | some (.inr e, S1) => some (.er e, ρ, S1)
  | some (.inl a, S1) => k a ρ S1
theorem SmE.stm {te : TE} {f : E1} (s : SmE K C W te f) {k : OV → SS} (h : sE f k ρ S = some (fl, ρ', S')) (en : EnvR K L H σ ρ) (so : StoR K L H S) (po : PostS K C W L H D fl ρ' S') {R : VK}
    (go : ∀ a S1 L1 H1 v, k a ρ S1 = some (fl, ρ', S') → Step L H L1 H1 → StoR K L1 H1 S1 → RepO K L1 H1 v a → EnvR K L1 H1 σ ρ → PostS K C W L1 H1 D fl ρ' S' → R v H1) : te σ H R := by
  unfold sE at h
  split at h
  · cases h
  · rename_i e S1 q
    cases h
    exact s ρ S _ _ q L σ H R en so ⟨fun b z => (by cases z), fun e' he L' H' st so' cls d x => po.er e' (by cases he; rfl) L' H' σ cls d st so' (en.step st) x⟩
  · rename_i a S1 q
    refine s ρ S _ _ q L σ H R en so ⟨fun b z L' H' st so' v rv => ?_, fun e' he => by cases he⟩
    cases z
    exact go a S1 L' H' v h st so' rv (en.step st) (po.step st)
theorem SmT.stm {te : TT} {f : EB} (s : SmT K C W te f) {k : Bool → SS} (h : sB f k ρ S = some (fl, ρ', S')) (en : EnvR K L H σ ρ) (so : StoR K L H S) (po : PostS K C W L H D fl ρ' S') {R : Bool → Hp → Prop}
    (go : ∀ a S1 L1 H1, k a ρ S1 = some (fl, ρ', S') → Step L H L1 H1 → StoR K L1 H1 S1 → EnvR K L1 H1 σ ρ → PostS K C W L1 H1 D fl ρ' S' → R a H1) : te σ H R := by
  unfold sB at h
  split at h
  · cases h
  · rename_i e S1 q
    cases h
    exact s ρ S _ _ q L σ H R en so ⟨fun b z => (by cases z), fun e' he L' H' st so' cls d x => po.er e' (by cases he; rfl) L' H' σ cls d st so' (en.step st) x⟩
  · rename_i a S1 q
    refine s ρ S _ _ q L σ H R en so ⟨fun b z L' H' st so' => ?_, fun e' he => by cases he⟩
    cases z
    exact go a S1 L' H' h st so' (en.step st) (po.step st)
end
structure DS (X : Cx) (C : Str → Value) (W : WX) (st : Stmt) (g : SS) : Prop where
  ex : ∃ t, PS X st t ∧ SmS X.K C W t g
structure DSs (X : Cx) (C : Str → Value) (W : WX) (st : List Stmt) (g : SS) : Prop where
  ex : ∃ t, PSs X st t ∧ SmS X.K C W t g

/-! ### targets -/
abbrev Tg := OV → Env1 → Option Env1
def SmG (K : PySem.W.Frag) (is : List Nat) (g : TG) (t : Tg) : Prop := ∀ o ρ ρ', t o ρ = some ρ' → ∀ L σ H S v (Q : L2.St → Hp → Prop), EnvR K L H σ ρ → StoR K L H S → RepO K L H v o →
  (∀ σ', EnvR K L H σ' ρ' → (∀ vs : List Nat, (∀ i ∈ is, i ∈ vs) → wipe σ' vs = wipe σ vs) → Q σ' H) → g v σ H Q
abbrev Tgs := List OV → Env1 → Option Env1
def SmGs (K : PySem.W.Frag) (is : List Nat) (g : TGs) (t : Tgs) : Prop := ∀ os ρ ρ', t os ρ = some ρ' → ∀ L σ H S vs (Q : L2.St → Hp → Prop), EnvR K L H σ ρ → StoR K L H S → RepOs K L H vs os →
  (∀ σ', EnvR K L H σ' ρ' → (∀ vs : List Nat, (∀ i ∈ is, i ∈ vs) → wipe σ' vs = wipe σ vs) → Q σ' H) → g vs σ H Q
structure DG (X : Cx) (e : Expr) (is : List Nat) (t : Tg) : Prop where
  ex : ∃ g, PG X e g ∧ SmG X.K is g t
structure DGs (X : Cx) (es : List Expr) (is : List Nat) (t : Tgs) : Prop where
  ex : ∃ g, PGs X es g ∧ SmGs X.K is g t
theorem wipe_len (σ : L2.St) : ∀ vs : List Nat, (wipe σ vs).length = σ.length := L2.wipe_length σ
theorem wipe_at {σ : L2.St} {j : Nat} : ∀ {vs : List Nat}, j ∈ vs → j < σ.length → (wipe σ vs)[j]? = some none
  | v :: vs, h, hl => by
    show ((wipe σ vs).set v none)[j]? = _
    by_cases e : v = j
    · subst e
      exact List.getElem?_set_self (by rw [wipe_len]; exact hl)
    · rw [List.getElem?_set_ne e]
      exact wipe_at (by simpa [Ne.symm e] using h) hl
theorem wipe_off {σ : L2.St} {j : Nat} : ∀ {vs : List Nat}, j ∉ vs → (wipe σ vs)[j]? = σ[j]?
  | [], _ => rfl
  | v :: vs, h => by
    show ((wipe σ vs).set v none)[j]? = _
    rw [List.getElem?_set_ne (fun e => h (by simp [e]))]
    exact wipe_off (fun z => h (List.mem_cons_of_mem _ z))
theorem wipe_set {σ : L2.St} {i : Nat} {x : Option V} {vs : List Nat} (h : i ∈ vs) : wipe (σ.set i x) vs = wipe σ vs := by
  apply List.ext_getElem?
  intro j
  by_cases hj : j ∈ vs
  · by_cases hl : j < σ.length
    · rw [wipe_at hj hl, wipe_at hj (by rw [List.length_set]; exact hl)]
    · rw [List.getElem?_eq_none (by rw [wipe_len, List.length_set]; omega), List.getElem?_eq_none (by rw [wipe_len]; omega)]
  · have ne : i ≠ j := fun e => hj (by rw [← e]; exact h)
    rw [wipe_off hj, wipe_off hj, List.getElem?_set_ne ne]
def tgN (i : Nat) : Tg := fun o ρ => some (ρ.set i (some o))
def tgNil : Tgs := fun os ρ => match os with
  | [] => some ρ
  | _ => none
def tgCons (t : Tg) (u : Tgs) : Tgs := fun os ρ => match os with
  | o :: r => (t o ρ).bind fun ρ1 => u r ρ1
  | [] => none
def tgTup (n : Nat) (t : Tgs) : Tg := fun o ρ => match o with
  | .dat (.tuple ds) => if ds.length = n then t (ds.map .dat) ρ else none
  | _ => none
theorem reps_dat {K : PySem.W.Frag} {L : List Addr} {H : Hp} : ∀ {vs : List V} {ds : List D}, Reps K (mask L H) vs ds → RepOs K L H vs (ds.map .dat)
  | _, _, .nil => .nil
  | _, _, .cons h r => .cons h (reps_dat r)
section
variable {X : Cx} {pos : Pos} {K : PySem.W.Frag}
theorem smg_n {i : Nat} : SmG K [i] (gName i) (tgN i) := fun o ρ ρ' h L σ H S v Q en so rv q => by
  cases h
  exact q _ (en.set rv i) fun vs hv => wipe_set (hv i (by simp))
theorem dg_n (i : Nat) {x : Str} (hN : X.N.Nodup) (hi : X.N[i]? = some x) (hx : Loc X.env.scope x) (hf : X.fn x = true ∨ X.env.scope.names.lookup x = some .local := by first | exact .inl rfl | exact .inr rfl | assumption) : DG X (.Name x pos) [i] (tgN i) := ⟨_, pg_name hN hi hx hf, smg_n⟩
theorem dgs_nil : DGs X [] [] tgNil := ⟨_, pgs_nil, fun os ρ ρ' h L σ H S vs Q en so rv q => by
  cases rv with
  | nil => cases h; exact ⟨rfl, q _ en fun _ _ => rfl⟩
  | cons _ _ => cases h⟩
theorem dgs_cons {e : Expr} {es : List Expr} {t : Tg} {u : Tgs} {is js : List Nat} (h1 : DG X e is t) (h2 : DGs X es js u) (hs : (assignEach (e :: es) X.env).map (·.2) = assign e X.env :: (assignEach es X.env).map (·.2) := by rfl) : DGs X (e :: es) (is ++ js) (tgCons t u) := by
  obtain ⟨g, p, s⟩ := h1.ex
  obtain ⟨g2, p2, s2⟩ := h2.ex
  refine ⟨_, pgs_cons p p2 hs, fun os ρ ρ' h L σ H S vs Q en so rv q => ?_⟩
  cases rv with
  | nil => cases h
  | cons hv r =>
    obtain ⟨ρ1, e1, e2⟩ := opt_bind h
    exact ⟨_, _, rfl, s _ _ _ e1 L σ H S _ _ en so hv fun σ' en' k1 => s2 _ _ _ e2 L σ' H S _ _ en' so r fun σ'' en'' k2 => q σ'' en'' fun vs hv => (k2 vs fun i hi => hv i (by simp [hi])).trans (k1 vs fun i hi => hv i (by simp [hi]))⟩
theorem dg_tup {es : List Expr} {k : Nat} {t : Tgs} {n : Nat} {is : List Nat} (hc : X.calm = true) (h : DGs X es is t) (hn : (assignEach es X.env).length = n := by rfl) (hst : (assignEach es X.env).findIdx? (·.1) = none := by rfl) : DG X (.Tuple es k pos) is (tgTup n t) := by
  obtain ⟨g, p, s⟩ := h.ex
  refine ⟨_, pg_tup hc p hn hst, fun o ρ ρ' h L σ H S v Q en so rv q => ?_⟩
  unfold tgTup at h
  split at h
  · rename_i ds
    split at h
    · rename_i hl
      obtain ⟨a, vs, rfl, m, r⟩ := view_tup (S := S) (o := .dat (.tuple ds)) rfl rv so
      exact ⟨a, vs, rfl, m, by rw [r.length]; exact hl, s _ _ _ h L σ H S vs Q en so (reps_dat r) q⟩
    · cases h
  · cases h
end

/-! ### plain statements -/
def sNx : SS := fun ρ S => some (.nx, ρ, S)
def sSeq (f g : SS) : SS := fun ρ S => match f ρ S with
  | none => none
  | some (.nx, ρ1, S1) => g ρ1 S1
  | some (.bk, ρ1, S1) => some (.bk, ρ1, S1)
  | some (.ct, ρ1, S1) => some (.ct, ρ1, S1)
  | some (.rt o, ρ1, S1) => some (.rt o, ρ1, S1)
  | some (.er e, ρ1, S1) => some (.er e, ρ1, S1)
def sExpr (f : E1) : SS := sE f fun _ => sNx
def sAsg (f : E1) (t : Tg) : SS := sE f fun a ρ S => (t a ρ).bind fun ρ1 => some (.nx, ρ1, S)
def sRet (f : E1) : SS := sE f fun a ρ S => some (.rt a, ρ, S)
def sRetN : SS := fun ρ S => some (.rt (.dat .none), ρ, S)
def sIf (c : EB) (f g : SS) : SS := sB c fun k ρ S => if k = true then f ρ S else g ρ S
def sRaise (c : Str) : SS := fun ρ S => some (.er ⟨c, none⟩, ρ, S)
section
variable {X : Cx} {C : Str → Value} {W : WX} {st : Stmt} {rest : List Stmt} {f g : SS} {e : Expr} {fe : E1} {pos : Pos}
theorem dss_nil : DSs X C W [] sNx := ⟨_, pss_nil, fun ρ S fl ρ' S' h L σ H D en so po => by
  cases h
  exact po.nx rfl L H σ Step.refl so en⟩
theorem sm_seq {K : PySem.W.Frag} {t u : TS} (s : SmS K C W t f) (s2 : SmS K C W u g) : SmS K C W (tSeq t u) (sSeq f g) := fun ρ S fl ρ' S' h L σ H D en so po => by
  unfold sSeq at h
  split at h
  · cases h
  · rename_i ρ1 S1 q
    refine s ρ S _ _ _ q L σ H _ en so ⟨fun _ L' H' σ' st so' en' => ?_, fun z => (by cases z), fun z => (by cases z), fun o z => (by cases z), fun e z => (by cases z)⟩
    exact s2 ρ1 S1 _ _ _ h L' σ' H' D en' so' (po.step st)
  · rename_i ρ1 S1 q
    cases h
    exact s ρ S _ _ _ q L σ H _ en so ⟨fun z => (by cases z), po.bk, po.ct, po.rt, po.er⟩
  · rename_i ρ1 S1 q
    cases h
    exact s ρ S _ _ _ q L σ H _ en so ⟨fun z => (by cases z), po.bk, po.ct, po.rt, po.er⟩
  · rename_i ρ1 S1 q
    cases h
    exact s ρ S _ _ _ q L σ H _ en so ⟨fun z => (by cases z), po.bk, po.ct, po.rt, po.er⟩
  · rename_i ρ1 S1 q
    cases h
    exact s ρ S _ _ _ q L σ H _ en so ⟨fun z => (by cases z), po.bk, po.ct, po.rt, po.er⟩
theorem dss_cons (h1 : DS X C W st f) (h2 : DSs X C W rest g) : DSs X C W (st :: rest) (sSeq f g) := by
  obtain ⟨t, p, s⟩ := h1.ex
  obtain ⟨u, p2, s2⟩ := h2.ex
  exact ⟨_, pss_cons p p2, sm_seq s s2⟩
theorem dss_one (h1 : DS X C W st f) : DSs X C W [st] f := by
  obtain ⟨t, p, s⟩ := h1.ex
  exact ⟨_, pss_one p, s⟩
theorem ds_pass : DS X C W (.Pass pos) sNx := ⟨_, ps_pass, fun ρ S fl ρ' S' h L σ H D en so po => by
  cases h
  exact po.nx rfl L H σ Step.refl so en⟩
theorem ds_expr (he : DE X C W e fe) (hs : swapsWith e none pos.line X.env = pure false := by rfl) : DS X C W (.Expr e pos) (sExpr fe) := by
  obtain ⟨t, p, s⟩ := he.ex
  refine ⟨_, ps_expr p hs, fun ρ S fl ρ' S' h L σ H D en so po => ?_⟩
  refine s.stm h en so po fun a S1 L1 H1 v h1 st1 so1 r1 en1 po1 => ?_
  cases h1
  exact po1.nx rfl L1 H1 σ Step.refl so1 en1
theorem sm_asg {K : PySem.W.Frag} {te : TE} {gt : TG} {t : Tg} {is : List Nat} (s : SmE K C W te fe) (s2 : SmG K is gt t) : SmS K C W (tAsg te gt) (sAsg fe t) := fun ρ S fl ρ' S' h L σ H D en so po => by
  refine s.stm h en so po fun a S1 L1 H1 v h1 st1 so1 r1 en1 po1 => ?_
  obtain ⟨ρ1, e1, e2⟩ := opt_bind h1
  cases e2
  exact s2 _ _ _ e1 L1 σ H1 _ v _ en1 so1 r1 fun σ' en' _ => po1.nx rfl L1 H1 σ' Step.refl so1 en'
theorem ds_set (i : Nat) {x : Str} {pos' : Pos} (hN : X.N.Nodup) (hi : X.N[i]? = some x) (hx : Loc X.env.scope x) (he : DE X C W e fe) (hs : swapsWith e (some (.Name x pos')) pos.line X.env = pure false := by rfl)
    (hf : X.fn x = true ∨ X.env.scope.names.lookup x = some .local := by first | exact .inl rfl | exact .inr rfl | assumption) : DS X C W (.Assign [.Name x pos'] e pos) (sAsg fe (tgN i)) := by
  obtain ⟨t, p, s⟩ := he.ex
  exact ⟨_, ps_set hN hi hx p hs hf, sm_asg s smg_n⟩
theorem ds_asg {tg : Expr} {t : Tg} {is : List Nat} (he : DE X C W e fe) (hg : DG X tg is t) (hs : swapsWithSole [tg] e pos.line X.env = pure false := by rfl) (hw : swappedStores [tg] e X.env = pure none := by rfl)
    (h1 : (assignEach [tg] X.env).map (·.2) = [assign tg X.env] := by rfl) : DS X C W (.Assign [tg] e pos) (sAsg fe t) := by
  obtain ⟨te, p, s⟩ := he.ex
  obtain ⟨g, p2, s2⟩ := hg.ex
  exact ⟨_, ps_asg p p2 hs hw h1, sm_asg s s2⟩
/-- a, b = x, y -/
def sPar (i j : Nat) (fa : EL) : SS := fun ρ S => match fa ρ S with
  | none => none
  | some (.inr e, S1) => some (.er e, ρ, S1)
  | some (.inl [a, b], S1) => some (.nx, (ρ.set i (some a)).set j (some b), S1)
  | some (.inl _, _) => none
theorem ds_par {i j : Nat} {x y : Str} {a b : Expr} {fa : EL} {px py pt : Pos} {kt k2 pt2} (hc : X.calm = true) (hN : X.N.Nodup) (hi : X.N[i]? = some x) (hj : X.N[j]? = some y) (hij : i ≠ j)
    (hx : X.env.scope.names.lookup x = some .local) (hy : X.env.scope.names.lookup y = some .local) (ha : DA X C W [a, b] fa)
    (hw : swappedStores [.Tuple [.Name x px, .Name y py] kt pt] (.Tuple [a, b] k2 pt2) X.env = pure (some [x, y]) := by rfl)
    (hs : swapsWithSole [.Tuple [.Name x px, .Name y py] kt pt] (.Tuple [a, b] k2 pt2) pos.line X.env = pure false := by rfl) :
    DS X C W (.Assign [.Tuple [.Name x px, .Name y py] kt pt] (.Tuple [a, b] k2 pt2) pos) (sPar i j fa) := by
  obtain ⟨t, p, s⟩ := ha.ex
  refine ⟨_, ps_par hc hN hi hj hij hx hy p hw hs, fun ρ S fl ρ' S' h L σ H D en so po => ?_⟩
  unfold sPar at h
  split at h
  · cases h
  · rename_i e S1 q
    cases h
    exact s ρ S _ _ q L σ H _ en so ⟨fun b z => (by cases z), fun e' he L' H' st so' cls d x => po.er e' (by cases he; rfl) L' H' σ cls d st so' (en.step st) x⟩
  · rename_i o o' S1 q
    cases h
    refine s ρ S _ _ q L σ H _ en so ⟨fun b z L' H' st so' vs rv => ?_, fun e' he => by cases he⟩
    cases z
    obtain ⟨v, w, rfl, r1, r2⟩ := (show ∃ v w, vs = [v, w] ∧ RepO X.K L' H' v o ∧ RepO X.K L' H' w o' by
      cases rv with
      | cons h1 t =>
        cases t with
        | cons h2 t2 => cases t2; exact ⟨_, _, rfl, h1, h2⟩)
    exact ⟨v, w, rfl, po.nx rfl L' H' _ st so' (((en.step st).set r1 i).set r2 j)⟩
  · cases h
theorem ds_ret (he : DE X C W e fe) : DS X C W (.Return (some e) pos) (sRet fe) := by
  obtain ⟨t, p, s⟩ := he.ex
  refine ⟨_, ps_ret p, fun ρ S fl ρ' S' h L σ H D en so po => ?_⟩
  refine s.stm h en so po fun a S1 L1 H1 v h1 st1 so1 r1 en1 po1 => ?_
  cases h1
  exact po1.rt a rfl L1 H1 v Step.refl so1 r1
theorem ds_retN : DS X C W (.Return none pos) sRetN := ⟨_, ps_retN, fun ρ S fl ρ' S' h L σ H D en so po => by
  cases h
  exact po.rt _ rfl L H .non Step.refl so .non⟩
theorem ds_if {c : Expr} {a b : List Stmt} {bc : EB} (hc : DT X C W c bc) (ha : DSs X C W a f) (hb : DSs X C W b g) : DS X C W (.If c a b pos) (sIf bc f g) := by
  obtain ⟨t, p, s⟩ := hc.ex
  obtain ⟨u, p2, s2⟩ := ha.ex
  obtain ⟨v, p3, s3⟩ := hb.ex
  refine ⟨_, ps_if p p2 p3, fun ρ S fl ρ' S' h L σ H D en so po => ?_⟩
  refine s.stm h en so po fun k S1 L1 H1 h1 st1 so1 en1 po1 => ?_
  cases k with
  | true => exact iteT (s2 ρ S1 _ _ _ h1 L1 σ H1 D en1 so1 po1)
  | false => exact iteF (s3 ρ S1 _ _ _ h1 L1 σ H1 D en1 so1 po1)
theorem ds_raise {c : Str} {A : Addr} (hc : X.calm = true) (tk : Takes X W) (he : PMk X e (fun _ H Q => Q (.ref A) none H)) (hC : C c = .ref A) : DS X C W (.Raise (some e) none pos) (sRaise c) :=
  ⟨_, ps_raise hc tk he, fun ρ S fl ρ' S' h L σ H D en so po => by
    cases h
    exact po.er _ rfl L H σ _ _ Step.refl so en ⟨hC.symm, rfl⟩⟩
end

/-! ### stores into an owned list; append, pop -/
def sSetIx (fo fi fe : E1) : SS := sE fe fun v => sE fo fun o => sE fi fun i ρ S => match v, o, i with
  | .dat d, .own n, .dat (.int k) => match S[n]? with
    | some (.list ds) => (ixN ds.length k).bind fun j => some (.nx, ρ, S.set n (.list (ds.set j d)))
    | _ => none
  | _, _, _ => none
theorem own_list {K : PySem.W.Frag} {L : List Addr} {H : Hp} {S : Sto} {v : V} {n : Nat} {ds : List D} (so : StoR K L H S) (r : RepO K L H v (.own n)) (h : S[n]? = some (.list ds)) :
    ∃ a vs, v = .ref a ∧ L[n]? = some a ∧ H a = some (.lst vs) ∧ Reps K (mask L H) vs ds := by
  obtain ⟨a, h1, h2⟩ := r
  obtain ⟨vs, q1, q2⟩ := (so.obj n a _ h2 h : ObjR K (mask L H) H a (.list ds))
  exact ⟨a, vs, h1, h2, q1, q2⟩
section
variable {X : Cx} {C : Str → Value} {W : WX} {o i e : Expr} {fo fi fe : E1} {pos p2 : Pos}
theorem ds_setIx (ho : DE X C W o fo) (hi : DE X C W i fi) (he : DE X C W e fe)
    (ha : ∀ v, assign (.Subscript o i p2) X.env v = (do
      let ov ← holding [v] (eval o X.env); let iv ← holding [v, ov] (eval i X.env); standAt p2; holding [v, ov, iv] (setItem ov iv v); release [v, ov, iv] []) := by intro _; rfl)
    (hs : swapsWithSole [.Subscript o i p2] e pos.line X.env = pure false := by rfl) (hw : swappedStores [.Subscript o i p2] e X.env = pure none := by rfl)
    (h1 : (assignEach [.Subscript o i p2] X.env).map (·.2) = [assign (.Subscript o i p2) X.env] := by rfl) : DS X C W (.Assign [.Subscript o i p2] e pos) (sSetIx fo fi fe) := by
  obtain ⟨t1, p1, s1⟩ := ho.ex
  obtain ⟨t2, q2, s2⟩ := hi.ex
  obtain ⟨t3, p3, s3⟩ := he.ex
  refine ⟨_, ps_asg p3 (pg_sub p1 q2 set_list ha) hs hw h1, fun ρ S fl ρ' S' h L σ H D en so po => ?_⟩
  refine s3.stm h en so po fun x S1 L1 H1 v h1 st1 so1 r1 en1 po1 => ?_
  refine s1.stm h1 en1 so1 po1 fun y S2 L2 H2 u h2 st2 so2 r2 en2 po2 => ?_
  refine s2.stm h2 en2 so2 po2 fun z S3 L3 H3 w h3 st3 so3 r3 en3 po3 => ?_
  split at h3
  · rename_i d n k
    split at h3
    · rename_i ds hn
      obtain ⟨j, e1, e2⟩ := opt_bind h3
      cases e2
      obtain ⟨a, vs, rfl, hL, hA, rs⟩ := own_list so3 (r2.step st3) hn
      cases r3
      have hl := rs.length
      have rd := (r1.step st2).step st3
      obtain ⟨k1, k2⟩ := so3.write (o := .lst (vs.set j v)) hL (d := .list (ds.set j d)) ⟨_, upd_same, rs.set rd j⟩ (nf_of hA)
      exact ⟨a, vs, k, j, rfl, rfl, hA, by rw [hl]; exact e1, po3.nx rfl L3 _ σ k1 k2 (en3.step k1)⟩
    · cases h3
  · cases h3
def fApp (fo : E1) (fa : EL) : E1 := fun ρ S => (fo ρ S).bind fun o S1 => (viewL S1 o).bind fun _ => (fa ρ S1).bind fun as S2 => match o, as with
  | .own n, [.dat d] => match S2[n]? with
    | some (.list ds) => if ds.length < sizeLine then ret (.dat .none) (S2.set n (.list (ds ++ [d]))) else none
    | _ => none
  | _, _ => none
theorem tyV_list {K : PySem.W.Frag} {H : Hp} {a : Addr} {vs : List V} (h : SqL K H a vs) : tyV K "list" (.ref a) H := Or.inl ⟨rfl, vs, h⟩
theorem de_app {apos : Pos} (ho : DE X C W o fo) {fa : EL} (ha : DA X C W [e] fa)
    (hbase : attributeBase o "append" X.env (eval o X.env) = eval o X.env := by rfl)
    (hfew : ((backTo pos (starEach [e] X.env)).all (fun x => !x.1) && (backToKw pos (keywordEach [] X.env)).all (fun x => x.1.isSome) && decide ([e].length + ([] : List Keyword).length + (if ([] : List Keyword).isEmpty then 0 else 1) < 30)) = true := by rfl)
    (hline : (apos.endLine == pos.line) = true := by rfl) (hs : starEach [e] X.env = (false, eval e X.env) :: starEach [] X.env := by rfl) (hplain : (backTo pos (starEach [] X.env)).any (·.1) = false := by rfl) :
    DE X C W (.Call (.Attribute o "append" apos) [e] [] pos) (fApp fo fa) := by
  obtain ⟨t1, p1, s1⟩ := ho.ex
  obtain ⟨t2, q2, s2⟩ := ha.ex
  refine ⟨_, pe_bm PySem.F.plainAttrs_list PySem.F.slot_list_append PySem.F.type_list_append mt_append p1 q2 hbase hfew hline hs hplain, fun ρ S r S' h L σ H Q en so po => ?_⟩
  refine s1.bind h en so po fun y S1 L1 H1 u h1 st1 so1 r1 en1 po1 => ?_
  obtain ⟨ds0, e0, k0⟩ := opt_bind h1
  obtain ⟨a0, vs0, e00, m0, _⟩ := view_list (viewL_eq e0) r1 so1
  refine ⟨by rw [e00]; exact tyV_list m0, ?_⟩
  refine s2.bind k0 en1 so1 po1 fun as S2 L2 H2 ws h2 st2 so2 r2 en2 po2 => ?_
  split at h2
  · rename_i n d
    split at h2
    · rename_i ds hn
      split at h2
      · rename_i hz
        obtain ⟨a, vs, rfl, hL, hA, rs⟩ := own_list so2 (r1.step st2) hn
        obtain ⟨v, rfl, rv⟩ := reps_one r2
        obtain ⟨k1, k2⟩ := so2.write (o := .lst (vs ++ [v])) hL (d := .list (ds ++ [d])) ⟨_, upd_same, rs.append (.one rv)⟩ (nf_of hA)
        exact ⟨a, vs, v, rfl, rfl, hA, by rw [rs.length]; exact hz, po2.done (S0 := S2.set n (.list (ds ++ [d]))) h2 k1 k2 _ .non⟩
      · cases h2
    · cases h2
  · cases h2
end

/-! ### for -/
def srcOk (src : Option Nat) (items : List D) (S : Sto) : Prop := ∀ n, src = some n → S[n]? = some (.list items)
theorem srcOk_none {items : List D} {S : Sto} : srcOk none items S := fun n h => by cases h
abbrev EI := Env1 → Sto → Rs (List D × Option Nat)
structure Serves (K : PySem.W.Frag) (L0 : List Addr) (H0 : Hp) (J : It) (items : List D) (src : Option Nat) : Prop where
  all : ∀ L H S, Step L0 H0 L H → StoR K L H S → srcOk src items S → (∀ i, i < items.length → J.go i H) ∧ J.stop items.length H ∧
    ∀ i x H', i < items.length → J.yld i H x H' → Step L H L H' ∧ StoR K L H' S ∧ ∃ d, items[i]? = some d ∧ Rep K (mask L H') x d
def SmI (K : PySem.W.Frag) (C : Str → Value) (W : WX) (t : TI) (f : EI) : Prop := ∀ ρ S r S', f ρ S = some (r, S') → ∀ L σ H (R : It → Hp → Prop), EnvR K L H σ ρ → StoR K L H S →
  Post K C W L H σ S' r (fun L' H' p => ∀ J, Serves K L' H' J p.1 p.2 → R J H') → t σ H R
structure DI (X : Cx) (C : Str → Value) (W : WX) (tg iter : Expr) (f : EI) : Prop where
  ex : ∃ wi, PI X tg iter wi ∧ SmI X.K C W wi f
open Classical in
noncomputable def forL (src : Option Nat) (items : List D) (tg : Tg) (body : SS) : List D → SS
  | [] => fun ρ S => if srcOk src items S then some (.nx, ρ, S) else none
  | d :: r => fun ρ S => if srcOk src items S then (tg (.dat d) ρ).bind fun ρ1 => match body ρ1 S with
      | none => none
      | some (.nx, ρ2, S2) => forL src items tg body r ρ2 S2
      | some (.ct, ρ2, S2) => forL src items tg body r ρ2 S2
      | some (.bk, ρ2, S2) => some (.nx, ρ2, S2)
      | some (.rt o, ρ2, S2) => some (.rt o, ρ2, S2)
      | some (.er e, ρ2, S2) => some (.er e, ρ2, S2)
    else none
noncomputable def sFor (f : EI) (tg : Tg) (body : SS) : SS := fun ρ S => match f ρ S with
  | none => none
  | some (.inr e, S1) => some (.er e, ρ, S1)
  | some (.inl p, S1) => forL p.2 p.1 tg body p.1 ρ S1
section
variable {X : Cx} {C : Str → Value} {W : WX} {tg iter : Expr} {fi : EI} {t : Tg} {body : List Stmt} {g : SS} {pos : Pos}
theorem sm_for {K : PySem.W.Frag} {wi : TI} {gt : TG} {tb : TS} {is : List Nat} (s : SmI K C W wi fi) (s2 : SmG K is gt t) (s3 : SmS K C W tb g) : SmS K C W (tFor wi gt tb) (sFor fi t g) := fun ρ S fl ρ' S' h L σ H D en so po => by
  unfold sFor at h
  split at h
  · cases h
  · rename_i e S1 q
    cases h
    exact s ρ S _ _ q L σ H _ en so ⟨fun b z => (by cases z), fun e' he L' H' st so' cls d x => po.er e' (by cases he; rfl) L' H' σ cls d st so' (en.step st) x⟩
  · rename_i p S1 q
    refine s ρ S _ _ q L σ H _ en so ⟨fun b z L1 H1 st1 so1 J sv => ?_, fun e' he => by cases he⟩
    cases z
    obtain ⟨items, src⟩ := p
    simp only at h sv
    refine ⟨fun i m σ H => ∃ L2 ρ2 S2, m = items.length - i ∧ i ≤ items.length ∧ Step L1 H1 L2 H ∧ EnvR K L2 H σ ρ2 ∧ StoR K L2 H S2 ∧ forL src items t g (items.drop i) ρ2 S2 = some (fl, ρ', S'),
      ⟨_, L1, ρ, S1, rfl, Nat.zero_le _, Step.refl, en.step st1, so1, h⟩, ?_⟩
    rintro i m σ2 H2 ⟨L2, ρ2, S2, rfl, hi, st2, en2, so2, h2⟩
    have po2 := (po.step st1).step st2
    by_cases hlt : i < items.length
    · rw [List.drop_eq_getElem_cons hlt] at h2
      unfold forL at h2
      split at h2
      · rename_i hsrc
        obtain ⟨a1, a2, a3⟩ := sv.all L2 H2 S2 st2 so2 hsrc
        obtain ⟨ρ3, e3, h3⟩ := opt_bind h2
        refine .inr ⟨a1 i hlt, fun σ' H' => ∃ L2 ρ2 S2, Step L1 H1 L2 H' ∧ EnvR K L2 H' σ' ρ2 ∧ StoR K L2 H' S2 ∧ forL src items t g (items.drop (i + 1)) ρ2 S2 = some (fl, ρ', S'),
          fun σ' H' ⟨L3, ρ3, S3, b1, b2, b3, b4⟩ => ⟨items.length - (i + 1), by omega, L3, ρ3, S3, rfl, hlt, b1, b2, b3, b4⟩, fun x H3 hy => ?_⟩
        obtain ⟨st3, so3, d, hd, rd⟩ := a3 i x H3 hlt hy
        have ed : d = items[i] := by
          rw [List.getElem?_eq_getElem hlt] at hd
          exact (Option.some.inj hd).symm
        subst ed
        refine s2 _ _ _ e3 L2 σ2 H3 S2 x _ (en2.step st3) so3 rd fun σ4 en4 _ => ?_
        have po3 := po2.step st3
        split at h3
        · cases h3
        · rename_i ρ4 S4 q4
          exact s3 ρ3 S2 _ _ _ q4 L2 σ4 H3 _ en4 so3 ⟨fun _ L' H' σ' st so' en' => ⟨L', ρ4, S4, (st2.trans st3).trans st, en', so', h3⟩, fun z => (by cases z), fun z => (by cases z), fun o z => (by cases z), fun e z => (by cases z)⟩
        · rename_i ρ4 S4 q4
          exact s3 ρ3 S2 _ _ _ q4 L2 σ4 H3 _ en4 so3 ⟨fun z => (by cases z), fun z => (by cases z), fun _ L' H' σ' st so' en' => ⟨L', ρ4, S4, (st2.trans st3).trans st, en', so', h3⟩, fun o z => (by cases z), fun e z => (by cases z)⟩
        · rename_i ρ4 S4 q4
          cases h3
          exact s3 ρ3 S2 _ _ _ q4 L2 σ4 H3 _ en4 so3 ⟨fun z => (by cases z), fun _ L' H' σ' st so' en' => po3.nx rfl L' H' σ' st so' en', fun z => (by cases z), fun o z => (by cases z), fun e z => (by cases z)⟩
        · rename_i o ρ4 S4 q4
          cases h3
          exact s3 ρ3 S2 _ _ _ q4 L2 σ4 H3 _ en4 so3 ⟨fun z => (by cases z), fun z => (by cases z), fun z => (by cases z), po3.rt, po3.er⟩
        · rename_i e ρ4 S4 q4
          cases h3
          exact s3 ρ3 S2 _ _ _ q4 L2 σ4 H3 _ en4 so3 ⟨fun z => (by cases z), fun z => (by cases z), fun z => (by cases z), po3.rt, po3.er⟩
      · cases h2
    · have e : i = items.length := by omega
      subst e
      rw [List.drop_length] at h2
      unfold forL at h2
      split at h2
      · rename_i hsrc
        obtain ⟨a1, a2, a3⟩ := sv.all L2 H2 S2 st2 so2 hsrc
        cases h2
        exact .inl ⟨a2, po2.nx rfl L2 H2 σ2 Step.refl so2 en2⟩
      · cases h2
theorem ds_for (hp : PassesOwn (model X.prog X.w) X.A X.env X.xe) (hc : X.calm = true) {is : List Nat} (hi : DI X C W tg iter fi) (hg : DG X tg is t) (hb : DSs X C W body g) (hs : ∀ x, foldedSetIterable iter X.env x = pure x := by intro _; rfl) :
    DS X C W (.For tg iter body [] pos) (sFor fi t g) := by
  obtain ⟨wi, p, s⟩ := hi.ex
  obtain ⟨gt, p2, s2⟩ := hg.ex
  obtain ⟨tb, p3, s3⟩ := hb.ex
  exact ⟨_, ps_for hp hc p p2 p3 hs, sm_for s s2 s3⟩
end
end Dk
set_option Elab.async false
set_option linter.all false
set_option maxRecDepth 100000
set_option maxHeartbeats 4000000
/-! What is walked; comprehensions; a def; texts' methods. -/
namespace Dk
open PySem PySem.Spec L2

/-! ### what is walked -/
section
variable {K : PySem.W.Frag} {L : List Addr} {H : Hp} {items : List D} {src : Option Nat} {a : Addr} {vs : List V}
/-- a list: frozen, or owned and watched -/
theorem serves_list {o : OV} {S : Sto} (hv : view S o = some (.list items)) (r : RepO K L H (.ref a) o) (hs : src = match o with | .dat _ => none | .own n => some n) : Serves K L H (Itl K a) items src := by
  refine ⟨fun L' H' S' st so ok => ?_⟩
  obtain ⟨ws, m, rs⟩ : ∃ ws, SqL K H' a ws ∧ Reps K (mask L' H') ws items := by
    cases o with
    | dat d =>
      cases hv
      cases Rep.mono st.frz r with
      | lst h1 h2 => exact ⟨_, same_l (mask_same _ _) h1, h2⟩
    | own n =>
      subst hs
      obtain ⟨c, h1, h2⟩ := r
      cases h1
      obtain ⟨ws, q1, q2⟩ := (so.obj n a _ (st.get h2) (ok n rfl) : ObjR K (mask L' H') H' a (.list items))
      exact ⟨ws, SqL.of q1, q2⟩
  have hq : SqL K H' a ws := m
  have hl := rs.length
  refine ⟨fun i hi => ?_, ⟨ws, hq, by omega⟩, fun i x H2 hi y => ?_⟩
  · have hi' : i < ws.length := by omega
    exact ⟨ws, ws[i], hq, List.getElem?_eq_getElem hi'⟩
  · obtain ⟨rfl, y⟩ := y
    obtain ⟨d, h1, h2⟩ := rs.get (y ws hq)
    exact ⟨Step.refl, so, d, h1, h2⟩
theorem serves_tup {o : OV} {S : Sto} (hv : view S o = some (.tuple items)) (r : RepO K L H (.ref a) o) (so0 : StoR K L H S) : Serves K L H (Itt K a) items none := by
  refine ⟨fun L' H' S' st so ok => ?_⟩
  obtain ⟨ws, m, rs⟩ : ∃ ws, SqT K H' a ws ∧ Reps K (mask L' H') ws items := by
    cases o with
    | dat d =>
      cases hv
      cases Rep.mono st.frz r with
      | tup h1 h2 => exact ⟨_, SqT.of (mask_same _ _ _ _ h1), h2⟩
    | own n =>
      obtain ⟨c, h1, h2⟩ := r
      exact (so0.obj n c _ h2 hv : ObjR K (mask L H) H c (.tuple items)).elim
  have hl := rs.length
  refine ⟨fun i hi => ?_, ⟨ws, m, by omega⟩, fun i x H2 hi y => ?_⟩
  · have hi' : i < ws.length := by omega
    exact ⟨ws, ws[i], m, List.getElem?_eq_getElem hi'⟩
  · obtain ⟨rfl, y⟩ := y
    obtain ⟨d, h1, h2⟩ := rs.get (y ws m)
    exact ⟨Step.refl, so, d, h1, h2⟩
theorem serves_range {lo : Int} {n : Nat} : Serves K L H (Itr lo n) ((List.range n).map fun i : Nat => .int (lo + i)) none := by
  refine ⟨fun L' H' S' st so ok => ⟨fun i hi => ?_, by show n ≤ _; simp, fun i x H2 hi y => ?_⟩⟩
  · show i < n
    simpa using hi
  obtain ⟨rfl, rfl⟩ := y
  have hi' : i < n := by simpa using hi
  exact ⟨Step.refl, so, .int (lo + i), by simp [hi'], .int _⟩
theorem serves_str {x : Str} : Serves K L H (Its x) (x.cps.toList.map fun c => .str ⟨#[c]⟩) none := by
  refine ⟨fun L' H' S' st so ok => ⟨fun i hi => ?_, by show x.cps.size ≤ _; simp, fun i v H2 hi y => ?_⟩⟩
  · show i < x.cps.size
    simpa using hi
  obtain ⟨rfl, c, h1, rfl⟩ := y
  exact ⟨Step.refl, so, .str ⟨#[c]⟩, by simp [h1], .str _⟩
def pairUp : List D → List D → List D
  | x :: xs, y :: ys => .tuple [x, y] :: pairUp xs ys
  | _, _ => []
theorem pairUp_len : ∀ xs ys : List D, (pairUp xs ys).length = min xs.length ys.length
  | [], _ => by simp [pairUp]
  | _ :: _, [] => by simp [pairUp]
  | x :: xs, y :: ys => by simp only [pairUp, List.length_cons, pairUp_len xs ys]; omega
theorem pairUp_at : ∀ (xs ys : List D) (i : Nat) (x y : D), xs[i]? = some x → ys[i]? = some y → (pairUp xs ys)[i]? = some (.tuple [x, y])
  | [], _, _, _, _, h, _ => by simp at h
  | _ :: _, [], _, _, _, _, h => by simp at h
  | a :: xs, b :: ys, 0, x, y, h, h2 => by simp at h h2; subst h; subst h2; rfl
  | a :: xs, b :: ys, i + 1, x, y, h, h2 => by simpa [pairUp] using pairUp_at xs ys i x y (by simpa using h) (by simpa using h2)
theorem new_pair {S : Sto} {p : Addr} {x y : V} {d e : D} (so : StoR K L H S) (hp : H p = none) (hx : Rep K (mask L H) x d) (hy : Rep K (mask L H) y e) :
    Step L H L (upd H p (.tup [x, y])) ∧ StoR K L (upd H p (.tup [x, y])) S ∧ Rep K (mask L (upd H p (.tup [x, y]))) (.ref p) (.tuple [d, e]) :=
  ⟨step_new hp, so.laid hp, new_tup so hp (.cons hx (.cons hy .nil))⟩
theorem serves_zip {b : Addr} {xs ys : List V} {ds es : List D} (mx : SqL K (mask L H) a xs) (my : SqL K (mask L H) b ys) (rx : Reps K (mask L H) xs ds) (ry : Reps K (mask L H) ys es) : Serves K L H (Itz K a b) (pairUp ds es) none := by
  refine ⟨fun L' H' S' st so ok => ?_⟩
  have hx : SqL K H' a xs := same_l (st.frz.trans (mask_same _ _)) mx
  have hy : SqL K H' b ys := same_l (st.frz.trans (mask_same _ _)) my
  have rx' := rx.mono st.frz
  have ry' := ry.mono st.frz
  have h1 := rx.length
  have h2 := ry.length
  refine ⟨fun i hi => ?_, ⟨xs, ys, hx, hy, ?_⟩, fun i v H2 hi y => ?_⟩
  · rw [pairUp_len] at hi
    have k1 : i < xs.length := by omega
    have k2 : i < ys.length := by omega
    exact ⟨xs, ys, xs[i], ys[i], hx, hy, List.getElem?_eq_getElem k1, List.getElem?_eq_getElem k2⟩
  · rw [pairUp_len]
    omega
  · obtain ⟨T, x, z, rfl, hT, rfl, q1, q2⟩ := y
    obtain ⟨d, e1, e2⟩ := rx'.get (q1 xs hx)
    obtain ⟨e, e3, e4⟩ := ry'.get (q2 ys hy)
    obtain ⟨p1, p2, p3⟩ := new_pair so hT e2 e4
    exact ⟨p1, p2, _, pairUp_at _ _ _ _ _ e1 e3, p3⟩
theorem serves_zipT {b : Addr} {xs ys : List V} {ds es : List D} (mx : SqT K (mask L H) a xs) (my : SqT K (mask L H) b ys) (rx : Reps K (mask L H) xs ds) (ry : Reps K (mask L H) ys es) : Serves K L H (RZ.ItzT K a b) (pairUp ds es) none := by
  refine ⟨fun L' H' S' st so ok => ?_⟩
  have hx : SqT K H' a xs := same_t (st.frz.trans (mask_same _ _)) mx
  have hy : SqT K H' b ys := same_t (st.frz.trans (mask_same _ _)) my
  have rx' := rx.mono st.frz
  have ry' := ry.mono st.frz
  have h1 := rx.length
  have h2 := ry.length
  refine ⟨fun i hi => ?_, ⟨xs, ys, hx, hy, ?_⟩, fun i v H2 hi y => ?_⟩
  · rw [pairUp_len] at hi
    have k1 : i < xs.length := by omega
    have k2 : i < ys.length := by omega
    exact ⟨xs, ys, xs[i], ys[i], hx, hy, List.getElem?_eq_getElem k1, List.getElem?_eq_getElem k2⟩
  · rw [pairUp_len]
    omega
  · obtain ⟨T, x, z, rfl, hT, rfl, q1, q2⟩ := y
    obtain ⟨d, e1, e2⟩ := rx'.get (q1 xs hx)
    obtain ⟨e, e3, e4⟩ := ry'.get (q2 ys hy)
    obtain ⟨p1, p2, p3⟩ := new_pair so hT e2 e4
    exact ⟨p1, p2, _, pairUp_at _ _ _ _ _ e1 e3, p3⟩
end

def srcOf : OV → Option Nat
  | .dat _ => none
  | .own n => some n
/-- a list or a tuple, walked -/
def iSeq (f : E1) : EI := fun ρ S => (f ρ S).bind fun o S1 => match view S1 o with
  | some (.list ds) => ret (ds, srcOf o) S1
  | some (.tuple ds) => ret (ds, none) S1
  | some (.str x) => ret (x.cps.toList.map fun c => .str ⟨#[c]⟩, none) S1
  | _ => none
def lim62 : Int := 4611686018427387904
noncomputable def iRg1 (f : EL) : EI := fun ρ S => (f ρ S).bind fun os S1 => match os with
  | [.dat (.int j)] => @ite _ (-lim62 ≤ j ∧ j < lim62) (Classical.propDecidable _) (ret ((List.range j.toNat).map fun i : Nat => .int (0 + i), none) S1) none
  | _ => none
noncomputable def iRg2 (f : EL) : EI := fun ρ S => (f ρ S).bind fun os S1 => match os with
  | [.dat (.int i), .dat (.int j)] => @ite _ (-lim62 ≤ i ∧ i < lim62 ∧ -lim62 ≤ j ∧ j < lim62) (Classical.propDecidable _) (ret ((List.range (j - i).toNat).map fun k : Nat => .int (i + k), none) S1) none
  | _ => none
def iZp (f : EL) : EI := fun ρ S => (f ρ S).bind fun os S1 => match os with
  | [.dat (.list xs), .dat (.list ys)] => ret (pairUp xs ys, none) S1
  | [.dat (.tuple xs), .dat (.tuple ys)] => ret (pairUp xs ys, none) S1
  | _ => none
section
variable {X : Cx} {C : Str → Value} {W : WX} {tg e e2 : Expr} {es : List Expr} {fe : E1} {fa : EL} {p pos tpos : Pos}
/-- how a walk of a value begins -/
def iAny (K : PySem.W.Frag) (te : TE) : TI := fun σ H R => te σ H fun x H1 => (∃ a, x = .ref a ∧ (∃ xs, SqL K H1 a xs) ∧ R (Itl K a) H1) ∨ (∃ a, x = .ref a ∧ (∃ xs, SqT K H1 a xs) ∧ R (Itt K a) H1) ∨ ∃ z, x = .str z ∧ R (Its z) H1
theorem pi_any {te : TE} (hl : PE X e te) : PI X tg e (iAny X.K te) := by
  constructor
  intro pins s σ H R I h
  refine thn (hl.run pins s σ H _ I h) fun v s1 h1 => ?_
  obtain ⟨x, H1, I1, r1, q1⟩ := h1
  rcases q1 with ⟨a, ex, ⟨xs, hq⟩, q⟩ | ⟨a, ex, ⟨xs, hq⟩, q⟩ | ⟨z, ex, q⟩
  · subst ex; cases r1
    obtain ⟨its, _, pl, _⟩ := I1.list hq
    exact wpAny_pyIter_list pl.isList (pi_one (tk := s1.toks) I1 _ (turn_list a _) ⟨_, Heap.get?_push_size _ rfl, rfl, rfl⟩ q)
  · subst ex; cases r1
    obtain ⟨its, _, pt, _⟩ := I1.tuple hq
    exact wpAny_pyIter_tuple (show s1.heap.IsTuple a its.toArray from pt) (pi_one (tk := s1.toks) I1 _ (turn_tuple a _) ⟨_, Heap.get?_push_size _ rfl, rfl, rfl⟩ q)
  · subst ex
    obtain ⟨t, rfl⟩ := r1
    cases hz : z.cps.all (· < 128) with
    | false => exact wpAny_pyIter_wide hz (pi_one (tk := s1.toks) I1 _ (turn_str _ z t "str_iterator" (.inr rfl)) ⟨_, Heap.get?_push_size _ rfl, rfl, rfl⟩ q)
    | true => exact wpAny_pyIter_ascii hz (pi_one (tk := s1.toks) I1 _ (turn_str _ z t "str_ascii_iterator" (.inl rfl)) ⟨_, Heap.get?_push_size _ rfl, rfl, rfl⟩ q)
theorem di_any (h : DE X C W e fe) : DI X C W tg e (iSeq fe) := by
  obtain ⟨t, p, s⟩ := h.ex
  refine ⟨_, pi_any p, fun ρ S r S' h L σ H R en so po => ?_⟩
  refine s.bind h en so po fun o S1 L1 H1 v h1 st1 so1 r1 en1 po1 => ?_
  split at h1
  · rename_i ds hv
    obtain ⟨a, vs, rfl, m, rs⟩ := view_list hv r1 so1
    exact .inl ⟨a, rfl, ⟨vs, m⟩, po1.done (S0 := S1) h1 Step.refl so1 _ (serves_list hv r1 (by cases o <;> rfl))⟩
  · rename_i ds hv
    obtain ⟨a, vs, rfl, m, rs⟩ := view_tup hv r1 so1
    exact .inr (.inl ⟨a, rfl, ⟨vs, m⟩, po1.done (S0 := S1) h1 Step.refl so1 _ (serves_tup hv r1 so1)⟩)
  · rename_i z hv
    obtain rfl := view_str hv r1 so1
    exact .inr (.inr ⟨z, rfl, po1.done (S0 := S1) h1 Step.refl so1 _ serves_str⟩)
  · cases h1
theorem di_range1 (hg : Gl X "range") (hm : X.mg "range" = none) (ha : DA X C W [e] fa) (hs : starEach [e] X.env = [(false, eval e X.env)] := by rfl) : DI X C W tg (.Call (.Name "range" p) [e] [] pos) (iRg1 fa) := by
  obtain ⟨t, pa, s⟩ := ha.ex
  refine ⟨_, pi_range1 hg hm pa hs, fun ρ S r S' h L σ H R en so po => ?_⟩
  refine s.bind h en so po fun os S1 L1 H1 vs h1 st1 so1 r1 en1 po1 => ?_
  split at h1
  · rename_i j
    split at h1
    · rename_i hz
      obtain ⟨v, rfl, rv⟩ := reps_one r1
      cases (rv : Rep X.K _ v (.int j))
      unfold lim62 at hz
      exact ⟨j, rfl, by omega, by omega, po1.done (S0 := S1) h1 Step.refl so1 _ serves_range⟩
    · cases h1
  · cases h1
theorem di_range2 (hg : Gl X "range") (hm : X.mg "range" = none) (ha : DA X C W [e, e2] fa) (hs : starEach [e, e2] X.env = [(false, eval e X.env), (false, eval e2 X.env)] := by rfl) (hs2 : starEach [e2] X.env = [(false, eval e2 X.env)] := by rfl) : DI X C W tg (.Call (.Name "range" p) [e, e2] [] pos) (iRg2 fa) := by
  obtain ⟨t, pa, s⟩ := ha.ex
  refine ⟨_, pi_range2 hg hm pa hs hs2, fun ρ S r S' h L σ H R en so po => ?_⟩
  refine s.bind h en so po fun os S1 L1 H1 vs h1 st1 so1 r1 en1 po1 => ?_
  split at h1
  · rename_i i j
    split at h1
    · rename_i hz
      obtain ⟨v, w, rfl, rv, rw'⟩ := reps_two r1
      cases (rv : Rep X.K _ v (.int i))
      cases (rw' : Rep X.K _ w (.int j))
      unfold lim62 at hz
      exact ⟨i, j, rfl, ⟨by omega, by omega, by omega, by omega⟩, po1.done (S0 := S1) h1 Step.refl so1 _ serves_range⟩
    · cases h1
  · cases h1
theorem di_zip {elts : List Expr} {kk : Nat} (hg : Gl X "zip") (hm : X.mg "zip" = none) (ha : DA X C W [e, e2] fa)
    (hs : starEach [e, e2] X.env = (false, eval e X.env) :: starEach [e2] X.env := by rfl) (hpl : (backTo pos (starEach [e2] X.env)).any (·.1) = false := by rfl) : DI X C W (.Tuple elts kk tpos) (.Call (.Name "zip" p) [e, e2] [] pos) (iZp fa) := by
  obtain ⟨t, pa, s⟩ := ha.ex
  refine ⟨_, RZ.pi_zipA hg hm pa hs hpl, fun ρ S r S' h L σ H R en so po => ?_⟩
  refine s.bind h en so po fun os S1 L1 H1 vs h1 st1 so1 r1 en1 po1 => ?_
  split at h1
  · rename_i xs ys
    obtain ⟨v, w, rfl, rv, rw'⟩ := reps_two r1
    cases rv with
    | lst m1 k1 =>
      cases rw' with
      | lst m2 k2 => exact ⟨_, _, _, _, rfl, .inl ⟨same_l (mask_same _ _) m1, same_l (mask_same _ _) m2, po1.done (S0 := S1) h1 Step.refl so1 _ (serves_zip m1 m2 k1 k2)⟩⟩
  · rename_i xs ys
    obtain ⟨v, w, rfl, rv, rw'⟩ := reps_two r1
    cases rv with
    | tup m1 k1 =>
      cases rw' with
      | tup m2 k2 => exact ⟨_, _, _, _, rfl, .inr ⟨SqT.of (mask_same _ _ _ _ m1), SqT.of (mask_same _ _ _ _ m2), po1.done (S0 := S1) h1 Step.refl so1 _ (serves_zipT (SqT.of m1) (SqT.of m2) k1 k2)⟩⟩
  · cases h1
end
end Dk
set_option Elab.async false
set_option linter.all false
set_option maxRecDepth 100000
set_option maxHeartbeats 4000000
/-! Comprehensions. -/
namespace Dk
open PySem PySem.Spec L2

/-! ### a reading that is the function itself -/
section
variable (K : PySem.W.Frag) (C : Str → Value) (W : WX)
def canE (f : E1) : TE := fun σ H Q => ∃ ρ S r S' L, f ρ S = some (r, S') ∧ EnvR K L H σ ρ ∧ StoR K L H S ∧ Post K C W L H σ S' r (fun L' H' o => ∀ v, RepO K L' H' v o → Q v H')
def canT (f : EB) : TT := fun σ H Q => ∃ ρ S r S' L, f ρ S = some (r, S') ∧ EnvR K L H σ ρ ∧ StoR K L H S ∧ Post K C W L H σ S' r (fun _ H' b => Q b H')
def canI (f : EI) : TI := fun σ H R => ∃ ρ S r S' L, f ρ S = some (r, S') ∧ EnvR K L H σ ρ ∧ StoR K L H S ∧ Post K C W L H σ S' r (fun L' H' p => ∀ J, Serves K L' H' J p.1 p.2 → R J H')
def canG (is : List Nat) (t : Tg) : TG := fun v σ H Q => ∃ o ρ ρ' L S, t o ρ = some ρ' ∧ EnvR K L H σ ρ ∧ StoR K L H S ∧ RepO K L H v o ∧ ∀ σ', EnvR K L H σ' ρ' → (∀ vs : List Nat, (∀ i ∈ is, i ∈ vs) → wipe σ' vs = wipe σ vs) → Q σ' H
end
section
variable {X : Cx} {C : Str → Value} {W : WX} {e tg : Expr} {f : E1} {b : EB} {fi : EI} {t : Tg} {is : List Nat}
theorem DE.can (h : DE X C W e f) : PE X e (canE X.K C W f) := by
  obtain ⟨t, p, s⟩ := h.ex
  exact ⟨fun pins sh σ H Q I ⟨ρ, S, r, S', L, e1, en, so, po⟩ => p.run pins sh σ H Q I (s ρ S r S' e1 L σ H Q en so po)⟩
theorem DT.can (h : DT X C W e b) : PT X e (canT X.K C W b) := by
  obtain ⟨t, p, s⟩ := h.ex
  exact ⟨fun pins sh σ H Q I ⟨ρ, S, r, S', L, e1, en, so, po⟩ => p.run pins sh σ H Q I (s ρ S r S' e1 L σ H Q en so po)⟩
theorem DI.can (h : DI X C W tg e fi) : PI X tg e (canI X.K C W fi) := by
  obtain ⟨t, p, s⟩ := h.ex
  exact ⟨fun pins sh σ H Q I ⟨ρ, S, r, S', L, e1, en, so, po⟩ => p.run pins sh σ H Q I (s ρ S r S' e1 L σ H Q en so po)⟩
theorem DG.can (h : DG X tg is t) : PG X tg (canG X.K is t) := by
  obtain ⟨g, p, s⟩ := h.ex
  exact ⟨fun pins sh σ H v u Q I r ⟨o, ρ, ρ', L, S, e1, en, so, rv, q⟩ => p.run pins sh σ H v u Q I r (s o ρ ρ' e1 L σ H S v Q en so rv q)⟩
end
/-- nothing is let out -/
abbrev W0 : WX := fun _ _ _ _ => False
structure DTs (X : Cx) (C : Str → Value) (W : WX) (ifs : List Expr) (f : EB) : Prop where
  run : PTs X ifs (canT X.K C W f)
def bYes : EB := fun _ S => ret true S
theorem dts_nil {X : Cx} {C : Str → Value} {W : WX} : DTs X C W [] bYes :=
  ⟨⟨fun pins s σ H Q I ⟨ρ, S, r, S', L, e1, en, so, po⟩ => by
    cases e1
    exact pts_nil.run pins s σ H Q I (po.fine true rfl L H Step.refl so)⟩⟩
theorem dts_one {X : Cx} {C : Str → Value} {W : WX} {c : Expr} {f : EB} (h : DT X C W c f) : DTs X C W [c] f := ⟨pts_one h.can⟩

def wipeR (ρ : Env1) : List Nat → Env1
  | [] => ρ
  | v :: vs => (wipeR ρ vs).set v none
theorem EnvR.wipes {K : PySem.W.Frag} {L : List Addr} {H : Hp} {σ : L2.St} {ρ : Env1} (h : EnvR K L H σ ρ) : ∀ vs : List Nat, EnvR K L H (L2.wipe σ vs) (wipeR ρ vs)
  | [] => h
  | v :: vs => (EnvR.wipes h vs).wipe v

/-! ### [e for t in xs if c] -/
/-- one more item for the list that is filled at place n0 -/
def putAt (n0 : Nat) (S : Sto) (o : OV) : Option Sto := match o, S[n0]? with
  | .dat d, some (.list acc) => if acc.length < sizeLine then some (S.set n0 (.list (acc ++ [d]))) else none
  | _, _ => none
open Classical in
noncomputable def lcL (src : Option Nat) (items : List D) (tg : Tg) (tst : EB) (elt : E1) (n0 : Nat) (ρ : Env1) : List D → Sto → Option Sto
  | [], S => if srcOk src items S then some S else none
  | d :: r, S => if srcOk src items S then (tg (.dat d) ρ).bind fun ρ1 => match tst ρ1 S with
      | some (.inl true, S1) => match elt ρ1 S1 with
        | some (.inl o, S2) => (putAt n0 S2 o).bind fun S3 => lcL src items tg tst elt n0 ρ r S3
        | _ => none
      | some (.inl false, S1) => lcL src items tg tst elt n0 ρ r S1
      | _ => none
    else none
def popAt (n0 : Nat) (S : Sto) : Rs (List D) := match S[n0]? with
  | some (.list acc) => if S.length = n0 + 1 then ret acc (S.take n0) else none
  | _ => none
noncomputable def fLc (fi : EI) (tg : Tg) (tst : EB) (elt : E1) (vs : List Nat) : EF := fun ρ S => (fi ρ S).bind fun p S1 => (lcL p.2 p.1 tg tst elt S1.length (wipeR ρ vs) p.1 (S1 ++ [.list []])).bind fun S2 => popAt S1.length S2

section
variable {K : PySem.W.Frag} {C : Str → Value} {L L1 : List Addr} {H H1 : Hp} {S S1 S' : Sto} {D0 : Addr}
/-- the filled list's address taken away -/
def less (H : Hp) (p : Addr) : Hp := fun a => if a = p then none else H a
theorem upd_less {p : Addr} {o : HO} (h : H p = some o) : upd (less H p) p o = H := by
  funext a
  unfold upd less
  by_cases e : a = p
  · rw [if_pos e, e, h]
  · rw [if_neg e, if_neg e]
theorem less_self {p : Addr} : less H p p = none := by unfold less; rw [if_pos rfl]
theorem mask_less1 {p : Addr} : mask (L ++ [p]) H = mask L (less H p) := by
  funext a
  unfold mask less
  by_cases e : a ∈ L
  · rw [if_pos e, if_pos (by simp [e])]
  · by_cases e2 : a = p
    · rw [if_neg e, if_pos e2, if_pos (by simp [e2])]
      rfl
    · rw [if_neg e, if_neg e2, if_neg (by simp [e, e2])]
theorem StoR.pop {p : Addr} (so : StoR K (L ++ [p]) H S) : StoR K L (less H p) (S.take L.length) := by
  obtain ⟨nd, len, obj, tb⟩ := so
  rw [List.nodup_append] at nd
  obtain ⟨u, hu, n1, n2⟩ : ∃ u, H p = some u ∧ (∀ ps, u ≠ .tbl ps) ∧ ∀ c q, u ≠ LamX.CodeO c q := by
    have hl : L.length < S.length := by
      simp at len
      omega
    exact objR_kind (obj L.length p _ (by simp) (List.getElem?_eq_getElem hl))
  refine ⟨nd.1, by simp at len; simp; omega, fun n a d h1 h2 => ?_, tabs_but tb hu n1 n2 fun b v hb e => by unfold less; rw [if_neg hb]; exact e⟩
  have hn := (List.getElem?_eq_some_iff.mp h1).1
  have h1' : (L ++ [p])[n]? = some a := by rw [List.getElem?_append_left hn]; exact h1
  have h2' : S[n]? = some d := by rw [List.getElem?_take_of_lt hn] at h2; exact h2
  have q := obj n a d h1' h2'
  rw [mask_less1] at q
  refine q.mono (Same.refl _) ?_
  unfold less
  rw [if_neg]
  intro e
  exact nd.2.2 a (List.mem_of_getElem? h1) p (by simp) e
theorem lc_run {J : It} {items : List D} {src : Option Nat} {tg : Tg} {is : List Nat} {tst : EB} {elt : E1} {vs : List Nat} {ρ : Env1} {σ : L2.St} (hv : ∀ i ∈ is, i ∈ vs)
    (sv : Serves K L1 H1 J items src) (en : EnvR K L1 H1 σ ρ) (so : StoR K L1 H1 S1) (hD : H1 D0 = none) {S2 : Sto} (h : lcL src items tg tst elt S1.length (wipeR ρ vs) items (S1 ++ [.list []]) = some S2) {Qd : Hp → Prop}
    (hq : ∀ L2 H2, Step L1 H1 L2 H2 → Step (L1 ++ [D0]) (upd H1 D0 (.lst [])) L2 H2 → StoR K L2 H2 S2 → Qd H2) :
    ∃ W : Nat → Nat → Hp → Prop, (∃ m, W 0 m (upd H1 D0 (.lst []))) ∧ ∀ i m H, W i m H →
      (J.stop i H ∧ Qd H) ∨ (J.go i H ∧ ∃ Nx : Hp → Prop, (∀ H', Nx H' → ∃ m', m' < m ∧ W (i + 1) m' H') ∧ ∀ x H', J.yld i H x H' → canG K is tg x (wipe σ vs) H' fun σ2 H2 => wipe σ2 vs = wipe σ vs ∧ canT K C W0 tst σ2 H2 fun b H3 =>
        if b = true then canE K C W0 elt σ2 H3 fun y H4 => ∃ acc, H4 D0 = some (.lst acc) ∧ acc.length < sizeLine ∧ Nx (upd H4 D0 (.lst (acc ++ [y]))) else Nx H3) := by
  obtain ⟨k1, k2⟩ := so.own (o := .lst []) hD (d := .list []) ⟨[], upd_same, .nil⟩
  have hlen : L1.length = S1.length := so.len
  have hwipe : ∀ σ' : L2.St, (∀ us : List Nat, (∀ i ∈ is, i ∈ us) → wipe σ' us = wipe (wipe σ vs) us) → wipe σ' vs = wipe σ vs := fun σ' hσ => by
    rw [hσ vs hv]
    apply List.ext_getElem?
    intro j
    by_cases hj : j ∈ vs
    · by_cases hl : j < σ.length
      · rw [wipe_at hj (by rw [wipe_len]; exact hl), wipe_at hj hl]
      · rw [List.getElem?_eq_none (by rw [wipe_len, wipe_len]; omega), List.getElem?_eq_none (by rw [wipe_len]; omega)]
    · rw [wipe_off hj]
  refine ⟨fun i m H => ∃ L2 Sx, m = items.length - i ∧ i ≤ items.length ∧ Step (L1 ++ [D0]) (upd H1 D0 (.lst [])) L2 H ∧ StoR K L2 H Sx ∧ lcL src items tg tst elt S1.length (wipeR ρ vs) (items.drop i) Sx = some S2,
    ⟨_, L1 ++ [D0], S1 ++ [.list []], rfl, Nat.zero_le _, Step.refl, k2, (by rw [List.drop_zero]; exact h)⟩, ?_⟩
  rintro i m H2 ⟨L2, Sx, rfl, hi, st2, so2, h2⟩
  have st12 := k1.trans st2
  by_cases hlt : i < items.length
  · rw [List.drop_eq_getElem_cons hlt] at h2
    unfold lcL at h2
    split at h2
    · rename_i hsrc
      obtain ⟨a1, a2, a3⟩ := sv.all L2 H2 Sx st12 so2 hsrc
      obtain ⟨ρ3, e3, h3⟩ := opt_bind h2
      refine .inr ⟨a1 i hlt, fun H' => ∃ L3 Sy, Step (L1 ++ [D0]) (upd H1 D0 (.lst [])) L3 H' ∧ StoR K L3 H' Sy ∧ lcL src items tg tst elt S1.length (wipeR ρ vs) (items.drop (i + 1)) Sy = some S2,
        fun H' ⟨L3, Sy, b1, b2, b3⟩ => ⟨items.length - (i + 1), by omega, L3, Sy, rfl, hlt, b1, b2, b3⟩, fun x H3 hy => ?_⟩
      obtain ⟨st3, so3, d, hd, rd⟩ := a3 i x H3 hlt hy
      have ed : d = items[i] := by
        rw [List.getElem?_eq_getElem hlt] at hd
        exact (Option.some.inj hd).symm
      subst ed
      have en3 : EnvR K L2 H3 (wipe σ vs) (wipeR ρ vs) := (en.wipes vs).step (st12.trans st3)
      refine ⟨.dat items[i], wipeR ρ vs, ρ3, L2, Sx, e3, en3, so3, rd, fun σ4 en4 hσ => ⟨hwipe σ4 hσ, ?_⟩⟩
      have st23 := st2.trans st3
      split at h3
      · rename_i S5 q5
        refine ⟨ρ3, Sx, _, S5, L2, q5, en4, so3, ⟨fun b hb L' H' st so' => ?_, fun e he => by cases he⟩⟩
        cases hb
        refine iteT ?_
        split at h3
        · rename_i o S6 q6
          obtain ⟨S7, e7, h7⟩ := opt_bind h3
          refine ⟨ρ3, S5, _, S6, L', q6, en4.step st, so', ⟨fun b hb L'' H'' st' so'' y ry => ?_, fun e he => by cases he⟩⟩
          cases hb
          have stA := (st23.trans st).trans st'
          unfold putAt at e7
          split at e7
          · rename_i d acc hacc
            split at e7
            · rename_i hz
              cases e7
              have hL : L''[S1.length]? = some D0 := by
                refine stA.get ?_
                rw [← hlen, List.getElem?_append_right (Nat.le_refl _), Nat.sub_self]
                rfl
              obtain ⟨a, ws, ea, hL2, hA, rs⟩ := own_list (v := .ref D0) so'' ⟨D0, rfl, hL⟩ hacc
              cases ea
              obtain ⟨c1, c2⟩ := so''.write (o := .lst (ws ++ [y])) hL (d := .list (acc ++ [d])) ⟨_, upd_same, rs.append (.one ry)⟩ (nf_of hA)
              exact ⟨ws, hA, by rw [rs.length]; exact hz, L'', _, stA.trans c1, c2, h7⟩
            · cases e7
          · cases e7
        · cases h3
      · rename_i S5 q5
        refine ⟨ρ3, Sx, _, S5, L2, q5, en4, so3, ⟨fun b hb L' H' st so' => ?_, fun e he => by cases he⟩⟩
        cases hb
        exact iteF ⟨L', S5, st23.trans st, so', h3⟩
      · cases h3
    · cases h2
  · have e : i = items.length := by omega
    subst e
    rw [List.drop_length] at h2
    unfold lcL at h2
    split at h2
    · rename_i hsrc
      obtain ⟨a1, a2, a3⟩ := sv.all L2 H2 Sx st12 so2 hsrc
      cases h2
      exact .inl ⟨a2, hq L2 H2 st12 st2 so2⟩
    · cases h2
/-- the list that was filled, as a new one -/
theorem lc_done {S2 : Sto} {ds : List D} {St : Sto} {L2 : List Addr} {H2 : Hp} (so : StoR K L1 H1 S1) (hD : H1 D0 = none) (st : Step L1 H1 L2 H2) (st2 : Step (L1 ++ [D0]) (upd H1 D0 (.lst [])) L2 H2) (so2 : StoR K L2 H2 S2) (h : popAt S1.length S2 = some (.inl ds, St)) :
    ∃ vs, H2 = upd (less H2 D0) D0 (.lst vs) ∧ Step L1 H1 L1 (less H2 D0) ∧ StoR K L1 (less H2 D0) St ∧ less H2 D0 D0 = none ∧ Reps K (mask L1 (less H2 D0)) vs ds := by
  unfold popAt at h
  split at h
  · rename_i acc hacc
    split at h
    · rename_i hz
      cases h
      obtain ⟨M, hM⟩ := st2.pre
      have hl2 := so2.len
      have hl1 := so.len
      have hM0 : M = [] := by
        rw [hM] at hl2
        simp only [List.length_append, List.length_singleton] at hl2
        exact List.eq_nil_of_length_eq_zero (by omega)
      subst hM0
      rw [List.append_nil] at hM
      subst hM
      have hL : (L1 ++ [D0])[S1.length]? = some D0 := by
        rw [← hl1, List.getElem?_append_right (Nat.le_refl _), Nat.sub_self]
        rfl
      obtain ⟨ws, hA, rs⟩ := (so2.obj S1.length D0 _ hL hacc : ObjR K (mask (L1 ++ [D0]) H2) H2 D0 (.list ds))
      refine ⟨ws, (upd_less hA).symm, ⟨?_, ⟨[], by simp⟩, fun b ob u e => by unfold less; rw [if_neg (ne_of_none e hD)]; exact st.fz b ob u e⟩, ?_, less_self, ?_⟩
      · have := st.frz
        rw [mask_less1] at this
        exact this
      · have := so2.pop
        rw [hl1] at this
        exact this
      · rw [mask_less1] at rs
        exact rs
    · cases h
  · cases h
end
section
variable {X : Cx} {C : Str → Value} {W : WX} {elt tg iter : Expr} {ifs : List Expr} {scope : Scope} {own : List (Str × Nat)} {pos : Pos} {fi : EI} {t : Tg} {is : List Nat} {tst : EB} {fe : E1}
theorem sm_lc {K : PySem.W.Frag} {wi : TI} (s : SmI K C W wi fi) (hv : ∀ i ∈ is, i ∈ own.map (·.2)) : SmF K C W (tLc wi (canG K is t) (canT K C W0 tst) (canE K C W0 fe) (own.map (·.2))) (fLc fi t tst fe (own.map (·.2))) := fun ρ S r S' h L σ H Q en so po => by
  unfold fLc at h
  cases e : fi ρ S with
  | none => rw [e] at h; cases h
  | some q =>
    obtain ⟨q, S1⟩ := q
    rw [e] at h
    cases q with
    | inr x =>
      cases h
      exact s ρ S _ _ e L σ H _ en so ⟨fun b z => (by cases z), fun e' he L' H' st so' cls d x => po.bad e' (by cases he; rfl) L' H' st so' cls d x⟩
    | inl p =>
      obtain ⟨items, src⟩ := p
      obtain ⟨S2, e2, h3⟩ := opt_bind (show (lcL _ _ _ _ _ _ _ _ _).bind _ = _ from h)
      refine s ρ S _ _ e L σ H _ en so ⟨fun b z L1 H1 st1 so1 J sv D0 hD => ?_, fun e' he => by cases he⟩
      cases z
      refine lc_run hv sv (en.step st1) so1 hD e2 fun L2 H2 st2 st2' so2 => ?_
      cases r with
      | inr x =>
        unfold popAt at h3
        split at h3
        · split at h3 <;> cases h3
        · cases h3
      | inl ds =>
        obtain ⟨vs, c1, c2, c3, c4, c5⟩ := lc_done so1 hD st2 st2' so2 h3
        rw [c1]
        exact po.fine ds rfl L1 _ (st1.trans c2) c3 D0 vs c4 c5
theorem df_lc (hc : X.calm = true) (hN : X.N.Nodup) (hi : DI X C W tg iter fi) (ok : BlkOk X.N X.env.scope scope own) (hv : ∀ i ∈ is, i ∈ own.map (·.2))
    (hg : ∀ (s : Shared) (H : Hp) (D : Addr) (cl : List (Str × Addr)) (fp : List Addr), DG (X.blk s H scope (compEnvC scope cl D X.env) fp) tg is t)
    (ht : ∀ (s : Shared) (H : Hp) (D : Addr) (cl : List (Str × Addr)) (fp : List Addr), DTs (X.blk s H scope (compEnvC scope cl D X.env) fp) C W0 ifs tst)
    (he : ∀ (s : Shared) (H : Hp) (D : Addr) (cl : List (Str × Addr)) (fp : List Addr), DE (X.blk s H scope (compEnvC scope cl D X.env) fp) C W0 elt fe) (hs : ∀ x, foldedSetIterable iter X.env x = pure x := by intro _; rfl) :
    DF X C W (.ListComp elt [⟨tg, iter, ifs, 0⟩] scope pos) (fLc fi t tst fe (own.map (·.2))) := by
  obtain ⟨wi, p, s⟩ := hi.ex
  exact ⟨_, pe_lc (g := canG X.K is t) (tt := canT X.K C W0 tst) (te := canE X.K C W0 fe) hc hN p ok (fun s H D cl fp => (hg s H D cl fp).can) (fun s H D cl fp => (ht s H D cl fp).run) (fun s H D cl fp => (he s H D cl fp).can) hs, sm_lc s hv⟩
/-- y = [..] on one line, y a local -/
theorem ds_setLc (i : Nat) {y : Str} {py spos : Pos} (hc : X.calm = true) (hN : X.N.Nodup) (hy : X.N[i]? = some y) (hyl : X.env.scope.names.lookup y = some .local) (hsw : swapsWith (.ListComp elt [⟨tg, iter, ifs, 0⟩] scope pos) (some (.Name y py)) spos.line X.env = pure true)
    (hi : DI X C W tg iter fi) (ok : BlkOk X.N X.env.scope scope own) (hv : ∀ i ∈ is, i ∈ own.map (·.2))
    (hg : ∀ (s : Shared) (H : Hp) (D : Addr) (cl : List (Str × Addr)) (fp : List Addr), DG (X.blk s H scope (compEnvC scope cl D X.env) fp) tg is t)
    (ht : ∀ (s : Shared) (H : Hp) (D : Addr) (cl : List (Str × Addr)) (fp : List Addr), DTs (X.blk s H scope (compEnvC scope cl D X.env) fp) C W0 ifs tst)
    (he : ∀ (s : Shared) (H : Hp) (D : Addr) (cl : List (Str × Addr)) (fp : List Addr), DE (X.blk s H scope (compEnvC scope cl D X.env) fp) C W0 elt fe) (hs : ∀ x, foldedSetIterable iter X.env x = pure x := by intro _; rfl) :
    DS X C W (.Assign [.Name y py] (.ListComp elt [⟨tg, iter, ifs, 0⟩] scope pos) spos) (sAsg (frz (fLc fi t tst fe (own.map (·.2)))) (tgN i)) := by
  obtain ⟨wi, p, s⟩ := hi.ex
  refine ⟨_, ps_setLc (g := canG X.K is t) (tt := canT X.K C W0 tst) (te := canE X.K C W0 fe) hc hN hy hyl hsw p ok (fun s H D cl fp => (hg s H D cl fp).can) (fun s H D cl fp => (ht s H D cl fp).run) (fun s H D cl fp => (he s H D cl fp).can) hs, ?_⟩
  refine sm_asg (fun ρ S r S' h L σ H Q en so po => ?_) smg_n
  exact (sm_lc s hv).bind h en so po fun ds S1 L1 H1 q vs h1 st1 so1 hq rs en1 po1 => po1.done (S0 := S1) h1 (step_new hq) (so1.laid hq) _ (new_lst so1 hq rs)
end
end Dk
set_option Elab.async false
set_option linter.all false
set_option maxRecDepth 100000
set_option maxHeartbeats 4000000
/-! A def by its body; errors of the text's own classes; methods; sorted. -/
namespace Dk
open PySem PySem.Spec L2

/-! ### a def -/
def endF (n : Nat) (o : OV) (S' : Sto) : Rs OV := match o with
  | .dat d => ret (.dat d) (S'.take n)
  | .own k => if k < n then ret (.own k) (S'.take n) else match S'[k]? with
    | some (.list ds) => ret (.dat (.list ds)) (S'.take n)
    | some (.dict kvs) => if isLk kvs = true then none else ret (.dat (.dict kvs)) (S'.take n)
    | _ => none
def runF (n m : Nat) (g : SS) (os : List OV) (S : Sto) : Rs OV := if os.length = n then match g (os.map some ++ List.replicate (m - n) none) S with
    | some (.rt o, _, S') => endF S.length o S'
    | some (.nx, _, S') => ret (.dat .none) (S'.take S.length)
    | some (.er e, _, S') => some (.inr e, S'.take S.length)
    | _ => none
  else none
section
variable {K : PySem.W.Frag} {C : Str → Value} {L L' : List Addr} {H H' : Hp} {S S' : Sto}
theorem StoR.shrink (so : StoR K L H S) (st : Step L H L' H') (so' : StoR K L' H' S') : Step L H L H' ∧ StoR K L H' (S'.take S.length) := by
  obtain ⟨M, rfl⟩ := st.pre
  have less : Same (mask (L ++ M) H') (mask L H') := mask_less fun a h => by simp [h]
  refine ⟨⟨st.frz.trans less, ⟨[], by simp⟩, st.fz⟩, so.nd, ?_, fun n a d h1 h2 => ?_, so'.tb⟩
  · have h1 := so'.len
    have h2 := so.len
    simp at h1 ⊢
    omega
  · have hn := (List.getElem?_eq_some_iff.mp h1).1
    have h2' : S'[n]? = some d := by
      rw [← so.len, List.getElem?_take_of_lt hn] at h2
      exact h2
    exact (so'.obj n a d (by rw [List.getElem?_append_left hn]; exact h1) h2').mono less rfl
theorem start_env {N : List Str} {vs : List V} {os : List OV} (r : RepOs K L H vs os) : EnvR K L H (L2.start N vs) (os.map some ++ List.replicate (N.length - os.length) none) := by
  have hl := r.length
  unfold L2.start
  refine ⟨by simp [hl], fun i o h => ?_⟩
  rcases Nat.lt_or_ge i os.length with q | q
  · rw [List.getElem?_append_left (by simpa using q), List.getElem?_map] at h
    cases e : os[i]? with
    | none => rw [e] at h; cases h
    | some x =>
      rw [e] at h
      cases h
      have : ∀ {vs : List V} {os : List OV} {i : Nat} {x : OV}, RepOs K L H vs os → os[i]? = some x → ∃ v, vs[i]? = some v ∧ RepO K L H v x := by
        intro vs os i x r
        induction r generalizing i with
        | nil => intro h; simp at h
        | cons h t ih =>
          intro e
          cases i with
          | zero => simp at e; subst e; exact ⟨_, rfl, h⟩
          | succ i =>
            obtain ⟨v, a, b⟩ := ih (by simpa using e)
            exact ⟨v, by simpa using a, b⟩
      obtain ⟨v, a, b⟩ := this r e
      refine ⟨v, ?_, b⟩
      rw [List.getElem?_append_left (by simp; omega), List.getElem?_map, a]
      rfl
  · rw [List.getElem?_append_right (by simpa using q)] at h
    rw [List.getElem?_replicate] at h
    split at h <;> cases h
theorem ExcR.mono {e : Exn} {cls : Value} {d : Option Addr} (x : ExcR C K L' H' e cls d) (less : Same (mask L' H') (mask L H')) : ExcR C K L H' e cls d := by
  obtain ⟨h1, h2⟩ := x
  refine ⟨h1, ?_⟩
  cases e with
  | mk c a =>
    cases a with
    | none => exact h2
    | some p =>
      obtain ⟨da, v, a1, a2, a3⟩ := h2
      exact ⟨da, v, a1, a2, a3.mono less⟩
end
section
variable {P : Program} {w : World} {K : PySem.W.Frag} {mg : Str → Option Value} {base : Heap} {C : Str → Value}
theorem fn_okL {x qual : Str} {st : Stmt} {f : Addr} {fd : FuncData} {N ps : List Str} {k : Nat} {g : SS} (F : Fun K x qual st f fd) (S : FnScope N ps (defScope st))
    (body : ∀ (cdv : Value), fd.code = cdv → ∀ (A : Around) (outer : List Env) (s : Shared) (H : Hp) (E : XK), Room k (A.deeper (PyProof.Rows.envOfC qual (defScope st) s.heap.objs.size f cdv)) →
      DSs (cxOf (L2.CX P w) P w K mg base N qual (defScope st) f cdv A outer s H E) C (fun cls d _ H => E cls d H) (defBody st) g) :
    FnOk P w K mg base (L2.CX P w) (k + 1) f fd ps (spD K C ps.length (runF ps.length N.length g)) := by
  obtain ⟨oc, od, kV, doc, pm, an, cdv, ct, osl, rfl, lk, hcd⟩ := F.ex
  refine fn_of lk hcd S (fun vs H Q E h => ?_) fun A outer s H vs Q E hr h => ?_
  · obtain ⟨os, L, S0, r, S', h1, h2, _⟩ := h
    rw [h2.length, h1]
  · obtain ⟨t, pt, sm⟩ := (body cdv rfl A outer s H E hr).ex
    refine ⟨t, pt, ?_⟩
    obtain ⟨os, L, S0, r, S', h1, h2, so, h3, q⟩ := h
    unfold runF at h3
    rw [if_pos h1] at h3
    have en : EnvR K L H (L2.start N vs) (os.map some ++ List.replicate (N.length - ps.length) none) := by
      rw [← h1]
      exact start_env h2
    cases e : g (os.map some ++ List.replicate (N.length - ps.length) none) S0 with
    | none => rw [e] at h3; cases h3
    | some z =>
      obtain ⟨fl, ρ', S1⟩ := z
      rw [e] at h3
      refine sm _ S0 fl ρ' S1 e L (L2.start N vs) H _ en so ⟨fun hf L' H' σ' st so' en' => ?_, fun hf => ?_, fun hf => ?_, fun o hf L' H' v st so' rv => ?_, fun e' hf L' H' σ' cls d st so' en' xr => ?_⟩
      · subst hf
        cases h3
        obtain ⟨c1, c2⟩ := so.shrink st so'
        exact (q L H' c1 c2).1 _ rfl .non .non
      · subst hf; cases h3
      · subst hf; cases h3
      · subst hf
        obtain ⟨c1, c2⟩ := so.shrink st so'
        have less : Same (mask L' H') (mask L H') := by
          obtain ⟨M, rfl⟩ := st.pre
          exact mask_less fun a h => by simp [h]
        change endF S0.length o S1 = some (r, S') at h3
        unfold endF at h3
        split at h3
        · cases h3
          exact (q L H' c1 c2).1 _ rfl v (Rep.mono less rv)
        · rename_i n
          split at h3
          · rename_i hn
            cases h3
            refine (q L H' c1 c2).1 _ rfl v ?_
            obtain ⟨a, e1, e2⟩ := rv
            obtain ⟨M, rfl⟩ := st.pre
            exact ⟨a, e1, by rw [List.getElem?_append_left (by rw [so.len]; exact hn)] at e2; exact e2⟩
          · rename_i hn
            obtain ⟨a, e1, e2⟩ := rv
            subst e1
            have out : a ∉ L := fun ha => by
              obtain ⟨M, rfl⟩ := st.pre
              have nd := so'.nd
              obtain ⟨j, hj, ej⟩ := List.mem_iff_getElem.mp ha
              have q1 : (L ++ M)[j]? = some a := by rw [List.getElem?_append_left hj, List.getElem?_eq_getElem hj, ej]
              have z1 := List.getElem?_eq_some_iff.mp q1
              have z2 := List.getElem?_eq_some_iff.mp e2
              have := (List.getElem_inj nd).mp (z1.2.trans z2.2.symm)
              rw [so.len] at hj
              omega
            split at h3
            · rename_i ds hds
              cases h3
              refine (q L H' c1 c2).1 _ rfl _ ?_
              obtain ⟨ws, k1, k2⟩ := (so'.obj n a _ e2 hds : ObjR K (mask L' H') H' a (.list ds))
              exact Rep.lst (SqL.of (mask_of out k1)) (k2.mono less)
            · rename_i kvs hds
              split at h3
              · cases h3
              rename_i hlk
              cases h3
              refine (q L H' c1 c2).1 _ rfl _ ?_
              rcases (so'.obj n a _ e2 hds : ObjR K (mask L' H') H' a (.dict kvs)) with ⟨ks, vs, ds, k1, k2, k3, rfl, _⟩ | ⟨ks, vs, ds, k1, k2, k3, rfl⟩ | ⟨ob, ks, vs, ds, k1, k2, k3, rfl, _⟩ | ⟨ob, ks, vs, ds, k1, k2, k3, rfl⟩
              · exact Rep.dk k1 (mask_of out k2) (k3.mono less)
              · exact Rep.dt k1 (mask_of out k2) (k3.mono less)
              · exact absurd rfl hlk
              · exact absurd rfl hlk
            · cases h3
      · subst hf
        cases h3
        obtain ⟨c1, c2⟩ := so.shrink st so'
        have less : Same (mask L' H') (mask L H') := by
          obtain ⟨M, rfl⟩ := st.pre
          exact mask_less fun a h => by simp [h]
        exact (q L H' c1 c2).2 _ rfl cls d (xr.mono less)
theorem fn_ok {x qual : Str} {st : Stmt} {f : Addr} {fd : FuncData} {N ps : List Str} {k : Nat} {g : SS} (F : Fun K x qual st f fd) (S : FnScope N ps (defScope st))
    (body : ∀ (cdv : Value) (A : Around) (outer : List Env) (s : Shared) (H : Hp) (E : XK), Room k (A.deeper (PyProof.Rows.envOfC qual (defScope st) s.heap.objs.size f cdv)) →
      DSs (cxOf (L2.CX P w) P w K mg base N qual (defScope st) f cdv A outer s H E) C (fun cls d _ H => E cls d H) (defBody st) g) :
    FnOk P w K mg base (L2.CX P w) (k + 1) f fd ps (spD K C ps.length (runF ps.length N.length g)) := fn_okL F S fun cdv _ => body cdv
theorem fn_mkL {x qual : Str} {st : Stmt} {f : Addr} {fd : FuncData} {N ps : List Str} {k : Nat} {g : SS} (F : Fun K x qual st f fd) (hm : mg x = some (.ref f)) (hb : Binds K fd ps []) (S : FnScope N ps (defScope st))
    (body : ∀ (cdv : Value), fd.code = cdv → ∀ (A : Around) (outer : List Env) (s : Shared) (H : Hp) (E : XK), Room k (A.deeper (PyProof.Rows.envOfC qual (defScope st) s.heap.objs.size f cdv)) →
      DSs (cxOf (L2.CX P w) P w K mg base N qual (defScope st) f cdv A outer s H E) C (fun cls d _ H => E cls d H) (defBody st) g) :
    FnD P w K mg base C (k + 1) x ps.length (runF ps.length N.length g) := ⟨f, fd, ps, rfl, hm, F.kp, hb, fn_okL F S body⟩
theorem fn_mk {x qual : Str} {st : Stmt} {f : Addr} {fd : FuncData} {N ps : List Str} {k : Nat} {g : SS} (F : Fun K x qual st f fd) (hm : mg x = some (.ref f)) (hb : Binds K fd ps []) (S : FnScope N ps (defScope st))
    (body : ∀ (cdv : Value) (A : Around) (outer : List Env) (s : Shared) (H : Hp) (E : XK), Room k (A.deeper (PyProof.Rows.envOfC qual (defScope st) s.heap.objs.size f cdv)) →
      DSs (cxOf (L2.CX P w) P w K mg base N qual (defScope st) f cdv A outer s H E) C (fun cls d _ H => E cls d H) (defBody st) g) :
    FnD P w K mg base C (k + 1) x ps.length (runF ps.length N.length g) := ⟨f, fd, ps, rfl, hm, F.kp, hb, fn_ok F S body⟩
end
/-! in the body of a def: what an error meets, what the frame of a loop asks -/
section
variable {P : Program} {w : World} {K : PySem.W.Frag} {mg : Str → Option Value} {base : Heap} {N : List Str} {qual : Str} {scope : Scope} {f : Addr} {cd : Value} {A : Around} {outer : List Env} {s : Shared} {H : Hp} {E : XK}
theorem takes_body : Takes (cxOf (L2.CX P w) P w K mg base N qual scope f cd A outer s H E) (fun cls d _ H => E cls d H) := takes_of rfl rfl rfl rfl
theorem passes_body : PassesOwn (model P w) (cxOf (L2.CX P w) P w K mg base N qual scope f cd A outer s H E).A (cxOf (L2.CX P w) P w K mg base N qual scope f cd A outer s H E).env (cxOf (L2.CX P w) P w K mg base N qual scope f cd A outer s H E).xe := passes_of rfl
end

/-! ### own classes of errors, without fields -/
structure ExcT (K : PySem.W.Frag) (mg : Str → Option Value) (C : Str → Value) (x : Str) (A : Addr) : Prop where
  c : C x = .ref A
  g : mg x = some (.ref A)
  k : PySem.W.keepIn K (.ref A) = true
  q : PySem.W.excIn K A [.type "ValueError", .type "Exception", .type "BaseException", .type "object"] "ValueError.__new__" = true
  b : PySem.W.subIn K (.ref A) (.type "BaseException") = some true
  t : PySem.W.typeIn K (.ref A) = some (.type "type")
theorem ds_raiseX {X : Cx} {C : Str → Value} {W : WX} {x m : Str} {A : Addr} {j : Nat} {p p2 p3 pos : Pos} (T : ExcT X.K X.mg C x A) (hc : X.calm = true) (tk : Takes X W) (hg : Gl X x) (hdb : (x == ("__debug__" : Str)) = false := by decide) :
    DS X C W (.Raise (some (.Call (.Name x p) [.Constant (.str m) j p2] [] p3)) none pos) (sRaise x) :=
  ds_raise hc tk (pmk_own PySem.F.excBase_ValueError T.q T.g T.k (raises_own T.b T.t) hg hdb) T.c

/-! ### methods of texts and lists -/
def joinS (S : Sto) (a b : OV) : Option D := match view S a with
  | some (.str x) => (viewSeq S b).bind fun ds => (asStrs ds).bind fun ys => if (ys.map (·.length)).sum + ys.length * x.length ≤ 16777216 then some (.str (Txt.join x ys)) else none
  | _ => none
def splitS (S : Sto) (a b : OV) : Option (List D) := match view S a, view S b with
  | some (.str x), some (.str y) => if (y.length == 0) = false ∧ x.length + 2 ≤ sizeLine then some ((Txt.split x y).map .str) else none
  | _, _ => none
def isStrO (S : Sto) (a : OV) : Bool := match view S a with
  | some (.str _) => true
  | _ => false
def fJoin (fo fe : E1) : E1 := fun ρ S => (fo ρ S).bind fun a S1 => if isStrO S1 a = true then (fe ρ S1).bind fun b S2 => (joinS S2 a b).bind fun d => ret (.dat d) S2 else none
def fSplit (fo fe : E1) : EF := fun ρ S => (fo ρ S).bind fun a S1 => if isStrO S1 a = true then (fe ρ S1).bind fun b S2 => (splitS S2 a b).bind fun d => ret d S2 else none
theorem isStrO_rep {K : PySem.W.Frag} {L : List Addr} {H : Hp} {S : Sto} {v : V} {o : OV} (h : isStrO S o = true) (r : RepO K L H v o) (so : StoR K L H S) : ∃ x, v = .str x := by
  unfold isStrO at h
  split at h
  · rename_i x q
    exact ⟨x, view_str q r so⟩
  · cases h
section
variable {X : Cx} {C : Str → Value} {W : WX} {o e : Expr} {fo fe : E1} {apos pos : Pos}
theorem de_join (ho : DE X C W o fo) (he : DE X C W e fe) (hs : starEach [e] X.env = [(false, eval e X.env)] := by rfl) (hbase : attributeBase o "join" X.env (eval o X.env) = eval o X.env := by rfl) (hline : (apos.endLine == pos.line) = true := by rfl) :
    DE X C W (.Call (.Attribute o "join" apos) [e] [] pos) (fJoin fo fe) := by
  obtain ⟨t1, p1, s1⟩ := ho.ex
  obtain ⟨t2, p2, s2⟩ := he.ex
  refine ⟨_, pe_join p1 p2 hs hbase hline, fun ρ S r S' h L σ H Q en so po => ?_⟩
  refine s1.bind h en so po fun a S1 L1 H1 v h1 st1 so1 r1 en1 po1 => ?_
  split at h1
  · rename_i hi
    refine ⟨isStrO_rep hi r1 so1, ?_⟩
    refine s2.bind h1 en1 so1 po1 fun b S2 L2 H2 u h2 st2 so2 r2 en2 po2 => ?_
    obtain ⟨d, e1, h3⟩ := opt_bind h2
    unfold joinS at e1
    split at e1
    · rename_i x hx
      obtain ⟨ds, e2, e3⟩ := opt_bind e1
      obtain ⟨ys, e4, e5⟩ := opt_bind e3
      split at e5
      · rename_i hz
        cases e5
        obtain ⟨a', vs, rfl, rs, m⟩ := viewSeq_ok e2 r2 so2
        rw [asStrs_eq e4] at rs
        obtain rfl := rs.strs
        refine ⟨x, a', ys, view_str hx (r1.step st2) so2, rfl, ?_, hz, po2.done (S0 := S2) h3 Step.refl so2 _ (.str _)⟩
        rcases m with ⟨_, m⟩ | ⟨_, m, _⟩
        · exact .inl m
        · exact .inr m
      · cases e5
    · cases e1
  · cases h1
theorem df_split (ho : DE X C W o fo) (he : DE X C W e fe) (hs : starEach [e] X.env = [(false, eval e X.env)] := by rfl) (hbase : attributeBase o "split" X.env (eval o X.env) = eval o X.env := by rfl) (hline : (apos.endLine == pos.line) = true := by rfl) :
    DF X C W (.Call (.Attribute o "split" apos) [e] [] pos) (fSplit fo fe) := by
  obtain ⟨t1, p1, s1⟩ := ho.ex
  obtain ⟨t2, p2, s2⟩ := he.ex
  refine ⟨_, pe_split p1 p2 hs hbase hline, fun ρ S r S' h L σ H Q en so po => ?_⟩
  refine s1.bind h en so po fun a S1 L1 H1 v h1 st1 so1 r1 en1 po1 => ?_
  split at h1
  · rename_i hi
    refine ⟨isStrO_rep hi r1 so1, ?_⟩
    refine s2.bind h1 en1 so1 po1 fun b S2 L2 H2 u h2 st2 so2 r2 en2 po2 => ?_
    obtain ⟨d, e1, h3⟩ := opt_bind h2
    unfold splitS at e1
    split at e1
    · rename_i x y hx hy
      split at e1
      · rename_i hz
        cases e1
        exact ⟨x, y, view_str hx (r1.step st2) so2, by rw [view_str hy r2 so2], hz.1, hz.2, fun p hp => po2.done (S0 := S2) h3 Step.refl so2 p _ hp (Reps.of_strs _)⟩
      · cases e1
    · cases e1
  · cases h1
def indexS (S : Sto) (a b : OV) : Option D := match view S a, view S b with
  | some (.list ds), some d => if SeqAt.shaped (.list ds) = true ∧ SeqAt.shaped d = true then (ds.findIdx? fun z => PyData.eqv z d).map fun j => .int (j : Nat) else none
  | _, _ => none
def fIndex (fo : E1) (fa : EL) : E1 := fun ρ S => (fo ρ S).bind fun o S1 => (viewL S1 o).bind fun _ => (fa ρ S1).bind fun as S2 => match as with
  | [b] => (indexS S2 o b).bind fun d => ret (.dat d) S2
  | _ => none
theorem de_index {k : Nat} (hr : Room k X.A) (ho : DE X C W o fo) {fa : EL} (ha : DA X C W [e] fa)
    (hbase : attributeBase o "index" X.env (eval o X.env) = eval o X.env := by rfl)
    (hfew : ((backTo pos (starEach [e] X.env)).all (fun x => !x.1) && (backToKw pos (keywordEach [] X.env)).all (fun x => x.1.isSome) && decide ([e].length + ([] : List Keyword).length + (if ([] : List Keyword).isEmpty then 0 else 1) < 30)) = true := by rfl)
    (hline : (apos.endLine == pos.line) = true := by rfl) (hs : starEach [e] X.env = (false, eval e X.env) :: starEach [] X.env := by rfl) (hplain : (backTo pos (starEach [] X.env)).any (·.1) = false := by rfl) :
    DE X C W (.Call (.Attribute o "index" apos) [e] [] pos) (fIndex fo fa) := by
  obtain ⟨t1, p1, s1⟩ := ho.ex
  obtain ⟨t2, q2, s2⟩ := ha.ex
  refine ⟨_, pe_bm PySem.F.plainAttrs_list PySem.F.slot_list_index PySem.F.type_list_index (mt_indexD (room65 hr)) p1 q2 hbase hfew hline hs hplain, fun ρ S r S' h L σ H Q en so po => ?_⟩
  refine s1.bind h en so po fun y S1 L1 H1 u h1 st1 so1 r1 en1 po1 => ?_
  obtain ⟨ds0, e0, k0⟩ := opt_bind h1
  obtain ⟨a0, vs0, e00, m0, _⟩ := view_list (viewL_eq e0) r1 so1
  refine ⟨by rw [e00]; exact tyV_list m0, ?_⟩
  refine s2.bind k0 en1 so1 po1 fun as S2 L2 H2 ws h2 st2 so2 r2 en2 po2 => ?_
  split at h2
  · rename_i b
    obtain ⟨d, e1, h3⟩ := opt_bind h2
    obtain ⟨v, rfl, rv⟩ := reps_one r2
    unfold indexS at e1
    split at e1
    · rename_i ds d' hx hy
      split at e1
      · rename_i hz
        obtain ⟨j, e2, rfl⟩ := opt_map e1
        have dx := view_rep hx (r1.step st2) so2 (shaped_lay hz.1)
        have dy := view_rep hy rv so2 (shaped_lay hz.2)
        obtain ⟨hj, c1, c2⟩ := List.findIdx?_eq_some_iff_getElem.mp e2
        subst e00
        exact ⟨a0, v, d', ds, j, ds[j], rfl, rfl, dx, dy, hz.1, hz.2, List.getElem?_eq_getElem hj, c1, fun m z' hm hz' => by
          have hm' : m < ds.length := by omega
          rw [List.getElem?_eq_getElem hm'] at hz'
          cases hz'
          simpa using c2 m hm, po2.done (S0 := S2) h3 Step.refl so2 _ (.int _)⟩
      · cases e1
    · cases e1
  · cases h2
end

/-! ### sorted, any data -/
def alikeB (ds : List D) : Bool := ds.all fun d => ds.all fun e => PySem.W.alike d e
def tupB : D → Bool
  | .tuple (_ :: _) => true
  | _ => false
def plainB : D → Bool
  | .none => false
  | .tuple _ => false
  | _ => true
def sortS (S : Sto) (os : List OV) : Option (List D) := match os with
  | [o] => (viewL S o).bind fun ds => if PyData.canLayAll0 ds = true ∧ alikeB ds = true ∧ (ds.all tupB = true ∨ ds.all plainB = true) ∧ (∀ d ∈ ds, d.depth ≤ 64) then some (ds.mergeSort (PySem.W.dataLe false id)) else none
  | _ => none
theorem alikeB_ok {ds : List D} (h : alikeB ds = true) : PySem.W.AllAlike ds := fun d hd e he => by
  unfold alikeB at h
  rw [List.all_eq_true] at h
  have q := h d hd
  rw [List.all_eq_true] at q
  exact q e he
theorem sortable_ok {ds : List D} (h : ds.all tupB = true ∨ ds.all plainB = true) : PySem.W.Sortable ds := by
  rcases h with h | h
  · refine .inl fun d hd => ?_
    have q := List.all_eq_true.mp h d hd
    cases d <;> try (cases q; done)
    rename_i xs
    cases xs with
    | nil => cases q
    | cons x r => exact ⟨x, r, rfl⟩
  · refine .inr fun d hd => ?_
    have q := List.all_eq_true.mp h d hd
    cases d <;> first | (cases q; done) | exact ⟨(fun z => by cases z), fun xs z => by cases z⟩
theorem reps_zip {K : PySem.W.Frag} {G : Hp} : ∀ {vs : List V} {ds : List D}, Reps K G vs ds → (∀ p ∈ vs.zip ds, Rep K G p.1 p.2) ∧ (vs.zip ds).map Prod.snd = ds ∧ (vs.zip ds).length = ds.length
  | _, _, .nil => ⟨fun p h => by simp at h, rfl, rfl⟩
  | v :: vs, d :: ds, .cons h r => by
    obtain ⟨a, b, c⟩ := reps_zip r
    refine ⟨fun p hp => ?_, by simpa using b, by simpa using c⟩
    rcases List.mem_cons.mp hp with rfl | hp
    · exact h
    · exact a p hp
theorem zip_reps {K : PySem.W.Frag} {G : Hp} : ∀ {l : List (V × D)}, (∀ p ∈ l, Rep K G p.1 p.2) → Reps K G (l.map Prod.fst) (l.map Prod.snd)
  | [], _ => .nil
  | p :: l, h => .cons (h p (by simp)) (zip_reps fun q hq => h q (by simp [hq]))
theorem each_vals : ∀ {us : List Value} {l : List (V × D)}, PySem.W.EachIs (fun u (p : V × D) => RelV p.1 u) us l → Vals (l.map Prod.fst) us
  | _, _, .nil => .nil
  | _, _, .cons h t => .cons h (each_vals t)
theorem vals_each {K : PySem.W.Frag} {G : Hp} : ∀ {vs : List V} {ds : List D} {us : List Value}, Reps K G vs ds → Vals vs us → PySem.W.EachIs (fun u (p : V × D) => RelV p.1 u) us (vs.zip ds)
  | _, _, _, .nil, .nil => .nil
  | _, _, _, .cons _ r, .cons h t => .cons h (vals_each r t)
theorem reads_each {h : Heap} : ∀ {vs : List V} {ds : List D} {us : List Value} {as : List Addr}, vs.length = ds.length → ReadsAll h us ds as → PySem.W.EachIs (fun u (p : V × D) => ∃ as, Reads h u p.2 as) us (vs.zip ds)
  | [], [], _, _, _, r => by
    cases (show ReadsAll h _ [] _ from r)
    exact .nil
  | v :: vs, d :: ds, _, _, hl, r => by
    cases (show ReadsAll h _ (d :: ds) _ from r) with
    | cons h1 h2 => exact .cons ⟨_, h1⟩ (reads_each (by simpa using hl) h2)
  | [], _ :: _, _, _, hl, _ => by simp at hl
  | _ :: _, [], _, _, hl, _ => by simp at hl
theorem rc_sorted {X : Cx} {k : Nat} (hr : Room k X.A) : CallR X (.builtin "sorted") (rOfF X.K sortS) := by
  intro pins s σ H xs us Q I r h
  obtain ⟨L, S, os, ds', so, ro, e, q⟩ := h
  unfold sortS at e
  split at e
  · obtain ⟨v, rfl, rv⟩ := reps_one ro
    obtain ⟨ds, e1, e2⟩ := opt_bind e
    split at e2
    · rename_i hz
      obtain ⟨hlay, hal, hso, hdp⟩ := hz
      cases e2
      obtain ⟨a, vs, rfl, m, rs⟩ := view_list (viewL_eq e1) rv so
      obtain ⟨u, rfl, ru⟩ := Vals.one r
      cases ru
      obtain ⟨its, vr, pl, hlen⟩ := I.list m
      have dp : DpAll X.K H vs ds := Reps.dp (rs.mono (mask_same L H)) hlay
      obtain ⟨as, rd⟩ := Dp.readsAll I ds vs its dp vr
      obtain ⟨z1, z2, z3⟩ := reps_zip rs
      have hl := rs.length
      have hdp' : ∀ p ∈ vs.zip ds, p.2.depth ≤ 64 := fun p hp => hdp _ (z2 ▸ List.mem_map_of_mem hp)
      refine PySem.W.sorted_data (bs := vs.zip ds) (enc := Prod.snd) (R := fun u (p : V × D) => RelV p.1 u) pl.isList (vals_each rs vr) (reads_each hl rd) (by rw [z2]; exact alikeB_ok hal) (by rw [z2]; exact sortable_ok hso) (by rw [z3, ← hl]; exact hlen)
        (fun p hp => by have := hdp' p hp; have := hr.un; omega) fun out ho er => ?_
      have hperm := List.mergeSort_perm (vs.zip ds) (PySem.W.dataLe false Prod.snd)
      have rs2 := zip_reps (l := (vs.zip ds).mergeSort (PySem.W.dataLe false Prod.snd)) fun p hp => z1 p (hperm.mem_iff.mp hp)
      have hmap : ((vs.zip ds).mergeSort (PySem.W.dataLe false Prod.snd)).map Prod.snd = ds.mergeSort (PySem.W.dataLe false id) := by
        exact (PySem.W.sort_maps (r := PySem.W.dataLe false Prod.snd) (s := PySem.W.dataLe false id) (l := vs.zip ds) Prod.snd (fun a _ b _ => rfl)).trans (by rw [z2])
      rw [hmap] at rs2
      have vals2 := each_vals er
      obtain ⟨c, hc⟩ := PyProof.Rows.sortedAll_at s.heap its out.toArray
      have hf : H (s.heap.objs.size + 1) = none := I.hok.fresh (Nat.le_succ _)
      have J := I.laid (a := s.heap.objs.size + 1) (o := .lst (((vs.zip ds).mergeSort (PySem.W.dataLe false Prod.snd)).map Prod.fst)) (h' := PyProof.Rows.sortedAll s.heap its out.toArray) (t' := s.toks) (fun b u e => PyProof.Rows.sortedAll_old e) (Nat.le_succ _)
        ⟨by rw [rs2.length, List.length_mergeSort, ← hl]; exact hlen, out, c, vals2, hc⟩
      exact ⟨.ref (s.heap.objs.size + 1), _, J, rfl, q _ _ hf rs2⟩
    · cases e2
  · cases e
end Dk
set_option Elab.async false
set_option linter.all false
set_option maxRecDepth 100000
set_option maxHeartbeats 4000000
/-! sorted(set(xs)) of ints. -/
namespace Dk
open PySem PySem.Spec PyProof.Rows L2
section
variable {P : Program} {w : World} {A : Around} {E : Value → Shared → Prop} {s : Shared}
/-- a set as it is made, still empty -/
abbrev set0 (w : World) : Obj := { cls := .type "set", dict := none, data := .set #[] 0 (.fresh 0 0 (!w.params.followText "set-order")) }
/-- what the set holds once it is filled from the list -/
def SetFull (w : World) (hp : Heap) (zs : List Int) (s : Shared) (s' : Shared) : Prop :=
  ∃ h' tk c, s' = { s with heap := h', toks := tk } ∧ SetR w h' hp.objs.size (fun j => decide (j ∈ zs)) c ∧ c ≤ zs.length ∧ ∀ b o, hp.get? b = some o → h'.get? b = some o
theorem fill_set {l : Addr} {its : Array Value} {zs : List Int} (hh : A.handled = none) (hl : s.heap.IsList l its) (hi : IntsAre its.toList zs) (hb : zs.length + 1 < scanBound)
    {Q : Fin → Shared → Prop} (q : ∀ s', SetFull w s.heap zs s s' → Q (.done (.ret .none)) s') :
    wpAny (model P w) A (Builtin.«set.__init__» ⟨[.ref s.heap.objs.size, .ref l], []⟩) Q E { s with heap := s.heap.push (set0 w) } := by
  have top : (s.heap.push (set0 w)).get? s.heap.objs.size = some (set0 w) := Heap.get?_push_size _ rfl
  obtain ⟨⟨cl, dc, dt, sl⟩, at_l, c1, n, d1⟩ := id hl
  simp only at c1 d1
  subst c1 d1
  have lsz : l < s.heap.objs.size := Heap.lt_size at_l
  have at_l' : (s.heap.push (set0 w)).get? l = some { cls := .type "list", dict := dc, data := .seq its n, slots := sl } := Heap.get?_push_of_some _ at_l
  have l1 : (s.heap.push (set0 w)).IsList l its := ⟨_, at_l', rfl, n, rfl⟩
  have ns1 := F.sub_list_set
  have ns2 := F.sub_list_frozenset
  have nd : (Value.type "list" == Value.type "dict") = false := by decide
  have hT : Shared.TypeIs { s with heap := s.heap.push (set0 w) } (.ref s.heap.objs.size) "set" := ⟨_, top, rfl⟩
  unfold Builtin.«set.__init__» noKeywords Builtin.Frozenset.updateFrom
  generalize hI : pyIter = I
  wp_walk
  subst hI
  refine wpAny_pyIter_list l1 (wpAny_bind (wpAny_runValue ?_))
  have hA : A.in1.handled = none := hh
  have iter_ne : l ≠ (s.heap.push (set0 w)).objs.size := by
    rw [Heap.size_push]
    exact Nat.ne_of_lt (Nat.lt_succ_of_lt lsz)
  have size : its.size = zs.length := by
    have e := IntsAre.length hi
    rwa [Array.length_toList] at e
  have apart : s.heap.objs.size ∉ [(s.heap.push (set0 w)).objs.size, l] := by
    intro m
    rw [Heap.size_push] at m
    simp only [List.mem_cons, List.not_mem_nil, or_false] at m
    rcases m with m | m
    · exact absurd m (Nat.ne_of_lt (Nat.lt_succ_self _))
    · exact absurd m (Nat.ne_of_gt lsz)
  have values : ∀ (i : Nat) (v : Value), its[i]? = some v → ∃ k t, zs[i]? = some k ∧ v = .int k t := fun i v hv => by
    have lt : i < its.size := (Array.getElem?_eq_some_iff.mp hv).1
    obtain ⟨t, e⟩ := IntsAre.int_at hi i v (by rw [Array.getElem?_toList]; exact hv)
    rw [size] at lt
    exact ⟨zs[i], t, List.getElem?_eq_getElem lt, by rw [e, List.getD_eq_getElem?_getD, List.getElem?_eq_getElem lt]; rfl⟩
  refine set_update_ints (Walks.list hA _ l iter_ne its).toS s.heap.objs.size apart zs size hb values its.size 0 _ (by omega) (Nat.zero_le _) ⟨⟨_, Heap.get?_push_size _ rfl, rfl, rfl⟩, l1.push _⟩ ⟨0, Nat.le_refl 0, ?_⟩ ?_
  · exact setR_new_at (Heap.get?_push_of_some _ top)
  · rintro ⟨h', g', d', tk', os'⟩ c moved hc full
    obtain rfl : g' = s.gens := moved.gens
    obtain rfl : d' = s.drawn := moved.drawn
    obtain rfl : os' = s.os := moved.os
    rw [size] at hc
    refine wpAny_pure (wpAny_pure (q _ ⟨h', tk', c, rfl, full, hc, fun b o e => ?_⟩))
    have lb : b < s.heap.objs.size := Heap.lt_size e
    refine moved.heap b o (fun m => ?_) (Heap.get?_push_of_some _ (Heap.get?_push_of_some _ e))
    have hs : (s.heap.push (set0 w)).objs.size = s.heap.objs.size + 1 := Heap.size_push ..
    simp only [List.mem_cons, List.not_mem_nil, or_false] at m
    rcases m with m | m
    · exact Nat.ne_of_lt lb m
    · rw [show b = s.heap.objs.size + 1 from m.trans hs] at lb
      exact Nat.not_succ_lt_self lb
/-- set(xs) -/
theorem set_of_ints {l : Addr} {its : Array Value} {zs : List Int} (hh : A.handled = none) (hl : s.heap.IsList l its) (hi : IntsAre its.toList zs) (hb : zs.length + 1 < scanBound)
    {Q : Value → Shared → Prop} (q : ∀ s', SetFull w s.heap zs s s' → Q (.ref s.heap.objs.size) s') : wpAny (model P w) A (call (.type "set") [.ref l]) Q E s := by
  obtain ⟨c, tl, mro⟩ := F.called_set.mro
  have made := F.called_set.made
  have sub := F.called_set.sub
  have n1 := F.called_set.notType
  have n2 := F.called_set.canCreate
  have asks := F.typeCall_set_1 (.ref l)
  refine wpAny_call (codeAny_of_tree ?_)
  refine wpAny_pure (show _ ∧ _ from ⟨Code.quiet_builtin _ (by decide +kernel), codeAny_builtin F.entry_type_call ?_⟩)
  rw [Around.under_plain (weight_type_call_type "set" [.ref l] []) rfl]
  repeat (any_goals (first | assumption | wp_step))
  refine codeAny_mono (code_set_led1 (.ref l) (E := E) (Q₁ := fun ob t => ob = .ref s.heap.objs.size ∧ t = { s with heap := s.heap.push (set0 w) }) ⟨rfl, rfl⟩) ?_
  intro r t hr
  match r, hr with
  | .error e, hr => exact hr
  | .ok (.ret ob), hr =>
    obtain ⟨rfl, rfl⟩ := hr
    have hT : Shared.TypeIs { s with heap := s.heap.push (set0 w) } (.ref s.heap.objs.size) "set" := ⟨_, Heap.get?_push_size _ rfl, rfl⟩
    have look := F.called_set.init.lookup
    have bound := F.called_set.init.bind (.ref s.heap.objs.size)
    repeat (any_goals (first | assumption | wp_step))
    refine codeAny_mono (codeAny_call_builtin (R := wants (fun r t => r = .none ∧ SetFull w s.heap zs s t) E) F.called_set.init.plain F.entry_set_init (check_set_init_1 hT ?_)) ?_
    · exact fill_set (by simp [hh]) hl hi hb fun t full => ⟨rfl, full⟩
    · intro r t hr
      match r, hr with
      | .error e, hr => exact hr
      | .ok (.ret v), hr =>
        obtain ⟨rfl, full⟩ := hr
        repeat (any_goals (first | assumption | wp_step))
        exact q _ full
end
section
variable {X : Cx}
def rSetI (K : PySem.W.Frag) (w : World) : List V → Hp → VK → Prop := fun xs H Q => ∃ (a : Addr) (ns : List Int), xs = [V.ref a] ∧ SqL K H a (ns.map V.int) ∧ ns.length ≤ 1000 ∧
  ∀ p c, H p = none → c ≤ ns.length → Q (.ref p) (upd H p (SetO w p (fun j => decide (j ∈ ns)) c))
theorem cr_setI (hc : X.calm = true) : CallR X (.type "set") (rSetI X.K X.w) := by
  intro pins s σ H xs us Q I r h
  obtain ⟨a, ns, rfl, hl, hz, q⟩ := h
  rw [Vals.ref1 r]
  obtain ⟨its, rv, pl, _⟩ := I.list hl
  refine set_of_ints (I.ok.hd hc) pl.isList (by simpa using Vals.ints rv) (by unfold scanBound; omega) fun s' full => ?_
  obtain ⟨h', tk, c, rfl, sr, hc', keep⟩ := full
  have hn := I.hok.fresh (Nat.le_refl s.heap.objs.size)
  exact ⟨.ref s.heap.objs.size, _, I.laid (t' := tk) keep (Nat.le_refl _) (setO_new sr), rfl, q _ c hn hc'⟩
end
/-! ascending, each once -/
def insU (x : Int) : List Int → List Int
  | [] => [x]
  | y :: r => if x < y then x :: y :: r else if x = y then y :: r else y :: insU x r
def sortU (ns : List Int) : List Int := ns.foldr insU []
theorem insU_mem {x k : Int} : ∀ {l : List Int}, k ∈ insU x l ↔ k = x ∨ k ∈ l
  | [] => by simp [insU]
  | y :: r => by
    unfold insU
    split
    · simp
    · split
      · rename_i h
        subst h
        simp
      · simp only [List.mem_cons, insU_mem (l := r)]
        constructor
        · rintro (h | h | h)
          · exact .inr (.inl h)
          · exact .inl h
          · exact .inr (.inr h)
        · rintro (h | h | h)
          · exact .inr (.inl h)
          · exact .inl h
          · exact .inr (.inr h)
theorem insU_up {x : Int} : ∀ {l : List Int}, l.Pairwise (· < ·) → (insU x l).Pairwise (· < ·)
  | [], _ => by simp [insU]
  | y :: r, h => by
    obtain ⟨h1, h2⟩ := List.pairwise_cons.mp h
    unfold insU
    split
    · rename_i hx
      refine List.pairwise_cons.mpr ⟨fun z hz => ?_, h⟩
      rcases List.mem_cons.mp hz with rfl | hz
      · exact hx
      · have := h1 z hz
        omega
    · split
      · exact h
      · refine List.pairwise_cons.mpr ⟨fun z hz => ?_, insU_up h2⟩
        rcases insU_mem.mp hz with rfl | hz
        · omega
        · exact h1 z hz
theorem sortU_mem {k : Int} : ∀ {l : List Int}, k ∈ sortU l ↔ k ∈ l
  | [] => by simp [sortU]
  | y :: r => by
    show k ∈ insU y (sortU r) ↔ _
    rw [insU_mem, sortU_mem]
    simp
theorem sortU_up : ∀ l : List Int, (sortU l).Pairwise (· < ·)
  | [] => by simp [sortU]
  | y :: r => insU_up (sortU_up r)
theorem up_unique : ∀ {l m : List Int}, l.Pairwise (· < ·) → m.Pairwise (· < ·) → (∀ k, k ∈ l ↔ k ∈ m) → l = m
  | [], [], _, _, _ => rfl
  | [], y :: _, _, _, h => by have := (h y).mpr (by simp); simp at this
  | x :: _, [], _, _, h => by have := (h x).mp (by simp); simp at this
  | x :: r, y :: t, h1, h2, h => by
    obtain ⟨a1, a2⟩ := List.pairwise_cons.mp h1
    obtain ⟨b1, b2⟩ := List.pairwise_cons.mp h2
    have hxy : x = y := by
      rcases List.mem_cons.mp ((h x).mp (by simp)) with e | e
      · exact e
      · rcases List.mem_cons.mp ((h y).mpr (by simp)) with e' | e'
        · exact e'.symm
        · have := b1 x e
          have := a1 y e'
          omega
    subst hxy
    rw [up_unique a2 b2 fun k => ?_]
    constructor
    · intro hk
      rcases List.mem_cons.mp ((h k).mp (List.mem_cons_of_mem _ hk)) with e | e
      · subst e
        have := a1 k hk
        omega
      · exact e
    · intro hk
      rcases List.mem_cons.mp ((h k).mpr (List.mem_cons_of_mem _ hk)) with e | e
      · subst e
        have := b1 k hk
        omega
      · exact e
def fSortSet (fe : E1) : EF := fun ρ S => (fe ρ S).bind fun o S1 => (viewL S1 o).bind fun ds => (asInts ds).bind fun ns => if ns.length < 64 then ret ((sortU ns).map .int) S1 else none
section
variable {X : Cx} {C : Str → Value} {W : WX} {e : Expr} {fe : E1} {p p2 pos pos2 : Pos}
theorem df_sortSet (hc : X.calm = true) (hg : Gl X "sorted") (hm : X.mg "sorted" = none) (hg2 : Gl X "set") (hm2 : X.mg "set" = none) (h : DE X C W e fe)
    (k1 : starEach [e] X.env = (false, eval e X.env) :: starEach [] X.env := by rfl) (k2 : (backTo pos2 (starEach [] X.env)).any (·.1) = false := by rfl)
    (k3 : starEach [.Call (.Name "set" p2) [e] [] pos2] X.env = (false, eval (.Call (.Name "set" p2) [e] [] pos2) X.env) :: starEach [] X.env := by rfl) (k4 : (backTo pos (starEach [] X.env)).any (·.1) = false := by rfl) :
    DF X C W (.Call (.Name "sorted" p) [.Call (.Name "set" p2) [e] [] pos2] [] pos) (fSortSet fe) := by
  obtain ⟨t, pe, s⟩ := h.ex
  have inner := pe_callTy (pos := pos2) (p := p2) (cr_setI hc) hg2 hm2 (by decide +kernel) (pa_cons pe pa_nil k1) (by decide) (by decide) k1 k2
  refine ⟨_, pe_callB (pos := pos) (p := p) (cr_sortedSet hc) hg hm (by decide +kernel) (pa_cons inner pa_nil k3) (by decide) (by decide) k3 k4, fun ρ S r S' h L σ H Q en so po => ?_⟩
  refine s.bind h en so po fun o S1 L1 H1 v h1 st1 so1 r1 en1 po1 => ?_
  obtain ⟨ds, e1, h2⟩ := opt_bind h1
  obtain ⟨ns, e2, h3⟩ := opt_bind h2
  split at h3
  · rename_i hz
    obtain ⟨a, vs, rfl, m, rs⟩ := view_list (viewL_eq e1) r1 so1
    rw [asInts_eq e2] at rs
    rw [rs.ints] at m
    refine ⟨a, ns, rfl, m, by omega, fun q c hq hcn => ?_⟩
    refine ⟨q, _, c, rfl, upd_same, by omega, fun ns' q2 up mem len hq2 => ?_⟩
    obtain rfl : ns' = sortU ns := up_unique up (sortU_up ns) fun k => by rw [mem, sortU_mem]; simp
    exact (po1.step (step_new hq)).done (S0 := S1) h3 Step.refl (so1.laid hq) q2 _ hq2 (Reps.of_ints _)
  · cases h3
end
end Dk
set_option Elab.async false
set_option linter.all false
set_option maxRecDepth 100000
set_option maxHeartbeats 4000000
/-! What the top leaves: built-ins' names. -/
namespace Dk
open PySem PySem.Spec L2
structure Bt (mg : Str → Option Value) : Prop where
  len : mg "len" = none
  int : mg "int" = none
  str : mg "str" = none
  bool : mg "bool" = none
  tuple : mg "tuple" = none
  list : mg "list" = none
  dict : mg "dict" = none
  set : mg "set" = none
  isinstance : mg "isinstance" = none
  range : mg "range" = none
  zip : mg "zip" = none
  enumerate : mg "enumerate" = none
  all : mg "all" = none
  any : mg "any" = none
  sum : mg "sum" = none
  max : mg "max" = none
  min : mg "min" = none
  sorted : mg "sorted" = none
theorem bt_len : bootBuiltins "len" = some (.builtin "len") := by decide +kernel
theorem bt_int : bootBuiltins "int" = some (.type "int") := by decide +kernel
theorem bt_str : bootBuiltins "str" = some (.type "str") := by decide +kernel
theorem bt_bool : bootBuiltins "bool" = some (.type "bool") := by decide +kernel
theorem bt_tuple : bootBuiltins "tuple" = some (.type "tuple") := by decide +kernel
theorem bt_list : bootBuiltins "list" = some (.type "list") := by decide +kernel
theorem bt_dict : bootBuiltins "dict" = some (.type "dict") := by decide +kernel
theorem bt_set : bootBuiltins "set" = some (.type "set") := by decide +kernel
theorem bt_all : bootBuiltins "all" = some (.builtin "all") := by decide +kernel
theorem bt_any : bootBuiltins "any" = some (.builtin "any") := by decide +kernel
theorem bt_sum : bootBuiltins "sum" = some (.builtin "sum") := by decide +kernel
theorem bt_max : bootBuiltins "max" = some (.builtin "max") := by decide +kernel
theorem bt_min : bootBuiltins "min" = some (.builtin "min") := by decide +kernel
theorem bt_sorted : bootBuiltins "sorted" = some (.builtin "sorted") := by decide +kernel

/-! ### a statement that is never reached; one written dict of ints by texts -/
def sNone : SS := fun _ _ => none
theorem ds_none {X : Cx} {C : Str → Value} {W : WX} {st : Stmt} : DS X C W st sNone := ⟨_, ps_never, fun ρ S fl ρ' S' h => by cases h⟩
structure WDict (K : PySem.W.Frag) (w : World) (mg : Str → Option Value) (x : Str) (kvs : List (Str × Int)) : Prop where
  ex : ∃ d es n, mg x = some (.ref d) ∧ KDict K w d es n ∧ (∀ z, kvs.lookup z = none → PySem.W.nsIn K d z = some none) ∧ ∀ z i, kvs.lookup z = some i → ∃ t, PySem.W.nsIn K d z = some (some (.int i t))
def inWD (kvs : List (Str × Int)) (fa : E1) : E1 := fun ρ S => (fa ρ S).bind fun a S1 => match view S1 a with
  | some (.str z) => ret (.dat (.bool (kvs.lookup z).isSome)) S1
  | _ => none
def notInWD (kvs : List (Str × Int)) (fa : E1) : E1 := fun ρ S => (fa ρ S).bind fun a S1 => match view S1 a with
  | some (.str z) => ret (.dat (.bool (!(kvs.lookup z).isSome))) S1
  | _ => none
def ixWD (kvs : List (Str × Int)) (fa : E1) : E1 := fun ρ S => (fa ρ S).bind fun a S1 => match view S1 a with
  | some (.str z) => (kvs.lookup z).bind fun i => ret (.dat (.int i)) S1
  | _ => none
section
variable {X : Cx} {C : Str → Value} {W : WX} {a : Expr} {fa : E1} {x : Str} {kvs : List (Str × Int)} {p pos : Pos}
theorem sm_inWD {K : PySem.W.Frag} {w : World} {mg : Str → Option Value} (D : WDict K w mg x kvs) : ∃ d es n, mg x = some (.ref d) ∧ KDict K w d es n ∧ ∀ z, ∃ r, PySem.W.nsIn K d z = some r ∧ r.isSome = (kvs.lookup z).isSome := by
  obtain ⟨d, es, n, h1, h2, h3, h4⟩ := D.ex
  refine ⟨d, es, n, h1, h2, fun z => ?_⟩
  cases e : kvs.lookup z with
  | none => exact ⟨none, h3 z e, rfl⟩
  | some i =>
    obtain ⟨t, q⟩ := h4 z i e
    exact ⟨_, q, rfl⟩
theorem de_inWD (D : WDict X.K X.w X.mg x kvs) (hg : Gl X x) (ha : DE X C W a fa) (hm : behindInMarks .In (.Name x p) = false := by rfl) (hd : (x == ("__debug__" : Str)) = false := by decide) : DE X C W (.Compare a [.In] [.Name x p] pos) (inWD kvs fa) := by
  obtain ⟨d, es, n, h1, h2, h3⟩ := sm_inWD D
  obtain ⟨t, pa, s⟩ := ha.ex
  refine ⟨_, pe_cmpR (op_in_kd h2) pa (pe_glob (v := .ref d) hg h1 rfl hd) hm, fun ρ S r S' h L σ H Q en so po => ?_⟩
  refine s.bind h en so po fun y S1 L1 H1 v h1 st1 so1 r1 en1 po1 => ?_
  split at h1
  · rename_i z hz
    obtain ⟨r, e1, e2⟩ := h3 z
    refine ⟨z, r, view_str hz r1 so1, rfl, e1, ?_⟩
    rw [e2]
    exact po1.done (S0 := S1) h1 Step.refl so1 _ (.bl _)
  · cases h1
theorem de_notInWD (D : WDict X.K X.w X.mg x kvs) (hg : Gl X x) (ha : DE X C W a fa) (hm : behindInMarks .NotIn (.Name x p) = false := by rfl) (hd : (x == ("__debug__" : Str)) = false := by decide) : DE X C W (.Compare a [.NotIn] [.Name x p] pos) (notInWD kvs fa) := by
  obtain ⟨d, es, n, h1, h2, h3⟩ := sm_inWD D
  obtain ⟨t, pa, s⟩ := ha.ex
  refine ⟨_, pe_cmpR (op_notIn_kd h2) pa (pe_glob (v := .ref d) hg h1 rfl hd) hm, fun ρ S r S' h L σ H Q en so po => ?_⟩
  refine s.bind h en so po fun y S1 L1 H1 v h1 st1 so1 r1 en1 po1 => ?_
  split at h1
  · rename_i z hz
    obtain ⟨r, e1, e2⟩ := h3 z
    refine ⟨z, r, view_str hz r1 so1, rfl, e1, ?_⟩
    rw [e2]
    exact po1.done (S0 := S1) h1 Step.refl so1 _ (.bl _)
  · cases h1
theorem dt_inWD (D : WDict X.K X.w X.mg x kvs) (hg : Gl X x) (ha : DE X C W a fa) (hm : behindInMarks .In (.Name x p) = false := by rfl) (hd : (x == ("__debug__" : Str)) = false := by decide) : DT X C W (.Compare a [.In] [.Name x p] pos) (bOf (inWD kvs fa)) := by
  obtain ⟨d, es, n, h1, h2, h3⟩ := sm_inWD D
  obtain ⟨t, pa, s⟩ := ha.ex
  refine ⟨_, pt_cmpR (op_in_kd h2) pa (pe_glob (v := .ref d) hg h1 rfl hd) hm, sm_test fun ρ S r S' h L σ H Q en so po => ?_⟩
  refine s.bind h en so po fun y S1 L1 H1 v h1 st1 so1 r1 en1 po1 => ?_
  split at h1
  · rename_i z hz
    obtain ⟨r, e1, e2⟩ := h3 z
    refine ⟨z, r, view_str hz r1 so1, rfl, e1, ?_⟩
    rw [e2]
    exact po1.done (S0 := S1) h1 Step.refl so1 _ (.bl _)
  · cases h1
theorem dt_notInWD (D : WDict X.K X.w X.mg x kvs) (hg : Gl X x) (ha : DE X C W a fa) (hm : behindInMarks .NotIn (.Name x p) = false := by rfl) (hd : (x == ("__debug__" : Str)) = false := by decide) : DT X C W (.Compare a [.NotIn] [.Name x p] pos) (bOf (notInWD kvs fa)) := by
  obtain ⟨d, es, n, h1, h2, h3⟩ := sm_inWD D
  obtain ⟨t, pa, s⟩ := ha.ex
  refine ⟨_, pt_cmpR (op_notIn_kd h2) pa (pe_glob (v := .ref d) hg h1 rfl hd) hm, sm_test fun ρ S r S' h L σ H Q en so po => ?_⟩
  refine s.bind h en so po fun y S1 L1 H1 v h1 st1 so1 r1 en1 po1 => ?_
  split at h1
  · rename_i z hz
    obtain ⟨r, e1, e2⟩ := h3 z
    refine ⟨z, r, view_str hz r1 so1, rfl, e1, ?_⟩
    rw [e2]
    exact po1.done (S0 := S1) h1 Step.refl so1 _ (.bl _)
  · cases h1
theorem de_ixWD (D : WDict X.K X.w X.mg x kvs) (hg : Gl X x) (ha : DE X C W a fa) (hs : PlainIx a) (hd : (x == ("__debug__" : Str)) = false := by decide) : DE X C W (.Subscript (.Name x p) a pos) (ixWD kvs fa) := by
  obtain ⟨d, es, n, h1, h2, h3, h4⟩ := D.ex
  obtain ⟨t, pa, s⟩ := ha.ex
  refine ⟨_, pe_ix ix_kdict (pe_glob (v := .ref d) hg h1 rfl hd) pa hs, fun ρ S r S' h L σ H Q en so po => ?_⟩
  refine s.bind h en so po fun y S1 L1 H1 v h1 st1 so1 r1 en1 po1 => ?_
  split at h1
  · rename_i z hz
    obtain ⟨i, e1, e2⟩ := opt_bind h1
    obtain ⟨tk, e3⟩ := h4 z i e1
    exact ⟨d, z, .int i, rfl, view_str hz r1 so1, ⟨es, n, _, h2.at_, h2.lit, e3, ⟨tk, rfl⟩⟩, po1.done (S0 := S1) e2 Step.refl so1 _ (.int i)⟩
  · cases h1
end

/-! ### a def whose answer is a new list that its caller goes on to change -/
def runO (n m : Nat) (g : SS) (os : List OV) (S : Sto) : Rs OV := if os.length = n then match g (os.map some ++ List.replicate (m - n) none) S with
    | some (.rt (.own k), _, S') => if k = S.length ∧ S'.length = S.length + 1 then some (.inl (.own k), S') else none
    | some (.er e, _, S') => some (.inr e, S'.take S.length)
    | _ => none
  else none
theorem fn_mkO {P : Program} {w : World} {K : PySem.W.Frag} {mg : Str → Option Value} {base : Heap} {C : Str → Value} {x qual : Str} {st : Stmt} {f : Addr} {fd : FuncData} {N ps : List Str} {k : Nat} {g : SS} (F : Fun K x qual st f fd) (hm : mg x = some (.ref f)) (hb : Binds K fd ps []) (S : FnScope N ps (defScope st))
    (body : ∀ (cdv : Value) (A : Around) (outer : List Env) (s : Shared) (H : Hp) (E : XK), Room k (A.deeper (PyProof.Rows.envOfC qual (defScope st) s.heap.objs.size f cdv)) →
      DSs (cxOf (L2.CX P w) P w K mg base N qual (defScope st) f cdv A outer s H E) C (fun cls d _ H => E cls d H) (defBody st) g) :
    FnD P w K mg base C (k + 1) x ps.length (runO ps.length N.length g) := by
  refine ⟨f, fd, ps, rfl, hm, F.kp, hb, F.okX S (fun vs H Q E h => ?_) fun cdv A outer s H vs Q E hr h => ?_⟩
  · obtain ⟨os, L, S0, r, S', h1, h2, _⟩ := h
    rw [h2.length, h1]
  · obtain ⟨t, pt, sm⟩ := (body cdv A outer s H E hr).ex
    refine ⟨t, pt, ?_⟩
    obtain ⟨os, L, S0, r, S', h1, h2, so, h3, q⟩ := h
    unfold runO at h3
    rw [if_pos h1] at h3
    have en : EnvR K L H (L2.start N vs) (os.map some ++ List.replicate (N.length - ps.length) none) := by
      rw [← h1]
      exact start_env h2
    cases e : g (os.map some ++ List.replicate (N.length - ps.length) none) S0 with
    | none => rw [e] at h3; cases h3
    | some z =>
      obtain ⟨fl, ρ', S1⟩ := z
      rw [e] at h3
      refine sm _ S0 fl ρ' S1 e L (L2.start N vs) H _ en so ⟨fun hf => ?_, fun hf => ?_, fun hf => ?_, fun o hf L' H' v st so' rv => ?_, fun e' hf L' H' σ' cls d st so' en' xr => ?_⟩
      · subst hf; cases h3
      · subst hf; cases h3
      · subst hf; cases h3
      · subst hf
        cases o with
        | dat d => cases h3
        | own n =>
          change (if n = S0.length ∧ S1.length = S0.length + 1 then some (Sum.inl (OV.own n), S1) else none) = some (r, S') at h3
          split at h3
          · cases h3
            exact (q L' H' st so').1 _ rfl v rv
          · cases h3
      · subst hf
        cases h3
        obtain ⟨c1, c2⟩ := so.shrink st so'
        have less : Same (mask L' H') (mask L H') := by
          obtain ⟨M, rfl⟩ := st.pre
          exact mask_less fun a h => by simp [h]
        exact (q L H' c1 c2).2 _ rfl cls d (xr.mono less)
end Dk
set_option Elab.async false
set_option linter.all false
set_option maxRecDepth 100000
set_option maxHeartbeats 4000000
/-! From what the top leaves to the laws' ends. -/
namespace Dk
open PySem PySem.Spec PyProof.Rows L2
/-- one def of the top: it stands there, it binds its parameters -/
structure FunT (K : PySem.W.Frag) (mg : Str → Option Value) (x : Str) (st : Stmt) (ps : List Str) : Prop where
  ex : ∃ f fd, Fun K x x st f fd ∧ mg x = some (.ref f) ∧ Binds K fd ps [] ∧ ∀ (s : Shared) (us : List Value), us.length = ps.length → BindsTo s fd ⟨us, []⟩ (ps.zip us)
section
variable {K : PySem.W.Frag} {w : World} {h : Heap} {mg : Str → Option Value} {fa : List He.Fa} {fn : List He.FnD}
theorem funT_mk (X : K.In h) (G : h.Ns mainGlobals mg) (c : He.SaysE fa fn K) (i j k : Nat) {x : Str} {st : Stmt} {ps : List Str} (h1 : fn[i]? = some ⟨(x, none), x, x, defArgs st, defBody st, defScope st⟩ := by rfl)
    (h2 : fa[j]? = some (.glo x) := by rfl) (h3 : fa[k]? = some (.keep x) := by rfl)
    (hb : ∀ (kV doc pm : Value) (an : Option Addr) (cdv ct : Value) (us : List Value), us.length = ps.length → bindArgs (PySem.W.fnOf x x (defArgs st) (defBody st) (defScope st) .none kV doc pm an cdv ct) ⟨us, []⟩ = pure (ps.zip us)) : FunT K mg x st ps := by
  obtain ⟨oc, od, osl, kV, doc, pm, an, cdv, ct, l, cc⟩ := c.def_ i h1
  exact ⟨_, _, ⟨⟨oc, od, kV, doc, pm, an, cdv, ct, osl, rfl, l, cc⟩, He.keep_ok (c.fact k h3)⟩, He.glo_ok X G (c.fact j h2), .all (hb kV doc pm an cdv ct), fun s us hu => .of_eq (hb kV doc pm an cdv ct us hu)⟩
def cOf (mg : Str → Option Value) (x : Str) : Value := (mg x).getD .none
theorem excT_mk (X : K.In h) (G : h.Ns mainGlobals mg) (c : He.SaysE fa fn K) (j k : Nat) {x : Str} (h2 : fa[j]? = some (.glo x) := by rfl) (h3 : fa[k]? = some (.exc x) := by rfl) : ExcT K mg (cOf mg) x (He.ga K x) := by
  obtain ⟨q1, q2, q3, q4⟩ := He.exc_ok (c.fact k h3)
  have g := He.glo_ok X G (c.fact j h2)
  exact ⟨by unfold cOf; rw [g] <;> rfl, g, q2, q1, q3, q4⟩
theorem bt_mk (X : K.In h) (G : h.Ns mainGlobals mg) (c : ([.free "len", .free "int", .free "str", .free "bool", .free "tuple", .free "list", .free "dict", .free "set", .free "isinstance", .free "range", .free "zip", .free "enumerate", .free "all", .free "any", .free "sum", .free "max", .free "min", .free "sorted"] : List He.Fa).all (fun f => f.ok K) = true) : Bt mg := by
  simp only [List.all_cons, Bool.and_eq_true] at c
  obtain ⟨c1, c2, c3, c4, c5, c6, c7, c8, c9, c10, c11, c12, c13, c14, c15, c16, c17, c18, _⟩ := c
  have f := fun {x : Str} (z : (He.Fa.free x).ok K = true) => He.free_ok X G z
  exact ⟨f c1, f c2, f c3, f c4, f c5, f c6, f c7, f c8, f c9, f c10, f c11, f c12, f c13, f c14, f c15, f c16, f c17, f c18⟩
theorem int_mk (X : K.In h) (G : h.Ns mainGlobals mg) (c : He.SaysE fa fn K) (j : Nat) {x : Str} {i : Int} (h2 : fa[j]? = some (.int x i) := by rfl) : ∃ u, mg x = some (.int i u) := He.int_ok X G (c.fact j h2)
theorem loose_int {q : Program} {lv : List (Str × PySem.W.WData)} {x : Str} {i : Int} (X : PySem.W.XL q lv mg h) (hm : (x, PySem.W.WData.int i) ∈ lv) : ∃ u, mg x = some (.int i u) := by
  obtain ⟨v, e, r⟩ := X.2.val _ hm
  cases r
  exact ⟨_, e⟩
theorem find_keys {P : Params} (z : Str) : ∀ {l : List DictEntry} {ks : List Str}, l.map He.keyOf = He.keysIn P ks → z ∉ ks → l.find? (·.key.isStr z) = none ∧ l.any (·.refKey) = false
  | [], _, _, _ => ⟨rfl, rfl⟩
  | e :: r, [], h, _ => by cases h
  | e :: r, k :: ks, h, hz => by
    have h1 : He.keyOf e :: r.map He.keyOf = some (k, PyData.keyHash P k) :: He.keysIn P ks := h
    injection h1 with h2 h3
    obtain ⟨i1, i2⟩ := find_keys z h3 (fun q => hz (List.mem_cons_of_mem _ q))
    unfold He.keyOf at h2
    split at h2
    · rename_i x t q
      obtain ⟨h5, h6⟩ := Prod.mk.inj (Option.some.inj h2)
      have n1 : (x == z) = false := by
        rw [h5]
        exact beq_false_of_ne fun q => hz (q ▸ List.mem_cons_self)
      refine ⟨?_, ?_⟩
      · rw [List.find?_cons_of_neg]
        · exact i1
        · rw [q]
          show ¬ (x == z) = true
          rw [n1]
          decide
      · rw [List.any_cons, i2]
        unfold DictEntry.refKey
        rw [q] <;> rfl
    · cases h2
def vOk (K : PySem.W.Frag) (d : Addr) (q : Str × Int) : Bool := match PySem.W.nsIn K d q.1 with
  | some (some (.int i _)) => decide (i = q.2)
  | _ => false
theorem wd_mk {x : Str} {kvs : List (Str × Int)} (X : K.In h) (G : h.Ns mainGlobals mg) (c : (He.Fa.glo x).ok K = true) (c2 : He.dicW K (He.ga K x) = some (He.keysIn w.params (kvs.map (·.1)))) (c3 : (kvs.all fun q => vOk K (He.ga K x) q) = true) :
    WDict K w mg x kvs := by
  obtain ⟨es, n, kd⟩ := He.dicW_ok c2
  refine ⟨He.ga K x, es, n, He.glo_ok X G c, kd, fun z hz => ?_, fun z i hz => ?_⟩
  · have c4 : es.toList.map He.keyOf = He.keysIn w.params (kvs.map (·.1)) := by
      unfold He.dicW at c2
      rw [kd.at_] at c2
      change (match decide ("dict" = "dict") && ((#[] : Array (Option Value)).isEmpty && !(He.ga K x == sysModules)) with
        | true => some (es.toList.map He.keyOf)
        | false => none) = _ at c2
      rw [kd.low] at c2
      exact Option.some.inj c2
    have nk : z ∉ kvs.map (·.1) := fun q => by
      obtain ⟨⟨a, b⟩, m, e⟩ := List.mem_map.mp q
      have e : a = z := e
      subst e
      have z2 := List.lookup_eq_none_iff.mp hz _ m
      simp at z2
    obtain ⟨i1, i2⟩ := find_keys z c4 nk
    unfold PySem.W.nsIn
    rw [kd.at_]
    show (match es.toList.find? (·.key.isStr z) with
      | some e => some (some e.val)
      | none => if es.toList.any (·.refKey) then none else some none) = _
    rw [i1, i2] <;> rfl
  · obtain ⟨l1, l2, e, _⟩ := List.lookup_eq_some_iff.mp hz
    have c4 := List.all_eq_true.mp c3 (z, i) (by rw [e]; simp)
    have c5 : (match PySem.W.nsIn K (He.ga K x) z with
      | some (some (.int j _)) => decide (j = i)
      | _ => false) = true := c4
    split at c5
    · rename_i j t q
      have := of_decide_eq_true c5
      subst this
      exact ⟨t, q⟩
    · cases c5
end
end Dk
set_option Elab.async false
set_option linter.all false
set_option maxRecDepth 100000
set_option maxHeartbeats 4000000
/-! try .. except A: .. except B: .. (no names). -/
namespace Dk
open PySem PySem.Spec L2
/-- which own classes a clause takes -/
abbrev Mt := Str → Option Bool
def catchL : List (Mt × SS) → Exn → SS
  | [], e => fun ρ S => some (.er e, ρ, S)
  | (m, h) :: r, e => fun ρ S => match m e.cls with
    | some true => h ρ S
    | some false => catchL r e ρ S
    | none => none
def sTry (g : SS) (l : List (Mt × SS)) : SS := fun ρ S => match g ρ S with
  | some (.er e, ρ1, S1) => catchL l e ρ1 S1
  | r => r
def canS (K : PySem.W.Frag) (C : Str → Value) (W : WX) (g : SS) : TS := fun D σ H => ∃ ρ S fl ρ' S' L, g ρ S = some (fl, ρ', S') ∧ EnvR K L H σ ρ ∧ StoR K L H S ∧ PostS K C W L H D fl ρ' S'
section
variable {X : Cx} {C : Str → Value} {W : WX} {st : List Stmt} {g : SS}
theorem DSs.can (h : DSs X C W st g) : PSs X st (canS X.K C W g) := by
  obtain ⟨t, p, s⟩ := h.ex
  exact ⟨fun pins sh σ H D I ⟨ρ, S, fl, ρ', S', L, e1, en, so, po⟩ => p.run pins sh σ H D I (s ρ S fl ρ' S' e1 L σ H D en so po)⟩
end
inductive DHs (X : Cx) (C : Str → Value) (W : WX) : List ExceptHandler → List (Mt × SS) → Prop
  | nil : DHs X C W [] []
  | cons {x : Str} {c : Value} {m : Mt} {g : SS} {b₀ : Stmt} {suite : List Stmt} {np pos' : Pos} {hds : List ExceptHandler} {l : List (Mt × SS)} (hc : Names X x c) (hm : ∀ z b, m z = some b → PySem.W.exmOne X.K (C z) c = some b)
      (hsu : ∀ (a : Addr) (oe : Obj) (pn : List (Addr × Obj)), DSs (X.suite a ((a, oe) :: pn)) C W (b₀ :: suite) g) (r : DHs X C W hds l) : DHs X C W (.ExceptHandler (some (.Name x np)) none (b₀ :: suite) pos' :: hds) ((m, g) :: l)
section
variable {X : Cx} {C : Str → Value} {W : WX} {body : List Stmt} {h₀ : ExceptHandler} {hds : List ExceptHandler} {l : List (Mt × SS)} {pos : Pos} {g : SS}
theorem dhs_ok (h : DHs X C W hds l) : ∃ l', HdsOk X hds l' ∧ ∀ e ρ1 S1 fl ρ' S', catchL l e ρ1 S1 = some (fl, ρ', S') → ∀ L H σ D cls d, EnvR X.K L H σ ρ1 → StoR X.K L H S1 → ExcR C X.K L H e cls d → PostS X.K C W L H D fl ρ' S' → wMany X.K W D l' cls d σ H := by
  induction h with
  | nil =>
    refine ⟨[], .nil, fun e ρ1 S1 fl ρ' S' h L H σ D cls d en so x po => ?_⟩
    cases h
    exact po.er e rfl L H σ cls d Step.refl so en x
  | @cons x c m g b₀ suite np pos' hds l hc hm hsu r ih =>
    obtain ⟨l', h1, h2⟩ := ih
    refine ⟨(c, fun _ _ _ => canS X.K C W g) :: l', .cons hc (fun a oe cls d pn _ _ => (hsu a oe pn).can) h1, fun e ρ1 S1 fl ρ' S' h L H σ D cls d en so x po => ?_⟩
    have ec : cls = C e.cls := x.1
    unfold catchL at h
    cases q : m e.cls with
    | none => rw [q] at h; cases h
    | some b =>
      rw [q] at h
      refine ⟨b, by rw [ec]; exact hm _ _ q, fun hb a _ => ?_, fun hb => ?_⟩
      · subst hb
        exact ⟨ρ1, S1, fl, ρ', S', L, h, en, so, po⟩
      · subst hb
        exact h2 e ρ1 S1 fl ρ' S' h L H σ D cls d en so x po
theorem ds_try (hs : X.stack = X.env :: X.outer) (hf : X.env.frame = some X.env.locals) (tk : Takes X W)
    (hb : ∀ (W' : WX) (pn : List (Addr × Obj)) (xe : Value → Shared → Prop), Takes (X.tr pn xe) W' → PassesOwn (model X.prog X.w) X.A X.env xe → DSs (X.tr pn xe) C W' body g)
    (hh : DHs X C W (h₀ :: hds) l) : DS X C W (.Try body (h₀ :: hds) [] [] pos) (sTry g l) := by
  obtain ⟨l', h1, h2⟩ := dhs_ok hh
  refine ⟨_, ps_try_many (tb := fun W' => canS X.K C W' g) hs hf tk (fun W' pn xe t p => (hb W' pn xe t p).can) h1, fun ρ S fl ρ' S' h L σ H D en so po => ?_⟩
  unfold sTry at h
  cases q : g ρ S with
  | none => rw [q] at h; cases h
  | some z =>
    obtain ⟨fl0, ρ0, S0⟩ := z
    rw [q] at h
    refine ⟨ρ, S, fl0, ρ0, S0, L, q, en, so, ?_⟩
    cases fl0 with
    | er e =>
      refine ⟨fun z => (nomatch z), fun z => (nomatch z), fun z => (nomatch z), fun o z => (nomatch z), fun e' z L' H' σ' cls d st so' en' x => ?_⟩
      cases z
      exact h2 e ρ0 S0 fl ρ' S' h L' H' σ' D cls d en' so' x (po.step st)
    | nx =>
      cases h
      exact ⟨po.nx, po.bk, po.ct, po.rt, fun e z => (nomatch z)⟩
    | bk =>
      cases h
      exact ⟨po.nx, po.bk, po.ct, po.rt, fun e z => (nomatch z)⟩
    | ct =>
      cases h
      exact ⟨po.nx, po.bk, po.ct, po.rt, fun e z => (nomatch z)⟩
    | rt o =>
      cases h
      exact ⟨po.nx, po.bk, po.ct, po.rt, fun e z => (nomatch z)⟩
end
/-! clauses by tables: which own classes a named class takes -/
structure CatT (K : PySem.W.Frag) (mg : Str → Option Value) (C : Str → Value) (y : Str) (tab : List (Str × Bool)) : Prop where
  ex : ∃ A, mg y = some (.ref A) ∧ ∀ z b, tab.lookup z = some b → PySem.W.exmOne K (C z) (.ref A) = some b
def mtOf (tab : List (Str × Bool)) : Mt := fun z => tab.lookup z
theorem dhs_c {X : Cx} {C : Str → Value} {W : WX} {y : Str} {tab : List (Str × Bool)} {g : SS} {b₀ : Stmt} {suite : List Stmt} {np pos' : Pos} {hds : List ExceptHandler} {l : List (Mt × SS)} (T : CatT X.K X.mg C y tab) (hg : Gl X y)
    (hsu : ∀ (a : Addr) (oe : Obj) (pn : List (Addr × Obj)), DSs (X.suite a ((a, oe) :: pn)) C W (b₀ :: suite) g) (r : DHs X C W hds l) (hd : (y == ("__debug__" : Str)) = false := by decide) :
    DHs X C W (.ExceptHandler (some (.Name y np)) none (b₀ :: suite) pos' :: hds) ((mtOf tab, g) :: l) := by
  obtain ⟨A, h1, h2⟩ := T.ex
  exact .cons (c := .ref A) ⟨hg, hd, .inl h1⟩ h2 hsu r
theorem catT_mk {K : PySem.W.Frag} {h : Heap} {mg : Str → Option Value} {y : Str} {tab : List (Str × Bool)} (X : K.In h) (G : h.Ns mainGlobals mg) (hy : (He.Fa.glo y).ok K = true) (hz : (tab.all fun q => (He.Fa.glo q.1).ok K && (He.Fa.exm q.1 y q.2).ok K) = true) : CatT K mg (cOf mg) y tab := by
  refine ⟨_, He.glo_ok X G hy, fun z b e => ?_⟩
  obtain ⟨l1, l2, e2, _⟩ := List.lookup_eq_some_iff.mp e
  have h1 := List.all_eq_true.mp hz (z, b) (by rw [e2]; simp)
  obtain ⟨h2, h3⟩ := He.ba h1
  have e3 : cOf mg z = .ref (He.ga K z) := by
    unfold cOf
    rw [He.glo_ok X G h2]
    rfl
  rw [e3]
  exact He.exm_ok h3
end Dk
set_option Elab.async false
set_option linter.all false
set_option maxRecDepth 100000
set_option maxHeartbeats 4000000
/-! {"a": e, ..}[x] with whole numbers that change nothing. -/
namespace Dk
open PySem PySem.Spec L2
/-! ### a whole number made of locals, the heap untouched -/
abbrev FI := Env1 → Option Int
structure DV (X : Cx) (e : Expr) (f : FI) : Prop where
  ex : ∃ t, PE X e t ∧ ∀ ρ i, f ρ = some i → ∀ L σ H (Q : VK), EnvR X.K L H σ ρ → Q (.int i) H → t σ H Q
def iC (i : Int) : FI := fun _ => some i
def iVar (j : Nat) : FI := fun ρ => match ρ[j]?.join with
  | some (.dat (.int i)) => some i
  | _ => none
def iNeg (f : FI) : FI := fun ρ => (f ρ).map fun i => -i
def iSub (f g : FI) : FI := fun ρ => (f ρ).bind fun i => (g ρ).map fun j => i - j
def iIx (j : Nat) (k : Int) : FI := fun ρ => match ρ[j]?.join with
  | some (.dat (.tuple ds)) => match atI ds k with
    | some (.int i) => some i
    | _ => none
  | _ => none
theorem join_at {ρ : Env1} {j : Nat} {o : OV} (h : ρ[j]?.join = some o) : ρ[j]? = some (some o) := by
  cases e : ρ[j]? with
  | none => rw [e] at h; cases h
  | some z => rw [e] at h; exact congrArg some h
section
variable {X : Cx} {a b : Expr} {f g : FI} {pos : Pos}
theorem dv_int {i j} : DV X (.Constant (.int i) j pos) (iC i) := ⟨_, pe_int, fun ρ k h L σ H Q en q => by
  cases h
  exact q⟩
theorem dv_var (j : Nat) {x : Str} (hN : X.N[j]? = some x := by rfl) (hv : Vis X.env.scope x := by first | exact Or.inl rfl | exact Or.inr (Or.inl rfl) | exact Or.inr (Or.inr rfl)) (hd : (x == ("__debug__" : Str)) = false := by decide)
    (hcd : (x == ("__classdict__" : Str)) = false := by decide) : DV X (.Name x pos) (iVar j) := ⟨_, pe_var hN hv hd hcd, fun ρ i h L σ H Q en q => by
  unfold iVar at h
  split at h
  · rename_i k e
    cases h
    obtain ⟨v, e1, e2⟩ := en.2 j _ (join_at e)
    cases e2
    exact ⟨_, e1, q⟩
  · cases h⟩
theorem dv_neg (ha : DV X a f) : DV X (.UnaryOp .USub a pos) (iNeg f) := by
  obtain ⟨t, p, s⟩ := ha.ex
  refine ⟨_, pe_un un_neg p, fun ρ i h L σ H Q en q => ?_⟩
  unfold iNeg at h
  cases e : f ρ with
  | none => rw [e] at h; cases h
  | some k =>
    rw [e] at h
    cases h
    exact s ρ k e L σ H _ en ⟨k, rfl, q⟩
theorem dv_sub (ha : DV X a f) (hb : DV X b g) : DV X (.BinOp a .Sub b pos) (iSub f g) := by
  obtain ⟨t, p, s⟩ := ha.ex
  obtain ⟨u, p2, s2⟩ := hb.ex
  refine ⟨_, pe_op op_sub p p2, fun ρ i h L σ H Q en q => ?_⟩
  obtain ⟨k, e1, h1⟩ := opt_bind (show (f ρ).bind (fun i => (g ρ).map fun j => i - j) = some i from h)
  cases e : g ρ with
  | none => rw [e] at h1; cases h1
  | some m =>
    rw [e] at h1
    cases h1
    exact s ρ k e1 L σ H _ en (s2 ρ m e L σ H _ en ⟨k, m, rfl, rfl, q⟩)
theorem dv_ix (j : Nat) (k : Int) {x : Str} {c pos2 pos3} (hN : X.N[j]? = some x := by rfl) (hv : Vis X.env.scope x := by first | exact Or.inl rfl | exact Or.inr (Or.inl rfl) | exact Or.inr (Or.inr rfl)) (hd : (x == ("__debug__" : Str)) = false := by decide)
    (hcd : (x == ("__classdict__" : Str)) = false := by decide) : DV X (.Subscript (.Name x pos) (.Constant (.int k) c pos2) pos3) (iIx j k) := ⟨_, pe_ix ix_tup (pe_var hN hv hd hcd) pe_int (fun _ _ => rfl), fun ρ i h L σ H Q en q => by
  unfold iIx at h
  split at h
  · rename_i ds e
    split at h
    · rename_i m e3
      cases h
      obtain ⟨v, e1, e2⟩ := en.2 j _ (join_at e)
      cases e2 with
      | tup h1 h2 =>
        obtain ⟨u, e4, e5⟩ := h2.atI e3
        cases e5
        exact ⟨_, e1, _, _, k, _, rfl, rfl, SqT.of (mask_same L H _ _ h1), e4, q⟩
    · cases h
  · cases h⟩
end
/-! ### the display, and its index -/
structure DVs (X : Cx) (pos : Pos) (ks : List (Option Expr)) (vs : List Expr) (zs : List Str) (fs : List FI) : Prop where
  ex : ∃ trs, PPs X pos ks vs trs ∧ ∀ ρ is, fs.mapM (fun f => f ρ) = some is → ∀ L σ H (Q : List (V × V) → Hp → Prop), EnvR X.K L H σ ρ → Q (zs.zipWith (fun z i => (.str z, .int i)) is) H → tPairs trs σ H Q
theorem dvs_nil {X : Cx} {pos : Pos} : DVs X pos [] [] [] [] := ⟨[], pps_nil, fun ρ is h L σ H Q en q => by
  cases h
  exact q⟩
theorem dvs_cons {X : Cx} {pos p2 : Pos} {z : Str} {c : Nat} {v : Expr} {ks : List (Option Expr)} {vs : List Expr} {zs : List Str} {f : FI} {fs : List FI} (hv : DV X v f) (hr : DVs X pos ks vs zs fs) : DVs X pos (some (.Constant (.str z) c p2) :: ks) (v :: vs) (z :: zs) (f :: fs) := by
  obtain ⟨t, p, s⟩ := hv.ex
  obtain ⟨trs, q, s2⟩ := hr.ex
  refine ⟨_, pps_cons pe_str p q, fun ρ is h L σ H Q en hq => ?_⟩
  rw [List.mapM_cons] at h
  obtain ⟨i, e1, h1⟩ := opt_bind h
  obtain ⟨r, e2, h2⟩ := opt_bind h1
  cases h2
  exact s ρ i e1 L σ H _ en (s2 ρ r e2 L σ H _ en hq)
def fDictIx (zs : List Str) (fs : List FI) (j : Nat) : E1 := fun ρ S => match ρ[j]?.join with
  | some (.dat (.str z)) => (fs.mapM (fun f : FI => f ρ)).bind fun is => ((zs.zip is).lookup z).bind fun i => ret (.dat (.int i)) S
  | _ => none
def kvI (zs : List Str) (is : List Int) : List (L2.Key × V) := zs.zipWith (fun z i => (.inr z, .int i)) is
theorem kvI_pairs : ∀ (zs : List Str) (is : List Int), zs.zipWith (fun z i => (V.str z, V.int i)) is = (kvI zs is).map fun kv => (kV kv.1, kv.2)
  | [], _ => rfl
  | _ :: _, [] => rfl
  | z :: zs, i :: is => by
    have := kvI_pairs zs is
    unfold kvI at this ⊢
    simp only [List.zipWith_cons_cons, List.map_cons, this]
    rfl
theorem kvI_keys : ∀ (zs : List Str) (is : List Int), ∀ q ∈ kvI zs is, ∃ z ∈ zs, q.1 = .inr z
  | [], _, q, h => by simp [kvI] at h
  | _ :: _, [], q, h => by simp [kvI] at h
  | z :: zs, i :: is, q, h => by
    have h' : q ∈ ((.inr z, .int i) : L2.Key × V) :: kvI zs is := h
    rcases List.mem_cons.mp h' with rfl | h'
    · exact ⟨z, by simp, rfl⟩
    · obtain ⟨y, h1, h2⟩ := kvI_keys zs is q h'
      exact ⟨y, by simp [h1], h2⟩
theorem merge_app : ∀ (zs : List Str) (is : List Int) (acc : List (L2.Key × V)), (∀ a ∈ acc, ∀ z ∈ zs, a.1 ≠ .inr z) → zs.Nodup → mergeK acc (kvI zs is) = acc ++ kvI zs is
  | [], _, acc, _, _ => by simp [kvI, mergeK]
  | _ :: _, [], acc, _, _ => by simp [kvI, mergeK]
  | z :: zs, i :: is, acc, h, nd => by
    obtain ⟨n1, n2⟩ := List.nodup_cons.mp nd
    have e1 : putK acc (.inr z : L2.Key) (V.int i) = acc ++ [(.inr z, .int i)] := by
      unfold putK
      rw [if_neg]
      intro q
      obtain ⟨a, ha, hb⟩ := List.any_eq_true.mp q
      exact h a ha z (by simp) (of_decide_eq_true hb)
    show mergeK (putK acc (.inr z) (.int i)) (kvI zs is) = acc ++ ((.inr z, .int i) :: kvI zs is)
    rw [e1, merge_app zs is _ ?_ n2]
    · simp
    · intro a ha y hy e
      rcases List.mem_append.mp ha with ha | ha
      · exact h a ha y (by simp [hy]) e
      · rw [List.mem_singleton.mp ha] at e
        cases e
        exact n1 hy
theorem val_kvI {z : Str} : ∀ {zs : List Str} {is : List Int} {i : Int}, (zs.zip is).lookup z = some i → valV (kvI zs is) (.inr z) = some (.int i)
  | [], _, _, h => by simp at h
  | _ :: _, [], _, h => by simp at h
  | y :: zs, k :: is, i, h => by
    show ((((.inr y, .int k) : L2.Key × V) :: kvI zs is).find? fun kv => decide (kv.1 = .inr z)).map (·.2) = _
    by_cases c : y = z
    · subst c
      simp at h
      simp [h]
    · have c2 : (z == y) = false := beq_false_of_ne fun e => c e.symm
      have h2 : (zs.zip is).lookup z = some i := by
        rw [List.zip_cons_cons, List.lookup_cons, c2] at h
        exact h
      rw [List.find?_cons_of_neg (by simpa using c)]
      exact val_kvI h2
theorem upd_upd {H : Hp} {p : Addr} {o o' : HO} : upd (upd H p o) p o' = upd H p o' := by
  funext a
  unfold upd
  split <;> rfl
theorem de_dictIx {X : Cx} {C : Str → Value} {W : WX} {pos p2 p3 : Pos} {ks : List (Option Expr)} {vs : List Expr} {zs : List Str} {fs : List FI} (h : DVs X pos ks vs zs fs) (hu : X.A.units + 1 < cLine) (j : Nat) {x : Str} (hN : X.N[j]? = some x := by rfl) (hnd : zs.Nodup := by decide +kernel)
    (hlen : zs.length ≤ 15 := by decide) (hall : ks.all (·.isSome) = true := by rfl) (hl : ks.length = vs.length := by rfl) (h0 : ks ≠ [] := by exact List.cons_ne_nil _ _) (h15 : ks.length ≤ 15 := by decide)
    (hv : Vis X.env.scope x := by first | exact Or.inl rfl | exact Or.inr (Or.inl rfl) | exact Or.inr (Or.inr rfl)) (hd : (x == ("__debug__" : Str)) = false := by decide) (hcd : (x == ("__classdict__" : Str)) = false := by decide) :
    DE X C W (.Subscript (.Dict ks vs pos) (.Name x p2) p3) (fDictIx zs fs j) := by
  obtain ⟨trs, pp, s⟩ := h.ex
  refine ⟨_, pe_dget hu (pe_disp pp hall hl h0 h15) (pe_var hN hv hd hcd) (fun _ _ => rfl), fun ρ S r S' h L σ H Q en so po => ?_⟩
  unfold fDictIx at h
  split at h
  · rename_i z e
    obtain ⟨is, e1, h1⟩ := opt_bind h
    obtain ⟨i, e2, h2⟩ := opt_bind h1
    intro p hp
    refine s ρ is e1 L σ (upd H p (.dK [])) _ (en.step (step_new hp)) ⟨upd_same, kvI zs is, kvI_pairs zs is, ?_, ?_⟩
    · have : (kvI zs is).length ≤ zs.length := by
        unfold kvI
        rw [List.length_zipWith]
        exact Nat.min_le_left _ _
      omega
    · obtain ⟨v, e3, e4⟩ := en.2 j _ (join_at e)
      cases e4
      refine ⟨_, e3, p, .int i, rfl, .inl ⟨_, .inr z, .inl upd_same, rfl, ?_⟩, ?_⟩
      · rw [merge_app zs is [] (by simp) hnd]
        exact (val_kvI e2).symm
      · rw [upd_upd]
        exact po.done (S0 := S) h2 (step_new hp) (so.laid hp) _ (.int i)
  · cases h
end Dk
set_option Elab.async false
set_option linter.all false
set_option maxRecDepth 100000
set_option maxHeartbeats 4000000
/-! Constants of the module that are tuples of texts; enumerate of a list, of a tuple. -/
namespace Dk
open PySem PySem.Spec L2
/-! ### constants -/
structure GlobD (K : PySem.W.Frag) (mg : Str → Option Value) (x : Str) (d : D) : Prop where
  ex : ∃ (a : Addr) (zs : List Str), mg x = some (.ref a) ∧ d = .tuple (zs.map .str) ∧ ∀ H : Hp, SqT K H a (zs.map V.str)
theorem globD_strs {K : PySem.W.Frag} {h : Heap} {mg : Str → Option Value} {x : Str} (zs : List Str) (X : K.In h) (G : h.Ns mainGlobals mg) (c1 : (He.Fa.glo x).ok K = true) (c2 : He.tupB K x (zs.map He.Dv.str) = true) : GlobD K mg x (.tuple (zs.map .str)) := by
  refine ⟨_, zs, He.glo_ok X G c1, rfl, fun H => ?_⟩
  have e : (zs.map He.Dv.str).map (He.Dv.v K) = zs.map V.str := by rw [List.map_map]; rfl
  rw [← e]
  exact He.tupB_ok c2 H
/-- a value, not in a constant tuple of texts -/
theorem sm_notInG {X : Cx} {C : Str → Value} {W : WX} {fe : E1} {a : Addr} {zs : List Str} {t : TE} (m : ∀ H : Hp, SqT X.K H a (zs.map V.str)) (s : SmE X.K C W t fe) : SmE X.K C W (tOp (rIn X.K true) t (tC (.ref a))) (op2 notInS fe (fC (.tuple (zs.map .str)))) := by
  intro ρ S r S' h L σ H Q en so po
  refine s.bind h en so po fun y S1 L1 H1 v h1 st1 so1 r1 en1 po1 => ?_
  obtain ⟨d2, e2, h2⟩ := opt_bind (show (notInS S1 y (.dat (.tuple (zs.map .str)))).bind (fun d => ret (.dat d) S1) = some (r, S') from h1)
  unfold notInS at e2
  split at e2
  · rename_i d1 d3 k1 k2
    cases k2
    cases e3 : inD d1 (.tuple (zs.map .str)) with
    | none => rw [e3] at e2; cases e2
    | some b =>
      rw [e3] at e2
      cases e2
      have e4 : (if flatD d1 = true ∧ (zs.map PyData.str).all flatD = true then some ((zs.map PyData.str).any fun z => PyData.eqv z d1) else none) = some b := e3
      split at e4
      · rename_i hz
        cases e4
        have rx' := view_flat hz.1 k1 r1 so1
        obtain ⟨k3, k4⟩ := inV_rep rx' hz.1 (Reps.of_strs (K := X.K) (G := mask L1 H1) zs) hz.2
        refine ⟨a, zs.map V.str, rfl, .inr (m H1), by rw [flat_rep rx']; exact hz.1, k3, ?_⟩
        rw [k4]
        exact po1.done (S0 := S1) h2 Step.refl so1 _ (.bl _)
      · cases e4
  · cases e2
theorem de_notInG {X : Cx} {C : Str → Value} {W : WX} {k : Nat} (hr : Room k X.A) {e : Expr} {fe : E1} {x : Str} {d : D} {p pos : Pos} (hg : Gl X x) (T : GlobD X.K X.mg x d) (he : DE X C W e fe) (hm : behindInMarks .NotIn (.Name x p) = false := by rfl)
    (hd : (x == ("__debug__" : Str)) = false := by decide) : DE X C W (.Compare e [.NotIn] [.Name x p] pos) (op2 notInS fe (fC d)) := by
  obtain ⟨a, zs, h1, rfl, m⟩ := T.ex
  obtain ⟨t, pa, s⟩ := he.ex
  exact ⟨_, pe_cmpR op_notIn_seq pa (pe_glob (v := .ref a) hg h1 rfl hd) hm, sm_notInG m s⟩
theorem dt_notInG {X : Cx} {C : Str → Value} {W : WX} {k : Nat} (hr : Room k X.A) {e : Expr} {fe : E1} {x : Str} {d : D} {p pos : Pos} (hg : Gl X x) (T : GlobD X.K X.mg x d) (he : DE X C W e fe) (hm : behindInMarks .NotIn (.Name x p) = false := by rfl)
    (hd : (x == ("__debug__" : Str)) = false := by decide) : DT X C W (.Compare e [.NotIn] [.Name x p] pos) (bOf (op2 notInS fe (fC d))) := by
  obtain ⟨a, zs, h1, rfl, m⟩ := T.ex
  obtain ⟨t, pa, s⟩ := he.ex
  exact ⟨_, pt_cmpR op_notIn_seq pa (pe_glob (v := .ref a) hg h1 rfl hd) hm, sm_test (sm_notInG m s)⟩
end Dk
namespace Dk
open PySem PySem.Spec PyProof.Rows
/-- enumerate over whatever iter(v) begins: the cell behind the new iterator -/
abbrev enumO (it : Addr) : Obj := { cls := .type "enumerate", data := .fields #[.none, .bool false, .ref it, rawInt 0, .none, .none] }
theorem enum_new {v : Value} {o : Obj} {Hs : Heap → Prop} (B : Begins v o Hs) :
    Meets (Builtin.«enumerate.__new__» ⟨[.type "enumerate", v], []⟩) (fun _ R s => Hs s.heap ∧ R (.ok (.ret (.ref (s.heap.push o).objs.size))) { s with heap := (s.heap.push o).push (enumO s.heap.objs.size) }) := by
  refine Meets.of_wp fun prog w A R s hs => ?_
  obtain ⟨here, done⟩ := hs
  obtain ⟨hp, gs, dr, tk, os⟩ := s
  have sub := sub_enumerate
  have begins : ∀ {A' : Around} {E' : Value → Shared → Prop} {Q' : Value → Shared → Prop}, Q' (.ref hp.objs.size) ⟨hp.push o, gs, dr, tk, os⟩ → wpAny (model prog w) A' (pyIter v) Q' E' ⟨hp, gs, dr, tk, os⟩ := fun q => B.iter prog w _ _ ⟨hp, gs, dr, tk, os⟩ _ here q
  wp_walk using begins
  refine wpAny_stack_any fun st => wpAny_pure ?_
  split
  · rename_i c _ _ _ _ _
    cases c == Value.type "enumerate" <;> (wp_walk using begins; exact ⟨_, rfl, done⟩)
  · wp_walk using begins
    exact ⟨_, rfl, done⟩
section
variable {prog : Program} {w : World} {A : Around} {E : Value → Shared → Prop} {s : Shared}
theorem call_enum {v : Value} {o : Obj} {Hs : Heap → Prop} (B : Begins v o Hs) (here : Hs s.heap) {Q : Value → Shared → Prop} (q : Q (.ref (s.heap.objs.size + 1)) { s with heap := (s.heap.push o).push (enumO s.heap.objs.size) }) :
    wpAny (model prog w) A (call (.type "enumerate") [v]) Q E s := by
  have size : (s.heap.push o).objs.size = s.heap.objs.size + 1 := Heap.size_push ..
  have at1 : ((s.heap.push o).push (enumO s.heap.objs.size)).get? (s.heap.objs.size + 1) = some (enumO s.heap.objs.size) := by
    rw [← size]
    exact Heap.get?_push_size _ rfl
  refine callType_new F.called_enumerate (by decide) (F.typeCall_enumerate_1 v) (F.newCall_enumerate_1 v) (fun obj => F.args_object_init_2 obj v) F.entry_enumerate_new (enum_new B) ⟨here, ?_⟩
  refine ⟨⟨enumO s.heap.objs.size, ?_, rfl⟩, ?_⟩
  · rw [size]
    exact at1
  · rw [size]
    exact q
end
end Dk
namespace Dk
open PySem PySem.Spec PyProof.Rows L2
/-! ### for i, x in enumerate(a tuple) -/
/-- the tuple at a, a new pair at each turn -/
def ItT (K : PySem.W.Frag) (a : Addr) : It where
  go := fun i H => ∃ (xs : List V) (x : V), SqT K H a xs ∧ xs[i]? = some x
  yld := fun i H v H' => ∃ T x, v = .ref T ∧ H T = none ∧ H' = upd H T (.tup [.int (i : Nat), x]) ∧ ∀ xs, SqT K H a xs → xs[i]? = some x
  stop := fun i H => ∃ xs : List V, SqT K H a xs ∧ xs.length = i
/-- how the three objects stand at a turn -/
structure TnT (a e it : Addr) (i : Nat) (h : Heap) : Prop where
  en : ∃ old, IsEnum h e it ((i : Nat) : Int) old
  ti : h.IsTupleIter it a i
  n1 : e ≠ it
  n2 : e ≠ a
  n3 : a ≠ it
theorem turn_enumT {P : Program} {w : World} {K : PySem.W.Frag} {elts : List Expr} {kk : Nat} {tpos : Pos} (a e it : Addr) : Turn P w K (.Tuple elts kk tpos) (ItT K a) [e, it] e (TnT a e it) where
  mem := List.mem_cons_self
  obj := fun i h st b hb => by
    obtain ⟨old, he⟩ := st.en
    obtain ⟨o, ho, _, hd⟩ := st.ti
    simp only [List.mem_cons, List.not_mem_nil, or_false] at hb
    rcases hb with rfl | rfl
    · exact ⟨_, he, fun v q => nomatch q⟩
    · exact ⟨o, ho, fun v q => by rw [hd] at q; exact nomatch q⟩
  keep := fun i h h' st k => by
    obtain ⟨old, he⟩ := st.en
    exact ⟨⟨old, k e List.mem_cons_self _ he⟩, st.ti.at fun o q => k it (by simp) o q, st.n1, st.n2, st.n3⟩
  item := by
    intro X hP hw hK hc i pins s σ H E I hf st hg
    subst hP hw hK
    obtain ⟨old, he⟩ := st.en
    obtain ⟨xs, x, hq, hx⟩ := hg
    obtain ⟨its, rv, p, hz⟩ := I.tuple hq
    obtain ⟨u, hu, ru⟩ := rv.get hx
    have p' : s.heap.IsTuple a its.toArray := p
    have hi : i < its.toArray.size := by
      have := (List.getElem?_eq_some_iff.mp hu).1
      simpa using this
    have el : e < s.heap.objs.size := Heap.lt_size he
    have il : it < s.heap.objs.size := by
      obtain ⟨o, q, _⟩ := st.ti
      exact Heap.lt_size q
    refine wpAny_pyNext_enum_itemD (Draws.tuple (A := X.A.in1) (show X.A.in1.handled = none from I.ok.hd hc) it a st.n3 its.toArray) he ⟨st.ti, p'⟩ hi st.n1 (by simp [st.n1, st.n2]) fun y h' tk hy out st' hT hsz hk => ?_
    have ey : y = u := by
      have hu' : its.toArray[i]? = some u := by simpa using hu
      exact Option.some.inj ((show its.toArray[i]? = some y from hy).symm.trans hu')
    subst ey
    refine ⟨_, rfl, wpAny_letOwnedTupleGo_enum (s := { s with heap := h', toks := tk + 1 }) out fun h'' he' sb => ?_⟩
    have hT2 : h''.get? s.heap.objs.size = some { cls := .type "tuple", data := .seq #[.int i tk, y] } := (sb.2 _ (Nat.ne_of_gt el)).trans hT
    have new : ObjOk X.prog X.w (upd H s.heap.objs.size (.tup [.int (i : Nat), x])) h'' s.heap.objs.size (.tup [.int (i : Nat), x]) :=
      ⟨by show 2 ≤ sizeLine; decide, [.int i tk, y], .cons ⟨_, rfl⟩ (.cons ru .nil), ⟨_, hT2, rfl, _, rfl⟩⟩
    have J := I.turnedNew (h' := h'') (t' := tk + 1) (ch := [e, it]) (fun b o hb q => by
      simp only [List.mem_cons, List.not_mem_nil, or_false, not_or] at hb
      exact (sb.2 b hb.1).trans (hk b o hb.1 hb.2 q)) hf (Nat.le_refl _) new
    refine ⟨.ref s.heap.objs.size, _, J, rfl, ⟨_, x, rfl, I.hok.fresh (Nat.le_refl _), rfl, fun ys hy => by rw [I.tuple_inj hy hq]; exact hx⟩, ⟨⟨y, ?_⟩, st'.1.at fun o q => (sb.2 it (Ne.symm st.n1)).trans q, st.n1, st.n2, st.n3⟩, fun b hb => ?_⟩
    · rw [show ((i + 1 : Nat) : Int) = (i : Int) + 1 by omega]
      exact he'
    · rw [upd_ne]
      · exact (hf b hb).1
      · simp only [List.mem_cons, List.not_mem_nil, or_false] at hb
        rcases hb with z | z
        · rw [z]
          exact Nat.ne_of_lt el
        · rw [z]
          exact Nat.ne_of_lt il
  done := by
    intro X hP hw hK hc i pins s σ H E I hf st hg
    subst hP hw hK
    obtain ⟨old, he⟩ := st.en
    obtain ⟨xs, hq, hx⟩ := hg
    obtain ⟨its, rv, p, hz⟩ := I.tuple hq
    have p' : s.heap.IsTuple a its.toArray := p
    obtain ⟨f0, f1, f2, f3, f4, f5⟩ := hf it (by simp)
    have hn : its.toArray.size = i := by
      have := rv.length
      simp
      omega
    subst hn
    exact wpAny_pyNext_enum_endD (Draws.tuple (A := X.A.in1) (show X.A.in1.handled = none from I.ok.hd hc) it a st.n3 its.toArray) he ⟨st.ti, p'⟩ fun h' eb => ⟨rfl, I.turned (t' := s.toks) (fun b o hb q => eb b o hb q) f0 f1 f3 f4 f5⟩
  self := fun A i s Q E st h => by
    obtain ⟨old, he⟩ := st.en
    exact wpAny_pyIter_enum he h
/-- enumerate of a list or a tuple -/
def iEnA (K : PySem.W.Frag) (ta : TA) : TI := fun σ H R => ta σ H fun vs H1 => ∃ a xs, vs = [.ref a] ∧ ((SqL K H1 a xs ∧ R (Ite K a) H1) ∨ (SqT K H1 a xs ∧ R (ItT K a) H1))
theorem pi_enumA {X : Cx} {e : Expr} {ta : TA} {p pos tpos : Pos} {elts : List Expr} {kk : Nat} (hg : Gl X "enumerate") (hm : X.mg "enumerate" = none) (ha : PA X [e] ta) (hs : starEach [e] X.env = [(false, eval e X.env)] := by rfl) :
    PI X (.Tuple elts kk tpos) (.Call (.Name "enumerate" p) [e] [] pos) (iEnA X.K ta) := by
  refine ⟨fun pins s σ H R I h => ?_⟩
  refine Call_ (ld_blt I hg hm boot_enumerate (PyProof.Rows.callWith_type1 (thn (ha.run pos pins s σ H _ I h) fun us s1 ⟨vs, H1, I1, r1, a, xs, ex, q⟩ => ?_) hs rfl))
  subst ex
  cases r1 with
  | cons r rr =>
    cases rr
    cases r
    have two : ∀ o : Obj, o.isFreed = false → ∀ b o', s1.heap.get? b = some o' → ((s1.heap.push o).push (enumO s1.heap.objs.size)).get? b = some o' := fun o _ b o' q => Heap.get?_push_of_some _ (Heap.get?_push_of_some _ q)
    have size : ∀ o : Obj, (s1.heap.push o).objs.size = s1.heap.objs.size + 1 := fun o => Heap.size_push ..
    have ate : ∀ o : Obj, ((s1.heap.push o).push (enumO s1.heap.objs.size)).get? (s1.heap.objs.size + 1) = some (enumO s1.heap.objs.size) := fun o => by
      rw [← size o]
      exact Heap.get?_push_size _ rfl
    have ati : ∀ o : Obj, o.isFreed = false → ((s1.heap.push o).push (enumO s1.heap.objs.size)).get? s1.heap.objs.size = some o := fun o ho => Heap.get?_push_of_some _ (Heap.get?_push_size _ ho)
    have fresh : ∀ b ∈ [s1.heap.objs.size + 1, s1.heap.objs.size], FpOk X pins H1 b := fun b hb => by
      have le : s1.heap.objs.size ≤ b := by
        simp only [List.mem_cons, List.not_mem_nil, or_false] at hb
        rcases hb with z | z
        · rw [z]
          exact Nat.le_succ _
        · rw [z]
          exact Nat.le_refl _
      exact I1.fpOk le (I1.hok.fresh le)
    rcases q with ⟨hq, q⟩ | ⟨hq, q⟩
    · obtain ⟨its, rv, pl, hz⟩ := I1.list hq
      refine call_enum (begins_list a its.toArray) pl.isList (wpAny_pyIter_enum (i := 0) (old := .none) (ate _) ?_)
      exact ⟨_, _, _, _, H1, rfl, I1.kept (t' := s1.toks) (two _ rfl), turn_enum a (s1.heap.objs.size + 1) s1.heap.objs.size, ⟨⟨.none, ate _⟩, ⟨_, ati _ rfl, rfl, rfl⟩, Nat.succ_ne_self _⟩, fresh, q⟩
    · obtain ⟨its, rv, pl, hz⟩ := I1.tuple hq
      have la : a < s1.heap.objs.size := by
        obtain ⟨o, ho, _⟩ := pl
        exact Heap.lt_size ho
      refine call_enum (begins_tuple a its.toArray) pl (wpAny_pyIter_enum (i := 0) (old := .none) (ate _) ?_)
      exact ⟨_, _, _, _, H1, rfl, I1.kept (t' := s1.toks) (two _ rfl), turn_enumT a (s1.heap.objs.size + 1) s1.heap.objs.size, ⟨⟨.none, ate _⟩, ⟨_, ati _ rfl, rfl, rfl⟩, Nat.succ_ne_self _, Ne.symm (Nat.ne_of_lt (Nat.lt_succ_of_lt la)), Nat.ne_of_lt la⟩, fresh, q⟩
/-! over data -/
def enumD (n : Nat) : List D → List D
  | [] => []
  | d :: r => .tuple [.int (n : Nat), d] :: enumD (n + 1) r
theorem enumD_len : ∀ (ds : List D) (n : Nat), (enumD n ds).length = ds.length
  | [], _ => rfl
  | _ :: r, n => by simp [enumD, enumD_len r]
theorem enumD_at : ∀ (ds : List D) (n i : Nat) (d : D), ds[i]? = some d → (enumD n ds)[i]? = some (.tuple [.int ((n + i : Nat) : Int), d])
  | [], _, _, _, h => by simp at h
  | x :: r, n, 0, d, h => by
    simp at h
    subst h
    rfl
  | x :: r, n, i + 1, d, h => by
    have := enumD_at r (n + 1) i d (by simpa using h)
    rw [show n + 1 + i = n + (i + 1) by omega] at this
    simpa [enumD] using this
def iEn (f : EL) : EI := fun ρ S => (f ρ S).bind fun os S1 => match os with
  | [.dat (.list ds)] => ret (enumD 0 ds, none) S1
  | [.dat (.tuple ds)] => ret (enumD 0 ds, none) S1
  | _ => none
section
variable {K : PySem.W.Frag} {L : List Addr} {H : Hp} {a : Addr} {xs : List V} {ds : List D}
theorem serves_enumL (m : SqL K (mask L H) a xs) (r : Reps K (mask L H) xs ds) : Serves K L H (Ite K a) (enumD 0 ds) none := by
  refine ⟨fun L' H' S' st so ok => ?_⟩
  have hx : SqL K H' a xs := same_l (st.frz.trans (mask_same _ _)) m
  have rx := r.mono st.frz
  have hl := r.length
  refine ⟨fun i hi => ?_, ⟨xs, hx, by rw [enumD_len]; omega⟩, fun i v H2 hi y => ?_⟩
  · rw [enumD_len] at hi
    have k : i < xs.length := by omega
    exact ⟨xs, xs[i], hx, List.getElem?_eq_getElem k⟩
  · obtain ⟨T, x, rfl, hT, rfl, q⟩ := y
    obtain ⟨d, e1, e2⟩ := rx.get (q xs hx)
    obtain ⟨p1, p2, p3⟩ := new_pair so hT (.int (i : Nat)) e2
    exact ⟨p1, p2, _, by have := enumD_at ds 0 i d e1; rw [Nat.zero_add] at this; exact this, p3⟩
theorem serves_enumT (m : SqT K (mask L H) a xs) (r : Reps K (mask L H) xs ds) : Serves K L H (ItT K a) (enumD 0 ds) none := by
  refine ⟨fun L' H' S' st so ok => ?_⟩
  have hx : SqT K H' a xs := same_t (st.frz.trans (mask_same _ _)) m
  have rx := r.mono st.frz
  have hl := r.length
  refine ⟨fun i hi => ?_, ⟨xs, hx, by rw [enumD_len]; omega⟩, fun i v H2 hi y => ?_⟩
  · rw [enumD_len] at hi
    have k : i < xs.length := by omega
    exact ⟨xs, xs[i], hx, List.getElem?_eq_getElem k⟩
  · obtain ⟨T, x, rfl, hT, rfl, q⟩ := y
    obtain ⟨d, e1, e2⟩ := rx.get (q xs hx)
    obtain ⟨p1, p2, p3⟩ := new_pair so hT (.int (i : Nat)) e2
    exact ⟨p1, p2, _, by have := enumD_at ds 0 i d e1; rw [Nat.zero_add] at this; exact this, p3⟩
end
theorem di_enum {X : Cx} {C : Str → Value} {W : WX} {e : Expr} {fa : EL} {p pos tpos : Pos} {elts : List Expr} {kk : Nat} (hg : Gl X "enumerate") (hm : X.mg "enumerate" = none) (ha : DA X C W [e] fa) (hs : starEach [e] X.env = [(false, eval e X.env)] := by rfl) :
    DI X C W (.Tuple elts kk tpos) (.Call (.Name "enumerate" p) [e] [] pos) (iEn fa) := by
  obtain ⟨t, pa, s⟩ := ha.ex
  refine ⟨_, pi_enumA hg hm pa hs, fun ρ S r S' h L σ H R en so po => ?_⟩
  refine s.bind h en so po fun os S1 L1 H1 vs h1 st1 so1 r1 en1 po1 => ?_
  split at h1
  · rename_i ds
    cases r1 with
    | cons rv rn =>
      cases rn
      cases rv with
      | lst m k => exact ⟨_, _, rfl, .inl ⟨same_l (mask_same _ _) m, po1.done (S0 := S1) h1 Step.refl so1 _ (serves_enumL m k)⟩⟩
  · rename_i ds
    cases r1 with
    | cons rv rn =>
      cases rn
      cases rv with
      | tup m k => exact ⟨_, _, rfl, .inr ⟨SqT.of (mask_same _ _ _ _ m), po1.done (S0 := S1) h1 Step.refl so1 _ (serves_enumT (SqT.of m) k)⟩⟩
  · cases h1
end Dk
set_option Elab.async false
set_option linter.all false
set_option maxRecDepth 100000
set_option maxHeartbeats 4000000
/-! [e for t in xs for u in ys if c] -/
namespace Dk
open PySem PySem.Spec L2
section
variable {K : PySem.W.Frag} {C : Str → Value} {L1 Lb : List Addr} {H1 Hb : Hp} {Sb S2 : Sto} {D0 : Addr} {n0 : Nat}
/-- the turns of a loop that fills the list at place n0, from any state -/
theorem lc_turns {J : It} {items : List D} {src : Option Nat} {tg : Tg} {is : List Nat} {tst : EB} {elt : E1} {vs : List Nat} {ρ : Env1} {σ : L2.St} (hv : ∀ i ∈ is, i ∈ vs)
    (sv : Serves K L1 H1 J items src) (en : EnvR K L1 H1 σ ρ) (st0 : Step L1 H1 Lb Hb) (sob : StoR K Lb Hb Sb) (hD : Lb[n0]? = some D0) (h : lcL src items tg tst elt n0 (wipeR ρ vs) items Sb = some S2) {Qd : Hp → Prop}
    (hq : ∀ L2 H2, Step Lb Hb L2 H2 → StoR K L2 H2 S2 → Qd H2) :
    ∃ W : Nat → Nat → Hp → Prop, (∃ m, W 0 m Hb) ∧ ∀ i m H, W i m H →
      (J.stop i H ∧ Qd H) ∨ (J.go i H ∧ ∃ Nx : Hp → Prop, (∀ H', Nx H' → ∃ m', m' < m ∧ W (i + 1) m' H') ∧ ∀ x H', J.yld i H x H' → canG K is tg x (wipe σ vs) H' fun σ2 H2 => wipe σ2 vs = wipe σ vs ∧ canT K C W0 tst σ2 H2 fun b H3 =>
        if b = true then canE K C W0 elt σ2 H3 fun y H4 => ∃ acc, H4 D0 = some (.lst acc) ∧ acc.length < sizeLine ∧ Nx (upd H4 D0 (.lst (acc ++ [y]))) else Nx H3) := by
  have hwipe : ∀ σ' : L2.St, (∀ us : List Nat, (∀ i ∈ is, i ∈ us) → wipe σ' us = wipe (wipe σ vs) us) → wipe σ' vs = wipe σ vs := fun σ' hσ => by
    rw [hσ vs hv]
    apply List.ext_getElem?
    intro j
    by_cases hj : j ∈ vs
    · by_cases hl : j < σ.length
      · rw [wipe_at hj (by rw [wipe_len]; exact hl), wipe_at hj hl]
      · rw [List.getElem?_eq_none (by rw [wipe_len, wipe_len]; omega), List.getElem?_eq_none (by rw [wipe_len]; omega)]
    · rw [wipe_off hj]
  refine ⟨fun i m H => ∃ L2 Sx, m = items.length - i ∧ i ≤ items.length ∧ Step Lb Hb L2 H ∧ StoR K L2 H Sx ∧ lcL src items tg tst elt n0 (wipeR ρ vs) (items.drop i) Sx = some S2,
    ⟨_, Lb, Sb, rfl, Nat.zero_le _, Step.refl, sob, (by rw [List.drop_zero]; exact h)⟩, ?_⟩
  rintro i m H2 ⟨L2, Sx, rfl, hi, st2, so2, h2⟩
  have st12 := st0.trans st2
  by_cases hlt : i < items.length
  · rw [List.drop_eq_getElem_cons hlt] at h2
    unfold lcL at h2
    split at h2
    · rename_i hsrc
      obtain ⟨a1, a2, a3⟩ := sv.all L2 H2 Sx st12 so2 hsrc
      obtain ⟨ρ3, e3, h3⟩ := opt_bind h2
      refine .inr ⟨a1 i hlt, fun H' => ∃ L3 Sy, Step Lb Hb L3 H' ∧ StoR K L3 H' Sy ∧ lcL src items tg tst elt n0 (wipeR ρ vs) (items.drop (i + 1)) Sy = some S2,
        fun H' ⟨L3, Sy, b1, b2, b3⟩ => ⟨items.length - (i + 1), by omega, L3, Sy, rfl, hlt, b1, b2, b3⟩, fun x H3 hy => ?_⟩
      obtain ⟨st3, so3, d, hd, rd⟩ := a3 i x H3 hlt hy
      have ed : d = items[i] := by
        rw [List.getElem?_eq_getElem hlt] at hd
        exact (Option.some.inj hd).symm
      subst ed
      have en3 : EnvR K L2 H3 (wipe σ vs) (wipeR ρ vs) := (en.wipes vs).step (st12.trans st3)
      refine ⟨.dat items[i], wipeR ρ vs, ρ3, L2, Sx, e3, en3, so3, rd, fun σ4 en4 hσ => ⟨hwipe σ4 hσ, ?_⟩⟩
      have st23 := st2.trans st3
      split at h3
      · rename_i S5 q5
        refine ⟨ρ3, Sx, _, S5, L2, q5, en4, so3, ⟨fun b hb L' H' st so' => ?_, fun e he => by cases he⟩⟩
        cases hb
        refine iteT ?_
        split at h3
        · rename_i o S6 q6
          obtain ⟨S7, e7, h7⟩ := opt_bind h3
          refine ⟨ρ3, S5, _, S6, L', q6, en4.step st, so', ⟨fun b hb L'' H'' st' so'' y ry => ?_, fun e he => by cases he⟩⟩
          cases hb
          have stA := (st23.trans st).trans st'
          unfold putAt at e7
          split at e7
          · rename_i d acc hacc
            split at e7
            · rename_i hz
              cases e7
              have hL : L''[n0]? = some D0 := stA.get hD
              obtain ⟨a, ws, ea, hL2, hA, rs⟩ := own_list (v := .ref D0) so'' ⟨D0, rfl, hL⟩ hacc
              cases ea
              obtain ⟨c1, c2⟩ := so''.write (o := .lst (ws ++ [y])) hL (d := .list (acc ++ [d])) ⟨_, upd_same, rs.append (.one ry)⟩ (nf_of hA)
              exact ⟨ws, hA, by rw [rs.length]; exact hz, L'', _, stA.trans c1, c2, h7⟩
            · cases e7
          · cases e7
        · cases h3
      · rename_i S5 q5
        refine ⟨ρ3, Sx, _, S5, L2, q5, en4, so3, ⟨fun b hb L' H' st so' => ?_, fun e he => by cases he⟩⟩
        cases hb
        exact iteF ⟨L', S5, st23.trans st, so', h3⟩
      · cases h3
    · cases h2
  · have e : i = items.length := by omega
    subst e
    rw [List.drop_length] at h2
    unfold lcL at h2
    split at h2
    · rename_i hsrc
      obtain ⟨a1, a2, a3⟩ := sv.all L2 H2 Sx st12 so2 hsrc
      cases h2
      exact .inl ⟨a2, hq L2 H2 st2 so2⟩
    · cases h2
end
open Classical in
noncomputable def lc2L (src : Option Nat) (items : List D) (tg : Tg) (fi1 : EI) (tg1 : Tg) (tst1 : EB) (elt : E1) (n0 : Nat) (vs1 : List Nat) (ρ : Env1) : List D → Sto → Option Sto
  | [], S => if srcOk src items S then some S else none
  | d :: r, S => if srcOk src items S then (tg (.dat d) ρ).bind fun ρ1 => match fi1 ρ1 S with
      | some (.inl p, S1) => (lcL p.2 p.1 tg1 tst1 elt n0 (wipeR ρ1 vs1) p.1 S1).bind fun S2 => lc2L src items tg fi1 tg1 tst1 elt n0 vs1 ρ r S2
      | _ => none
    else none
noncomputable def fLc2 (fi : EI) (tg : Tg) (fi1 : EI) (tg1 : Tg) (tst1 : EB) (elt : E1) (vs vs1 : List Nat) : EF := fun ρ S => (fi ρ S).bind fun p S1 => (lc2L p.2 p.1 tg fi1 tg1 tst1 elt S1.length vs1 (wipeR ρ vs) p.1 (S1 ++ [.list []])).bind fun S2 => popAt S1.length S2
section
variable {K : PySem.W.Frag} {C : Str → Value} {L1 : List Addr} {H1 : Hp} {S1 S2 : Sto} {D0 : Addr}
theorem lc2_run {J : It} {items : List D} {src : Option Nat} {tg tg1 : Tg} {is is1 : List Nat} {fi1 : EI} {tst1 : EB} {elt : E1} {vs vs1 : List Nat} {ρ : Env1} {σ : L2.St} (hv : ∀ i ∈ is, i ∈ vs) (hv1 : ∀ i ∈ is1, i ∈ vs1)
    (sv : Serves K L1 H1 J items src) (en : EnvR K L1 H1 σ ρ) (so : StoR K L1 H1 S1) (hD : H1 D0 = none) (h : lc2L src items tg fi1 tg1 tst1 elt S1.length vs1 (wipeR ρ vs) items (S1 ++ [.list []]) = some S2) {Qd : Hp → Prop}
    (hq : ∀ L2 H2, Step L1 H1 L2 H2 → Step (L1 ++ [D0]) (upd H1 D0 (.lst [])) L2 H2 → StoR K L2 H2 S2 → Qd H2) :
    ∃ W : Nat → Nat → Hp → Prop, (∃ m, W 0 m (upd H1 D0 (.lst []))) ∧ ∀ i m H, W i m H →
      (J.stop i H ∧ Qd H) ∨ (J.go i H ∧ ∃ Nx : Hp → Prop, (∀ H', Nx H' → ∃ m', m' < m ∧ W (i + 1) m' H') ∧ ∀ x H', J.yld i H x H' → canG K is tg x (wipe σ vs) H' fun σ2 H2 => wipe σ2 vs = wipe σ vs ∧ canT K C W0 bYes σ2 H2 fun b H3 =>
        if b = true then canI K C W0 fi1 σ2 H3 fun J1 H4 => ∃ W1 : Nat → Nat → Hp → Prop, (∃ m, W1 0 m H4) ∧ ∀ j k H, W1 j k H →
          (J1.stop j H ∧ Nx H) ∨ (J1.go j H ∧ ∃ Nx1 : Hp → Prop, (∀ H', Nx1 H' → ∃ k', k' < k ∧ W1 (j + 1) k' H') ∧ ∀ x H', J1.yld j H x H' → canG K is1 tg1 x (wipe σ2 vs1) H' fun σ3 H5 => wipe σ3 vs1 = wipe σ2 vs1 ∧ canT K C W0 tst1 σ3 H5 fun b H6 =>
            if b = true then canE K C W0 elt σ3 H6 fun y H7 => ∃ acc, H7 D0 = some (.lst acc) ∧ acc.length < sizeLine ∧ Nx1 (upd H7 D0 (.lst (acc ++ [y]))) else Nx1 H6)
        else Nx H3) := by
  obtain ⟨k1, k2⟩ := so.own (o := .lst []) hD (d := .list []) ⟨[], upd_same, .nil⟩
  have hlen : L1.length = S1.length := so.len
  have hwipe : ∀ σ' : L2.St, (∀ us : List Nat, (∀ i ∈ is, i ∈ us) → wipe σ' us = wipe (wipe σ vs) us) → wipe σ' vs = wipe σ vs := fun σ' hσ => by
    rw [hσ vs hv]
    apply List.ext_getElem?
    intro j
    by_cases hj : j ∈ vs
    · by_cases hl : j < σ.length
      · rw [wipe_at hj (by rw [wipe_len]; exact hl), wipe_at hj hl]
      · rw [List.getElem?_eq_none (by rw [wipe_len, wipe_len]; omega), List.getElem?_eq_none (by rw [wipe_len]; omega)]
    · rw [wipe_off hj]
  refine ⟨fun i m H => ∃ L2 Sx, m = items.length - i ∧ i ≤ items.length ∧ Step (L1 ++ [D0]) (upd H1 D0 (.lst [])) L2 H ∧ StoR K L2 H Sx ∧ lc2L src items tg fi1 tg1 tst1 elt S1.length vs1 (wipeR ρ vs) (items.drop i) Sx = some S2,
    ⟨_, L1 ++ [D0], S1 ++ [.list []], rfl, Nat.zero_le _, Step.refl, k2, (by rw [List.drop_zero]; exact h)⟩, ?_⟩
  rintro i m H2 ⟨L2, Sx, rfl, hi, st2, so2, h2⟩
  have st12 := k1.trans st2
  by_cases hlt : i < items.length
  · rw [List.drop_eq_getElem_cons hlt] at h2
    unfold lc2L at h2
    split at h2
    · rename_i hsrc
      obtain ⟨a1, a2, a3⟩ := sv.all L2 H2 Sx st12 so2 hsrc
      obtain ⟨ρ3, e3, h3⟩ := opt_bind h2
      refine .inr ⟨a1 i hlt, fun H' => ∃ L3 Sy, Step (L1 ++ [D0]) (upd H1 D0 (.lst [])) L3 H' ∧ StoR K L3 H' Sy ∧ lc2L src items tg fi1 tg1 tst1 elt S1.length vs1 (wipeR ρ vs) (items.drop (i + 1)) Sy = some S2,
        fun H' ⟨L3, Sy, b1, b2, b3⟩ => ⟨items.length - (i + 1), by omega, L3, Sy, rfl, hlt, b1, b2, b3⟩, fun x H3 hy => ?_⟩
      obtain ⟨st3, so3, d, hd, rd⟩ := a3 i x H3 hlt hy
      have ed : d = items[i] := by
        rw [List.getElem?_eq_getElem hlt] at hd
        exact (Option.some.inj hd).symm
      subst ed
      have en3 : EnvR K L2 H3 (wipe σ vs) (wipeR ρ vs) := (en.wipes vs).step (st12.trans st3)
      refine ⟨.dat items[i], wipeR ρ vs, ρ3, L2, Sx, e3, en3, so3, rd, fun σ4 en4 hσ => ⟨hwipe σ4 hσ, ?_⟩⟩
      have st23 := st2.trans st3
      split at h3
      · rename_i p S5 q5
        obtain ⟨S7, e7, h7⟩ := opt_bind h3
        refine ⟨ρ3, Sx, _, Sx, L2, rfl, en4, so3, ⟨fun b hb L' H' st so' => ?_, fun e he => by cases he⟩⟩
        cases hb
        refine iteT ?_
        refine ⟨ρ3, Sx, _, S5, L', q5, en4.step st, so', ⟨fun b hb L'' H'' st' so'' J1 sv1 => ?_, fun e he => by cases he⟩⟩
        cases hb
        have stA := (st23.trans st).trans st'
        have hL : L''[S1.length]? = some D0 := by
          refine stA.get ?_
          rw [← hlen, List.getElem?_append_right (Nat.le_refl _), Nat.sub_self]
          rfl
        exact lc_turns hv1 sv1 ((en4.step st).step st') Step.refl so'' hL e7 fun L8 H8 st8 so8 => ⟨L8, S7, stA.trans st8, so8, h7⟩
      · cases h3
    · cases h2
  · have e : i = items.length := by omega
    subst e
    rw [List.drop_length] at h2
    unfold lc2L at h2
    split at h2
    · rename_i hsrc
      obtain ⟨a1, a2, a3⟩ := sv.all L2 H2 Sx st12 so2 hsrc
      cases h2
      exact .inl ⟨a2, hq L2 H2 st12 st2 so2⟩
    · cases h2
end
section
variable {X : Cx} {C : Str → Value} {W : WX} {elt tg iter tg1 iter1 : Expr} {ifs1 : List Expr} {scope : Scope} {own : List (Str × Nat)} {pos : Pos} {fi fi1 : EI} {t t1 : Tg} {is is1 vs1 : List Nat} {tst1 : EB} {fe : E1}
theorem sm_lc2 {K : PySem.W.Frag} {wi : TI} (s : SmI K C W wi fi) (hv : ∀ i ∈ is, i ∈ own.map (·.2)) (hv1 : ∀ i ∈ is1, i ∈ vs1) :
    SmF K C W (tLc2 wi (canG K is t) (canT K C W0 bYes) (canI K C W0 fi1) (canG K is1 t1) (canT K C W0 tst1) (canE K C W0 fe) (own.map (·.2)) vs1) (fLc2 fi t fi1 t1 tst1 fe (own.map (·.2)) vs1) := fun ρ S r S' h L σ H Q en so po => by
  unfold fLc2 at h
  cases e : fi ρ S with
  | none => rw [e] at h; cases h
  | some q =>
    obtain ⟨q, S1⟩ := q
    rw [e] at h
    cases q with
    | inr x =>
      cases h
      exact s ρ S _ _ e L σ H _ en so ⟨fun b z => (by cases z), fun e' he L' H' st so' cls d x => po.bad e' (by cases he; rfl) L' H' st so' cls d x⟩
    | inl p =>
      obtain ⟨items, src⟩ := p
      obtain ⟨S2, e2, h3⟩ := opt_bind (show (lc2L _ _ _ _ _ _ _ _ _ _ _ _).bind _ = _ from h)
      refine s ρ S _ _ e L σ H _ en so ⟨fun b z L1 H1 st1 so1 J sv D0 hD => ?_, fun e' he => by cases he⟩
      cases z
      refine lc2_run hv hv1 sv (en.step st1) so1 hD e2 fun L2 H2 st2 st2' so2 => ?_
      cases r with
      | inr x =>
        unfold popAt at h3
        split at h3
        · split at h3 <;> cases h3
        · cases h3
      | inl ds =>
        obtain ⟨vs, c1, c2, c3, c4, c5⟩ := lc_done so1 hD st2 st2' so2 h3
        rw [c1]
        exact po.fine ds rfl L1 _ (st1.trans c2) c3 D0 vs c4 c5
theorem df_lc2 (hc : X.calm = true) (hN : X.N.Nodup) (hi : DI X C W tg iter fi) (ok : BlkOk X.N X.env.scope scope own) (hv : ∀ i ∈ is, i ∈ own.map (·.2)) (hv1 : ∀ i ∈ is1, i ∈ vs1) (hvo : ∀ i ∈ vs1, i ∈ own.map (·.2))
    (hg : ∀ (s : Shared) (H : Hp) (D : Addr) (cl : List (Str × Addr)) (fp : List Addr), DG (X.blk s H scope (compEnvC scope cl D X.env) fp) tg is t)
    (hi1 : ∀ (s : Shared) (H : Hp) (D : Addr) (cl : List (Str × Addr)) (fp : List Addr), DI (X.blk s H scope (compEnvC scope cl D X.env) fp) C W0 tg1 iter1 fi1)
    (hg1 : ∀ (s : Shared) (H : Hp) (D : Addr) (cl : List (Str × Addr)) (fp : List Addr), DG (X.blk s H scope (compEnvC scope cl D X.env) fp) tg1 is1 t1)
    (ht1 : ∀ (s : Shared) (H : Hp) (D : Addr) (cl : List (Str × Addr)) (fp : List Addr), DTs (X.blk s H scope (compEnvC scope cl D X.env) fp) C W0 ifs1 tst1)
    (he : ∀ (s : Shared) (H : Hp) (D : Addr) (cl : List (Str × Addr)) (fp : List Addr), DE (X.blk s H scope (compEnvC scope cl D X.env) fp) C W0 elt fe) (hs : ∀ x, foldedSetIterable iter X.env x = pure x := by intro _; rfl) (hs1 : ∀ env x, foldedSetIterable iter1 env x = pure x := by intro _ _; rfl) :
    DF X C W (.ListComp elt [⟨tg, iter, [], 0⟩, ⟨tg1, iter1, ifs1, 0⟩] scope pos) (fLc2 fi t fi1 t1 tst1 fe (own.map (·.2)) vs1) := by
  obtain ⟨wi, p, s⟩ := hi.ex
  exact ⟨_, pe_lc2 (g := canG X.K is t) (tt := canT X.K C W0 bYes) (wi1 := canI X.K C W0 fi1) (g1 := canG X.K is1 t1) (tt1 := canT X.K C W0 tst1) (te := canE X.K C W0 fe) hc hN p ok hvo (fun s H D cl fp => (hg s H D cl fp).can) (fun s H D cl fp => dts_nil.run)
    (fun s H D cl fp => (hi1 s H D cl fp).can) (fun s H D cl fp => (hg1 s H D cl fp).can) (fun s H D cl fp => (ht1 s H D cl fp).run) (fun s H D cl fp => (he s H D cl fp).can) hs hs1, sm_lc2 s hv hv1⟩
theorem ds_setLc2 (i : Nat) {y : Str} {py spos : Pos} (hc : X.calm = true) (hN : X.N.Nodup) (hy : X.N[i]? = some y) (hyl : X.env.scope.names.lookup y = some .local) (hsw : swapsWith (.ListComp elt [⟨tg, iter, [], 0⟩, ⟨tg1, iter1, ifs1, 0⟩] scope pos) (some (.Name y py)) spos.line X.env = pure true)
    (hi : DI X C W tg iter fi) (ok : BlkOk X.N X.env.scope scope own) (hv : ∀ i ∈ is, i ∈ own.map (·.2)) (hv1 : ∀ i ∈ is1, i ∈ vs1) (hvo : ∀ i ∈ vs1, i ∈ own.map (·.2))
    (hg : ∀ (s : Shared) (H : Hp) (D : Addr) (cl : List (Str × Addr)) (fp : List Addr), DG (X.blk s H scope (compEnvC scope cl D X.env) fp) tg is t)
    (hi1 : ∀ (s : Shared) (H : Hp) (D : Addr) (cl : List (Str × Addr)) (fp : List Addr), DI (X.blk s H scope (compEnvC scope cl D X.env) fp) C W0 tg1 iter1 fi1)
    (hg1 : ∀ (s : Shared) (H : Hp) (D : Addr) (cl : List (Str × Addr)) (fp : List Addr), DG (X.blk s H scope (compEnvC scope cl D X.env) fp) tg1 is1 t1)
    (ht1 : ∀ (s : Shared) (H : Hp) (D : Addr) (cl : List (Str × Addr)) (fp : List Addr), DTs (X.blk s H scope (compEnvC scope cl D X.env) fp) C W0 ifs1 tst1)
    (he : ∀ (s : Shared) (H : Hp) (D : Addr) (cl : List (Str × Addr)) (fp : List Addr), DE (X.blk s H scope (compEnvC scope cl D X.env) fp) C W0 elt fe) (hs : ∀ x, foldedSetIterable iter X.env x = pure x := by intro _; rfl) (hs1 : ∀ env x, foldedSetIterable iter1 env x = pure x := by intro _ _; rfl) :
    DS X C W (.Assign [.Name y py] (.ListComp elt [⟨tg, iter, [], 0⟩, ⟨tg1, iter1, ifs1, 0⟩] scope pos) spos) (sAsg (frz (fLc2 fi t fi1 t1 tst1 fe (own.map (·.2)) vs1)) (tgN i)) := by
  obtain ⟨wi, p, s⟩ := hi.ex
  refine ⟨_, ps_setLc2 (g := canG X.K is t) (tt := canT X.K C W0 bYes) (wi1 := canI X.K C W0 fi1) (g1 := canG X.K is1 t1) (tt1 := canT X.K C W0 tst1) (te := canE X.K C W0 fe) hc hN hy hyl hsw p ok hvo (fun s H D cl fp => (hg s H D cl fp).can) (fun s H D cl fp => dts_nil.run)
    (fun s H D cl fp => (hi1 s H D cl fp).can) (fun s H D cl fp => (hg1 s H D cl fp).can) (fun s H D cl fp => (ht1 s H D cl fp).run) (fun s H D cl fp => (he s H D cl fp).can) hs hs1, ?_⟩
  refine sm_asg (fun ρ S r S' h L σ H Q en so po => ?_) smg_n
  exact (sm_lc2 s hv hv1).bind h en so po fun ds S1 L1 H1 q vs h1 st1 so1 hq rs en1 po1 => po1.done (S0 := S1) h1 (step_new hq) (so1.laid hq) _ (new_lst so1 hq rs)
end
end Dk
set_option Elab.async false
set_option linter.all false
set_option maxRecDepth 100000
set_option maxHeartbeats 4000000
/-! while c: .. (no else); at most so many turns. -/
namespace Dk
open PySem PySem.Spec L2
def afterW (r : Option (Fl × Env1 × Sto)) (k : SS) : Option (Fl × Env1 × Sto) := match r with
  | none => none
  | some (.nx, ρ2, S2) => k ρ2 S2
  | some (.ct, ρ2, S2) => k ρ2 S2
  | some (.bk, ρ2, S2) => some (.nx, ρ2, S2)
  | some (.rt o, ρ2, S2) => some (.rt o, ρ2, S2)
  | some (.er e, ρ2, S2) => some (.er e, ρ2, S2)
def whileN (c : EB) (g : SS) : Nat → SS
  | 0 => fun _ _ => none
  | n + 1 => sB c fun b ρ S => if b = true then afterW (g ρ S) (whileN c g n) else some (.nx, ρ, S)
section
variable {K : PySem.W.Frag} {C : Str → Value} {W : WX} {tc : TT} {tb : TS} {c : EB} {g : SS}
theorem sm_while (n : Nat) (s : SmT K C W tc c) (s2 : SmS K C W tb g) : SmS K C W (tWhile tc tb) (whileN c g n) := fun ρ S fl ρ' S' h L σ H D en so po => by
  refine ⟨fun m σ2 H2 => ∃ L2 ρ2 S2, Step L H L2 H2 ∧ EnvR K L2 H2 σ2 ρ2 ∧ StoR K L2 H2 S2 ∧ whileN c g m ρ2 S2 = some (fl, ρ', S'), ⟨n, L, ρ, S, Step.refl, en, so, h⟩, ?_⟩
  rintro m σ2 H2 ⟨L2, ρ2, S2, st2, en2, so2, h2⟩
  cases m with
  | zero => cases h2
  | succ m =>
    unfold whileN at h2
    refine s.stm h2 en2 so2 (po.step st2) fun b S3 L3 H3 h3 st3 so3 en3 po3 => ?_
    cases b with
    | false =>
      simp only [Bool.false_eq_true, if_false] at h3
      cases h3
      show D.nx σ2 H3
      exact po3.nx rfl L3 H3 σ2 Step.refl so3 en3
    | true =>
      simp only [if_true] at h3
      show ∃ N : St → Hp → Prop, _ ∧ _
      refine ⟨fun σ' H' => ∃ L2 ρ2 S2, Step L H L2 H' ∧ EnvR K L2 H' σ' ρ2 ∧ StoR K L2 H' S2 ∧ whileN c g m ρ2 S2 = some (fl, ρ', S'), fun σ' H' ⟨L4, ρ4, S4, b1, b2, b3, b4⟩ => ⟨m, Nat.lt_succ_self m, L4, ρ4, S4, b1, b2, b3, b4⟩, ?_⟩
      have st23 := st2.trans st3
      unfold afterW at h3
      split at h3
      · cases h3
      · rename_i ρ4 S4 q4
        exact s2 ρ2 S3 _ _ _ q4 L3 σ2 H3 _ en3 so3 ⟨fun _ L' H' σ' st so' en' => ⟨L', ρ4, S4, st23.trans st, en', so', h3⟩, fun z => (nomatch z), fun z => (nomatch z), fun o z => (nomatch z), fun e z => (nomatch z)⟩
      · rename_i ρ4 S4 q4
        exact s2 ρ2 S3 _ _ _ q4 L3 σ2 H3 _ en3 so3 ⟨fun z => (nomatch z), fun z => (nomatch z), fun _ L' H' σ' st so' en' => ⟨L', ρ4, S4, st23.trans st, en', so', h3⟩, fun o z => (nomatch z), fun e z => (nomatch z)⟩
      · rename_i ρ4 S4 q4
        cases h3
        exact s2 ρ2 S3 _ _ _ q4 L3 σ2 H3 _ en3 so3 ⟨fun z => (nomatch z), fun _ L' H' σ' st so' en' => po3.nx rfl L' H' σ' st so' en', fun z => (nomatch z), fun o z => (nomatch z), fun e z => (nomatch z)⟩
      · rename_i o ρ4 S4 q4
        cases h3
        exact s2 ρ2 S3 _ _ _ q4 L3 σ2 H3 _ en3 so3 ⟨fun z => (nomatch z), fun z => (nomatch z), fun z => (nomatch z), fun o' z L' H' v st so' rv => po3.rt o' z L' H' v st so' rv, fun e z => (nomatch z)⟩
      · rename_i e ρ4 S4 q4
        cases h3
        exact s2 ρ2 S3 _ _ _ q4 L3 σ2 H3 _ en3 so3 ⟨fun z => (nomatch z), fun z => (nomatch z), fun z => (nomatch z), fun o' z => (nomatch z), fun e' z L' H' σ' cls d st so' en' x => po3.er e' z L' H' σ' cls d st so' en' x⟩
end
theorem ds_while {X : Cx} {C : Str → Value} {W : WX} {c : Expr} {body : List Stmt} {fc : EB} {g : SS} {pos : Pos} (n : Nat) (hp : PassesOwn (model X.prog X.w) X.A X.env X.xe) (hc : DT X C W c fc) (hb : DSs X C W body g) : DS X C W (.While c body [] pos) (whileN fc g n) := by
  obtain ⟨t, p, s⟩ := hc.ex
  obtain ⟨u, q, s2⟩ := hb.ex
  exact ⟨_, ps_while hp p q, sm_while n s s2⟩
/-! l.pop(i) of an owned list -/
theorem reps_erase {K : PySem.W.Frag} {G : Hp} : ∀ {vs : List V} {ds : List D} (k : Nat), Reps K G vs ds → Reps K G (vs.eraseIdx k) (ds.eraseIdx k)
  | _, _, _, .nil => .nil
  | _, _, 0, .cons h r => r
  | _, _, k + 1, .cons h r => .cons h (reps_erase k r)
def fPopAt (fo : E1) (fa : EL) : E1 := fun ρ S => (fo ρ S).bind fun o S1 => (viewL S1 o).bind fun _ => (fa ρ S1).bind fun as S2 => match o, as with
  | .own n, [.dat (.int i)] => match S2[n]? with
    | some (.list ds) => if ds.length ≤ 16777216 then (ixN ds.length i).bind fun j => (ds[j]?).bind fun d => ret (.dat d) (S2.set n (.list (ds.eraseIdx j))) else none
    | _ => none
  | _, _ => none
theorem de_popAt {X : Cx} {C : Str → Value} {W : WX} {o e : Expr} {fo : E1} {pos apos : Pos} (ho : DE X C W o fo) {fa : EL} (ha : DA X C W [e] fa)
    (hbase : attributeBase o "pop" X.env (eval o X.env) = eval o X.env := by rfl)
    (hfew : ((backTo pos (starEach [e] X.env)).all (fun x => !x.1) && (backToKw pos (keywordEach [] X.env)).all (fun x => x.1.isSome) && decide ([e].length + ([] : List Keyword).length + (if ([] : List Keyword).isEmpty then 0 else 1) < 30)) = true := by rfl)
    (hline : (apos.endLine == pos.line) = true := by rfl) (hs : starEach [e] X.env = (false, eval e X.env) :: starEach [] X.env := by rfl) (hplain : (backTo pos (starEach [] X.env)).any (·.1) = false := by rfl) :
    DE X C W (.Call (.Attribute o "pop" apos) [e] [] pos) (fPopAt fo fa) := by
  obtain ⟨t1, p1, s1⟩ := ho.ex
  obtain ⟨t2, q2, s2⟩ := ha.ex
  refine ⟨_, pe_bm PySem.F.plainAttrs_list PySem.F.slot_list_pop PySem.F.type_list_pop mt_popAt p1 q2 hbase hfew hline hs hplain, fun ρ S r S' h L σ H Q en so po => ?_⟩
  refine s1.bind h en so po fun y S1 L1 H1 u h1 st1 so1 r1 en1 po1 => ?_
  obtain ⟨ds0, e0, k0⟩ := opt_bind h1
  obtain ⟨a0, vs0, e00, m0, _⟩ := view_list (viewL_eq e0) r1 so1
  refine ⟨by rw [e00]; exact tyV_list m0, ?_⟩
  refine s2.bind k0 en1 so1 po1 fun as S2 L2 H2 ws h2 st2 so2 r2 en2 po2 => ?_
  split at h2
  · rename_i n i
    split at h2
    · rename_i ds hn
      split at h2
      · rename_i hz
        obtain ⟨j, e1, h3⟩ := opt_bind h2
        obtain ⟨d, e2, h4⟩ := opt_bind h3
        obtain ⟨a, vs, rfl, hL, hA, rs⟩ := own_list so2 (r1.step st2) hn
        obtain ⟨v, rfl, rv⟩ := reps_one r2
        cases rv
        obtain ⟨x1, x2, x3, x4⟩ := ixN_seq e1
        have hl := rs.length
        obtain ⟨w, e3, rw'⟩ := rs.at_ e2
        obtain ⟨k1, k2⟩ := so2.write (o := .lst (vs.eraseIdx j)) hL (d := .list (ds.eraseIdx j)) ⟨_, upd_same, reps_erase j rs⟩ (nf_of hA)
        exact ⟨a, vs, i, j, w, rfl, rfl, hA, by omega, by omega, by rw [hl]; exact x1, e3, po2.done (S0 := S2.set n (.list (ds.eraseIdx j))) h4 k1 k2 _ (rw'.mono k1.frz)⟩
      · cases h2
    · cases h2
  · cases h2
end Dk
set_option Elab.async false
set_option linter.all false
set_option maxRecDepth 100000
set_option maxHeartbeats 4000000
/-! tuple(range(n)), list(range(n)). -/
namespace Dk
open PySem PySem.Spec L2
def rgD (n : Int) : List D := (List.range n.toNat).map fun i : Nat => .int (i : Int)
def fTupRg (fa : E1) : E1 := fun ρ S => (fa ρ S).bind fun a S1 => match a with
  | .dat (.int n) => if 0 ≤ n ∧ n ≤ 1000 then ret (.dat (.tuple (rgD n))) S1 else none
  | _ => none
def fLstRg (fa : E1) : EF := fun ρ S => (fa ρ S).bind fun a S1 => match a with
  | .dat (.int n) => if 0 ≤ n ∧ n ≤ 1000 then ret (rgD n) S1 else none
  | _ => none
theorem rg_reps {K : PySem.W.Frag} {G : Hp} (n : Int) : Reps K G (rgV 0 n) (rgD n) := by
  have e : ∀ l : List Nat, Reps K G (l.map fun k : Nat => V.int (0 + (k : Int))) (l.map fun i : Nat => .int (i : Int)) := fun l => by
    induction l with
    | nil => exact .nil
    | cons k r ih =>
      refine .cons ?_ ih
      show Rep K G (.int (0 + (k : Int))) (.int (k : Int))
      rw [Int.zero_add]
      exact .int _
  have := e (List.range n.toNat)
  unfold rgV rgD
  simpa using this
section
variable {X : Cx} {C : Str → Value} {W : WX} {e : Expr} {fe : E1} {p p2 pos pos2 : Pos}
theorem de_tupRg (hc : X.calm = true) (hg : Gl X "tuple") (hm : X.mg "tuple" = none) (hg2 : Gl X "range") (hm2 : X.mg "range" = none) (ha : DE X C W e fe) (na : starEach [e] X.env = (false, eval e X.env) :: starEach [] X.env := by rfl)
    (na2 : starEach [.Call (.Name "range" p2) [e] [] pos2] X.env = (false, eval (.Call (.Name "range" p2) [e] [] pos2) X.env) :: starEach [] X.env := by rfl) : DE X C W (.Call (.Name "tuple" p) [.Call (.Name "range" p2) [e] [] pos2] [] pos) (fTupRg fe) := by
  obtain ⟨t, pa, s⟩ := ha.ex
  refine ⟨_, pe_tupRg hc hg hm (prg_1 hg2 hm2 pa na) na2, fun ρ S r S' h L σ H Q en so po => ?_⟩
  refine s.bind h en so po fun a S1 L1 H1 v h1 st1 so1 r1 en1 po1 => ?_
  split at h1
  · rename_i n
    split at h1
    · rename_i hz
      cases r1
      refine ⟨n, rfl, ?_, fun q hq => po1.done (S0 := S1) h1 (step_new hq) (so1.laid hq) _ (new_tup so1 hq (rg_reps n))⟩
      exact RgOk.of_le (Int.le_refl 0) (by omega) (by decide) hz.1
    · cases h1
  · cases h1
theorem df_lstRg (hc : X.calm = true) (hg : Gl X "list") (hm : X.mg "list" = none) (hg2 : Gl X "range") (hm2 : X.mg "range" = none) (ha : DE X C W e fe) (na : starEach [e] X.env = (false, eval e X.env) :: starEach [] X.env := by rfl)
    (na2 : starEach [.Call (.Name "range" p2) [e] [] pos2] X.env = (false, eval (.Call (.Name "range" p2) [e] [] pos2) X.env) :: starEach [] X.env := by rfl) : DF X C W (.Call (.Name "list" p) [.Call (.Name "range" p2) [e] [] pos2] [] pos) (fLstRg fe) := by
  obtain ⟨t, pa, s⟩ := ha.ex
  refine ⟨_, pe_listRg hc hg hm (prg_1 hg2 hm2 pa na) na2, fun ρ S r S' h L σ H Q en so po => ?_⟩
  refine s.bind h en so po fun a S1 L1 H1 v h1 st1 so1 r1 en1 po1 => ?_
  split at h1
  · rename_i n
    split at h1
    · rename_i hz
      cases r1
      refine ⟨n, rfl, ?_, fun q hq => po1.done (S0 := S1) h1 Step.refl so1 q _ hq (rg_reps n)⟩
      exact RgOk.of_le (Int.le_refl 0) (by omega) (by decide) hz.1
    · cases h1
  · cases h1
end
/-- a def of which nothing is told: the ground of a recursion -/
theorem fn_void {P : Program} {w : World} {K : PySem.W.Frag} {mg : Str → Option Value} {base : Heap} {C : Str → Value} {x qual : Str} {st : Stmt} {f : Addr} {fd : FuncData} {ps : List Str} {k : Nat} (F : Fun K x qual st f fd) (hm : mg x = some (.ref f)) (hb : Binds K fd ps []) :
    FnD P w K mg base C k x ps.length (fun _ _ => none) := by
  refine ⟨f, fd, ps, rfl, hm, F.kp, hb, fun vs H Q E h => ?_, fun A outer s H args us vs Q E hr e0 hbd hv h => ?_⟩
  · obtain ⟨os, L, S, r, S', _, _, _, z, _⟩ := h
    cases z
  · obtain ⟨os, L, S, r, S', _, _, _, z, _⟩ := h
    cases z
end Dk
set_option Elab.async false
set_option linter.all false
set_option maxRecDepth 100000
set_option maxHeartbeats 4000000
/-! sorted of at most one item (any data but None). -/
namespace Dk
open PySem PySem.Spec PySem.W PyProof.Rows
theorem sortsAt_few {prog : Program} {w : World} {A : Around} {s : Shared} {vs : List Value} {ds : List PyData} (e : EachIs (fun v d => ∃ as, Reads s.heap v d as) vs ds) (hal : AllAlike ds) (few : ds.length ≤ 1) (nn : ∀ d ∈ ds, d ≠ .none)
    (hu : ∀ d, d ∈ ds → A.units + d.depth < cLine) : SortsAt prog w A s (dataKind s.heap ds) vs := by
  refine ⟨fun v hv => ?_, general', fun E x y a b Q ha hb hq => ?_, fun h2 => absurd h2 ?_⟩
  · obtain ⟨d, hd, as, r⟩ := e.left v hv
    exact ⟨_, dataKind_some hal hd r⟩
  · obtain ⟨d, as, hd, ra, rfl⟩ := dataKind_inv ha
    obtain ⟨d', as', hd', rb, rfl⟩ := dataKind_inv hb
    exact oneLt_alike (f := false) (fun z => (nomatch z)) ra rb (hal d hd d' hd') (nn d hd) (Nat.lt_of_le_of_lt (Nat.add_le_add_left (Nat.min_le_left _ _) _) (hu d hd)) hq
  · have := e.length
    omega
end Dk
namespace Dk
open PySem PySem.Spec L2
def sort1S (S : Sto) (os : List OV) : Option (List D) := match os with
  | [o] => (viewL S o).bind fun ds => if PyData.canLayAll0 ds = true ∧ alikeB ds = true ∧ ds.length ≤ 1 ∧ (ds.all fun d => !isNoneD d) = true ∧ (∀ d ∈ ds, d.depth ≤ 64) then some ds else none
  | _ => none
theorem rc_sorted1 {X : Cx} {k : Nat} (hr : Room k X.A) : CallR X (.builtin "sorted") (rOfF X.K sort1S) := by
  intro pins s σ H xs us Q I r h
  obtain ⟨L, S, os, ds', so, ro, e, q⟩ := h
  unfold sort1S at e
  split at e
  · obtain ⟨v, rfl, rv⟩ := reps_one ro
    obtain ⟨ds, e1, e2⟩ := opt_bind e
    split at e2
    · rename_i hz
      obtain ⟨hlay, hal, few, nn, hdp⟩ := hz
      obtain rfl := Option.some.inj e2
      obtain ⟨a, vs, rfl, m, rs⟩ := view_list (viewL_eq e1) rv so
      obtain ⟨u, rfl, ru⟩ := Vals.one r
      cases ru
      obtain ⟨its, vr, pl, hlen⟩ := I.list m
      have dp : DpAll X.K H vs ds := Reps.dp (rs.mono (mask_same L H)) hlay
      obtain ⟨as, rd⟩ := Dp.readsAll I ds vs its dp vr
      obtain ⟨z1, z2, z3⟩ := reps_zip rs
      have hl := rs.length
      have er0 := reads_each (vs := vs) hl rd
      have er1 : PySem.W.EachIs (fun v (b : V × D) => ∃ as, Reads (PySem.W.sortingHeap (PySem.W.copyHeap s.heap its) (s.heap.objs.size + 1) its) v b.2 as) its (vs.zip ds) := er0.mono fun _ _ ⟨as, r⟩ => ⟨as, PyProof.Rows.Reads.keeps (fun _ _ => PySem.W.sorting_copy_old) r⟩
      have er2 := PySem.W.each_map (R := fun v d => ∃ as, Reads (PySem.W.sortingHeap (PySem.W.copyHeap s.heap its) (s.heap.objs.size + 1) its) v d as) (Prod.snd : V × D → D) er1
      have hal' : PySem.W.AllAlike ((vs.zip ds).map Prod.snd) := by rw [z2]; exact alikeB_ok hal
      have key := sortsAt_few (prog := X.prog) (w := X.w) (A := X.A.in1.in1) (s := { s with heap := PySem.W.sortingHeap (PySem.W.copyHeap s.heap its) (s.heap.objs.size + 1) its }) er2 hal' (by rw [z2]; exact few)
        (fun d hd z => by rw [z2] at hd; have := List.all_eq_true.mp nn d hd; rw [z] at this; cases this)
        (fun d hd => by rw [z2] at hd; have := hdp d hd; have := hr.un; show X.A.units + 2 + d.depth < cLine; omega)
      refine PySem.W.sorted_vals pl.isList key (by rw [← vr.length]; exact hlen) ?_
      have er := PySem.W.sortVals_data (R := fun u (p : V × D) => RelV p.1 u) (enc := Prod.snd) false (vals_each rs vr) er1 hal'
      have one : (vs.zip ds).mergeSort (PySem.W.dataLe false Prod.snd) = vs.zip ds := by
        have l1 : (vs.zip ds).length ≤ 1 := by rw [z3]; exact few
        match vs.zip ds, l1 with
        | [], _ => simp
        | [x], _ => simp
      rw [one] at er
      have vals2 := each_vals er
      have rs2 := zip_reps (l := vs.zip ds) z1
      rw [z2] at rs2
      generalize PySem.W.sortVals _ false its its = out at vals2 ⊢
      obtain ⟨c, hc⟩ := PyProof.Rows.sortedAll_at s.heap its out.toArray
      have hf : H (s.heap.objs.size + 1) = none := I.hok.fresh (Nat.le_succ _)
      have J := I.laid (a := s.heap.objs.size + 1) (o := .lst ((vs.zip ds).map Prod.fst)) (h' := PyProof.Rows.sortedAll s.heap its out.toArray) (t' := s.toks) (fun b u e => PyProof.Rows.sortedAll_old e) (Nat.le_succ _)
        ⟨by rw [rs2.length, ← hl]; exact hlen, out, c, vals2, hc⟩
      exact ⟨.ref (s.heap.objs.size + 1), _, J, rfl, q _ _ hf rs2⟩
    · cases e2
  · cases e
/-- sorted: at most one item, or more -/
def sortA (S : Sto) (os : List OV) : Option (List D) := match sort1S S os with
  | some ds => some ds
  | none => sortS S os
theorem rc_sortedA {X : Cx} {k : Nat} (hr : Room k X.A) : CallR X (.builtin "sorted") (rOfF X.K sortA) := by
  intro pins s σ H xs us Q I r h
  obtain ⟨L, S, os, ds, so, ro, e, q⟩ := h
  unfold sortA at e
  cases e1 : sort1S S os with
  | some d1 =>
    rw [e1] at e
    exact rc_sorted1 hr pins s σ H xs us Q I r ⟨L, S, os, ds, so, ro, e1.trans e, q⟩
  | none =>
    rw [e1] at e
    exact rc_sorted hr pins s σ H xs us Q I r ⟨L, S, os, ds, so, ro, e, q⟩
end Dk
set_option Elab.async false
set_option linter.all false
set_option maxRecDepth 100000
set_option maxHeartbeats 4000000
/-! Dicts: asked, written, made of pairs. -/
namespace Dk
open PySem PySem.Spec L2 PyProof.Rows
section
variable {K : PySem.W.Frag} {G H : Hp} {L : List Addr} {S : Sto}
theorem rep_kV {v : V} {k : L2.Key} (r : Rep K G v (keyD k)) : v = kV k := by
  cases k with
  | inl i => cases (show Rep K G v (.int i) from r); rfl
  | inr x => cases (show Rep K G v (.str x) from r); rfl
theorem reps_kVs : ∀ {ks : List L2.Key} {vs : List V}, Reps K G vs (ks.map keyD) → vs = ks.map kV
  | [], vs, r => by cases (show Reps K G vs [] from r); rfl
  | k :: ks, vs, r => by
    cases (show Reps K G vs (keyD k :: ks.map keyD) from r) with
    | cons h t => rw [rep_kV h, reps_kVs t]; rfl
theorem view_key {v : V} {k : L2.Key} {o : OV} (e : view S o = some (keyD k)) (r : RepO K L H v o) (s : StoR K L H S) : v = kV k := by
  cases k with
  | inl i => exact view_int e r s
  | inr x => exact view_str e r s
theorem view_tupH {v : V} {ds : List D} : ∀ {o : OV}, view S o = some (.tuple ds) → RepO K L H v o → StoR K L H S → ∃ a vs, v = .ref a ∧ H a = some (.tup vs) ∧ Reps K (mask L H) vs ds
  | .dat d, e, r, s => by
    cases e
    cases r with
    | tup h1 h2 => exact ⟨_, _, rfl, mask_same L H _ _ h1, h2⟩
  | .own n, e, ⟨a, h1, h2⟩, s => (s.obj n a _ h2 e : ObjR K (mask L H) H a (.tuple ds)).elim
def DictAt (K : PySem.W.Frag) (G H : Hp) (p : Addr) (kvs : List (D × D)) : Prop :=
  (∃ (ks : List L2.Key) (vs : List V) (ds : List D), ks.length = vs.length ∧ H p = some (.dK (ks.zip vs)) ∧ Reps K G vs ds ∧ kvs = (ks.map keyD).zip ds) ∨
  (∃ (ks : List (List L2.Key)) (vs : List V) (ds : List D), ks.length = vs.length ∧ H p = some (.dT (ks.zip vs)) ∧ Reps K G vs ds ∧ kvs = (ks.map keysD).zip ds) ∨
  (∃ (ob : Obj) (ks : List L2.Key) (vs : List V) (ds : List D), ks.length = vs.length ∧ H p = some (.frz ob (.dK (ks.zip vs))) ∧ Reps K G vs ds ∧ kvs = lockD :: (ks.map keyD).zip ds) ∨
  (∃ (ob : Obj) (ks : List (List L2.Key)) (vs : List V) (ds : List D), ks.length = vs.length ∧ H p = some (.frz ob (.dT (ks.zip vs))) ∧ Reps K G vs ds ∧ kvs = lockD :: (ks.map keysD).zip ds) ∨
  ∃ y, kvs = [(.none, y)]
theorem op_no {y k : D} (c : (isK1 k = true ∧ ([(PyData.none, y)] : List (D × D)).all fun p => isK1 p.1) ∨ (isKT k = true ∧ ([(PyData.none, y)] : List (D × D)).all fun p => isKT p.1)) : False := by
  rcases c with ⟨_, c⟩ | ⟨_, c⟩ <;> simp [isK1, isKT] at c
theorem lock_no {r : List (D × D)} {k : D} (c : (isK1 k = true ∧ (lockD :: r).all fun p => isK1 p.1) ∨ (isKT k = true ∧ (lockD :: r).all fun p => isKT p.1)) : False := by
  rcases c with ⟨_, c⟩ | ⟨_, c⟩ <;> simp [lockD, isK1, isKT] at c
theorem dict_at {v : V} {kvs : List (D × D)} : ∀ {o : OV}, view S o = some (.dict kvs) → RepO K L H v o → StoR K L H S → ∃ p, v = .ref p ∧ DictAt K (mask L H) H p kvs
  | .dat d, e, r, s => by
    cases e
    cases r with
    | dk hl h r => exact ⟨_, rfl, .inl ⟨_, _, _, hl, mask_same L H _ _ h, r, rfl⟩⟩
    | dt hl h r => exact ⟨_, rfl, .inr (.inl ⟨_, _, _, hl, mask_same L H _ _ h, r, rfl⟩)⟩
    | op h =>
      obtain ⟨a, rfl⟩ := h.ref
      exact ⟨_, rfl, .inr (.inr (.inr (.inr ⟨_, rfl⟩)))⟩
  | .own n, e, ⟨a, h1, h2⟩, s => ⟨a, h1, by
    rcases (s.obj n a _ h2 e : ObjR K (mask L H) H a (.dict kvs)) with ⟨ks, vs, ds, k1, k2, k3, k4, _⟩ | h | ⟨ob, ks, vs, ds, k1, k2, k3, k4, _⟩ | h
    · exact .inl ⟨ks, vs, ds, k1, k2, k3, k4⟩
    · exact .inr (.inl h)
    · exact .inr (.inr (.inl ⟨ob, ks, vs, ds, k1, k2, k3, k4⟩))
    · exact .inr (.inr (.inr (.inl h)))⟩
theorem isK1_ex {d : D} (h : isK1 d = true) : ∃ k, d = keyD k := by
  cases d with
  | int i => exact ⟨.inl i, rfl⟩
  | str x => exact ⟨.inr x, rfl⟩
  | _ => cases h
theorem isKT_ex {d : D} (h : isKT d = true) : ∃ ks, d = keysD ks := by
  cases d with
  | tuple ds =>
    obtain ⟨ks, e⟩ := Option.isSome_iff_exists.mp (show (keysOf ds).isSome = true from h)
    exact ⟨ks, by rw [keysOf_eq e]; rfl⟩
  | _ => cases h
theorem keysOf_map : ∀ ks : List L2.Key, keysOf (ks.map keyD) = some ks
  | [] => rfl
  | k :: ks => by
    have h1 : keyOf1 (keyD k) = some k := by cases k <;> rfl
    show (keyOf1 (keyD k)).bind (fun k => (keysOf (ks.map keyD)).map (k :: ·)) = _
    rw [h1, keysOf_map ks]
    rfl
theorem isKT_keys (ks : List L2.Key) : isKT (keysD ks) = true := by
  show (keysOf (ks.map keyD)).isSome = true
  rw [keysOf_map]
  rfl
theorem isKT_key (k : L2.Key) : isKT (keyD k) = false := by cases k <;> rfl
theorem isK1_key (k : L2.Key) : isK1 (keyD k) = true := by cases k <;> rfl
theorem zip_fst {κ : Type} {f : κ → D} {ks : List κ} {ds : List D} {q : D × D} (h : q ∈ (ks.map f).zip ds) : ∃ k, q.1 = f k := by
  obtain ⟨a, b⟩ := q
  obtain ⟨k, _, e⟩ := List.mem_map.mp (List.of_mem_zip h).1
  exact ⟨k, e.symm⟩
theorem valD_mem {kvs : List (D × D)} {k d : D} (h : valD kvs k = some d) : ∃ q, q ∈ kvs := by
  unfold valD at h
  cases e : kvs.find? fun p => PyData.eqv p.1 k with
  | none => rw [e] at h; cases h
  | some q => exact ⟨q, List.mem_of_find?_eq_some e⟩
/-- which kind of dict it is -/
theorem kind1 {kvs : List (D × D)} {k : D} {κ : Type} {f : κ → D} {ks : List κ} {ds : List D} (e : kvs = (ks.map f).zip ds) (hne : ∃ q, q ∈ kvs) (hf : ∀ a, isK1 (f a) = false) (c : (isK1 k = true ∧ kvs.all fun p => isK1 p.1) ∨ (isKT k = true ∧ kvs.all fun p => isKT p.1)) : isKT k = true := by
  rcases c with ⟨_, c⟩ | ⟨c, _⟩
  · obtain ⟨q, hq⟩ := hne
    have h1 := List.all_eq_true.mp c q hq
    rw [e] at hq
    obtain ⟨a, ha⟩ := zip_fst hq
    rw [ha, hf] at h1
    cases h1
  · exact c
theorem kind2 {kvs : List (D × D)} {k : D} {κ : Type} {f : κ → D} {ks : List κ} {ds : List D} (e : kvs = (ks.map f).zip ds) (hne : ∃ q, q ∈ kvs) (hf : ∀ a, isKT (f a) = false) (c : (isK1 k = true ∧ kvs.all fun p => isK1 p.1) ∨ (isKT k = true ∧ kvs.all fun p => isKT p.1)) : isK1 k = true := by
  rcases c with ⟨c, _⟩ | ⟨_, c⟩
  · exact c
  · obtain ⟨q, hq⟩ := hne
    have h1 := List.all_eq_true.mp c q hq
    rw [e] at hq
    obtain ⟨a, ha⟩ := zip_fst hq
    rw [ha, hf] at h1
    cases h1
theorem isK1_keys (ks : List L2.Key) : isK1 (keysD ks) = false := rfl
/-- a key that is held, as the dict has it -/
theorem key_tup {y : V} {o : OV} {k : List L2.Key} (e : view S o = some (keysD k)) (r : RepO K L H y o) (s : StoR K L H S) : ∃ b, y = .ref b ∧ H b = some (.tup (k.map kV)) := by
  obtain ⟨a, vs, rfl, h1, h2⟩ := view_tupH (show view S o = some (.tuple (k.map keyD)) from e) r s
  rw [reps_kVs h2] at h1
  exact ⟨a, rfl, h1⟩
theorem dget_ok {kvs : List (D × D)} {kd d : D} {p : Addr} {y : V} {o : OV} (h : dgetD kvs kd = some d) (D0 : DictAt K (mask L H) H p kvs) (e : view S o = some kd) (r : RepO K L H y o) (s : StoR K L H S) : ∃ v, DGet H p y (some v) ∧ Rep K (mask L H) v d := by
  unfold dgetD at h
  split at h
  · rename_i c
    have hne := valD_mem h
    rcases D0 with ⟨ks, vs, ds, hl, hp, rs, e2⟩ | ⟨ks, vs, ds, hl, hp, rs, e2⟩ | ⟨ob, ks, vs, ds, hl, hp, rs, e2⟩ | ⟨ob, ks, vs, ds, hl, hp, rs, e2⟩ | ⟨y0, e2⟩
    rotate_left 2
    · rw [e2] at c; exact (lock_no c).elim
    · rw [e2] at c; exact (lock_no c).elim
    · rw [e2] at c; exact (op_no c).elim
    · obtain ⟨k, rfl⟩ := isK1_ex (kind2 e2 hne isKT_key c)
      rw [e2] at h
      obtain ⟨v, h1, h2⟩ := (valD_rep keyD eqv_key k hl rs).1 d h
      refine ⟨v, ?_, h2⟩
      rw [view_key e r s, ← h1]
      exact DGet.k hp
    · obtain ⟨k, rfl⟩ := isKT_ex (kind1 e2 hne isK1_keys c)
      rw [e2] at h
      obtain ⟨v, h1, h2⟩ := (valD_rep keysD eqv_keys k hl rs).1 d h
      obtain ⟨b, rfl, hb⟩ := key_tup e r s
      refine ⟨v, ?_, h2⟩
      rw [← h1]
      exact DGet.t hp hb
  · cases h
end
section
variable {X : Cx} {C : Str → Value} {W : WX} {a b : Expr} {pos : Pos} {fa fb : E1}
theorem ri_ixA (hu : X.A.units + 1 < cLine) : IxR X (rOf X.K ixA) := by
  intro value slice pins s σ H x y v u Q I rx ry h hs
  obtain ⟨L, S, a, b, d, so, ra, rb, e, q⟩ := h
  unfold ixA at e
  split at e
  · rename_i kvs h1
    obtain ⟨p, rfl, D0⟩ := dict_at h1 ra so
    obtain ⟨kd, e1, e2⟩ := opt_bind e
    obtain ⟨w, g, rw'⟩ := dget_ok e2 D0 e1 rb so
    obtain rfl : v = Value.ref p := rx
    refine tail_any (dict_typeIs I g) PySem.F.slot_dict_getitem.lookup (d_getItem hu I g ry fun w' s' I' r' => ⟨w, H, I', r', q _ _ Step.refl so rw'⟩) hs
  · exact ri_ix value slice pins s σ H x y v u Q I rx ry ⟨L, S, a, b, d, so, ra, rb, e, q⟩ hs
theorem de_ixA (hu : X.A.units + 1 < cLine) (ha : DE X C W a fa) (hb : DE X C W b fb) (hs : PlainIx b) : DE X C W (.Subscript a b pos) (op2 ixA fa fb) := by
  obtain ⟨ta, p1, s1⟩ := ha.ex
  obtain ⟨tb, p2, s2⟩ := hb.ex
  exact ⟨_, pe_ix (ri_ixA hu) p1 p2 hs, sm_op s1 s2⟩
end
theorem hu2_of {A : Around} {k : Nat} (hr : Room k A) : A.units + 2 < cLine := Nat.lt_of_le_of_lt (Nat.add_le_add_left (by decide : 2 ≤ 64) _) hr.units
/-! ### stores -/
inductive RepKv {κ : Type} (K : PySem.W.Frag) (G : Hp) (f : κ → D) : List (κ × V) → List (D × D) → Prop
  | nil : RepKv K G f [] []
  | cons {k : κ} {v : V} {d : D} {xs : List (κ × V)} {ys : List (D × D)} : Rep K G v d → RepKv K G f xs ys → RepKv K G f ((k, v) :: xs) ((f k, d) :: ys)
def putD (kvs : List (D × D)) (k v : D) : List (D × D) := if (kvs.any fun p => PyData.eqv p.1 k) = true then kvs.map (fun p => if PyData.eqv p.1 k = true then (p.1, v) else p) else kvs ++ [(k, v)]
section
variable {κ : Type} {K : PySem.W.Frag} {G G' H : Hp} {f : κ → D}
theorem RepKv.of : ∀ {ks : List κ} {vs : List V} {ds : List D}, ks.length = vs.length → Reps K G vs ds → RepKv K G f (ks.zip vs) ((ks.map f).zip ds)
  | [], [], _, _, .nil => .nil
  | [], _ :: _, _, hl, _ => (by simp at hl)
  | _ :: _, [], _, hl, _ => (by simp at hl)
  | k :: ks, v :: vs, _, hl, r => by
    cases r with
    | cons h t => exact .cons h (RepKv.of (by simpa using hl) t)
theorem RepKv.out {xs : List (κ × V)} {ys : List (D × D)} (r : RepKv K G f xs ys) : ∃ (ks : List κ) (vs : List V) (ds : List D), ks.length = vs.length ∧ xs = ks.zip vs ∧ Reps K G vs ds ∧ ys = (ks.map f).zip ds := by
  induction r with
  | nil => exact ⟨[], [], [], rfl, rfl, .nil, rfl⟩
  | cons h t ih =>
    obtain ⟨ks, vs, ds, h1, rfl, h3, rfl⟩ := ih
    exact ⟨_ :: ks, _ :: vs, _ :: ds, by simp [h1], rfl, .cons h h3, rfl⟩
theorem RepKv.mono (e : Same G G') {xs : List (κ × V)} {ys : List (D × D)} (r : RepKv K G f xs ys) : RepKv K G' f xs ys := by
  induction r with
  | nil => exact .nil
  | cons h t ih => exact .cons (h.mono e) ih
theorem RepKv.length {xs : List (κ × V)} {ys : List (D × D)} (r : RepKv K G f xs ys) : xs.length = ys.length := by
  induction r with
  | nil => rfl
  | cons h t ih => simp [ih]
theorem RepKv.put [DecidableEq κ] (hf : ∀ a b, PyData.eqv (f a) (f b) = decide (a = b)) {xs : List (κ × V)} {ys : List (D × D)} (r : RepKv K G f xs ys) (k : κ) {v : V} {d : D} (rv : Rep K G v d) : RepKv K G f (putK xs k v) (putD ys (f k) d) := by
  have e1 : (xs.any fun kv => decide (kv.1 = k)) = (ys.any fun p => PyData.eqv p.1 (f k)) := by
    induction r with
    | nil => rfl
    | cons h t ih => simp [hf, ih]
  have e2 : RepKv K G f (xs.map fun kv => if kv.1 = k then (kv.1, v) else kv) (ys.map fun p => if PyData.eqv p.1 (f k) = true then (p.1, d) else p) := by
    clear e1
    induction r with
    | nil => exact .nil
    | @cons k' v' d' xs ys h t ih =>
      rw [List.map_cons, List.map_cons]
      by_cases c : k' = k
      · have c2 : PyData.eqv (f k') (f k) = true := by rw [hf]; simpa using c
        simp only [if_pos c, if_pos c2]
        exact .cons rv ih
      · have c2 : ¬ PyData.eqv (f k') (f k) = true := by rw [hf]; simpa using c
        simp only [if_neg c, if_neg c2]
        exact .cons h ih
  have e3 : RepKv K G f (xs ++ [(k, v)]) (ys ++ [(f k, d)]) := by
    clear e1 e2
    induction r with
    | nil => exact .cons rv .nil
    | cons h t ih => exact .cons h ih
  unfold putK putD
  rw [e1]
  split
  · exact e2
  · exact e3
end
def dputD (kvs : List (D × D)) (k v : D) : Option (List (D × D)) := if kvs.length < sizeLine ∧ kvs ≠ [] ∧ ((isK1 k = true ∧ kvs.all fun p => isK1 p.1) ∨ (isKT k = true ∧ kvs.all fun p => isKT p.1)) then some (putD kvs k v) else none
theorem ne_mem {α : Type} {l : List α} (h : l ≠ []) : ∃ q, q ∈ l := by
  cases l with
  | nil => exact absurd rfl h
  | cons a r => exact ⟨a, by simp⟩
section
variable {K : PySem.W.Frag} {H : Hp} {L : List Addr} {S : Sto}
/-- a store into an owned dict -/
theorem dput_ok {kvs kvs' : List (D × D)} {kd d : D} {p : Addr} {y v : V} {o : OV} {n : Nat} (h : dputD kvs kd d = some kvs') (so : StoR K L H S) (hL : L[n]? = some p) (hS : S[n]? = some (.dict kvs)) (e : view S o = some kd) (r : RepO K L H y o) (rv : Rep K (mask L H) v d) :
    ∃ H', DPut H p y v H' ∧ Step L H L H' ∧ StoR K L H' (S.set n (.dict kvs')) := by
  have D0 : ObjR K (mask L H) H p (.dict kvs) := so.obj n p _ hL hS
  unfold dputD at h
  split at h
  · rename_i c
    obtain ⟨c1, c2, c3⟩ := c
    cases h
    have hne := ne_mem c2
    rcases D0 with ⟨ks, vs, ds, hl, hp, rs, e2, _⟩ | ⟨ks, vs, ds, hl, hp, rs, e2⟩ | ⟨ob, ks, vs, ds, hl, hp, rs, e2, _⟩ | ⟨ob, ks, vs, ds, hl, hp, rs, e2⟩
    rotate_left 2
    · rw [e2] at c3; exact (lock_no c3).elim
    · rw [e2] at c3; exact (lock_no c3).elim
    · obtain ⟨k, rfl⟩ := isK1_ex (kind2 e2 hne isKT_key c3)
      have rk : RepKv K (mask L H) keyD (ks.zip vs) kvs := by rw [e2]; exact RepKv.of hl rs
      obtain ⟨ks', vs', ds', h1, h2, h3, h4⟩ := (rk.put eqv_key k rv).out
      have hz : (ks.zip vs).length < sizeLine := by rw [rk.length]; exact c1
      have hk' : ks' ≠ [] := by
        rintro rfl
        have h5 : putD kvs (keyD k) d = [] := h4
        unfold putD at h5
        split at h5
        · rename_i c5
          cases kvs with
          | nil => cases c5
          | cons x r => cases h5
        · simp at h5
      obtain ⟨w1, w2⟩ := so.write (o := .dK (putK (ks.zip vs) k v)) hL (d := .dict (putD kvs (keyD k) d)) (.inl ⟨ks', vs', ds', h1, by rw [upd_same, h2], h3, h4, hk'⟩) (nf_of hp)
      refine ⟨_, ?_, w1, w2⟩
      rw [view_key e r so]
      exact DPut.k hp hz
    · obtain ⟨k, rfl⟩ := isKT_ex (kind1 e2 hne isK1_keys c3)
      have rk : RepKv K (mask L H) keysD (ks.zip vs) kvs := by rw [e2]; exact RepKv.of hl rs
      obtain ⟨ks', vs', ds', h1, h2, h3, h4⟩ := (rk.put eqv_keys k rv).out
      have hz : (ks.zip vs).length < sizeLine := by rw [rk.length]; exact c1
      obtain ⟨w1, w2⟩ := so.write (o := .dT (putK (ks.zip vs) k v)) hL (d := .dict (putD kvs (keysD k) d)) (.inr (.inl ⟨ks', vs', ds', h1, by rw [upd_same, h2], h3, h4⟩)) (nf_of hp)
      obtain ⟨b, rfl, hb⟩ := key_tup e r so
      exact ⟨_, DPut.t hp hb hz, w1, w2⟩
  · cases h
end
def sPutA (fo fi fe : E1) : SS := sE fe fun v => sE fo fun o => sE fi fun i ρ S => match v, o with
  | .dat d, .own n => match S[n]? with
    | some (.dict kvs) => (view S i).bind fun k => (dputD kvs k d).bind fun kvs' => some (.nx, ρ, S.set n (.dict kvs'))
    | _ => none
  | _, _ => none
section
variable {X : Cx} {C : Str → Value} {W : WX} {o i e : Expr} {fo fi fe : E1} {pos p2 : Pos}
theorem ds_putA (hu : X.A.units + 1 < cLine) (ho : DE X C W o fo) (hi : DE X C W i fi) (he : DE X C W e fe) (hs : swapsWith e (some (.Subscript o i p2)) pos.line X.env = pure false := by rfl) : DS X C W (.Assign [.Subscript o i p2] e pos) (sPutA fo fi fe) := by
  obtain ⟨t1, p1, s1⟩ := ho.ex
  obtain ⟨t2, q2, s2⟩ := hi.ex
  obtain ⟨t3, p3, s3⟩ := he.ex
  refine ⟨_, ps_dput hu p1 q2 p3 hs, fun ρ S fl ρ' S' h L σ H D en so po => ?_⟩
  refine s3.stm h en so po fun x S1 L1 H1 v h1 st1 so1 r1 en1 po1 => ?_
  refine s1.stm h1 en1 so1 po1 fun y S2 L2 H2 u h2 st2 so2 r2 en2 po2 => ?_
  refine s2.stm h2 en2 so2 po2 fun z S3 L3 H3 w h3 st3 so3 r3 en3 po3 => ?_
  split at h3
  · rename_i d n
    split at h3
    · rename_i kvs hn
      obtain ⟨k, e1, h4⟩ := opt_bind h3
      obtain ⟨kvs', e2, h5⟩ := opt_bind h4
      cases h5
      obtain ⟨a, ea, hL⟩ := r2.step st3
      have rd := (r1.step st2).step st3
      obtain ⟨H4, g, k1, k2⟩ := dput_ok e2 so3 hL hn e1 r3 rd
      exact ⟨a, H4, ea, g, po3.nx rfl L3 _ σ k1 k2 (en3.step k1)⟩
    · cases h3
  · cases h3
end
/-! ### dict(a list of pairs whose keys are tuples) -/
def pairsT : List D → Option (List (D × D))
  | [] => some []
  | .tuple [k, v] :: r => if isKT k = true then (pairsT r).map ((k, v) :: ·) else none
  | _ => none
def mergeD (kvs : List (D × D)) : List (D × D) := kvs.foldl (fun acc p => putD acc p.1 p.2) []
/-- a pair of the list: its tuple, its key's tuple, the key, the value -/
abbrev Ent := Addr × Addr × List L2.Key × V
section
variable {K : PySem.W.Frag} {G H : Hp} {L : List Addr} {S : Sto}
theorem pairs_ents : ∀ {vs : List V} {ds : List D} {kvs : List (D × D)}, Reps K (mask L H) vs ds → pairsT ds = some kvs → ∃ es : List Ent, vs = es.map (fun e => .ref e.1) ∧ (∀ e ∈ es, H e.1 = some (.tup [.ref e.2.1, e.2.2.2]) ∧ H e.2.1 = some (.tup (e.2.2.1.map kV))) ∧ RepKv K (mask L H) keysD (es.map fun e => (e.2.2.1, e.2.2.2)) kvs
  | _, _, _, .nil, h => by
    cases h
    exact ⟨[], rfl, fun _ h => (by cases h), .nil⟩
  | _, _, kvs, .cons (v := v) (d := d) (ds := ds) h t, e => by
    cases d with
    | tuple l =>
      match l, h, e with
      | [k, w], h, e =>
        have e : (if isKT k = true then (pairsT ds).map ((k, w) :: ·) else none) = some kvs := e
        split at e
        · rename_i hk
          cases q : pairsT ds with
          | none => rw [q] at e; cases e
          | some kvs' =>
            rw [q] at e
            cases e
            obtain ⟨es, h1, h2, h3⟩ := pairs_ents t q
            obtain ⟨ks, rfl⟩ := isKT_ex hk
            cases h with
            | tup m1 m2 =>
              cases m2 with
              | cons n1 n2 =>
                cases n2 with
                | cons n3 n4 =>
                  cases n4
                  rename_i p vk vw
                  cases (show Rep K (mask L H) vk (.tuple (ks.map keyD)) from n1) with
                  | tup m3 m4 =>
                    rename_i b us
                    rw [reps_kVs m4] at m3
                    refine ⟨(p, b, ks, vw) :: es, by rw [h1]; rfl, fun e he => ?_, .cons n3 h3⟩
                    rcases List.mem_cons.mp he with rfl | he
                    · exact ⟨mask_same L H _ _ m1, mask_same L H _ _ m3⟩
                    · exact h2 e he
        · cases e
      | [], _, e => cases e
      | [_], _, e => cases e
      | _ :: _ :: _ :: _, _, e => cases e
    | _ => cases e
theorem foldKv {f : List L2.Key → D} (hf : ∀ a b, PyData.eqv (f a) (f b) = decide (a = b)) {xs : List (List L2.Key × V)} {ys : List (D × D)} (z : RepKv K G f xs ys) : ∀ {acc : List (List L2.Key × V)} {accD : List (D × D)}, RepKv K G f acc accD →
    RepKv K G f (xs.foldl (fun a p => putK a p.1 p.2) acc) (ys.foldl (fun a p => putD a p.1 p.2) accD) := by
  induction z with
  | nil => exact fun r => r
  | cons h t ih => exact fun r => ih (r.put hf _ h)
end
def dictS (S : Sto) (os : List OV) : Option (List (D × D)) := match os with
  | [o] => (viewL S o).bind fun ds => (pairsT ds).map mergeD
  | _ => none
/-- what makes a new dict, owned from here on -/
def rOfDT (K : PySem.W.Frag) (g : Sto → List OV → Option (List (D × D))) : List V → Hp → VK → Prop := fun xs H Q => ∃ L S os kvs, StoR K L H S ∧ RepOs K L H xs os ∧ g S os = some kvs ∧
  ∀ p kv, H p = none → RepKv K (mask L H) keysD kv kvs → Q (.ref p) (upd H p (.dT kv))
section
variable {X : Cx}
theorem ents_heap {pins : List (Addr × Obj)} {σ : L2.St} {H : Hp} {s : Shared} (I : Inv X pins σ H s) : ∀ {es : List Ent}, (∀ e ∈ es, H e.1 = some (.tup [.ref e.2.1, e.2.2.2]) ∧ H e.2.1 = some (.tup (e.2.2.1.map kV))) →
    ∃ ws : List Value, ws.length = es.length ∧ Vals (es.map fun e => e.2.2.2) ws ∧ ∀ (j : Nat) (e : Ent) (w : Value), es[j]? = some e → ws[j]? = some w → IsTup s.heap e.1 #[.ref e.2.1, w]
  | [], _ => ⟨[], rfl, .nil, fun j e w h => by simp at h⟩
  | e :: es, h => by
    obtain ⟨ws, h1, h2, h3⟩ := ents_heap I (es := es) fun e he => h e (by simp [he])
    obtain ⟨its, rv, ht, _⟩ := I.tuple (SqT.of (h e (by simp)).1)
    cases rv with
    | cons r1 r2 =>
      cases r2 with
      | cons r3 r4 =>
        cases r4
        cases r1
        rename_i w
        refine ⟨w :: ws, by simp [h1], .cons r3 h2, fun j e' w' k1 k2 => ?_⟩
        cases j with
        | zero =>
          simp at k1 k2
          subst k1
          subst k2
          exact ht
        | succ j => exact h3 j e' w' (by simpa using k1) (by simpa using k2)
theorem kt_fold {H : Hp} {d : Addr} : ∀ {es : List Ent} {ws : List Value} {acc : List (List L2.Key × V)} {xs : List (List L2.Key × Addr × Value)}, (∀ e ∈ es, H e.2.1 = some (.tup (e.2.2.1.map kV))) → Vals (es.map fun e => e.2.2.2) ws → KT H acc xs →
    KT H ((es.map fun e => (e.2.2.1, e.2.2.2)).foldl (fun a p => putK a p.1 p.2) acc) (storedAllH xs ((es.zip ws).map fun p => (p.1.2.2.1, p.1.2.1, p.2)))
  | [], ws, acc, xs, _, r, k => by
    cases r
    exact k
  | e :: es, ws, acc, xs, h, r, k => by
    cases (show Vals (e.2.2.2 :: es.map fun e => e.2.2.2) ws from r) with
    | cons r1 r2 =>
      exact kt_fold (d := d) (es := es) (fun e he => h e (by simp [he])) r2 (k.put e.2.2.1 (h e (by simp)) r1)
theorem len_fold {κ : Type} [DecidableEq κ] : ∀ (ps acc : List (κ × V)), (ps.foldl (fun a p => putK a p.1 p.2) acc).length ≤ acc.length + ps.length
  | [], acc => by simp
  | p :: r, acc => by
    have h1 := len_fold r (putK acc p.1 p.2)
    have h2 := length_putK acc p.1 p.2
    simp only [List.foldl_cons, List.length_cons]
    omega
theorem rc_dictT (hcalm : X.calm = true) (hu : X.A.units + 2 < cLine) : CallR X (.type "dict") (rOfDT X.K dictS) := by
  intro pins s σ H xs us Q I r h
  obtain ⟨L, S, os, kvs, so, ro, e, q⟩ := h
  unfold dictS at e
  split at e
  · obtain ⟨v, rfl, rv⟩ := reps_one ro
    obtain ⟨ds, e1, e2⟩ := opt_bind e
    cases e3 : pairsT ds with
    | none => rw [e3] at e2; cases e2
    | some kv0 =>
      rw [e3] at e2
      cases e2
      obtain ⟨a, vs, rfl, m, rs⟩ := view_list (viewL_eq e1) rv so
      obtain ⟨u, rfl, ru⟩ := Vals.one r
      cases ru
      obtain ⟨es, rfl, he, rk⟩ := pairs_ents rs e3
      obtain ⟨its, vr, pl, hz⟩ := I.list m
      obtain ⟨ws, w1, w2, w3⟩ := ents_heap I he
      have hlen : es.length ≤ sizeLine := by simpa using hz
      obtain ⟨o, n, ho, hc, hd, hdat⟩ := pl
      have hits : its = es.map fun e => Value.ref e.1 := by
        clear hdat ho hz w3 w2 w1 rk e3 he rs m rv r e e1 hlen
        induction es generalizing its with
        | nil => cases vr; rfl
        | cons x t ih =>
          cases (show Vals (V.ref x.1 :: t.map fun e => V.ref e.1) its from vr) with
          | cons r1 r2 =>
            cases r1
            rw [ih _ r2]
            rfl
      subst hits
      have PI : PairItems s.heap (es.map fun e => Value.ref e.1).toArray (fun j => (es.map (·.1)).getD j 0) ((es.zip ws).map fun p => (Value.ref p.1.2.1, p.2)) := by
        refine ⟨by simp [w1], fun j k v hj => ?_⟩
        rw [List.getElem?_map] at hj
        cases c : (es.zip ws)[j]? with
        | none => rw [c] at hj; cases hj
        | some p =>
          rw [c] at hj
          obtain ⟨p1, p2⟩ := p
          simp at hj
          obtain ⟨rfl, rfl⟩ := hj
          obtain ⟨c1, c2⟩ := List.getElem?_zip_eq_some.mp c
          refine ⟨by simp [c1], ?_⟩
          have := w3 j p1 p2 c1 c2
          have eT : (es.map (·.1)).getD j 0 = p1.1 := by simp [c1]
          show PairAt s.heap ((es.map (·.1)).getD j 0) _ _
          rw [eT]
          exact .inl this
      have lz : (es.zip ws).length = es.length := by simp [w1]
      refine call_dict_pairsH (knd := tupleKind (mixKind X.prog X.w)) (ps := (es.zip ws).map fun p => (p.1.2.2.1, p.1.2.1, p.2)) (PairArg.list a _ _ _) (I.ok.hd hcalm) (tupleKind_room_in1 (show X.A.in1.units + 1 < cLine from hu)) ⟨⟨o, n, ho, hc, hd, hdat⟩, PI⟩
        ⟨by simp, fun i key v hi => ?_⟩ (fun h' hk x hx => ?_) (by simp [w1]; exact hlen) fun h' tk hd' hk => ?_
      · have hi : ((es.zip ws).map fun p => (Value.ref p.1.2.1, p.2))[i]? = some (key, v) := hi
        rw [List.getElem?_map] at hi
        cases c : (es.zip ws)[i]? with
        | none => rw [c] at hi; cases hi
        | some p =>
          rw [c] at hi
          simp at hi
          obtain ⟨rfl, rfl⟩ := hi
          exact ⟨p.1.2.2.1, p.1.2.1, by rw [List.getElem?_map, c]; rfl, rfl⟩
      · obtain ⟨p, hp, rfl⟩ := List.mem_map.mp hx
        obtain ⟨p1, p2⟩ := p
        have h1 := (he p1 (List.of_mem_zip hp).1).2
        obtain ⟨o', arr, m', k1, k2, k3, k4⟩ := key_of I.hok h1
        exact ⟨o', arr, m', hk _ _ (Nat.ne_of_lt (Heap.lt_size k1)) (fun z => nomatch z) k1, k2, k3, k4⟩
      · have hm : (s.heap.objs.size == sysModules) = false := beq_eq_false_iff_ne.mpr (Nat.ne_of_gt I.big)
        have keep : ∀ b o, s.heap.get? b = some o → h'.get? b = some o := fun b o e => hk b o (fun z => nomatch z) e
        have hf : H s.heap.objs.size = none := I.hok.fresh (Nat.le_refl _)
        have kt := kt_fold (H := H) (d := 0) (acc := []) (xs := []) (fun e hm => (he e hm).2) w2 .nil
        have rk2 := foldKv eqv_keys rk .nil
        obtain ⟨o2, es2, ep2, g1, g2, g3, g4, _, g5⟩ := hd'
        have hlen2 := len_fold (es.map fun e => (e.2.2.1, e.2.2.2)) []
        refine ⟨.ref s.heap.objs.size, _, I.laid (t' := tk) (o := .dT ((es.map fun e => (e.2.2.1, e.2.2.2)).foldl (fun a p => putK a p.1 p.2) [])) keep (Nat.le_refl _) ?_, rfl, q _ _ hf rk2⟩
        refine ⟨by simp at hlen2; omega, hm, _, kt.keeps fun b ys hb => ?_, o2, es2, ep2, g1, g2, g3, g4, g5⟩
        rw [upd_ne (ne_of_none hb hf)]
        exact hb
  · cases e
end
def ownD (g : Sto → List OV → Option (List (D × D))) (fs : EL) : E1 := fun ρ S => (fs ρ S).bind fun os S1 => (g S1 os).bind fun kvs => ret (.own S1.length) (S1 ++ [.dict kvs])
section
variable {X : Cx} {C : Str → Value} {W : WX} {e : Expr} {es : List Expr} {fs : EL} {p pos : Pos} {x : Str} {K : PySem.W.Frag}
theorem own_dT {L : List Addr} {H : Hp} {S : Sto} (so : StoR K L H S) {p : Addr} (hp : H p = none) {kv : List (List L2.Key × V)} {kvs : List (D × D)} (rk : RepKv K (mask L H) keysD kv kvs) :
    Step L H (L ++ [p]) (upd H p (.dT kv)) ∧ StoR K (L ++ [p]) (upd H p (.dT kv)) (S ++ [.dict kvs]) ∧ RepO K (L ++ [p]) (upd H p (.dT kv)) (.ref p) (.own S.length) := by
  obtain ⟨ks, vs, ds, h1, h2, h3, h4⟩ := rk.out
  obtain ⟨k1, k2⟩ := so.own (o := .dT kv) hp (d := .dict kvs) (.inr (.inl ⟨ks, vs, ds, h1, by rw [upd_same, h2], h3, h4⟩))
  exact ⟨k1, k2, p, rfl, by rw [← so.len, List.getElem?_append_right (Nat.le_refl _), Nat.sub_self]; rfl⟩
theorem de_dictT (hcalm : X.calm = true) (hu : X.A.units + 2 < cLine) (hg : Gl X "dict") (hm : X.mg "dict" = none) (ha : DA X C W [e] fs)
    (he : starEach [e] X.env = (false, eval e X.env) :: starEach [] X.env := by rfl) (hpl : (backTo pos (starEach [] X.env)).any (·.1) = false := by rfl) : DE X C W (.Call (.Name "dict" p) [e] [] pos) (ownD dictS fs) := by
  obtain ⟨t, pa, s⟩ := ha.ex
  refine ⟨_, pe_callTy (rc_dictT hcalm hu) hg hm (by decide +kernel) pa (by decide) (by decide) he hpl, fun ρ S r S' h L σ H Q en so po => ?_⟩
  refine s.bind h en so po fun os S1 L1 H1 vs h1 st1 so1 r1 en1 po1 => ?_
  obtain ⟨kvs, e1, h2⟩ := opt_bind h1
  refine ⟨L1, S1, os, kvs, so1, r1, e1, fun q kv hq rk => ?_⟩
  obtain ⟨k1, k2, k3⟩ := own_dT so1 hq rk
  exact po1.done (S0 := S1 ++ [.dict kvs]) h2 k1 k2 _ k3
end
section
variable {X : Cx} {C : Str → Value} {W : WX} {elt tg iter : Expr} {ifs : List Expr} {scope : Scope} {pos : Pos} {fi : EI} {t : Tg} {is : List Nat} {tst : EB} {fe : E1} {own : List (Str × Nat)}
/-- y = [..] on one line, y a local; the list is owned from here on -/
theorem ds_setLcO (i : Nat) {y : Str} {py spos : Pos} (hc : X.calm = true) (hN : X.N.Nodup) (hy : X.N[i]? = some y) (hyl : X.env.scope.names.lookup y = some .local) (hsw : swapsWith (.ListComp elt [⟨tg, iter, ifs, 0⟩] scope pos) (some (.Name y py)) spos.line X.env = pure true)
    (hi : DI X C W tg iter fi) (ok : BlkOk X.N X.env.scope scope own) (hv : ∀ i ∈ is, i ∈ own.map (·.2))
    (hg : ∀ (s : Shared) (H : Hp) (D : Addr) (cl : List (Str × Addr)) (fp : List Addr), DG (X.blk s H scope (compEnvC scope cl D X.env) fp) tg is t)
    (ht : ∀ (s : Shared) (H : Hp) (D : Addr) (cl : List (Str × Addr)) (fp : List Addr), DTs (X.blk s H scope (compEnvC scope cl D X.env) fp) C W0 ifs tst)
    (he : ∀ (s : Shared) (H : Hp) (D : Addr) (cl : List (Str × Addr)) (fp : List Addr), DE (X.blk s H scope (compEnvC scope cl D X.env) fp) C W0 elt fe) (hs : ∀ x, foldedSetIterable iter X.env x = pure x := by intro _; rfl) :
    DS X C W (.Assign [.Name y py] (.ListComp elt [⟨tg, iter, ifs, 0⟩] scope pos) spos) (sAsg (ownL (fLc fi t tst fe (own.map (·.2)))) (tgN i)) := by
  obtain ⟨wi, p, s⟩ := hi.ex
  refine ⟨_, ps_setLc (g := canG X.K is t) (tt := canT X.K C W0 tst) (te := canE X.K C W0 fe) hc hN hy hyl hsw p ok (fun s H D cl fp => (hg s H D cl fp).can) (fun s H D cl fp => (ht s H D cl fp).run) (fun s H D cl fp => (he s H D cl fp).can) hs, ?_⟩
  refine sm_asg (fun ρ S r S' h L σ H Q en so po => ?_) smg_n
  refine (sm_lc s hv).bind h en so po fun ds S1 L1 H1 q vs h1 st1 so1 hq rs en1 po1 => ?_
  obtain ⟨k1, k2, k3⟩ := own_lst so1 hq rs
  exact po1.done (S0 := S1 ++ [.list ds]) h1 k1 k2 _ k3
end
end Dk
set_option Elab.async false
set_option linter.all false
set_option maxRecDepth 100000
set_option maxHeartbeats 4000000
/-! sorted(set(xs)) of up to a thousand ints, fewer than 64 of which differ. -/
namespace Dk
open PySem PySem.Spec PyProof.Rows L2
section
variable {X : Cx}
theorem set_size {w : World} {h : Heap} {a : Addr} {zs : List Int} {c : Nat} (r : SetR w h a (fun j => decide (j ∈ zs)) c) : c = (sortU zs).length := by
  obtain ⟨o, es, ep, t, _, _, _, _, nd, mem, _, _, e, _⟩ := r
  have nd2 : (sortU zs).Nodup := by
    rw [List.nodup_iff_pairwise_ne]
    exact (sortU_up zs).imp fun h => Int.ne_of_lt h
  have p := (List.perm_ext_iff_of_nodup nd nd2).mpr fun k => by rw [← mem, sortU_mem]; simp
  rw [← p.length_eq, List.length_map, Array.length_toList]
  exact e.symm
def rSetE (K : PySem.W.Frag) (w : World) : List V → Hp → VK → Prop := fun xs H Q => ∃ (a : Addr) (ns : List Int), xs = [V.ref a] ∧ SqL K H a (ns.map V.int) ∧ ns.length ≤ 1000 ∧
  ∀ p, H p = none → Q (.ref p) (upd H p (SetO w p (fun j => decide (j ∈ ns)) (sortU ns).length))
theorem cr_setE (hc : X.calm = true) : CallR X (.type "set") (rSetE X.K X.w) := by
  intro pins s σ H xs us Q I r h
  obtain ⟨a, ns, rfl, hl, hz, q⟩ := h
  obtain ⟨its, rv, pl, _⟩ := I.list hl
  rw [Vals.ref1 r]
  refine set_of_ints (I.ok.hd hc) pl.isList (by simpa using Vals.ints rv) (by unfold scanBound; omega) fun s' full => ?_
  obtain ⟨h', tk, c, rfl, sr, hc', keep⟩ := full
  have ec := set_size sr
  subst ec
  have hn := I.hok.fresh (Nat.le_refl s.heap.objs.size)
  exact ⟨.ref s.heap.objs.size, _, I.laid (t' := tk) keep (Nat.le_refl _) (setO_new sr), rfl, q _ hn⟩
end
def fSortSetB (fe : E1) : EF := fun ρ S => (fe ρ S).bind fun o S1 => (viewL S1 o).bind fun ds => (asInts ds).bind fun ns => if ns.length ≤ 1000 ∧ (sortU ns).length < 64 then ret ((sortU ns).map .int) S1 else none
section
variable {X : Cx} {C : Str → Value} {W : WX} {e : Expr} {fe : E1} {p p2 pos pos2 : Pos}
theorem df_sortSetB (hc : X.calm = true) (hg : Gl X "sorted") (hm : X.mg "sorted" = none) (hg2 : Gl X "set") (hm2 : X.mg "set" = none) (h : DE X C W e fe)
    (k1 : starEach [e] X.env = (false, eval e X.env) :: starEach [] X.env := by rfl) (k2 : (backTo pos2 (starEach [] X.env)).any (·.1) = false := by rfl)
    (k3 : starEach [.Call (.Name "set" p2) [e] [] pos2] X.env = (false, eval (.Call (.Name "set" p2) [e] [] pos2) X.env) :: starEach [] X.env := by rfl) (k4 : (backTo pos (starEach [] X.env)).any (·.1) = false := by rfl) :
    DF X C W (.Call (.Name "sorted" p) [.Call (.Name "set" p2) [e] [] pos2] [] pos) (fSortSetB fe) := by
  obtain ⟨t, pe, s⟩ := h.ex
  have inner := pe_callTy (pos := pos2) (p := p2) (cr_setE hc) hg2 hm2 (by decide +kernel) (pa_cons pe pa_nil k1) (by decide) (by decide) k1 k2
  refine ⟨_, pe_callB (pos := pos) (p := p) (cr_sortedSet hc) hg hm (by decide +kernel) (pa_cons inner pa_nil k3) (by decide) (by decide) k3 k4, fun ρ S r S' h L σ H Q en so po => ?_⟩
  refine s.bind h en so po fun o S1 L1 H1 v h1 st1 so1 r1 en1 po1 => ?_
  obtain ⟨ds, e1, h2⟩ := opt_bind h1
  obtain ⟨ns, e2, h3⟩ := opt_bind h2
  split at h3
  · rename_i hz
    obtain ⟨a, vs, rfl, m, rs⟩ := view_list (viewL_eq e1) r1 so1
    rw [asInts_eq e2] at rs
    rw [rs.ints] at m
    refine ⟨a, ns, rfl, m, hz.1, fun q hq => ?_⟩
    refine ⟨q, _, _, rfl, upd_same, hz.2, fun ns' q2 up mem len hq2 => ?_⟩
    obtain rfl : ns' = sortU ns := up_unique up (sortU_up ns) fun k => by rw [mem, sortU_mem]; simp
    exact (po1.step (step_new hq)).done (S0 := S1) h3 Step.refl (so1.laid hq) q2 _ hq2 (Reps.of_ints _)
  · cases h3
end
end Dk
set_option Elab.async false
set_option linter.all false
set_option maxRecDepth 100000
set_option maxHeartbeats 4000000
/-! More of dicts: {i: j}, asked with in and get; d[k], x = a, b; three names at once. -/
namespace Dk
open PySem PySem.Spec L2 PyProof.Rows
/-- what a dict has under a key, perhaps nothing -/
def dfindD (kvs : List (D × D)) (k : D) : Option (Option D) := if kvs ≠ [] ∧ ((isK1 k = true ∧ kvs.all fun p => isK1 p.1) ∨ (isKT k = true ∧ kvs.all fun p => isKT p.1)) then some (valD kvs k) else none
section
variable {K : PySem.W.Frag} {L : List Addr} {H : Hp} {S : Sto}
theorem dfind_ok {kvs : List (D × D)} {kd : D} {r0 : Option D} {p : Addr} {y : V} {o : OV} (h : dfindD kvs kd = some r0) (D0 : DictAt K (mask L H) H p kvs) (e : view S o = some kd) (r : RepO K L H y o) (s : StoR K L H S) :
    ∃ v : Option V, DGet H p y v ∧ v.isSome = r0.isSome ∧ ∀ d, r0 = some d → ∃ w, v = some w ∧ Rep K (mask L H) w d := by
  unfold dfindD at h
  split at h
  · rename_i c
    obtain ⟨c1, c⟩ := c
    cases h
    have hne := ne_mem c1
    rcases D0 with ⟨ks, vs, ds, hl, hp, rs, e2⟩ | ⟨ks, vs, ds, hl, hp, rs, e2⟩ | ⟨ob, ks, vs, ds, hl, hp, rs, e2⟩ | ⟨ob, ks, vs, ds, hl, hp, rs, e2⟩ | ⟨y0, e2⟩
    rotate_left 2
    · rw [e2] at c; exact (lock_no c).elim
    · rw [e2] at c; exact (lock_no c).elim
    · rw [e2] at c; exact (op_no c).elim
    · obtain ⟨k, rfl⟩ := isK1_ex (kind2 e2 hne isKT_key c)
      rw [e2]
      obtain ⟨h1, h2⟩ := valD_rep keyD eqv_key k hl rs
      refine ⟨_, ?_, h2.symm, fun d hd => h1 d hd⟩
      rw [view_key e r s]
      exact DGet.k hp
    · obtain ⟨k, rfl⟩ := isKT_ex (kind1 e2 hne isK1_keys c)
      rw [e2]
      obtain ⟨h1, h2⟩ := valD_rep keysD eqv_keys k hl rs
      obtain ⟨b, rfl, hb⟩ := key_tup e r s
      exact ⟨_, DGet.t hp hb, h2.symm, fun d hd => h1 d hd⟩
  · cases h
end
def inA (S : Sto) (a b : OV) : Option D := match view S b with
  | some (.dict kvs) => (view S a).bind fun k => (dfindD kvs k).map fun o => .bool o.isSome
  | _ => none
def notInA (S : Sto) (a b : OV) : Option D := match view S b with
  | some (.dict kvs) => (view S a).bind fun k => (dfindD kvs k).map fun o => .bool (!o.isSome)
  | _ => none
section
variable {X : Cx}
theorem ro_inA (hu : X.A.units + 1 < cLine) : OpR X (compareOp .In) (rOf X.K inA) := by
  intro pins s σ H x y v u Q I rx ry h
  obtain ⟨L, S, a, b, d, so, ra, rb, e, q⟩ := h
  unfold inA at e
  split at e
  · rename_i kvs h1
    obtain ⟨p, rfl, D0⟩ := dict_at h1 rb so
    obtain ⟨kd, e1, e2⟩ := opt_bind e
    cases e3 : dfindD kvs kd with
    | none => rw [e3] at e2; cases e2
    | some r0 =>
      rw [e3] at e2
      cases e2
      obtain ⟨w, g, gs, _⟩ := dfind_ok e3 D0 e1 ra so
      obtain rfl : u = Value.ref p := ry
      exact d_in hu I g rx fun s' I' => ⟨.bl r0.isSome, H, I', by rw [gs]; rfl, q _ _ Step.refl so (.bl _)⟩
  · cases e
theorem ro_notInA (hu : X.A.units + 1 < cLine) : OpR X (compareOp .NotIn) (rOf X.K notInA) := by
  intro pins s σ H x y v u Q I rx ry h
  obtain ⟨L, S, a, b, d, so, ra, rb, e, q⟩ := h
  unfold notInA at e
  split at e
  · rename_i kvs h1
    obtain ⟨p, rfl, D0⟩ := dict_at h1 rb so
    obtain ⟨kd, e1, e2⟩ := opt_bind e
    cases e3 : dfindD kvs kd with
    | none => rw [e3] at e2; cases e2
    | some r0 =>
      rw [e3] at e2
      cases e2
      obtain ⟨w, g, gs, _⟩ := dfind_ok e3 D0 e1 ra so
      obtain rfl : u = Value.ref p := ry
      exact d_notIn hu I g rx fun s' I' => ⟨.bl (!r0.isSome), H, I', by rw [gs]; rfl, q _ _ Step.refl so (.bl _)⟩
  · cases e
end
/-! ### d.get(k, x) -/
def fGetA (fo fk fd : E1) : E1 := fun ρ S => (fo ρ S).bind fun o S1 => match view S1 o with
  | some (.dict kv0) => if isLk kv0 = true then none else (fk ρ S1).bind fun k S2 => (fd ρ S2).bind fun d S3 => match view S3 o, d with
    | some (.dict kvs), .dat x => (view S3 k).bind fun kd => (dfindD kvs kd).bind fun r => ret (.dat (r.getD x)) S3
    | _, _ => none
  | _ => none
section
variable {X : Cx} {C : Str → Value} {W : WX} {o e f : Expr} {fo fk fd : E1} {apos cpos : Pos}
theorem dict_isD {K : PySem.W.Frag} {G H : Hp} {p : Addr} {kvs : List (D × D)} (h : DictAt K G H p kvs) (hl : isLk kvs = false) : IsD H p := by
  rcases h with ⟨ks, vs, ds, _, h, _⟩ | ⟨ks, vs, ds, _, h, _⟩ | ⟨ob, ks, vs, ds, _, h, _⟩ | ⟨ob, ks, vs, ds, _, h, _⟩ | ⟨y0, rfl⟩
  · exact .inl ⟨_, .inl h⟩
  · exact .inr ⟨_, .inl h⟩
  · exact .inl ⟨_, .inr ⟨_, h⟩⟩
  · exact .inr ⟨_, .inr ⟨_, h⟩⟩
  · cases hl
theorem de_getA (hu : X.A.units + 1 < cLine) (ho : DE X C W o fo) (hk : DE X C W e fk) (hd : DE X C W f fd) (m : M2 X o "get" apos e f cpos) : DE X C W (.Call (.Attribute o "get" apos) [e, f] [] cpos) (fGetA fo fk fd) := by
  obtain ⟨t1, p1, s1⟩ := ho.ex
  obtain ⟨t2, p2, s2⟩ := hk.ex
  obtain ⟨t3, p3, s3⟩ := hd.ex
  refine ⟨_, pe_dget2 hu p1 p2 p3 m, fun ρ S r S' h L σ H Q en so po => ?_⟩
  refine s1.bind h en so po fun a S1 L1 H1 v h1 st1 so1 r1 en1 po1 => ?_
  split at h1
  · rename_i kv0 q0
    obtain ⟨p, rfl, D0⟩ := dict_at q0 r1 so1
    split at h1
    · cases h1
    rename_i hlk
    refine ⟨p, rfl, dict_isD D0 (by simpa using hlk), ?_⟩
    refine s2.bind h1 en1 so1 po1 fun k S2 L2 H2 u h2 st2 so2 r2 en2 po2 => ?_
    refine s3.bind h2 en2 so2 po2 fun d S3 L3 H3 w h3 st3 so3 r3 en3 po3 => ?_
    split at h3
    · rename_i kvs x q1
      obtain ⟨kd, e1, h4⟩ := opt_bind h3
      obtain ⟨r0, e2, h5⟩ := opt_bind h4
      obtain ⟨p', e3, D1⟩ := dict_at q1 ((r1.step st2).step st3) so3
      cases e3
      obtain ⟨w0, g, gs, gv⟩ := dfind_ok e2 D1 e1 (r2.step st3) so3
      refine ⟨w0, g, ?_⟩
      cases r0 with
      | none =>
        cases w0 with
        | some z => cases gs
        | none => exact po3.done (S0 := S3) h5 Step.refl so3 _ r3
      | some d0 =>
        obtain ⟨z, rfl, rz⟩ := gv d0 rfl
        exact po3.done (S0 := S3) h5 Step.refl so3 _ rz
    · cases h3
  · cases h1
end
/-! ### {i: j}, whole numbers made of locals -/
def fDisp1 (f g : FI) : E1 := fun ρ S => match f ρ, g ρ with
  | some i, some j => ret (.own S.length) (S ++ [.dict [(.int i, .int j)]])
  | _, _ => none
section
variable {X : Cx} {C : Str → Value} {W : WX} {a b : Expr} {f g : FI} {pos : Pos} {K : PySem.W.Frag}
theorem own_dK1 {L : List Addr} {H : Hp} {S : Sto} (so : StoR K L H S) {p : Addr} (hp : H p = none) (i j : Int) :
    Step L H (L ++ [p]) (upd H p (.dK [(.inl i, .int j)])) ∧ StoR K (L ++ [p]) (upd H p (.dK [(.inl i, .int j)])) (S ++ [.dict [(.int i, .int j)]]) ∧ RepO K (L ++ [p]) (upd H p (.dK [(.inl i, .int j)])) (.ref p) (.own S.length) := by
  obtain ⟨k1, k2⟩ := so.own (o := .dK [(.inl i, .int j)]) hp (d := .dict [(.int i, .int j)]) (.inl ⟨[.inl i], [.int j], [.int j], rfl, by rw [upd_same]; rfl, .cons (.int _) .nil, rfl, by simp⟩)
  exact ⟨k1, k2, p, rfl, by rw [← so.len, List.getElem?_append_right (Nat.le_refl _), Nat.sub_self]; rfl⟩
theorem de_disp1 (ha : DV X a f) (hb : DV X b g) : DE X C W (.Dict [some a] [b] pos) (fDisp1 f g) := by
  obtain ⟨t1, p1, s1⟩ := ha.ex
  obtain ⟨t2, p2, s2⟩ := hb.ex
  refine ⟨_, pe_disp (pps_cons p1 p2 pps_nil) rfl rfl (by simp) (show 1 ≤ 15 by decide), fun ρ S r S' h L σ H Q en so po => ?_⟩
  unfold fDisp1 at h
  split at h
  · rename_i i j e1 e2
    intro p hp
    have en1 := en.step (step_new (L := L) (o := .dK []) hp)
    refine s1 ρ i e1 L σ _ _ en1 (s2 ρ j e2 L σ _ _ en1 ?_)
    refine ⟨upd_same, [(.inl i, .int j)], rfl, show 1 ≤ 15 by decide, ?_⟩
    rw [upd_upd]
    obtain ⟨k1, k2, k3⟩ := own_dK1 so hp i j
    exact po.done (S0 := S ++ [.dict [(.int i, .int j)]]) h k1 k2 _ k3
  · cases h
end
/-! ### a, b, c = x, y, z -/
def sPar3 (i j l : Nat) (fa : EL) : SS := fun ρ S => match fa ρ S with
  | none => none
  | some (.inr e, S1) => some (.er e, ρ, S1)
  | some (.inl [a, b, c], S1) => some (.nx, ((ρ.set i (some a)).set j (some b)).set l (some c), S1)
  | some (.inl _, _) => none
section
variable {X : Cx} {C : Str → Value} {W : WX}
theorem ds_par3 {i j l : Nat} {x y z : Str} {a b c : Expr} {fa : EL} {px py pz pt pos : Pos} {kt k2 pt2} (hc : X.calm = true) (hN : X.N.Nodup) (hi : X.N[i]? = some x) (hj : X.N[j]? = some y) (hl : X.N[l]? = some z) (hij : i ≠ j) (hil : i ≠ l) (hjl : j ≠ l)
    (hx : X.env.scope.names.lookup x = some .local) (hy : X.env.scope.names.lookup y = some .local) (hz : X.env.scope.names.lookup z = some .local) (ha : DA X C W [a, b, c] fa)
    (hw : swappedStores [.Tuple [.Name x px, .Name y py, .Name z pz] kt pt] (.Tuple [a, b, c] k2 pt2) X.env = pure (some [x, y, z]) := by rfl)
    (hs : swapsWithSole [.Tuple [.Name x px, .Name y py, .Name z pz] kt pt] (.Tuple [a, b, c] k2 pt2) pos.line X.env = pure false := by rfl) :
    DS X C W (.Assign [.Tuple [.Name x px, .Name y py, .Name z pz] kt pt] (.Tuple [a, b, c] k2 pt2) pos) (sPar3 i j l fa) := by
  obtain ⟨t, p, s⟩ := ha.ex
  refine ⟨_, ps_par3 hc hN hi hj hl hij hil hjl hx hy hz p hw hs, fun ρ S fl ρ' S' h L σ H D en so po => ?_⟩
  unfold sPar3 at h
  split at h
  · cases h
  · rename_i e S1 q
    cases h
    exact s ρ S _ _ q L σ H _ en so ⟨fun b z => (by cases z), fun e' he L' H' st so' cls d x => po.er e' (by cases he; rfl) L' H' σ cls d st so' (en.step st) x⟩
  · rename_i o o' o'' S1 q
    cases h
    refine s ρ S _ _ q L σ H _ en so ⟨fun b z L' H' st so' vs rv => ?_, fun e' he => by cases he⟩
    cases z
    obtain ⟨v, w, u, rfl, r1, r2, r3⟩ := (show ∃ v w u, vs = [v, w, u] ∧ RepO X.K L' H' v o ∧ RepO X.K L' H' w o' ∧ RepO X.K L' H' u o'' by
      cases rv with
      | cons h1 t =>
        cases t with
        | cons h2 t2 =>
          cases t2 with
          | cons h3 t3 => cases t3; exact ⟨_, _, _, rfl, h1, h2, h3⟩)
    exact ⟨v, w, u, rfl, po.nx rfl L' H' _ st so' ((((en.step st).set r1 i).set r2 j).set r3 l)⟩
  · cases h
end
/-! ### d[k], x = a, b -/
def sPutPar (fo fi : E1) (j : Nat) (fs : EL) : SS := sE (fTup fs) fun v => match v with
  | .dat (.tuple [a, b]) => sE fo fun o => sE fi fun i ρ S => match o with
    | .own n => match S[n]? with
      | some (.dict kvs) => (view S i).bind fun k => (dputD kvs k a).bind fun kvs' => some (.nx, ρ.set j (some (.dat b)), S.set n (.dict kvs'))
      | _ => none
    | _ => none
  | _ => fun _ _ => none
section
variable {X : Cx} {C : Str → Value} {W : WX} {o i a b : Expr} {fo fi : E1} {fs : EL} {pos p2 px pt : Pos} {x : Str} {kt k2 pt2}
theorem ds_putPar (j : Nat) (hc : X.calm = true) (hu : X.A.units + 1 < cLine) (hN : X.N.Nodup) (hj : X.N[j]? = some x) (hx : X.env.scope.names.lookup x = some .local) (ho : DE X C W o fo) (hi : DE X C W i fi) (ha : DA X C W [a, b] fs)
    (hs : swapsWithSole [.Tuple [.Subscript o i p2, .Name x px] kt pt] (.Tuple [a, b] k2 pt2) pos.line X.env = pure false := by rfl)
    (hw : swappedStores [.Tuple [.Subscript o i p2, .Name x px] kt pt] (.Tuple [a, b] k2 pt2) X.env = pure none := by rfl)
    (hA : ∀ v, assign (.Subscript o i p2) X.env v = (do
      let ov ← holding [v] (eval o X.env)
      let iv ← holding [v, ov] (eval i X.env)
      standAt p2
      holding [v, ov, iv] (setItem ov iv v)
      release [v, ov, iv] []) := by intro _; rfl)
    (h1 : (assignEach [.Tuple [.Subscript o i p2, .Name x px] kt pt] X.env).map (·.2) = [assign (.Tuple [.Subscript o i p2, .Name x px] kt pt) X.env] := by rfl) :
    DS X C W (.Assign [.Tuple [.Subscript o i p2, .Name x px] kt pt] (.Tuple [a, b] k2 pt2) pos) (sPutPar fo fi j fs) := by
  obtain ⟨t1, q1, s1⟩ := ho.ex
  obtain ⟨t2, q2, s2⟩ := hi.ex
  obtain ⟨t3, q3, s3⟩ := (de_tup (x1 := k2) (pos := pt2) ha).ex
  refine ⟨_, ps_asg q3 (pg_tup (n := 2) hc (pgs_cons (pg_sub q1 q2 (set_dict hu) hA) (pgs_cons (pg_name hN hj (.inl hx) (.inr hx)) pgs_nil))) hs hw h1, fun ρ S fl ρ' S' h L σ H D en so po => ?_⟩
  refine s3.stm h en so po fun y S1 L1 H1 v h1 st1 so1 r1 en1 po1 => ?_
  split at h1
  · rename_i d1 d2
    obtain ⟨pa, vs, rfl, m, rv⟩ := view_tup (S := S1) (o := .dat (.tuple [d1, d2])) rfl r1 so1
    obtain ⟨x1, x2, rfl, rx1, rx2⟩ := (show ∃ x1 x2, vs = [x1, x2] ∧ Rep X.K (mask L1 H1) x1 d1 ∧ Rep X.K (mask L1 H1) x2 d2 by
      cases rv with
      | cons h1 t =>
        cases t with
        | cons h2 t2 => cases t2; exact ⟨_, _, rfl, h1, h2⟩)
    refine ⟨pa, [x1, x2], rfl, m, rfl, x1, [x2], rfl, ?_⟩
    refine s1.stm h1 en1 so1 po1 fun y2 S2 L2 H2 u h2 st2 so2 r2 en2 po2 => ?_
    refine s2.stm h2 en2 so2 po2 fun z S3 L3 H3 w h3 st3 so3 r3 en3 po3 => ?_
    split at h3
    · rename_i n
      split at h3
      · rename_i kvs hn
        obtain ⟨k, e1, h4⟩ := opt_bind h3
        obtain ⟨kvs', e2, h5⟩ := opt_bind h4
        cases h5
        obtain ⟨a, ea, hL⟩ := r2.step st3
        have st := st2.trans st3
        obtain ⟨H4, g, k1, k2⟩ := dput_ok e2 so3 hL hn e1 r3 (rx1.mono st.frz)
        refine ⟨a, H4, ea, g, x2, [], rfl, rfl, ?_⟩
        exact po3.nx rfl L3 _ _ k1 k2 ((en3.step k1).set (o := .dat d2) (rx2.mono (st.trans k1).frz) j)
      · cases h3
    · cases h3
  · cases h1
end
end Dk
set_option Elab.async false
set_option linter.all false
set_option maxRecDepth 100000
set_option maxHeartbeats 4000000
/-! x(lambda: ..) where x is a def that calls what it gets and gives a word; the laws' ends with tables. -/
namespace Dk
open PySem PySem.Spec PyProof.Rows L2
/-- the table of a def that makes lambdas -/
structure TabD (K : PySem.W.Frag) (base : Heap) (mg : Str → Option Value) (x : Str) : Prop where
  ex : ∃ c P, PySem.W.tabIn K x = some (c, P) ∧ LamX.TabB base mg c P ∧ (P, lamQ x) ∈ tabsOf K ∧ ∀ p ∈ tabsOf K, p.1 = P → p.2 = lamQ x
  kin : K.In base
  ns : base.Ns mainGlobals mg
theorem tab_code {K : PySem.W.Frag} {base : Heap} {mg : Str → Option Value} {x y qual : Str} {st : Stmt} {f : Addr} {fd : FuncData} (T : TabD K base mg y) (F : Fun K x qual st f fd) (hm : mg y = some (.ref f)) {c P : Addr} (h : PySem.W.tabIn K y = some (c, P)) : fd.code = .ref c := by
  obtain ⟨oc, od, kV, doc, pm, an, cdv, ct, osl, e, lk, hcd⟩ := F.ex
  exact PySem.W.law_code T.kin T.ns h hm (T.kin _ _ lk) rfl

/-! ### what such a def makes of a call -/
abbrev Cb := Sto → Rs OV
def catchD : List (Mt × D) → Str → Option D
  | [], _ => none
  | (m, d) :: r, z => match m z with
    | some true => some d
    | some false => catchD r z
    | none => none
/-- try: a() / except x: return d / .. / return d0 -/
def hiE (l : List (Mt × D)) (d0 : D) (cb : Cb) : Cb := fun S => match cb S with
  | none => none
  | some (.inl _, S1) => ret (.dat d0) S1
  | some (.inr e, S1) => (catchD l e.cls).bind fun d => ret (.dat d) S1
def fLam (G : Cb → Cb) (fb : E1) : E1 := fun ρ S => match G (fun T => fb ρ T) S with
  | some (.inl o, S') => ret o S'
  | _ => none
def TTw (K : PySem.W.Frag) (C : Str → Value) (G : Cb → Cb) : (XK → Hp → VK → Prop) → Hp → VK → Prop := fun tl H Q => ∃ L S S' o cb, StoR K L H S ∧ G cb S = some (.inl o, S') ∧
  (∀ L1 H1 S1 r1 S2 (E : XK) (Q1 : VK), Step L H L1 H1 → StoR K L1 H1 S1 → cb S1 = some (r1, S2) →
    (∀ L2 H2, Step L1 H1 L2 H2 → StoR K L2 H2 S2 → (∀ o, r1 = .inl o → ∀ v, RepO K L2 H2 v o → Q1 v H2) ∧ ∀ e, r1 = .inr e → ∀ cls d, ExcR C K L2 H2 e cls d → E cls d H2) → tl E H1 Q1) ∧
  ∀ L' H', Step L H L' H' → StoR K L' H' S' → ∀ v, RepO K L' H' v o → Q v H'
def GivesP (P : Program) (w : World) (K : PySem.W.Frag) (mg : Str → Option Value) (base : Heap) (A : Around) (stack : List Env) (Ng : List Str) (x : Str) (sg : Scope) (g : Addr) (cdg : Value) (bg : List Stmt) (a : Str) (q : Str) (TT : (XK → Hp → VK → Prop) → Hp → VK → Prop) : Prop :=
  ∀ (f c' : Addr) (s : Shared) (H : Hp) (Q : VK) (tl : XK → Hp → VK → Prop),
    (∀ (W : WX) (pn : List (Addr × Obj)) (xe : Value → Shared → Prop) (E : XK) (p1 p2 : Pos), Takes ((cxOf C8.CX0 P w K mg base Ng x sg g cdg A stack s H C8.E0).tr pn xe) W → (∀ cls d σ' H', E cls d H' → W cls d σ' H') →
      PE ((cxOf C8.CX0 P w K mg base Ng x sg g cdg A stack s H C8.E0).tr pn xe) (.Call (.Name a p1) [] [] p2) (fun σZ HZ Q => σZ[0]? = some (some (.ref f)) ∧ HZ c' = some (LamX.CodeO c' q) ∧ tl E HZ Q)) →
    H c' = some (LamX.CodeO c' q) → TT tl H Q →
    ∃ t, PSs (cxOf C8.CX0 P w K mg base Ng x sg g cdg A stack s H C8.E0).nox bg t ∧ t { nx := fun _ H' => Q .non H', rt := Q } (L2.start Ng [.ref f]) H
/-- a def that calls what it gets -/
structure HiD (P : Program) (w : World) (K : PySem.W.Frag) (mg : Str → Option Value) (base : Heap) (C : Str → Value) (x : Str) (G : Cb → Cb) : Prop where
  ex : ∃ (g : Addr) (pg : Arguments) (bg : List Stmt) (sg : Scope) (dV kV doc pm cdv ct oc : Value) (an od : Option Addr) (osl : Array (Option Value)) (Ng : List Str) (a : Str),
    mg x = some (.ref g) ∧ PySem.W.keepIn K (.ref g) = true ∧ K.lookup g = some ⟨oc, od, .func (PySem.W.fnOf x x pg bg sg dV kV doc pm an cdv ct), osl⟩ ∧ PySem.W.codeIn K cdv x = true ∧ Binds K (PySem.W.fnOf x x pg bg sg dV kV doc pm an cdv ct) [a] [] ∧
    FnScope Ng [a] sg ∧ Ng[0]? = some a ∧ Vis sg a ∧ (a == ("__debug__" : Str)) = false ∧ (a == ("__classdict__" : Str)) = false ∧ ∀ (A : Around) (stack : List Env) (q : Str), GivesP P w K mg base A stack Ng x sg g cdv bg a q (TTw K C G)
section
variable {X : Cx} {C : Str → Value} {W : WX} {x y : Str} {G : Cb → Cb} {k : Nat} {params : Arguments} {body : Expr} {scope : Scope} {lpos p pos : Pos} {fb : E1}
theorem step_ext {L : List Addr} {H H1 : Hp} (e : LamX.ExtN H H1) : Step L H L H1 := ⟨fun a o h => by
  obtain ⟨h1, h2⟩ := mask_some h
  exact mask_of h1 (e _ _ h2 (mask_nt h)) (mask_nt h), ⟨[], by simp⟩, fun b ob u h => e _ _ h (by intro _ z; cases z)⟩
theorem StoR.ext {K : PySem.W.Frag} {L : List Addr} {H H1 : Hp} {S : Sto} (so : StoR K L H S) (e : LamX.ExtN H H1) (t : LamX.Tabs (tabsOf K) H1) : StoR K L H1 S :=
  ⟨so.nd, so.len, fun n a d h1 h2 => by
    have q := so.obj n a d h1 h2
    obtain ⟨o, e1, n1, _⟩ := objR_kind q
    exact q.mono (step_ext (L := L) e).frz ((e _ _ e1 n1).trans e1.symm), t⟩
theorem de_lam (hi : HiD X.prog X.w X.K X.mg X.base C x G) (hg : Gl X x) (T : TabD X.K X.base X.mg y) (hq : X.env.qual = y ++ ".<locals>.") (hcode : ∀ c P, PySem.W.tabIn X.K y = some (c, P) → X.env.code = .ref c) (hr : Room (k + 2) X.A)
    (hs : LamX.lamSB X.env.scope scope = true) (hbody : ∀ (A : Around) (outer : List Env) (s : Shared) (H : Hp) (E : XK) (f c' : Addr), Room k (A.deeper (LamX.lamEnv X scope s.heap.objs.size f c')) → DE (LamX.lamCx X A outer s H E scope f c') C (fun cls d _ H => E cls d H) body fb)
    (hdef : defaultsOf params X.env = ([], []) := by rfl) (hbind : ∀ (q : Str) (cl : List (Str × Addr)) (pm cv ctv : Value), bindArgs (PySem.W.kla_fn "<lambda>" q params body scope cl pm cv ctv) ⟨[], []⟩ = pure [] := by intros; rfl)
    (hdb : (x == ("__debug__" : Str)) = false := by decide) : DE X C W (.Call (.Name x p) [.Lambda params body scope lpos] [] pos) (fLam G fb) := by
  obtain ⟨c, P, ht, TB, hmT, hu⟩ := T.ex
  obtain ⟨g, pg, bg, sg, dV, kV, doc, pm, cdv, ct, oc, an, od, osl, Ng, a, hm, hk, lk, hcg, hb, Sg, hNg, hva, hd, hcd, gives⟩ := hi.ex
  have eq : X.env.qual ++ "<lambda>" = lamQ y := by rw [hq]; rfl
  refine ⟨_, LamX.pe_lamcall (T := tabsOf X.K) (TT := TTw X.K C G) (t := fun E => canE X.K C (fun cls d _ H => E cls d H) fb) hg hm hk lk hcg hb Sg hNg hva (gives X.A X.stack _) TB (hcode c P ht) (by rw [eq]; exact hmT) (fun p hp e => by rw [eq]; exact hu p hp e) hr (LamX.lamS_by hs) hdef hbind
    (fun A outer s H E f c' hr' => (hbody A outer s H E f c' hr').can) hdb hd hcd, fun ρ S r S' h L σ H Q en so po => ?_⟩
  unfold fLam at h
  split at h
  · rename_i o S1 hG
    refine ⟨so.tb, fun H1 eN T1 => ?_⟩
    have st1 : Step L H L H1 := step_ext eN
    have so1 := so.ext eN T1
    refine ⟨L, S, S1, o, fun T => fb ρ T, so1, hG, fun L1 H1' S2 r1 S3 E Q1 st so2 hcb hq' => ?_, fun L' H' st so' v rv => ?_⟩
    · refine ⟨ρ, S2, r1, S3, L1, hcb, en.step (st1.trans st), so2, fun b e L2 H2 st2 so3 v rv => ?_, fun e he L2 H2 st2 so3 cls d xr => ?_⟩
      · exact (hq' L2 H2 st2 so3).1 b e v rv
      · exact (hq' L2 H2 st2 so3).2 e he cls d xr
    · exact po.done (S0 := S1) h (st1.trans st) so' v rv
  · cases h
end
/-! ### the def with constant words -/
section
variable {P : Program} {w : World} {K : PySem.W.Frag} {mg : Str → Option Value} {base : Heap} {C : Str → Value}
theorem catch_const {l : List (Mt × D)} {e : Exn} {d : D} (h : catchD l e.cls = some d) (ρ : Env1) (S : Sto) : catchL (l.map fun p => (p.1, sRet (fC p.2))) e ρ S = some (.rt (.dat d), ρ, S) := by
  induction l with
  | nil => cases h
  | cons p r ih =>
    obtain ⟨m, d1⟩ := p
    unfold catchD at h
    simp only [List.map_cons]
    unfold catchL
    cases q : m e.cls with
    | none => rw [q] at h; cases h
    | some b =>
      rw [q] at h
      cases b with
      | true => cases h; rfl
      | false => exact ih h
theorem env_none {L : List Addr} {H : Hp} (σ : L2.St) : EnvR K L H σ (List.replicate σ.length none) := ⟨by simp, fun i o e => by
  rw [List.getElem?_replicate] at e
  split at e <;> cases e⟩
theorem hi_mk {x a : Str} {st : Stmt} {g : Addr} {fd : FuncData} {N : List Str} {l : List (Mt × D)} {d0 : D} {p1 p2 p3 p4 p5 : Pos} {h₀ : ExceptHandler} {hds : List ExceptHandler} {e0 : Expr} (F : Fun K x x st g fd) (hm : mg x = some (.ref g)) (hb : Binds K fd [a] []) (S : FnScope N [a] (defScope st))
    (hbd : defBody st = [.Try [.Expr (.Call (.Name a p1) [] [] p2) p3] (h₀ :: hds) [] [] p4, .Return (some e0) p5])
    (hh : ∀ (cdv : Value) (A : Around) (stack : List Env) (s : Shared) (H : Hp), DHs (cxOf C8.CX0 P w K mg base N x (defScope st) g cdv A stack s H C8.E0).nox C W0 (h₀ :: hds) (l.map fun p => (p.1, sRet (fC p.2))))
    (hr : ∀ (cdv : Value) (A : Around) (stack : List Env) (s : Shared) (H : Hp), DE (cxOf C8.CX0 P w K mg base N x (defScope st) g cdv A stack s H C8.E0).nox C W0 e0 (fC d0))
    (hN : N[0]? = some a := by rfl) (hv : Vis (defScope st) a := by first | exact Or.inl rfl | exact Or.inr (Or.inl rfl) | exact Or.inr (Or.inr rfl)) (hd : (a == ("__debug__" : Str)) = false := by decide) (hcd : (a == ("__classdict__" : Str)) = false := by decide)
    (h0 : ∀ f : Addr, (L2.start N [V.ref f])[0]? = some (some (V.ref f)) := by intro _; rfl) : HiD P w K mg base C x (hiE l d0) := by
  obtain ⟨oc, od, kV, doc, pm, an, cdv, ct, osl, rfl, lk, hcc⟩ := F.ex
  refine ⟨g, _, _, _, _, kV, doc, pm, cdv, ct, oc, an, od, osl, N, a, hm, F.kp, lk, hcc, hb, S, hN, hv, hd, hcd, fun A stack q => ?_⟩
  intro f c' s H Q tl act hc ⟨L, S0, S', o, cb, so, hG, hcb, fin⟩
  rw [hbd]
  obtain ⟨l', k1, k2⟩ := dhs_ok (hh cdv A stack s H)
  obtain ⟨te, pe, se⟩ := (hr cdv A stack s H).ex
  refine ⟨_, pss_cons (ps_try_many (X := (cxOf C8.CX0 P w K mg base N x (defScope st) g cdv A stack s H C8.E0).nox)
      (tb := fun W D σ H => ∃ Ech : XK, (∀ cls d σ' H', Ech cls d H' → W cls d σ' H') ∧ σ[0]? = some (some (.ref f)) ∧ H c' = some (LamX.CodeO c' q) ∧ tl Ech H fun _ H' => D.nx σ H')
      rfl rfl takes0 (fun W pn xe tk _ => ?_) k1) (pss_one (ps_ret pe)), ?_⟩
  · refine ⟨fun pins s' σ H' D I h' => ?_⟩
    obtain ⟨Ech, hW, h1, h2, h3⟩ := h'
    exact (pss_one (ps_expr (act W pn xe Ech p1 p2 tk hW))).run pins s' σ H' D I ⟨h1, h2, h3⟩
  · refine ⟨fun cls d H' => ∀ σ', wMany K W0 _ l' cls d σ' H', fun cls d σ' H' z => z σ', h0 f, hc, ?_⟩
    unfold hiE at hG
    split at hG
    · cases hG
    · rename_i o1 S1 hq
      cases hG
      refine hcb L H S0 (.inl o1) _ _ _ Step.refl so hq fun L3 H2 st2 so2 => ⟨fun o2 e2 v rv => ?_, fun e he => by cases he⟩
      have := se (List.replicate (L2.start N [V.ref f]).length none) S' (.inl (.dat d0)) S' rfl L3 (L2.start N [V.ref f]) H2 Q (env_none _) so2 ⟨fun b e L' H' st3 so3 v rv => ?_, fun e he => by cases he⟩
      · exact this
      · cases e
        exact fin L' H' (st2.trans st3) so3 v rv
    · rename_i e1 S1 hq
      obtain ⟨d, hd1, hd2⟩ := opt_bind hG
      cases hd2
      refine hcb L H S0 (.inr e1) _ _ _ Step.refl so hq fun L2 H2 st2 so2 => ⟨fun o2 e2 => (nomatch e2), fun e he cls dd xr σ' => ?_⟩
      cases he
      refine k2 e1 (List.replicate σ'.length none) S' _ _ _ (catch_const hd1 _ _) L2 H2 σ' _ cls dd (env_none σ') so2 xr ⟨fun z => (nomatch z), fun z => (nomatch z), fun z => (nomatch z), fun o3 z L3 H3 v st3 so3 rv => ?_, fun e z => (nomatch z)⟩
      cases z
      exact fin L3 H3 (st2.trans st3) so3 v rv
end
end Dk
namespace Dk
open PySem PySem.Spec PyProof.Rows L2
/-! ### the laws' end, with the tables -/
def tabFine (K : PySem.W.Frag) (q : Program) (ts : List Addr) : Bool := (tabCs K).all fun p => (((recsOf q).find? fun e => e.name == p.1).isSome || (ts.contains p.2.2 && PySem.W.codeHdIn K p.2.1 p.2.2)) && (K.lookup p.2.2).isNone && (tabCs K).all fun r => r.2.2 != p.2.2 || r.1 == p.1
theorem tabCs_mem {K : PySem.W.Frag} {p : Str × Addr × Addr} (h : p ∈ tabCs K) : PySem.W.tabIn K p.1 = some p.2 := by
  obtain ⟨x, hx, e⟩ := List.mem_filterMap.mp h
  cases q : PySem.W.tabIn K x with
  | none => rw [q] at e; cases e
  | some cp =>
    rw [q] at e
    cases e
    exact q
theorem walk_ofL {l : PySem.W.OpenLaw} {n k : Nat} {q : Program} {loose : List Str} {XP : (Str → Option Value) → Heap → Prop} {YP : World → Heap → Prop} {d : DefRec} {K : Params → PySem.W.Frag} {x : Str} {C : (Str → Option Value) → Str → Value} {F : List OV → Sto → Rs OV}
    (hn : l.most = some n) (hn2 : n ≤ sizeLine) (hdf : d.params.defaults = []) (hr : Room k callerA)
    (ts : List Addr) (hY : ∀ (w : World) (h : Heap), YP w h → (K w.params).In h ∧ ∀ P ∈ ts, h.get? P = some (PySem.W.tabObj #[])) (hT : ∀ w : World, tabFine (K w.params) q ts = true)
    (H : ∀ (w : World) (mg : Str → Option Value) (fa : Addr) (h : Heap), (K w.params).In h → h.Ns mainGlobals mg → XP mg h → mg d.name = some (.ref fa) →
      ∃ fd : FuncData, (∀ (s : Shared) (u : Value), BindsTo s fd ⟨[u], []⟩ [(x, u)]) ∧
        ∀ base : Heap, (∀ y ∈ (tabCs (K w.params)).map (·.1), TabD (K w.params) base mg y) → FnOk l.prog w (K w.params) mg base (L2.CX l.prog w) k fa fd [x] (spD (K w.params) (C mg) 1 F))
    (law : ∀ ns : List Int, ns.length ≤ n → F [.dat (.list (ns.map .int))] [] = some (.inl (.dat (.bool true)), [])) :
    PySem.W.WalkO q loose XP YP l.row.toRowW d [] (fun f vs => PySem.call f vs) := by
  refine Att.attach_call hn hdf fun w s₀ s₁ mg mb fa o pm cd doc a vs ns G Y ho hd hcd hmg hobj hints hlen hg => ?_
  obtain ⟨KX, TX⟩ := hY w _ Y
  obtain ⟨fd, hb, hF⟩ := H w mg fa _ KX G.T.g G.X hmg
  have fine := List.all_eq_true.mp (hT w)
  have at_ : ∀ p ∈ (tabCs (K w.params)).map (·.2), ∃ r ∈ tabCs (K w.params), r.2 = p := fun p hp => List.mem_map.mp hp
  have inf : ∀ r ∈ tabCs (K w.params), PySem.W.CodeHd _ r.2.1 r.2.2 ∧ _ := fun r hr => by
    have h1 := fine r hr
    simp only [Bool.and_eq_true, Bool.or_eq_true] at h1
    rcases h1.1.1 with h2 | h2
    · obtain ⟨dr, hdr⟩ := Option.isSome_iff_exists.mp h2
      exact PySem.W.tab_of (x := r.1) G.T KX hdr (tabCs_mem hr)
    · exact ⟨PySem.W.codeHd_of_K KX h2.2, TX _ (List.contains_iff_mem.mp h2.1)⟩
  refine LamX.law_callTs (cs := (tabCs (K w.params)).map (·.2)) KX G.T.g G.T.b G.T.builtins G.T.nolimit hg (fun p hp => ?_) (fun p hp => ?_) (fun p hp => ?_) G.T.bmain hobj hints (Nat.le_trans hlen hn2) hr (fun base kin ns tb => hF base fun y hy => ?_) hb (fun H hH hS => ?_) fun H e s' z => ?_
  · obtain ⟨r, hr, rfl⟩ := at_ p hp
    exact (inf r hr).2
  · obtain ⟨r, hr, rfl⟩ := at_ p hp
    have h1 := fine r hr
    simp only [Bool.and_eq_true] at h1
    exact Option.isNone_iff_eq_none.mp h1.1.2
  · obtain ⟨r, hr, rfl⟩ := at_ p hp
    exact (inf r hr).1
  · obtain ⟨r, hr, rfl⟩ := List.mem_map.mp hy
    refine ⟨⟨r.2.1, r.2.2, tabCs_mem hr, tb r.2 (List.mem_map.mpr ⟨r, hr, rfl⟩), List.mem_map.mpr ⟨r, hr, rfl⟩, fun p hp e => ?_⟩, kin, ns⟩
    obtain ⟨r2, hr2, rfl⟩ := List.mem_map.mp hp
    have h1 := fine r hr
    simp only [Bool.and_eq_true] at h1
    have h2 := List.all_eq_true.mp h1.2 r2 hr2
    simp only [Bool.or_eq_true, bne_iff_ne, ne_eq, beq_iff_eq] at h2
    rcases h2 with h2 | h2
    · exact absurd e h2
    · show lamQ r2.1 = lamQ r.1
      rw [h2]
  · refine ⟨[.dat (.list (ns.map .int))], [], [], _, [], rfl, ?_, ?_, law ns hlen, fun L' H' st so' => ⟨fun o ho v rv => ?_, fun e he => by cases he⟩⟩
    · refine .cons ?_ .nil
      refine Rep.lst (ds := ns.map .int) ?_ (Reps.of_ints ns)
      rcases hS with (h | ⟨u, h⟩) | h
      · exact .inl (.inl (mask_of (by simp) h))
      · exact .inl (.inr ⟨u, mask_of (by simp) h⟩)
      · exact .inr h
    · refine ⟨List.nodup_nil, rfl, fun n a d e => by simp at e, fun p hp => ?_⟩
      obtain ⟨r, hr, rfl⟩ := List.mem_map.mp hp
      exact LamX.TabS.nil (hH r.2 (List.mem_map.mpr ⟨r, hr, rfl⟩))
    · cases ho
      cases rv
      rfl
  · obtain ⟨_, _, _, _, _, _, _, _, _, _, _, _, z⟩ := z
    exact z
end Dk
namespace Dk
open PySem PySem.Spec PyProof.Rows L2
theorem takes_lam {X : Cx} {A : Around} {outer : List Env} {s : Shared} {H : Hp} {E : XK} {scope : Scope} {f c' : Addr} : Takes (LamX.lamCx X A outer s H E scope f c') (fun cls d _ H => E cls d H) := takes_of rfl rfl rfl rfl
theorem mem_elem {x : Str} {l : List Str} (h : l.elem x = true) : x ∈ l := List.mem_of_elem_eq_true h
end Dk
set_option Elab.async false
set_option linter.all false
set_option maxRecDepth 100000
set_option maxHeartbeats 4000000
/-! Defs as values: a local that holds one is called; {"a": test, ..}. -/
namespace Dk
open PySem PySem.Spec PyProof.Rows L2
section
variable {X : Cx} {C : Str → Value} {W : WX} {k n : Nat} {x : Str} {p pos : Pos} {e : Expr} {es : List Expr}
theorem de_fnG (hm : X.mg x = some (.ref (He.ga X.K x))) (hg : Gl X x) (hd : (x == ("__debug__" : Str)) = false := by decide) : DE X C W (.Name x pos) (fC (opD (.str x))) := ⟨_, pe_glob (v := .ref (He.ga X.K x)) hg hm rfl hd, sm_c fun _ => .op (.fn x)⟩
def tCallW (P : Program) (w : World) (K : PySem.W.Frag) (mg : Str → Option Value) (base : Heap) (k i : Nat) (E : L2.St → XK) (t : TA) : TE := fun σ H Q => ∃ (f : Addr) (fd : FuncData) (ps : List Str) (sp : Sp), σ[i]? = some (some (.ref f)) ∧
  FnOk P w K mg base (L2.CX P w) k f fd ps sp ∧ PySem.W.keepIn K (.ref f) = true ∧ Binds K fd ps [] ∧ t σ H fun vs H1 => sp vs H1 Q (E σ)
theorem pe_callW {i : Nat} {E : L2.St → XK} {t : TA} (hr : Room k X.A) (hN : X.N[i]? = some x) (hv : Vis X.env.scope x) (hx : ∀ σ, PassesAt (L2.CX X.prog X.w) X σ (E σ)) (ha : PA X (e :: es) t)
    (hdb : (x == ("__debug__" : Str)) = false := by decide) (hcd : (x == ("__classdict__" : Str)) = false := by decide)
    (he : starEach (e :: es) X.env = (false, eval e X.env) :: starEach es X.env := by rfl) (hpl : (backTo pos (starEach es X.env)).any (·.1) = false := by rfl) :
    PE X (.Call (.Name x p) (e :: es) [] pos) (tCallW X.prog X.w X.K X.mg X.base k i E t) := by
  refine ⟨fun pins s σ H Q I h => ?_⟩
  obtain ⟨f, fd, ps, sp, hs, F, hk, hb, ht⟩ := h
  refine wpAny_Call_Name_kw (thn ((pe_var (pos := p) hN hv hdb hcd).run pins s σ H (fun v H1 => v = .ref f ∧ H1 = H) I ⟨.ref f, hs, rfl, rfl⟩) fun u s1 hh => ?_)
  obtain ⟨v, H1, I1, r1, q1⟩ := hh
  obtain ⟨rfl, rfl⟩ := q1
  cases r1
  refine PySem.W.callWith_K (h₀ := X.base) I.ok.mod.kin hk (thn (ha.run pos pins s1 σ _ _ I1 ht) fun us s2 ⟨vs, H2, I2, r, q⟩ => ⟨I2.kIn, ?_⟩) he hpl
  exact run_fnSD (dvs := []) (ds := []) F hr hb .nil (hx σ) I2 r (by rw [List.append_nil]; exact q)
/-- the defs that a local may hold -/
def FnTab (P : Program) (w : World) (K : PySem.W.Frag) (mg : Str → Option Value) (base : Heap) (C : Str → Value) (k n : Nat) (tbl : List (Str × (List OV → Sto → Rs OV))) : Prop := ∀ y F, tbl.lookup y = some F → FnD P w K mg base C k y n F ∧ mg y = some (.ref (He.ga K y))
theorem fnt_nil {P : Program} {w : World} {K : PySem.W.Frag} {mg : Str → Option Value} {base : Heap} : FnTab P w K mg base C k n [] := fun y F h => by cases h
theorem FnD.le {P : Program} {w : World} {K : PySem.W.Frag} {mg : Str → Option Value} {base : Heap} {k2 : Nat} {F : List OV → Sto → Rs OV} (h : FnD P w K mg base C k x n F) (hk : k ≤ k2) : FnD P w K mg base C k2 x n F := by
  obtain ⟨f, fd, ps, h1, h2, h3, h4, h5⟩ := h.ex
  exact ⟨f, fd, ps, h1, h2, h3, h4, ⟨h5.len, fun A outer s H args us vs Q E hr => h5.run A outer s H args us vs Q E (hr.mono hk)⟩⟩
theorem fnt_cons {P : Program} {w : World} {K : PySem.W.Frag} {mg : Str → Option Value} {base : Heap} {y : Str} {k1 : Nat} {F : List OV → Sto → Rs OV} {tbl : List (Str × (List OV → Sto → Rs OV))} (h : FnD P w K mg base C k1 y n F) (hm : mg y = some (.ref (He.ga K y))) (hk : k1 ≤ k) (r : FnTab P w K mg base C k n tbl) : FnTab P w K mg base C k n ((y, F) :: tbl) := fun z G hz => by
  rw [List.lookup_cons] at hz
  split at hz
  · rename_i c
    have : z = y := by simpa using c
    subst this
    cases hz
    exact ⟨h.le hk, hm⟩
  · exact r z G hz
def fnName : Option OV → Option Str
  | some (.dat (.dict [(.none, .str x)])) => some x
  | _ => none
theorem fnName_eq {o : Option OV} {x : Str} (h : fnName o = some x) : o = some (.dat (opD (.str x))) := by
  unfold fnName at h
  split at h
  · cases h; rfl
  · cases h
def fCallV (i : Nat) (tbl : List (Str × (List OV → Sto → Rs OV))) (fa : EL) : E1 := fun ρ S => (fnName ρ[i]?.join).bind fun x => (tbl.lookup x).bind fun F => fCall F fa ρ S
theorem de_callV {i : Nat} {tbl : List (Str × (List OV → Sto → Rs OV))} {fs : EL} (T : FnTab X.prog X.w X.K X.mg X.base C k n tbl) (hr : Room k X.A) (tk : Takes X W) (hN : X.N[i]? = some x) (hv : Vis X.env.scope x) (ha : DA X C W (e :: es) fs) (hn : ∀ ρ S os S', fs ρ S = some (.inl os, S') → os.length = n)
    (hdb : (x == ("__debug__" : Str)) = false := by decide) (hcd : (x == ("__classdict__" : Str)) = false := by decide) (he : starEach (e :: es) X.env = (false, eval e X.env) :: starEach es X.env := by rfl) (hpl : (backTo pos (starEach es X.env)).any (·.1) = false := by rfl) :
    DE X C W (.Call (.Name x p) (e :: es) [] pos) (fCallV i tbl fs) := by
  obtain ⟨t, pa, s⟩ := ha.ex
  refine ⟨_, pe_callW (E := fun σ cls d H => W cls d σ H) hr hN hv (fun σ => passAt tk σ) pa hdb hcd he hpl, fun ρ S r S' h L σ H Q en so po => ?_⟩
  obtain ⟨y, e1, h1⟩ := opt_bind h
  obtain ⟨F, e2, h2⟩ := opt_bind h1
  obtain ⟨v, hv1, hv2⟩ := en.2 i _ (join_at (fnName_eq e1))
  have hv3 : v = .ref (He.ga X.K y) := by
    have r0 : Rep X.K (mask L H) v (opD (.str y)) := hv2
    generalize hd : opD (.str y) = d at r0
    cases r0 with
    | op hz =>
      cases hd
      cases hz
      rfl
    | dk hl hg r =>
      rename_i ks vs ds
      cases ks with
      | nil => cases hd
      | cons k0 ks =>
        cases r with
        | nil => cases hd
        | cons _ _ => cases k0 <;> cases hd
    | dt hl hg r =>
      rename_i ks vs ds
      cases ks with
      | nil => cases hd
      | cons k0 ks =>
        cases r with
        | nil => cases hd
        | cons _ _ => cases hd
    | _ => cases hd
  obtain ⟨G, hmG⟩ := T y F e2
  obtain ⟨f, fd, ps, hps, hm, hk, hb, ok⟩ := G.ex
  have hf : f = He.ga X.K y := by
    rw [hmG] at hm
    cases hm
    rfl
  refine ⟨f, fd, ps, _, by rw [hf, ← hv3]; exact hv1, ok, hk, hb, ?_⟩
  have hlen := hn ρ S
  unfold fCall at h2
  cases hq : fs ρ S with
  | none => rw [hq] at h2; cases h2
  | some q =>
    obtain ⟨q, S1⟩ := q
    rw [hq] at h2 hlen
    cases q with
    | inr z =>
      cases h2
      exact s ρ S _ _ hq L σ H _ en so ⟨fun b z => (by cases z), fun e' he' L' H' st so' cls d x => po.bad e' (by cases he'; rfl) L' H' st so' cls d x⟩
    | inl os =>
      refine s ρ S _ _ hq L σ H _ en so ⟨fun b z L1 H1 st1 so1 vs rv => ?_, fun e' he' => by cases he'⟩
      cases z
      refine ⟨os, L1, S1, r, S', hlen os S1 rfl, rv, so1, h2, fun L' H' st so' => ⟨fun o ho v rvo => ?_, fun e' he' cls d xr => ?_⟩⟩
      · exact po.fine o ho L' H' (st1.trans st) so' v rvo
      · exact po.bad e' he' L' H' (st1.trans st) so' cls d xr
end
/-! ### a call without arguments -/
section
variable {X : Cx} {C : Str → Value} {W : WX} {k : Nat} {x : Str} {p pos : Pos} {F : List OV → Sto → Rs OV}
theorem pe_callS0 {CX : CXT} {f : Addr} {fd : FuncData} {ps : List Str} {sp : Sp} {E : L2.St → XK} (ok : FnOk X.prog X.w X.K X.mg X.base CX k f fd ps sp) (hr : Room k X.A) (hg : Gl X x) (hm : X.mg x = some (.ref f)) (hk : PySem.W.keepIn X.K (.ref f) = true) (hb : Binds X.K fd ps []) (hx : ∀ σ, PassesAt CX X σ (E σ))
    (hdb : (x == ("__debug__" : Str)) = false := by decide) : PE X (.Call (.Name x p) [] [] pos) (tCallS sp E tNil) := by
  refine ⟨fun pins s σ H Q I h => ?_⟩
  refine wpAny_Call_Name_kw (ld_glob I hg hm ?_ hdb)
  exact PySem.W.callWith_K0 I.kIn hk (run_fnS (us := []) ok hr hb (hx σ) I .nil h)
theorem de_call0 (G : FnD X.prog X.w X.K X.mg X.base C k x 0 F) (hr : Room k X.A) (tk : Takes X W) (hg : Gl X x) (hdb : (x == ("__debug__" : Str)) = false := by decide) : DE X C W (.Call (.Name x p) [] [] pos) (fCall F aNil) := by
  obtain ⟨f, fd, ps, hps, hm, hk, hb, ok⟩ := G.ex
  refine ⟨_, pe_callS0 (E := fun σ cls d H => W cls d σ H) ok hr hg hm hk hb (fun σ => passAt tk σ) hdb, fun ρ S r S' h L σ H Q en so po => ?_⟩
  refine ⟨[], L, S, r, S', rfl, .nil, so, h, fun L' H' st so' => ⟨fun o ho v rvo => ?_, fun e' he' cls d xr => ?_⟩⟩
  · exact po.fine o ho L' H' st so' v rvo
  · exact po.bad e' he' L' H' st so' cls d xr
end
/-! ### tests made of locals -/
abbrev FB := Env1 → Option Bool
structure DB (X : Cx) (e : Expr) (f : FB) : Prop where
  ex : ∃ t, PE X e t ∧ ∀ ρ b, f ρ = some b → ∀ L σ H (Q : VK), EnvR X.K L H σ ρ → Q (.bl b) H → t σ H Q
def bC (b : Bool) : FB := fun _ => some b
def bLt (f g : FI) : FB := fun ρ => (f ρ).bind fun i => (g ρ).map fun j => decide (i < j)
section
variable {X : Cx} {a b : Expr} {f g : FI} {pos : Pos}
theorem db_c {k : Bool} {j} : DB X (.Constant (.bool k) j pos) (bC k) := ⟨_, pe_bl, fun ρ b h L σ H Q en q => by
  cases h
  exact q⟩
theorem map_some {α β : Type} {o : Option α} {k : α → β} {x : β} (h : o.map k = some x) : ∃ a, o = some a ∧ k a = x := by
  cases o with
  | none => cases h
  | some a => exact ⟨a, rfl, Option.some.inj h⟩
theorem db_lt (ha : DV X a f) (hb : DV X b g) (hm : behindInMarks .Lt b = false := by rfl) : DB X (.Compare a [.Lt] [b] pos) (bLt f g) := by
  obtain ⟨t, p, s⟩ := ha.ex
  obtain ⟨u, p2, s2⟩ := hb.ex
  refine ⟨_, pe_cmpR op_lt p p2 hm, fun ρ k h L σ H Q en q => ?_⟩
  obtain ⟨i, e1, h1⟩ := opt_bind (show (f ρ).bind (fun i => (g ρ).map fun j => decide (i < j)) = some k from h)
  obtain ⟨j, e2, rfl⟩ := map_some h1
  exact s ρ i e1 L σ H _ en (s2 ρ j e2 L σ H _ en ⟨i, j, rfl, rfl, q⟩)
theorem db_gt (ha : DV X a f) (hb : DV X b g) (hm : behindInMarks .Gt b = false := by rfl) : DB X (.Compare a [.Gt] [b] pos) (bLt g f) := by
  obtain ⟨t, p, s⟩ := ha.ex
  obtain ⟨u, p2, s2⟩ := hb.ex
  refine ⟨_, pe_cmpR op_gt p p2 hm, fun ρ k h L σ H Q en q => ?_⟩
  obtain ⟨j, e1, h1⟩ := opt_bind (show (g ρ).bind (fun j => (f ρ).map fun i => decide (j < i)) = some k from h)
  obtain ⟨i, e2, rfl⟩ := map_some h1
  exact s ρ i e2 L σ H _ en (s2 ρ j e1 L σ H _ en ⟨i, j, rfl, rfl, q⟩)
end
structure DBs (X : Cx) (pos : Pos) (ks : List (Option Expr)) (vs : List Expr) (zs : List Str) (fs : List FB) : Prop where
  ex : ∃ trs, PPs X pos ks vs trs ∧ ∀ ρ is, fs.mapM (fun f => f ρ) = some is → ∀ L σ H (Q : List (V × V) → Hp → Prop), EnvR X.K L H σ ρ → Q (zs.zipWith (fun z i => (.str z, .bl i)) is) H → tPairs trs σ H Q
theorem dbs_nil {X : Cx} {pos : Pos} : DBs X pos [] [] [] [] := ⟨[], pps_nil, fun ρ is h L σ H Q en q => by
  cases h
  exact q⟩
theorem dbs_cons {X : Cx} {pos p2 : Pos} {z : Str} {c : Nat} {v : Expr} {ks : List (Option Expr)} {vs : List Expr} {zs : List Str} {f : FB} {fs : List FB} (hv : DB X v f) (hr : DBs X pos ks vs zs fs) : DBs X pos (some (.Constant (.str z) c p2) :: ks) (v :: vs) (z :: zs) (f :: fs) := by
  obtain ⟨t, p, s⟩ := hv.ex
  obtain ⟨trs, q, s2⟩ := hr.ex
  refine ⟨_, pps_cons pe_str p q, fun ρ is h L σ H Q en hq => ?_⟩
  rw [List.mapM_cons] at h
  obtain ⟨i, e1, h1⟩ := opt_bind h
  obtain ⟨r, e2, h2⟩ := opt_bind h1
  cases h2
  exact s ρ i e1 L σ H _ en (s2 ρ r e2 L σ H _ en hq)
def kvB (zs : List Str) (bs : List Bool) : List (L2.Key × V) := zs.zipWith (fun z b => (.inr z, .bl b)) bs
theorem kvB_pairs : ∀ (zs : List Str) (bs : List Bool), zs.zipWith (fun z i => (V.str z, V.bl i)) bs = (kvB zs bs).map fun kv => (kV kv.1, kv.2)
  | [], _ => rfl
  | _ :: _, [] => rfl
  | z :: zs, i :: is => by
    have := kvB_pairs zs is
    unfold kvB at this ⊢
    simp only [List.zipWith_cons_cons, List.map_cons, this]
    rfl
theorem mergeB_app : ∀ (zs : List Str) (is : List Bool) (acc : List (L2.Key × V)), (∀ a ∈ acc, ∀ z ∈ zs, a.1 ≠ .inr z) → zs.Nodup → mergeK acc (kvB zs is) = acc ++ kvB zs is
  | [], _, acc, _, _ => by simp [kvB, mergeK]
  | _ :: _, [], acc, _, _ => by simp [kvB, mergeK]
  | z :: zs, i :: is, acc, h, nd => by
    obtain ⟨n1, n2⟩ := List.nodup_cons.mp nd
    have e1 : putK acc (.inr z : L2.Key) (V.bl i) = acc ++ [(.inr z, .bl i)] := by
      unfold putK
      rw [if_neg]
      intro q
      obtain ⟨a, ha, hb⟩ := List.any_eq_true.mp q
      exact h a ha z (by simp) (of_decide_eq_true hb)
    show mergeK (putK acc (.inr z) (.bl i)) (kvB zs is) = acc ++ ((.inr z, .bl i) :: kvB zs is)
    rw [e1, mergeB_app zs is _ ?_ n2]
    · simp
    · intro a ha y hy e
      rcases List.mem_append.mp ha with ha | ha
      · exact h a ha y (by simp [hy]) e
      · rw [List.mem_singleton.mp ha] at e
        cases e
        exact n1 hy
theorem kvB_zip : ∀ (zs : List Str) (bs : List Bool), kvB zs bs = (zs.map Sum.inr).zip (bs.map V.bl)
  | [], _ => rfl
  | _ :: _, [] => rfl
  | z :: zs, b :: bs => congrArg ((Sum.inr z, V.bl b) :: ·) (kvB_zip zs bs)
theorem reps_bools {K : PySem.W.Frag} {G : Hp} : ∀ bs : List Bool, Reps K G (bs.map V.bl) (bs.map .bool)
  | [] => .nil
  | b :: bs => .cons (.bl b) (reps_bools bs)
theorem mapM_len {fs : List FB} {ρ : Env1} : ∀ {is : List Bool}, fs.mapM (fun f : FB => f ρ) = some is → is.length = fs.length := by
  induction fs with
  | nil =>
    intro is h
    cases h
    rfl
  | cons f fs ih =>
    intro is h
    rw [List.mapM_cons] at h
    obtain ⟨i, e1, h1⟩ := opt_bind h
    obtain ⟨r, e2, h2⟩ := opt_bind h1
    cases h2
    simp [ih e2]
def fDispB (zs : List Str) (fs : List FB) : E1 := fun ρ S => (fs.mapM (fun f : FB => f ρ)).bind fun bs => ret (.own S.length) (S ++ [.dict ((zs.map .str).zip (bs.map .bool))])
theorem de_dispB {X : Cx} {C : Str → Value} {W : WX} {pos : Pos} {ks : List (Option Expr)} {vs : List Expr} {zs : List Str} {fs : List FB} (h : DBs X pos ks vs zs fs) (hnd : zs.Nodup := by decide +kernel) (hz : zs.length = fs.length := by rfl) (hz0 : zs ≠ [] := by exact List.cons_ne_nil _ _)
    (hlen : zs.length ≤ 15 := by decide) (hall : ks.all (·.isSome) = true := by rfl) (hl : ks.length = vs.length := by rfl) (h0 : ks ≠ [] := by exact List.cons_ne_nil _ _) (h15 : ks.length ≤ 15 := by decide) :
    DE X C W (.Dict ks vs pos) (fDispB zs fs) := by
  obtain ⟨trs, pp, s⟩ := h.ex
  refine ⟨_, pe_disp pp hall hl h0 h15, fun ρ S r S' h L σ H Q en so po => ?_⟩
  obtain ⟨bs, e1, h1⟩ := opt_bind h
  have hb : bs.length = zs.length := by rw [hz]; exact mapM_len e1
  intro p hp
  refine s ρ bs e1 L σ (upd H p (.dK [])) _ (en.step (step_new hp)) ⟨upd_same, kvB zs bs, kvB_pairs zs bs, ?_, ?_⟩
  · have : (kvB zs bs).length ≤ zs.length := by
      unfold kvB
      rw [List.length_zipWith]
      exact Nat.min_le_left _ _
    omega
  · rw [mergeB_app zs bs [] (by simp) hnd, List.nil_append, upd_upd]
    have ek : (zs.map (Sum.inr : Str → L2.Key)).map keyD = zs.map PyData.str := by rw [List.map_map]; rfl
    obtain ⟨k1, k2⟩ := so.own (o := .dK (kvB zs bs)) hp (d := .dict ((zs.map .str).zip (bs.map .bool))) (.inl ⟨zs.map .inr, bs.map .bl, bs.map .bool, by simp [hb], by rw [upd_same, kvB_zip], reps_bools bs, by rw [ek], by simpa using hz0⟩)
    exact po.done (S0 := S ++ [.dict ((zs.map .str).zip (bs.map .bool))]) h1 k1 k2 _ (show RepO X.K (L ++ [p]) _ (.ref p) (.own S.length) from ⟨p, rfl, by rw [← so.len, List.getElem?_append_right (Nat.le_refl _), Nat.sub_self]; rfl⟩)
end Dk
set_option Elab.async false
set_option linter.all false
set_option maxRecDepth 100000
set_option maxHeartbeats 4000000
/-! A list display so many times. -/
namespace Dk
open PySem PySem.Spec PyProof.Rows L2
def fRep (fa : EF) (fb : E1) : EF := fun ρ S => (fa ρ S).bind fun ds S1 => (fb ρ S1).bind fun b S2 => match b with
  | .dat (.int k) => if -(2 ^ 63) ≤ k ∧ k < 2 ^ 63 ∧ ds.length * k.toNat ≤ sizeLine then ret (List.replicate k.toNat ds).flatten S2 else none
  | _ => none
section
variable {X : Cx} {C : Str → Value} {W : WX} {a b : Expr} {pos : Pos} {fa : EF} {fb : E1}
theorem Reps.rep {K : PySem.W.Frag} {G : Hp} {vs : List V} {ds : List D} (r : Reps K G vs ds) : ∀ m : Nat, Reps K G (List.replicate m vs).flatten (List.replicate m ds).flatten
  | 0 => .nil
  | m + 1 => r.append (Reps.rep r m)
theorem df_rep (ha : DF X C W a fa) (hb : DE X C W b fb) : DF X C W (.BinOp a .Mult b pos) (fRep fa fb) := by
  obtain ⟨ta, p1, s1⟩ := ha.ex
  obtain ⟨tb, p2, s2⟩ := hb.ex
  refine ⟨_, pe_op op_rep p1 p2, fun ρ S r S' h L σ H Q en so po => ?_⟩
  refine s1.bind h en so po fun ds S1 L1 H1 p vs h1 st1 so1 hp rs en1 po1 => ?_
  have st2 := step_new (L := L1) (o := .lst vs) hp
  refine s2.bind h1 (en1.step st2) (so1.laid hp) (po1.step st2) fun o S2 L2 H2 u h2 st3 so2 r2 en2 po2 => ?_
  have hp1 : mask L1 (upd H1 p (.lst vs)) p = some (.lst vs) := mask_of (so1.new hp) upd_same
  have hp2 := st3.frz _ _ hp1
  split at h2
  · rename_i k
    split at h2
    · rename_i hz
      cases (r2 : Rep X.K _ u (.int k))
      have rs2 : Reps X.K (mask L2 H2) vs ds := (rs.mono st2.frz).mono st3.frz
      exact ⟨p, k, vs, rfl, rfl, (mask_some hp2).2, hz.1, hz.2.1, by rw [rs2.length]; exact hz.2.2, fun q hq => po2.done (S0 := S2) h2 Step.refl so2 q _ hq (rs2.rep _)⟩
    · cases h2
  · cases h2
end
end Dk
namespace Dk
open PySem PySem.Spec PyProof.Rows L2
/-! list + list, as a new list of one's own -/
def catS (S : Sto) (a b : OV) : Option (List D) := match view S a, view S b with
  | some (.list xs), some (.list ys) => if xs.length + ys.length ≤ sizeLine then some (xs ++ ys) else none
  | _, _ => none
def rCat (K : PySem.W.Frag) : R2 := fun x y H Q => ∃ L S a b ds, StoR K L H S ∧ RepO K L H x a ∧ RepO K L H y b ∧ catS S a b = some ds ∧
  ∀ p vs, H p = none → Reps K (mask L H) vs ds → Q (.ref p) (upd H p (.lst vs))
def fCat (fa fb : E1) : EF := fun ρ S => (fa ρ S).bind fun a S1 => (fb ρ S1).bind fun b S2 => (catS S2 a b).bind fun ds => ret ds S2
section
variable {X : Cx} {C : Str → Value} {W : WX} {a b : Expr} {pos : Pos} {fa fb : E1}
theorem ro_cat : OpR X (binaryOp .Add) (rCat X.K) := by
  intro pins s σ H x y v u Q I rx ry h
  obtain ⟨L, S, a, b, ds, so, ra, rb, e, q⟩ := h
  unfold catS at e
  split at e
  · rename_i i j h1 h2
    split at e
    · rename_i hz
      cases e
      obtain ⟨p1, vs, rfl, m1, r1⟩ := view_list h1 ra so
      obtain ⟨p2, ws, rfl, m2, r2⟩ := view_list h2 rb so
      cases rx
      cases ry
      obtain ⟨its, k1, ⟨⟨cl1, od1, dt1, sl1⟩, n1, e1, c1, d1, q1⟩, z1⟩ := I.list m1
      obtain ⟨its2, k2, ⟨⟨cl2, od2, dt2, sl2⟩, n2, e2, c2, d2, q2⟩, z2⟩ := I.list m2
      simp only at c1 d1 q1 c2 d2 q2
      subst c1 d1 q1 c2 d2 q2
      have hl1 := k1.length
      have hl2 := k2.length
      have hz' : vs.length + ws.length ≤ sizeLine := by rw [r1.length, r2.length]; exact hz
      have road := PyProof.Rows.list_addW p1 p2 its.toArray its2.toArray n1 n2 none none sl1 sl2 (by rw [List.size_toArray, List.size_toArray]; omega)
      refine concat_meets ⟨_, e1, rfl⟩ ⟨_, e2, rfl⟩ noFill_list_add seq_list_add F.slot_list_add F.entry_list_add (F.args_list_add_2 _ _) road ⟨e1, e2, ?_⟩
      rw [show its.toArray ++ its2.toArray = (its ++ its2).toArray by simp]
      exact ⟨.ref _, _, I.lnew (t' := s.toks) (k1.append k2) (by rw [List.length_append]; exact hz'), rfl, q _ _ I.fresh (r1.append r2)⟩
    · cases e
  · cases e
theorem df_cat (ha : DE X C W a fa) (hb : DE X C W b fb) : DF X C W (.BinOp a .Add b pos) (fCat fa fb) := by
  obtain ⟨ta, p1, s1⟩ := ha.ex
  obtain ⟨tb, p2, s2⟩ := hb.ex
  refine ⟨_, pe_op ro_cat p1 p2, fun ρ S r S' h L σ H Q en so po => ?_⟩
  refine s1.bind h en so po fun x S1 L1 H1 v h1 st1 so1 r1 en1 po1 => ?_
  refine s2.bind h1 en1 so1 po1 fun y S2 L2 H2 u h2 st2 so2 r2 en2 po2 => ?_
  obtain ⟨ds, e, h3⟩ := opt_bind h2
  exact ⟨L2, S2, x, y, ds, so2, r1.step st2, r2, e, fun q ws hq rs => po2.done (S0 := S2) h3 Step.refl so2 q ws hq rs⟩
end
end Dk
set_option Elab.async false
set_option linter.all false
set_option maxRecDepth 100000
set_option maxHeartbeats 4000000
/-! Dicts that are walked: locked for that time. -/
namespace Dk
open PySem PySem.Spec PyProof.Rows L2
section
variable {K : PySem.W.Frag} {L L' : List Addr} {H H' : Hp} {S S' : Sto}
theorem repO_cong (e : mask L H = mask L H') {v : V} : ∀ {o : OV}, RepO K L H v o → RepO K L H' v o
  | .dat _, r => by
    show Rep K (mask L H') _ _
    rw [← e]
    exact r
  | .own _, ⟨a, h1, h2⟩ => ⟨a, h1, h2⟩
theorem EnvR.cong {σ : L2.St} {ρ : Env1} (en : EnvR K L H σ ρ) (e : mask L H = mask L H') : EnvR K L H' σ ρ :=
  ⟨en.1, fun i o h => by
    obtain ⟨v, h1, h2⟩ := en.2 i o h
    exact ⟨v, h1, repO_cong e h2⟩⟩
theorem zip_none {κ : Type} {f : κ → D} (hf : ∀ k, f k ≠ .none) {ks : List κ} {ds : List D} {x : D} {r : List (D × D)} (e : (PyData.none, x) :: r = (ks.map f).zip ds) : False := by
  have hm : ((PyData.none, x) : D × D) ∈ (ks.map f).zip ds := by rw [← e]; simp
  obtain ⟨k, hk⟩ := zip_fst hm
  exact hf k hk.symm
theorem keyD_ne (k : L2.Key) : keyD k ≠ .none := by cases k <;> intro z <;> cases z
theorem keysD_ne (k : List L2.Key) : keysD k ≠ .none := by intro z; cases z
theorem zip_unlk {κ : Type} {f : κ → D} (hf : ∀ k, f k ≠ .none) {ks : List κ} {ds : List D} (h : isLk ((ks.map f).zip ds) = true) : False := by
  cases ks with
  | nil => cases h
  | cons k r =>
    cases ds with
    | nil => cases h
    | cons d t =>
      have h : isLk ((f k, d) :: (r.map f).zip t) = true := h
      have := hf k
      cases e : f k <;> rw [e] at h <;> first | exact absurd e this | cases h
/-- what stands at the place of an owned dict while it is walked -/
structure LockD (K : PySem.W.Frag) (L : List Addr) (H : Hp) (S : Sto) (n : Nat) (p : Addr) (u : HO) (kvs : List (D × D)) : Prop where
  at_ : H p = some u
  mu : Mut (some u)
  own : p ∈ L
  step1 : ∀ ob, mask L H = mask L (upd H p (.frz ob u)) ∧ StoR K L (upd H p (.frz ob u)) (S.set n (.dict (lockD :: kvs)))
  back : ∀ ob L' H' S' x kvs', Step L (upd H p (.frz ob u)) L' H' → StoR K L' H' S' → S'[n]? = some (.dict ((.none, x) :: kvs')) →
    H' p = some (.frz ob u) ∧ Step L H L' (upd H' p u) ∧ StoR K L' (upd H' p u) (S'.set n (.dict kvs')) ∧ mask L' H' = mask L' (upd H' p u)
theorem lock_ok (so : StoR K L H S) {n : Nat} {p : Addr} (hL : L[n]? = some p) {kvs : List (D × D)} (hS : S[n]? = some (.dict kvs)) (hk : isLk kvs = false) : ∃ u, LockD K L H S n p u kvs := by
  have hm := List.mem_of_getElem? hL
  have D0 : ObjR K (mask L H) H p (.dict kvs) := so.obj n p _ hL hS
  have main : ∀ u, H p = some u → Mut (some u) → (∀ ob, ObjR K (mask L H) (upd H p (.frz ob u)) p (.dict (lockD :: kvs))) → (∀ ob u', u ≠ .frz ob u') → (∃ b : Bool, ∀ ob, if b then ∃ z, HO.frz ob u = .frz ob (.dK z) else ∃ z, HO.frz ob u = .frz ob (.dT z)) → LockD K L H S n p u kvs := by
    intro u hu mu od nf _
    refine ⟨hu, mu, hm, fun ob => ⟨(mask_upd_own hm).symm, so.wr hL (od ob)⟩, fun ob L' H' S' x kvs' st so' hS' => ?_⟩
    have hp' : H' p = some (.frz ob u) := st.fz p ob u upd_same
    have hL' := st.get hL
    have hm' := List.mem_of_getElem? hL'
    have od' : ObjR K (mask L' H') (upd H' p u) p (.dict kvs') := by
      rcases (so'.obj n p _ hL' hS' : ObjR K (mask L' H') H' p (.dict ((.none, x) :: kvs'))) with ⟨ks, vs, ds, k1, k2, k3, k4, _⟩ | ⟨ks, vs, ds, k1, k2, k3, k4⟩ | ⟨ob', ks, vs, ds, k1, k2, k3, k4, k5⟩ | ⟨ob', ks, vs, ds, k1, k2, k3, k4⟩
      · exact (zip_none keyD_ne k4).elim
      · exact (zip_none keysD_ne k4).elim
      · rw [hp'] at k2
        cases k2
        cases k4
        exact .inl ⟨ks, vs, ds, k1, upd_same, k3, rfl, k5⟩
      · rw [hp'] at k2
        cases k2
        cases k4
        exact .inr (.inl ⟨ks, vs, ds, k1, upd_same, k3, rfl⟩)
    refine ⟨hp', ⟨?_, st.pre, fun b ob2 u2 e => ?_⟩, so'.wr hL' od', (mask_upd_own hm').symm⟩
    · have h1 := st.frz
      rw [mask_upd_own hm] at h1
      rw [mask_upd_own hm']
      exact h1
    · have hb : b ≠ p := fun z => by
        rw [z, hu] at e
        exact nf _ _ (Option.some.inj e)
      rw [upd_ne hb]
      exact st.fz b ob2 u2 (by rw [upd_ne hb]; exact e)
  rcases D0 with ⟨ks, vs, ds, k1, k2, k3, rfl, k5⟩ | ⟨ks, vs, ds, k1, k2, k3, rfl⟩ | ⟨ob', ks, vs, ds, k1, k2, k3, rfl, k5⟩ | ⟨ob', ks, vs, ds, k1, k2, k3, rfl⟩
  · exact ⟨_, main _ k2 trivial (fun ob => .inr (.inr (.inl ⟨ob, ks, vs, ds, k1, upd_same, k3, rfl, k5⟩))) (by intro _ _ z; cases z) ⟨true, fun ob => ⟨_, rfl⟩⟩⟩
  · exact ⟨_, main _ k2 trivial (fun ob => .inr (.inr (.inr ⟨ob, ks, vs, ds, k1, upd_same, k3, rfl⟩))) (by intro _ _ z; cases z) ⟨false, fun ob => ⟨_, rfl⟩⟩⟩
  · cases hk
  · cases hk
theorem upd_swap {p d : Addr} {x u : HO} (h : p ≠ d) : upd (upd H p x) d u = upd (upd H d u) p x := by
  funext b
  unfold upd
  by_cases e1 : b = d
  · by_cases e2 : b = p
    · exact absurd (e2.symm.trans e1) h
    · rw [if_pos e1, if_neg e2, if_pos e1]
  · by_cases e2 : b = p
    · rw [if_neg e1, if_pos e2, if_pos e2]
    · rw [if_neg e1, if_neg e2, if_neg e2, if_neg e1]
end
/-- the dict that local i holds is locked while a list is made -/
def lockF (i : Nat) (f : EF) : EF := fun ρ S => match ρ[i]?.join with
  | some (.own n) => match S[n]? with
    | some (.dict kvs) => if isLk kvs = false then match f ρ (S.set n (.dict (lockD :: kvs))) with
        | some (.inl ds, S') => match S'[n]? with
          | some (.dict ((.none, _) :: kvs')) => ret ds (S'.set n (.dict kvs'))
          | _ => none
        | _ => none
      else none
    | _ => none
  | _ => none
def lockS (i : Nat) (g : SS) : SS := fun ρ S => match ρ[i]?.join with
  | some (.own n) => match S[n]? with
    | some (.dict kvs) => if isLk kvs = false then match g ρ (S.set n (.dict (lockD :: kvs))) with
        | some (.nx, ρ', S') => match S'[n]? with
          | some (.dict ((.none, _) :: kvs')) => some (.nx, ρ', S'.set n (.dict kvs'))
          | _ => none
        | _ => none
      else none
    | _ => none
  | _ => none
section
variable {X : Cx} {C : Str → Value} {W : WX} {e : Expr} {f : EF} {g : SS} {st : Stmt}
theorem join_var {ρ : Env1} {i : Nat} {o : OV} (h : ρ[i]?.join = some o) : ρ[i]? = some (some o) := by
  cases e : ρ[i]? with
  | none => rw [e] at h; cases h
  | some x => rw [e] at h; cases x with
    | none => cases h
    | some y => cases h; rfl
theorem df_lock (i : Nat) (h : DF X C W e f) : DF X C W e (lockF i f) := by
  obtain ⟨t, p, s⟩ := h.ex
  refine ⟨_, pe_lock p, fun ρ S r S' h L σ H Q en so po => ?_⟩
  unfold lockF at h
  split at h
  · rename_i n hj
    split at h
    · rename_i kvs hS
      split at h
      · rename_i hk
        split at h
        · rename_i ds S1 hf
          split at h
          · rename_i x kvs' hS1
            cases h
            obtain ⟨v, _, a, _, hL⟩ := en.get (join_var hj)
            obtain ⟨u, lk⟩ := lock_ok so hL hS hk
            refine ⟨a, u, lk.at_, lk.mu, fun ob => ?_⟩
            obtain ⟨m1, so1⟩ := lk.step1 ob
            refine s ρ _ _ _ hf L σ _ _ (en.cong m1) so1 ⟨fun b hb L' H' st so' q vs hq rs => ?_, fun e he => by cases he⟩
            cases hb
            obtain ⟨b1, b2, b3, b4⟩ := lk.back ob L' H' S1 x kvs' st so' hS1
            have hqa : q ≠ a := fun z => by rw [z, b1] at hq; cases hq
            refine ⟨by rw [upd_ne (Ne.symm hqa)]; exact b1, ?_⟩
            rw [upd_swap hqa]
            exact po.fine _ rfl L' (upd H' a u) b2 b3 q vs (by rw [upd_ne hqa]; exact hq) (by rw [← b4]; exact rs)
          · cases h
        · cases h
      · cases h
    · cases h
  · cases h
theorem ds_lock (i : Nat) (h : DS X C W st g) : DS X C W st (lockS i g) := by
  obtain ⟨t, p, s⟩ := h.ex
  refine ⟨_, ps_lock p, fun ρ S fl ρ' S' h L σ H D en so po => ?_⟩
  unfold lockS at h
  split at h
  · rename_i n hj
    split at h
    · rename_i kvs hS
      split at h
      · rename_i hk
        split at h
        · rename_i ρ1 S1 hf
          split at h
          · rename_i x kvs' hS1
            cases h
            obtain ⟨v, _, a, _, hL⟩ := en.get (join_var hj)
            obtain ⟨u, lk⟩ := lock_ok so hL hS hk
            refine ⟨a, u, lk.at_, lk.mu, fun ob => ?_⟩
            obtain ⟨m1, so1⟩ := lk.step1 ob
            refine s ρ _ _ _ _ hf L σ _ _ (en.cong m1) so1 ⟨fun _ L' H' σ' st so' en' => ?_, fun z => (by cases z), fun z => (by cases z), fun o z => (by cases z), fun e z => (by cases z)⟩
            obtain ⟨b1, b2, b3, b4⟩ := lk.back ob L' H' S1 x kvs' st so' hS1
            exact ⟨b1, po.nx rfl L' (upd H' a u) σ' b2 b3 (en'.cong b4)⟩
          · cases h
        · cases h
      · cases h
    · cases h
  · cases h
end
/-! ### the keys of a locked dict -/
def iKeysS (f : E1) : EI := fun ρ S => (f ρ S).bind fun o S1 => match o with
  | .own n => match S1[n]? with
    | some (.dict ((.none, _) :: kvs)) => ret (kvs.map (·.1), none) S1
    | _ => none
  | _ => none
section
variable {K : PySem.W.Frag} {L L' : List Addr} {H H' : Hp} {S S' : Sto}
theorem rep_key {G : Hp} (k : L2.Key) : Rep K G (kV k) (keyD k) := by
  cases k with
  | inl i => exact .int i
  | inr x => exact .str x
theorem reps_keys {G : Hp} : ∀ ks : List L2.Key, Reps K G (ks.map kV) (ks.map keyD)
  | [] => .nil
  | k :: ks => .cons (rep_key k) (reps_keys ks)
theorem not_own_tup (so : StoR K L H S) {q : Addr} {vs : List V} (h : H q = some (.tup vs)) : q ∉ L := fun hm => by
  obtain ⟨n, hn, e⟩ := List.mem_iff_getElem.mp hm
  have h1 : L[n]? = some q := by rw [List.getElem?_eq_getElem hn, e]
  have h2 : S[n]? = some (S[n]'(by rw [← so.len]; exact hn)) := List.getElem?_eq_getElem _
  have od := so.obj n q _ h1 h2
  generalize S[n]'(by rw [← so.len]; exact hn) = d at od
  cases d with
  | list ds => obtain ⟨vs', k, _⟩ := (od : ObjR K (mask L H) H q (.list ds)); rw [h] at k; cases k
  | dict kvs =>
    rcases (od : ObjR K (mask L H) H q (.dict kvs)) with ⟨_, _, _, _, k, _⟩ | ⟨_, _, _, _, k, _⟩ | ⟨_, _, _, _, _, k, _⟩ | ⟨_, _, _, _, _, k, _⟩ <;> rw [h] at k <;> cases k
  | none => exact od
  | bool _ => exact od
  | int _ => exact od
  | str _ => exact od
  | tuple _ => exact od
theorem zip_at {α β : Type} {xs : List α} {ys : List β} (hl : xs.length = ys.length) {i : Nat} {a : α} {b : β} (h : (xs.zip ys)[i]? = some (a, b)) : xs[i]? = some a := (List.getElem?_zip_eq_some.mp h).1
theorem keys_of_zip {κ : Type} {f : κ → D} {ks : List κ} {ds : List D} (hl : ks.length = ds.length) : ((ks.map f).zip ds).map (·.1) = ks.map f := by
  rw [List.map_fst_zip (by simp; omega)]
theorem serves_keys {p : Addr} {ob : Obj} {ks : List L2.Key} {vs : List V} {items : List D} (hl : ks.length = vs.length) (hp : H p = some (.frz ob (.dK (ks.zip vs)))) (hi : items = ks.map keyD) : Serves K L H (Itk p ob (ks.zip vs)) items none := by
  subst hi
  refine ⟨fun L' H' S' st so ok => ?_⟩
  have hp' := st.fz _ _ _ hp
  have e : (ks.zip vs).length = ks.length := by simp; omega
  refine ⟨fun i hi => ⟨hp', by rw [e]; simpa using hi⟩, ⟨hp', by rw [e]; simp⟩, fun i x H2 hi y => ?_⟩
  obtain ⟨rfl, k, v, h1, rfl⟩ := y
  exact ⟨Step.refl, so, keyD k, by rw [List.getElem?_map, zip_at hl h1]; rfl, rep_key k⟩
theorem serves_keysT {p : Addr} {ob : Obj} {ks : List (List L2.Key)} {vs : List V} {items : List D} (hl : ks.length = vs.length) (hp : H p = some (.frz ob (.dT (ks.zip vs)))) (hi : items = ks.map keysD) : Serves K L H (Itkt p ob (ks.zip vs)) items none := by
  subst hi
  refine ⟨fun L' H' S' st so ok => ?_⟩
  have hp' := st.fz _ _ _ hp
  have e : (ks.zip vs).length = ks.length := by simp; omega
  refine ⟨fun i hi => ⟨hp', by rw [e]; simpa using hi⟩, ⟨hp', by rw [e]; simp⟩, fun i x H2 hi y => ?_⟩
  obtain ⟨rfl, k, v, q, h1, rfl, h2⟩ := y
  exact ⟨Step.refl, so, keysD k, by rw [List.getElem?_map, zip_at hl h1]; rfl, .tup (mask_of (not_own_tup so h2) h2) (reps_keys k)⟩
/-- a read of a locked dict -/
theorem dget_lk {kvs : List (D × D)} {z kd d : D} {p : Addr} {y : V} {o : OV} (h : dgetD kvs kd = some d) (D0 : DictAt K (mask L H) H p ((.none, z) :: kvs)) (e : view S o = some kd) (r : RepO K L H y o) (s : StoR K L H S) : ∃ v, DGet H p y (some v) ∧ Rep K (mask L H) v d := by
  unfold dgetD at h
  split at h
  · rename_i c
    have hne := valD_mem h
    rcases D0 with ⟨ks, vs, ds, hl, hp, rs, e2⟩ | ⟨ks, vs, ds, hl, hp, rs, e2⟩ | ⟨ob, ks, vs, ds, hl, hp, rs, e2⟩ | ⟨ob, ks, vs, ds, hl, hp, rs, e2⟩ | ⟨y0, e2⟩
    rotate_left 4
    · cases e2
      obtain ⟨_, hw⟩ := hne
      cases hw
    · exact (zip_none keyD_ne e2).elim
    · exact (zip_none keysD_ne e2).elim
    · have e2 : kvs = (ks.map keyD).zip ds := (List.cons.inj e2).2
      obtain ⟨k, rfl⟩ := isK1_ex (kind2 e2 hne isKT_key c)
      rw [e2] at h
      obtain ⟨v, h1, h2⟩ := (valD_rep keyD eqv_key k hl rs).1 d h
      refine ⟨v, ?_, h2⟩
      rw [view_key e r s, ← h1]
      exact .inl ⟨_, _, .inr ⟨ob, hp⟩, rfl, rfl⟩
    · have e2 : kvs = (ks.map keysD).zip ds := (List.cons.inj e2).2
      obtain ⟨k, rfl⟩ := isKT_ex (kind1 e2 hne isK1_keys c)
      rw [e2] at h
      obtain ⟨v, h1, h2⟩ := (valD_rep keysD eqv_keys k hl rs).1 d h
      obtain ⟨b, rfl, hb⟩ := key_tup e r s
      refine ⟨v, ?_, h2⟩
      rw [← h1]
      exact .inr ⟨_, _, b, .inr ⟨ob, hp⟩, rfl, hb, rfl⟩
  · cases h
end
def ixW (S : Sto) (a b : OV) : Option D := match view S a with
  | some (.dict ((.none, _) :: kvs)) => (view S b).bind fun k => dgetD kvs k
  | _ => none
section
variable {X : Cx} {C : Str → Value} {W : WX} {a b tg e : Expr} {pos : Pos} {fa fb fe : E1}
theorem di_keys (h : DE X C W e fe) : DI X C W tg e (iKeysS fe) := by
  obtain ⟨t, p, s⟩ := h.ex
  refine ⟨_, pi_keys p, fun ρ S r S' h L σ H R en so po => ?_⟩
  refine s.bind h en so po fun o S1 L1 H1 v h1 st1 so1 r1 en1 po1 => ?_
  split at h1
  · rename_i n
    split at h1
    · rename_i z kvs hS
      obtain ⟨a, rfl, hL⟩ := r1
      rcases (so1.obj n a _ hL hS : ObjR X.K (mask L1 H1) H1 a (.dict ((.none, z) :: kvs))) with ⟨ks, vs, ds, k1, k2, k3, k4, _⟩ | ⟨ks, vs, ds, k1, k2, k3, k4⟩ | ⟨ob, ks, vs, ds, k1, k2, k3, k4, _⟩ | ⟨ob, ks, vs, ds, k1, k2, k3, k4⟩
      · exact (zip_none keyD_ne k4).elim
      · exact (zip_none keysD_ne k4).elim
      · have e2 : kvs = (ks.map keyD).zip ds := (List.cons.inj k4).2
        refine ⟨a, ob, rfl, .inl ⟨_, k2, po1.done (S0 := S1) h1 Step.refl so1 _ (serves_keys k1 k2 ?_)⟩⟩
        rw [e2]
        exact keys_of_zip (k1.trans k3.length)
      · have e2 : kvs = (ks.map keysD).zip ds := (List.cons.inj k4).2
        refine ⟨a, ob, rfl, .inr ⟨_, k2, po1.done (S0 := S1) h1 Step.refl so1 _ (serves_keysT k1 k2 ?_)⟩⟩
        rw [e2]
        exact keys_of_zip (k1.trans k3.length)
    · cases h1
  · cases h1
theorem ri_ixW (hu : X.A.units + 1 < cLine) : IxR X (rOf X.K ixW) := by
  intro value slice pins s σ H x y v u Q I rx ry h hs
  obtain ⟨L, S, a, b, d, so, ra, rb, e, q⟩ := h
  unfold ixW at e
  split at e
  · rename_i z kvs h1
    obtain ⟨p, rfl, D0⟩ := dict_at h1 ra so
    obtain ⟨kd, e1, e2⟩ := opt_bind e
    obtain ⟨w, g, rw'⟩ := dget_lk e2 D0 e1 rb so
    obtain rfl : v = Value.ref p := rx
    refine tail_any (dict_typeIs I g) PySem.F.slot_dict_getitem.lookup (d_getItem hu I g ry fun w' s' I' r' => ⟨w, H, I', r', q _ _ Step.refl so rw'⟩) hs
  · cases e
theorem de_ixW (hu : X.A.units + 1 < cLine) (ha : DE X C W a fa) (hb : DE X C W b fb) (hs : PlainIx b) : DE X C W (.Subscript a b pos) (op2 ixW fa fb) := by
  obtain ⟨ta, p1, s1⟩ := ha.ex
  obtain ⟨tb, p2, s2⟩ := hb.ex
  exact ⟨_, pe_ix (ri_ixW hu) p1 p2 hs, sm_op s1 s2⟩
end
/-! ### an empty dict, and stores with tuple keys -/
def fDNewT : E1 := fun _ S => ret (.own S.length) (S ++ [.dict []])
def dputT (kvs : List (D × D)) (k v : D) : Option (List (D × D)) := if kvs.length < sizeLine ∧ isKT k = true ∧ (kvs.all fun p => isKT p.1) then some (putD kvs k v) else none
def sPutT (fo fi fe : E1) : SS := sE fe fun v => sE fo fun o => sE fi fun i ρ S => match v, o with
  | .dat d, .own n => match S[n]? with
    | some (.dict kvs) => (view S i).bind fun k => (dputT kvs k d).bind fun kvs' => some (.nx, ρ, S.set n (.dict kvs'))
    | _ => none
  | _, _ => none
section
variable {K : PySem.W.Frag} {H : Hp} {L : List Addr} {S : Sto}
theorem dputT_ok {kvs kvs' : List (D × D)} {kd d : D} {p : Addr} {y v : V} {o : OV} {n : Nat} (h : dputT kvs kd d = some kvs') (so : StoR K L H S) (hL : L[n]? = some p) (hS : S[n]? = some (.dict kvs)) (e : view S o = some kd) (r : RepO K L H y o) (rv : Rep K (mask L H) v d) :
    ∃ H', DPut H p y v H' ∧ Step L H L H' ∧ StoR K L H' (S.set n (.dict kvs')) := by
  have D0 : ObjR K (mask L H) H p (.dict kvs) := so.obj n p _ hL hS
  unfold dputT at h
  split at h
  · rename_i c
    obtain ⟨c1, c2, c3⟩ := c
    cases h
    rcases D0 with ⟨ks, vs, ds, hl, hp, rs, e2, hne⟩ | ⟨ks, vs, ds, hl, hp, rs, e2⟩ | ⟨ob, ks, vs, ds, hl, hp, rs, e2, _⟩ | ⟨ob, ks, vs, ds, hl, hp, rs, e2⟩
    · cases ks with
      | nil => exact absurd rfl hne
      | cons k ks =>
        cases rs with
        | nil => simp at hl
        | cons h1 h2 =>
          rw [e2] at c3
          simp [isKT_key] at c3
    · obtain ⟨k, rfl⟩ := isKT_ex c2
      have rk : RepKv K (mask L H) keysD (ks.zip vs) kvs := by rw [e2]; exact RepKv.of hl rs
      obtain ⟨ks', vs', ds', h1, h2, h3, h4⟩ := (rk.put eqv_keys k rv).out
      have hz : (ks.zip vs).length < sizeLine := by rw [rk.length]; exact c1
      obtain ⟨w1, w2⟩ := so.write (o := .dT (putK (ks.zip vs) k v)) hL (d := .dict (putD kvs (keysD k) d)) (.inr (.inl ⟨ks', vs', ds', h1, by rw [upd_same, h2], h3, h4⟩)) (nf_of hp)
      obtain ⟨b, rfl, hb⟩ := key_tup e r so
      exact ⟨_, DPut.t hp hb hz, w1, w2⟩
    · rw [e2] at c3; exact (lock_no (.inr ⟨c2, c3⟩)).elim
    · rw [e2] at c3; exact (lock_no (.inr ⟨c2, c3⟩)).elim
  · cases h
end
section
variable {X : Cx} {C : Str → Value} {W : WX} {o i e : Expr} {fo fi fe : E1} {pos p2 : Pos}
theorem de_dnewT : DE X C W (.Dict [] [] pos) fDNewT := by
  refine ⟨_, pe_dnewT, fun ρ S r S' h L σ H Q en so po => ?_⟩
  intro p hp
  obtain ⟨k1, k2, k3⟩ := own_dT so hp (kv := []) (kvs := []) .nil
  exact po.done (S0 := S ++ [.dict []]) (show ret (.own S.length) (S ++ [.dict []]) = some (r, S') from h) k1 k2 _ k3
theorem ds_putT (hu : X.A.units + 1 < cLine) (ho : DE X C W o fo) (hi : DE X C W i fi) (he : DE X C W e fe) (hs : swapsWith e (some (.Subscript o i p2)) pos.line X.env = pure false := by rfl) : DS X C W (.Assign [.Subscript o i p2] e pos) (sPutT fo fi fe) := by
  obtain ⟨t1, p1, s1⟩ := ho.ex
  obtain ⟨t2, q2, s2⟩ := hi.ex
  obtain ⟨t3, p3, s3⟩ := he.ex
  refine ⟨_, ps_dput hu p1 q2 p3 hs, fun ρ S fl ρ' S' h L σ H D en so po => ?_⟩
  refine s3.stm h en so po fun x S1 L1 H1 v h1 st1 so1 r1 en1 po1 => ?_
  refine s1.stm h1 en1 so1 po1 fun y S2 L2 H2 u h2 st2 so2 r2 en2 po2 => ?_
  refine s2.stm h2 en2 so2 po2 fun z S3 L3 H3 w h3 st3 so3 r3 en3 po3 => ?_
  split at h3
  · rename_i d n
    split at h3
    · rename_i kvs hn
      obtain ⟨k, e1, h4⟩ := opt_bind h3
      obtain ⟨kvs', e2, h5⟩ := opt_bind h4
      cases h5
      obtain ⟨a, ea, hL⟩ := r2.step st3
      have rd := (r1.step st2).step st3
      obtain ⟨H4, g, k1, k2⟩ := dputT_ok e2 so3 hL hn e1 r3 rd
      exact ⟨a, H4, ea, g, po3.nx rfl L3 _ σ k1 k2 (en3.step k1)⟩
    · cases h3
  · cases h3
end
/-! ### a, b = x, y by way of a pair, owned things too -/
def sAsgO (n : Nat) (fa : EL) (t : Tgs) : SS := fun ρ S => match fa ρ S with
  | none => none
  | some (.inr e, S1) => some (.er e, ρ, S1)
  | some (.inl os, S1) => if os.length = n then (t os ρ).bind fun ρ1 => some (.nx, ρ1, S1) else none
section
variable {X : Cx} {C : Str → Value} {W : WX}
theorem ds_asgO {es xs : List Expr} {fa : EL} {is : List Nat} {t : Tgs} {k k2 : Nat} {n : Nat} {pt p2 pos : Pos} (hc : X.calm = true) (hg : DGs X es is t) (ha : DA X C W xs fa) (hz : n ≤ sizeLine := by decide) (hn : (assignEach es X.env).length = n := by rfl) (hst : (assignEach es X.env).findIdx? (·.1) = none := by rfl)
    (hs : swapsWithSole [.Tuple es k pt] (.Tuple xs k2 p2) pos.line X.env = pure false := by rfl) (hw : swappedStores [.Tuple es k pt] (.Tuple xs k2 p2) X.env = pure none := by rfl)
    (h1 : (assignEach [.Tuple es k pt] X.env).map (·.2) = [assign (.Tuple es k pt) X.env] := by rfl) :
    DS X C W (.Assign [.Tuple es k pt] (.Tuple xs k2 p2) pos) (sAsgO n fa t) := by
  obtain ⟨ta, pa, s⟩ := ha.ex
  obtain ⟨g, pg, sg⟩ := hg.ex
  refine ⟨_, ps_asg (pe_tup pa) (pg_tup hc pg hn hst) hs hw h1, fun ρ S fl ρ' S' h L σ H D en so po => ?_⟩
  unfold sAsgO at h
  split at h
  · cases h
  · rename_i e S1 q
    cases h
    exact s ρ S _ _ q L σ H _ en so ⟨fun b z => (by cases z), fun e' he L' H' st so' cls d x => po.er e' (by cases he; rfl) L' H' σ cls d st so' (en.step st) x⟩
  · rename_i os S1 q
    split at h
    · rename_i hl
      obtain ⟨ρ1, e1, e2⟩ := opt_bind h
      cases e2
      refine s ρ S _ _ q L σ H _ en so ⟨fun b z L' H' st so' vs rv => ?_, fun e' he => by cases he⟩
      cases z
      refine ⟨by rw [rv.length, hl]; exact hz, fun p hp => ⟨p, vs, rfl, SqT.of upd_same, by rw [rv.length, hl], ?_⟩⟩
      have sn := step_new (L := L') (o := .tup vs) hp
      exact sg _ _ _ e1 L' σ (upd H' p (.tup vs)) _ vs _ ((en.step st).step sn) (so'.laid hp) (rv.step sn) fun σ' en' _ => po.nx rfl L' _ σ' (st.trans sn) (so'.laid hp) en'
    · cases h
end
end Dk
set_option Elab.async false
set_option linter.all false
set_option maxRecDepth 100000
set_option maxHeartbeats 4000000
/-! sorted(tuples), the first of which is empty. -/
namespace Dk
open PySem PySem.Spec PySem.Calls PyProof.Rows L2 PySem.SeqAt PySem.W
section
variable {prog : Program} {w : World} {A : Around} {E : Value → Shared → Prop} {s : Shared}
theorem call_tuple_lt {Q : Value → Shared → Prop} {l b : Addr} {items items2 : Array Value} {e r : Nat → Bool} (hl : s.heap.IsTuple l items) (hb : s.heap.IsTuple b items2)
    (he : ∀ j (h1 : j < items.size) (h2 : j < items2.size), EqAt A.in1 s items[j] items2[j] (e j)) (hr : ∀ j (h1 : j < items.size) (h2 : j < items2.size), e j = false → RcLt A.in1 s items[j] items2[j] (r j))
    (h : Q (.bool (firstLt e r (decide (items.size < items2.size)) (List.range (min items.size items2.size)))) s) : wpAny (model prog w) A (call (.builtin "tuple.__lt__") [.ref l, .ref b]) Q E s := by
  obtain ⟨⟨cls, dd, data, sl⟩, ho, hc, n, hd⟩ := id hl
  obtain ⟨⟨cls2, dd2, data2, sl2⟩, ho2, hc2, n2, hd2⟩ := id hb
  simp only at hc hd hc2 hd2
  subst hc hd hc2 hd2
  exact call_meets PySem.F.slot_tuple_lt ⟨_, ho, rfl⟩ PySem.F.entry_tuple_lt (PySem.F.args_tuple_lt_2 _ _) (tuple_ltAt l b items items2 n n2 dd dd2 sl sl2 e r) ⟨ho, ho2, he, hr, h⟩
theorem oneLt_tup {xs : List PyData} {db : PyData} {a b : Value} {as bs : List Addr} {Q : Bool → Shared → Prop} (ra : Reads s.heap a (.tuple xs) as) (rb : Reads s.heap b db bs) (h : alike (.tuple xs) db = true)
    (hu : A.units + min (PyData.depth (.tuple xs)) db.depth < cLine) (hq : Q (dataLt (.tuple xs) db) s) : wpAny (model prog w) A (oneLt' true a b) Q E s := by
  cases db with
  | tuple ys =>
    have hal : alikeAll xs ys = true := by simpa [alike] using h
    cases ra with
    | @tuple l o vs n _ as₁ h1 h2 h3 h4 =>
      cases rb with
      | @tuple l' o' vs' n' _ bs₁ k1 k2 k3 k4 =>
        have n1 : vs.size = xs.length := by simpa using ReadsAll.length _ _ _ h4
        have n2 : vs'.size = ys.length := by simpa using ReadsAll.length _ _ _ k4
        rw [dataLt_tuple, ← firstLt_toks xs ys hal, ← n1, ← n2] at hq
        rw [oneLt'_eq]
        simp only [if_true]
        refine wpAny_bind (wpAny_cRoomFor (room_here hu) ?_)
        refine wpAny_bind (wpAny_callSpecialIfBound?_slot (T := "tuple") ⟨_, h1, h2⟩ PySem.F.slot_tuple_lt (call_tuple_lt (e := pairEq xs ys) (r := fun j => dataLt (xs.getD j .none) (ys.getD j .none)) ⟨_, h1, h2, _, h3⟩ ⟨_, k1, k2, _, k3⟩ (fun j j1 j2 => ?_) (fun j j1 j2 hj => ?_) ?_))
        · have := eqAt_alikeAll xs ys A.in1 s vs.toList vs'.toList _ _ h4 k4 hal (room_in hu) j (by simpa using j1) (by simpa using j2)
          simpa using this
        · have := rcLt_alikeAll xs ys A.in1 s vs.toList vs'.toList _ _ h4 k4 hal (room_in hu) j (by simpa using j1) (by simpa using j2) hj
          simpa using this
        · exact wpAny_truthy_bool hq
  | _ => exact absurd h (by simp [alike])
theorem firsts_any {M : Model} : ∀ (vs : List Value) {Q : List (Option Value) → Shared → Prop}, (∀ v ∈ vs, ∃ a o xs n, v = .ref a ∧ s.heap.get? a = some o ∧ o.cls = .type "tuple" ∧ o.data = .seq xs n) → (∀ os, Q os s) → wpAny M A (vs.mapM firstOfTuple') Q E s
  | [], _, _, h => by rw [List.mapM_nil]; exact wpAny_pure (h [])
  | v :: vs, Q, t, h => by
    obtain ⟨a, o, xs, n, rfl, ho, hc, hd⟩ := t v (by simp)
    rw [List.mapM_cons]
    refine wpAny_bind ?_
    rw [kas_first_eq]
    refine wpAny_bind (Looks.here (show Looks M s.heap (typeOf (.ref a)) o.cls from (Looks.ld ho).andThen .now) ?_)
    rw [hc, if_neg (by first | decide | simp)]
    refine wpAny_bind (listItems_at ho hd (wpAny_pure ?_))
    exact wpAny_bind (firsts_any vs (Q := fun bs s' => wpAny M A (pure (xs[0]? :: bs)) Q E s') (fun v hv => t v (by simp [hv])) fun os => wpAny_pure (h _))
theorem kind_tup {M : Model} {v₁ : Value} {vs : List Value} {Q : SortKind → Shared → Prop} (h1 : ∃ a o n, v₁ = .ref a ∧ s.heap.get? a = some o ∧ o.cls = .type "tuple" ∧ o.data = .seq #[] n) (ht : ∀ v ∈ vs, ∃ a o xs n, v = .ref a ∧ s.heap.get? a = some o ∧ o.cls = .type "tuple" ∧ o.data = .seq xs n) (h : Q oneType' s) :
    wpAny M A (keyKind' (v₁ :: vs).toArray) Q E s := by
  have hT : ∀ v ∈ v₁ :: vs, Looks M s.heap (typeOf v) (.type "tuple") := fun v hv => by
    obtain ⟨a, o, n, rfl, ho, hc, hd⟩ := h1
    rcases List.mem_cons.mp hv with rfl | hv
    · exact hc ▸ (show Looks M s.heap (typeOf (.ref a)) o.cls from (Looks.ld ho).andThen .now)
    · obtain ⟨a, o, xs, n, rfl, ho, hc, hd⟩ := ht v hv
      exact hc ▸ (show Looks M s.heap (typeOf (.ref a)) o.cls from (Looks.ld ho).andThen .now)
  rw [keyKind'_eq, List.mapM_toArray, map_eq_pure_bind]
  refine wpAny_bind (wpAny_bind ?_)
  obtain ⟨a, o, n, e1, ho, hc, hd⟩ := h1
  rw [List.mapM_cons]
  refine wpAny_bind ?_
  rw [kas_first_eq, e1]
  refine wpAny_bind (Looks.here (show Looks M s.heap (typeOf (.ref a)) o.cls from (Looks.ld ho).andThen .now) ?_)
  rw [hc, if_neg (by first | decide | simp)]
  refine wpAny_bind (listItems_at ho hd (wpAny_pure ?_))
  refine wpAny_bind (firsts_any vs ht fun os => wpAny_pure (wpAny_pure ?_))
  rw [if_neg (by simp), if_neg (by simp)]
  rw [oneTypeOnly'_eq, List.mapM_toArray, map_eq_pure_bind]
  rw [← e1]
  refine wpAny_bind (wpAny_bind (wpAny_bind (kas_mapM (r := Value.type "tuple") _ (fun v hv Q' hq => (hT v hv).here hq) (wpAny_pure ?_))))
  have hall : ((List.map (fun _ => Value.type "tuple") (v₁ :: vs)).toArray.all fun x => x == Value.type "tuple") = true := by
    simp only [List.all_toArray, List.all_map, List.all_eq_true]
    intro _ _
    rfl
  have h0 : (List.map (fun _ => Value.type "tuple") (v₁ :: vs)).toArray[0]? = some (Value.type "tuple") := by simp
  rw [h0]
  simp only [hall, if_true]
  exact wpAny_pure (wpAny_pure h)
theorem reads_tup {h : Heap} {v : Value} {xs : List PyData} {as : List Addr} (r : Reads h v (.tuple xs) as) : ∃ a o ys n, v = .ref a ∧ h.get? a = some o ∧ o.cls = .type "tuple" ∧ o.data = .seq ys n ∧ ys.size = xs.length := by
  cases r with
  | @tuple l o vs n _ _ h1 h2 h3 h4 => exact ⟨l, o, vs, n, rfl, h1, h2, h3, by simpa using ReadsAll.length _ _ _ h4⟩
theorem sortsAt_tup {vs : List Value} {ds : List PyData} (e : EachIs (fun v d => ∃ as, Reads s.heap v d as) vs (.tuple [] :: ds)) (hal : AllAlike (.tuple [] :: ds)) (ht : ∀ d ∈ ds, ∃ xs, d = .tuple xs) (hu : ∀ d, d ∈ PyData.tuple [] :: ds → A.units + d.depth < cLine) : SortsAt prog w A s (dataKind s.heap (.tuple [] :: ds)) vs := by
  have room : ∀ {d d' : PyData}, d ∈ PyData.tuple [] :: ds → A.units + min d.depth d'.depth < cLine := fun {d d'} hd => Nat.lt_of_le_of_lt (Nat.add_le_add_left (Nat.min_le_left _ _) _) (hu d hd)
  have ht' : ∀ d ∈ PyData.tuple [] :: ds, ∃ xs, d = .tuple xs := fun d hd => by
    rcases List.mem_cons.mp hd with rfl | hd
    · exact ⟨[], rfl⟩
    · exact ht d hd
  refine ⟨fun v hv => ?_, oneType', ?_, fun h2 E Q hq => ?_⟩
  · obtain ⟨d, hd, as, r⟩ := e.left v hv
    exact ⟨_, dataKind_some hal hd r⟩
  · intro E x y a b Q ha hb hq
    obtain ⟨d, as, hd, ra, rfl⟩ := dataKind_inv ha
    obtain ⟨d', as', hd', rb, rfl⟩ := dataKind_inv hb
    rw [keyLt'_oneType]
    obtain ⟨xs, rfl⟩ := ht' d hd
    exact oneLt_tup ra rb (hal _ hd d' hd') (room hd) hq
  · cases e with
    | cons h1 t =>
      obtain ⟨as, r⟩ := h1
      refine kind_tup ?_ (fun v hv => ?_) hq
      · obtain ⟨a, o, ys, n, k1, k2, k3, k4, k5⟩ := reads_tup r
        have : ys = #[] := by simpa using k5
        subst this
        exact ⟨a, o, n, k1, k2, k3, k4⟩
      · obtain ⟨d, hd, as, r⟩ := t.left v hv
        obtain ⟨xs, rfl⟩ := ht d hd
        obtain ⟨a, o, ys, n, k1, k2, k3, k4, _⟩ := reads_tup r
        exact ⟨a, o, ys, n, k1, k2, k3, k4⟩
end
section
variable {prog : Program} {w : World} {A : Around} {E : Value → Shared → Prop} {s : Shared} {β : Type} {vs : List Value} {bs : List β} {enc : β → PyData} {R : Value → β → Prop}
theorem sorted_dataT {l : Addr} {Q : Value → Shared → Prop} (hl : s.heap.IsList l vs.toArray) (e : EachIs R vs bs) (er : EachIs (fun v b => ∃ as, Reads s.heap v (enc b) as) vs bs) (hal : AllAlike (bs.map enc)) (hk : ∃ ds, bs.map enc = .tuple [] :: ds ∧ ∀ d ∈ ds, ∃ xs, d = .tuple xs) (hL : bs.length ≤ sizeLine)
    (hu : ∀ b, b ∈ bs → A.units + 2 + (enc b).depth < cLine) (h : ∀ out, out.length = bs.length → EachIs R out (bs.mergeSort (dataLe false enc)) → Q (.ref (s.heap.objs.size + 1)) { s with heap := sortedAll s.heap vs (List.toArray out) }) :
    wpAny (model prog w) A (call (.builtin "sorted") [.ref l]) Q E s := by
  have er' : EachIs (fun v b => ∃ as, Reads (sortingHeap (copyHeap s.heap vs) (s.heap.objs.size + 1) vs) v (enc b) as) vs bs := er.mono fun _ _ ⟨as, r⟩ => ⟨as, PyProof.Rows.Reads.keeps (fun _ _ => sorting_copy_old) r⟩
  have em := each_map (R := fun v d => ∃ as, Reads (sortingHeap (copyHeap s.heap vs) (s.heap.objs.size + 1) vs) v d as) enc er'
  have hb := bound_map (A := A.in1.in1) (enc := enc) (bs := bs) (fun b hb => hu b hb)
  refine sorted_vals (κ := dataKind (sortingHeap (copyHeap s.heap vs) (s.heap.objs.size + 1) vs) (bs.map enc)) hl ?_ (by rw [e.length]; exact hL)
    (h _ (by rw [sortVals_length false rfl]; exact e.length) (sortVals_data false e er' hal))
  obtain ⟨ds, e1, e2⟩ := hk
  rw [e1] at em hal hb ⊢
  exact sortsAt_tup (s := { s with heap := sortingHeap (copyHeap s.heap vs) (s.heap.objs.size + 1) vs }) em hal e2 hb
end
def tup1B : List D → Bool
  | .tuple [] :: r => r.all fun d => match d with
    | .tuple _ => true
    | _ => false
  | _ => false
theorem tup1B_ok {ds : List D} (h : tup1B ds = true) : ∃ r, ds = .tuple [] :: r ∧ ∀ d ∈ r, ∃ xs, d = .tuple xs := by
  unfold tup1B at h
  split at h
  · rename_i r
    refine ⟨r, rfl, fun d hd => ?_⟩
    have := List.all_eq_true.mp h d hd
    cases d <;> first | exact ⟨_, rfl⟩ | cases this
  · cases h
def sortT (S : Sto) (os : List OV) : Option (List D) := match os with
  | [o] => (viewL S o).bind fun ds => if PyData.canLayAll0 ds = true ∧ alikeB ds = true ∧ tup1B ds = true ∧ (∀ d ∈ ds, d.depth ≤ 64) then some (ds.mergeSort (PySem.W.dataLe false id)) else none
  | _ => none
theorem rc_sortedT {X : Cx} {k : Nat} (hr : Room k X.A) : CallR X (.builtin "sorted") (rOfF X.K sortT) := by
  intro pins s σ H xs us Q I r h
  obtain ⟨L, S, os, ds', so, ro, e, q⟩ := h
  unfold sortT at e
  split at e
  · obtain ⟨v, rfl, rv⟩ := reps_one ro
    obtain ⟨ds, e1, e2⟩ := opt_bind e
    split at e2
    · rename_i hz
      obtain ⟨hlay, hal, hso, hdp⟩ := hz
      cases e2
      obtain ⟨a, vs, rfl, m, rs⟩ := view_list (viewL_eq e1) rv so
      obtain ⟨u, rfl, ru⟩ := Vals.one r
      cases ru
      obtain ⟨its, vr, pl, hlen⟩ := I.list m
      have dp : DpAll X.K H vs ds := Reps.dp (rs.mono (mask_same L H)) hlay
      obtain ⟨as, rd⟩ := Dp.readsAll I ds vs its dp vr
      obtain ⟨z1, z2, z3⟩ := reps_zip rs
      have hl := rs.length
      have hdp' : ∀ p ∈ vs.zip ds, p.2.depth ≤ 64 := fun p hp => hdp _ (z2 ▸ List.mem_map_of_mem hp)
      refine sorted_dataT (bs := vs.zip ds) (enc := Prod.snd) (R := fun u (p : V × D) => RelV p.1 u) pl.isList (vals_each rs vr) (reads_each hl rd) (by rw [z2]; exact alikeB_ok hal) (by rw [z2]; exact tup1B_ok hso) (by rw [z3, ← hl]; exact hlen)
        (fun p hp => by have := hdp' p hp; have := hr.un; omega) fun out ho er => ?_
      have hperm := List.mergeSort_perm (vs.zip ds) (PySem.W.dataLe false Prod.snd)
      have rs2 := zip_reps (l := (vs.zip ds).mergeSort (PySem.W.dataLe false Prod.snd)) fun p hp => z1 p (hperm.mem_iff.mp hp)
      have hmap : ((vs.zip ds).mergeSort (PySem.W.dataLe false Prod.snd)).map Prod.snd = ds.mergeSort (PySem.W.dataLe false id) := by
        exact (PySem.W.sort_maps (r := PySem.W.dataLe false Prod.snd) (s := PySem.W.dataLe false id) (l := vs.zip ds) Prod.snd (fun a _ b _ => rfl)).trans (by rw [z2])
      rw [hmap] at rs2
      have vals2 := each_vals er
      obtain ⟨c, hc⟩ := PyProof.Rows.sortedAll_at s.heap its out.toArray
      have hf : H (s.heap.objs.size + 1) = none := I.hok.fresh (Nat.le_succ _)
      have J := I.laid (a := s.heap.objs.size + 1) (o := .lst (((vs.zip ds).mergeSort (PySem.W.dataLe false Prod.snd)).map Prod.fst)) (h' := PyProof.Rows.sortedAll s.heap its out.toArray) (t' := s.toks) (fun b u e => PyProof.Rows.sortedAll_old e) (Nat.le_succ _)
        ⟨by rw [rs2.length, List.length_mergeSort, ← hl]; exact hlen, out, c, vals2, hc⟩
      exact ⟨.ref (s.heap.objs.size + 1), _, J, rfl, q _ _ hf rs2⟩
    · cases e2
  · cases e
end Dk
set_option Elab.async false
set_option linter.all false
set_option maxRecDepth 100000
set_option maxHeartbeats 4000000
/-! A dict that is filled in a piece of a def and is data behind it; dict(d); {x: (0, ())}. -/
namespace Dk
open PySem PySem.Spec PyProof.Rows L2
def thaw (n : Nat) (S' : Sto) : Option OV → Option OV
  | some (.own k) => if k < n then some (.own k) else match S'[k]? with
    | some (.list ds) => some (.dat (.list ds))
    | some (.dict kvs) => if isLk kvs = true then none else some (.dat (.dict kvs))
    | _ => none
  | o => o
def shrS (g : SS) : SS := fun ρ S => match g ρ S with
  | some (.nx, ρ', S') => some (.nx, ρ'.map (thaw S.length S'), S'.take S.length)
  | _ => none
section
variable {K : PySem.W.Frag} {L L' : List Addr} {H H' : Hp} {S S' : Sto}
theorem EnvR.thaw {σ : L2.St} {ρ : Env1} (so : StoR K L H S) (st : Step L H L' H') (so' : StoR K L' H' S') (en : EnvR K L' H' σ ρ) : EnvR K L H' σ (ρ.map (thaw S.length S')) := by
  have less : Same (mask L' H') (mask L H') := by
    obtain ⟨M, rfl⟩ := st.pre
    exact mask_less fun a h => by simp [h]
  refine ⟨by rw [List.length_map]; exact en.1, fun i o h => ?_⟩
  rw [List.getElem?_map] at h
  cases e0 : ρ[i]? with
  | none => rw [e0] at h; cases h
  | some o0 =>
    rw [e0] at h
    have h : Dk.thaw S.length S' o0 = some o := Option.some.inj h
    cases o0 with
    | none => cases h
    | some o1 =>
      obtain ⟨v, h1, h2⟩ := en.2 i o1 e0
      refine ⟨v, h1, ?_⟩
      cases o1 with
      | dat d =>
        cases h
        exact Rep.mono less h2
      | own k =>
        obtain ⟨a, rfl, hL⟩ := h2
        have h : (if k < S.length then some (OV.own k) else match S'[k]? with
          | some (.list ds) => some (.dat (.list ds))
          | some (.dict kvs) => if isLk kvs = true then none else some (.dat (.dict kvs))
          | _ => none) = some o := h
        split at h
        · rename_i hk
          cases h
          obtain ⟨M, rfl⟩ := st.pre
          exact ⟨a, rfl, by rw [List.getElem?_append_left (by rw [so.len]; exact hk)] at hL; exact hL⟩
        · rename_i hk
          have out : a ∉ L := fun ha => by
            obtain ⟨M, rfl⟩ := st.pre
            have nd := so'.nd
            obtain ⟨j, hj, ej⟩ := List.mem_iff_getElem.mp ha
            have q1 : (L ++ M)[j]? = some a := by rw [List.getElem?_append_left hj, List.getElem?_eq_getElem hj, ej]
            have z1 := List.getElem?_eq_some_iff.mp q1
            have z2 := List.getElem?_eq_some_iff.mp hL
            have := (List.getElem_inj nd).mp (z1.2.trans z2.2.symm)
            rw [so.len] at hj
            omega
          split at h
          · rename_i ds hds
            cases h
            obtain ⟨ws, k1, k2⟩ := (so'.obj k a _ hL hds : ObjR K (mask L' H') H' a (.list ds))
            exact Rep.lst (SqL.of (mask_of out k1)) (k2.mono less)
          · rename_i kvs hds
            split at h
            · cases h
            · rename_i hlk
              cases h
              rcases (so'.obj k a _ hL hds : ObjR K (mask L' H') H' a (.dict kvs)) with ⟨ks, vs, ds, k1, k2, k3, rfl, _⟩ | ⟨ks, vs, ds, k1, k2, k3, rfl⟩ | ⟨ob, ks, vs, ds, k1, k2, k3, rfl, _⟩ | ⟨ob, ks, vs, ds, k1, k2, k3, rfl⟩
              · exact Rep.dk k1 (mask_of out k2) (k3.mono less)
              · exact Rep.dt k1 (mask_of out k2) (k3.mono less)
              · exact absurd rfl hlk
              · exact absurd rfl hlk
          · cases h
end
section
variable {X : Cx} {C : Str → Value} {W : WX}
/-- two statements whose new lists and dicts are data behind them -/
theorem dss_scope {A B : Stmt} {rest : List Stmt} {a b c : SS} (hA : DS X C W A a) (hB : DS X C W B b) (hC : DSs X C W rest c) : DSs X C W (A :: B :: rest) (sSeq (shrS (sSeq a b)) c) := by
  obtain ⟨ta, pa, sa⟩ := hA.ex
  obtain ⟨tb, pb, sb⟩ := hB.ex
  obtain ⟨tc, pc, sc⟩ := hC.ex
  refine ⟨_, pss_cons pa (pss_cons pb pc), fun ρ S fl ρ' S' h L σ H D en so po => ?_⟩
  unfold sSeq shrS at h
  dsimp only at h
  cases ea : a ρ S with
  | none => rw [ea] at h; cases h
  | some z =>
    obtain ⟨f1, ρ1, S1⟩ := z
    rw [ea] at h
    cases f1 <;> try (cases h; done)
    cases eb : b ρ1 S1 with
    | none => dsimp only at h; rw [eb] at h; cases h
    | some z =>
      obtain ⟨f2, ρ2, S2⟩ := z
      dsimp only at h
      rw [eb] at h
      cases f2 <;> try (cases h; done)
      refine sa ρ S _ _ _ ea L σ H _ en so ⟨fun _ L1 H1 σ1 st1 so1 en1 => ?_, fun z => (by cases z), fun z => (by cases z), fun o z => (by cases z), fun e z => (by cases z)⟩
      refine sb ρ1 S1 _ _ _ eb L1 σ1 H1 _ en1 so1 ⟨fun _ L2 H2 σ2 st2 so2 en2 => ?_, fun z => (by cases z), fun z => (by cases z), fun o z => (by cases z), fun e z => (by cases z)⟩
      have st := st1.trans st2
      obtain ⟨c1, c2⟩ := so.shrink st so2
      exact sc _ _ _ _ _ h L σ2 H2 D (EnvR.thaw so st so2 en2) c2 (po.step c1)
end
/-! dict(d): a copy, owned from here on -/
def dictC (S : Sto) (os : List OV) : Option (List (D × D)) := match os with
  | [o] => match view S o with
    | some (.dict kvs) => if kvs ≠ [] ∧ (kvs.all fun p => isK1 p.1) then some kvs else none
    | _ => none
  | _ => none
section
variable {X : Cx} {C : Str → Value} {W : WX} {e : Expr} {fs : EL} {p pos : Pos}
theorem de_dictC (hg : Gl X "dict") (hm : X.mg "dict" = none) (ha : DA X C W [e] fs)
    (he : starEach [e] X.env = (false, eval e X.env) :: starEach [] X.env := by rfl) (hpl : (backTo pos (starEach [] X.env)).any (·.1) = false := by rfl) : DE X C W (.Call (.Name "dict" p) [e] [] pos) (ownD dictC fs) := by
  obtain ⟨t, pa, s⟩ := ha.ex
  refine ⟨_, pe_callTy call_dictD hg hm (by decide +kernel) pa (by decide) (by decide) he hpl, fun ρ S r S' h L σ H Q en so po => ?_⟩
  refine s.bind h en so po fun os S1 L1 H1 vs h1 st1 so1 r1 en1 po1 => ?_
  obtain ⟨kvs, e1, h2⟩ := opt_bind h1
  unfold dictC at e1
  split at e1
  · rename_i o
    obtain ⟨v, rfl, rv⟩ := reps_one r1
    split at e1
    · rename_i kvs0 hv
      split at e1
      · rename_i c
        obtain ⟨c1, c2⟩ := c
        cases e1
        obtain ⟨a, rfl, D0⟩ := dict_at hv rv so1
        rcases D0 with ⟨ks, vs, ds, hl, hp, rs, e2⟩ | ⟨ks, vs, ds, hl, hp, rs, e2⟩ | ⟨ob, ks, vs, ds, hl, hp, rs, e2⟩ | ⟨ob, ks, vs, ds, hl, hp, rs, e2⟩ | ⟨y0, e2⟩
        rotate_left 4
        · rw [e2] at c2
          simp [isK1] at c2
        · refine ⟨a, _, rfl, .inl hp, fun q hq => ?_⟩
          have hks : ks ≠ [] := fun z => c1 (by rw [e2, z]; rfl)
          obtain ⟨k1, k2⟩ := so1.own (o := .dK (ks.zip vs)) hq (d := .dict kvs) (.inl ⟨ks, vs, ds, hl, upd_same, rs, e2, hks⟩)
          exact po1.done (S0 := S1 ++ [.dict kvs]) h2 k1 k2 _ (show RepO X.K (L1 ++ [q]) _ (.ref q) (.own S1.length) from ⟨q, rfl, by rw [← so1.len, List.getElem?_append_right (Nat.le_refl _), Nat.sub_self]; rfl⟩)
        · cases ks with
          | nil => exact absurd e2 (by simpa using c1)
          | cons k ks =>
            cases rs with
            | nil => simp at hl
            | cons h1 h2 =>
              rw [e2] at c2
              simp [isK1_keys] at c2
        · rw [e2] at c2
          simp [lockD, isK1] at c2
        · rw [e2] at c2
          simp [lockD, isK1] at c2
      · cases e1
    · cases e1
  · cases e1
/-! {x: (0, ())} -/
def fDisp0 (f : FI) : E1 := fun ρ S => match f ρ with
  | some i => ret (.dat (.dict [(.int i, .tuple [.int 0, .tuple []])])) S
  | none => none
theorem upd_swap2 {H : Hp} {p d : Addr} {x u : HO} (h : p ≠ d) : upd (upd H p x) d u = upd (upd H d u) p x := upd_swap h
theorem de_disp0 {a : Expr} {f : FI} {k1 k2 j1 : Nat} {q1 q2 q3 : Pos} (ha : DV X a f) : DE X C W (.Dict [some a] [.Tuple [.Constant (.int 0) j1 q1, .Tuple [] k1 q2] k2 q3] pos) (fDisp0 f) := by
  obtain ⟨t1, p1, s1⟩ := ha.ex
  have p2 : PE X (.Tuple [.Constant (.int 0) j1 q1, .Tuple [] k1 q2] k2 q3) _ := pe_tup (pa_cons pe_int (pa_cons (pe_tup pa_nil) pa_nil))
  refine ⟨_, pe_disp (pps_cons p1 p2 pps_nil) rfl rfl (by simp) (show 1 ≤ 15 by decide), fun ρ S r S' h L σ H Q en so po => ?_⟩
  unfold fDisp0 at h
  split at h
  · rename_i i e1
    intro p hp
    have en1 := en.step (step_new (L := L) (o := .dK []) hp)
    refine s1 ρ i e1 L σ _ _ en1 ?_
    refine ⟨by decide, fun a1 ha1 => ?_⟩
    refine ⟨by show 2 ≤ sizeLine; decide, fun a2 ha2 => ?_⟩
    have n1 : a1 ≠ p := fun z => by rw [z, upd_same] at ha1; cases ha1
    have n2 : a2 ≠ a1 := fun z => by rw [z, upd_same] at ha2; cases ha2
    have n3 : a2 ≠ p := fun z => by rw [z, upd_ne (Ne.symm n1), upd_same] at ha2; cases ha2
    have f1 : H a1 = none := by rw [upd_ne n1] at ha1; exact ha1
    have f2 : upd H a1 (.tup []) a2 = none := by
      rw [upd_ne n2, upd_ne n3] at ha2
      rw [upd_ne n2]
      exact ha2
    have f3 : upd (upd H a1 (.tup [])) a2 (.tup [.int 0, .ref a1]) p = none := by
      rw [upd_ne (Ne.symm n3), upd_ne (Ne.symm n1)]
      exact hp
    refine ⟨by rw [upd_ne (Ne.symm n3), upd_ne (Ne.symm n1)]; exact upd_same, [(.inl i, .ref a2)], rfl, show 1 ≤ 15 by decide, ?_⟩
    have eH : upd (upd (upd (upd H p (.dK [])) a1 (.tup [])) a2 (.tup [.int 0, .ref a1])) p (.dK [(.inl i, .ref a2)]) = upd (upd (upd H a1 (.tup [])) a2 (.tup [.int 0, .ref a1])) p (.dK [(.inl i, .ref a2)]) := by
      rw [upd_swap (p := p) (d := a1) (Ne.symm n1), upd_swap (p := p) (d := a2) (Ne.symm n3), upd_upd]
    show Q (V.ref p) (upd (upd (upd (upd H p (.dK [])) a1 (.tup [])) a2 (.tup [.int 0, .ref a1])) p (.dK [(.inl i, .ref a2)]))
    rw [eH]
    have st1 := step_new (L := L) (o := .tup []) f1
    have so1 := so.laid (o := .tup []) f1
    have r1 : Rep X.K (mask L (upd H a1 (.tup []))) (.ref a1) (.tuple []) := new_tup so f1 .nil
    have st2 := step_new (L := L) (o := .tup [.int 0, .ref a1]) f2
    have so2 := so1.laid (o := .tup [.int 0, .ref a1]) f2
    have r2 : Rep X.K (mask L (upd (upd H a1 (.tup [])) a2 (.tup [.int 0, .ref a1]))) (.ref a2) (.tuple [.int 0, .tuple []]) := new_tup so1 f2 (.cons (.int 0) (.cons r1 .nil))
    have st3 := step_new (L := L) (o := .dK [(.inl i, .ref a2)]) f3
    have so3 := so2.laid (o := .dK [(.inl i, .ref a2)]) f3
    refine po.done (S0 := S) h (st1.trans (st2.trans st3)) so3 _ ?_
    exact Rep.dk (ks := [.inl i]) (vs := [.ref a2]) (ds := [.tuple [.int 0, .tuple []]]) rfl (mask_of (so2.new f3) upd_same) (.cons (r2.mono (mask_upd_new f3)) .nil)
  · cases h
end
end Dk
set_option Elab.async false
set_option linter.all false
set_option maxRecDepth 100000
set_option maxHeartbeats 4000000
/-! Dicts of whole numbers and texts that begin empty; a dict that a call gives, walked. -/
namespace Dk
open PySem PySem.Spec PyProof.Rows L2
section
variable {X : Cx} {pins : List (Addr × Obj)} {σ : L2.St} {H : Hp} {s : Shared} {p : Addr}
theorem same_heap (I : Inv X pins σ H { s with heap := s.heap, toks := s.toks }) : Inv X pins σ H s := by
  cases s
  exact I
theorem inv_empK (I : Inv X pins σ H s) (hp : H p = some (.dT [])) : Inv X pins σ (upd H p (.dK [])) s := by
  obtain ⟨z, hd, xs, pr, o, es, ep, ho, hx, hdt, he, _⟩ := I.hok p _ hp
  cases pr
  have e0 : es.toList = [] := he
  have e1 : es = #[] := Array.toList_inj.mp e0
  subst e1
  refine same_heap (d_write (t' := s.toks) I (by rw [hp]; exact True.intro) ⟨rfl, fun b hb => rfl⟩ ⟨o, ho⟩ ⟨Nat.zero_le _, hd, [], .nil, o, #[], ep, ho, hx, hdt, ?_, ?_, List.nodup_nil⟩)
  · intro e he
    simp at he
  · exact .nil
theorem inv_empT (I : Inv X pins σ H s) (hp : H p = some (.dK [])) : Inv X pins σ (upd H p (.dT [])) s := by
  obtain ⟨z, hd, vs, kv, o, es, ep, ho, hx, hdt, r⟩ := I.hok p _ hp
  cases kv
  have e0 : es.toList = [] := by
    have := r.2.1.length
    simpa using this
  refine same_heap (d_write (t' := s.toks) I (by rw [hp]; exact True.intro) ⟨rfl, fun b hb => rfl⟩ ⟨o, ho⟩ ⟨Nat.zero_le _, hd, [], .nil, o, es, ep, ho, hx, hdt, by rw [e0]; rfl, List.nodup_nil⟩)
theorem upd_eq {o : HO} (h : H p = some o) : upd H p o = H := by
  funext b
  unfold upd
  split
  · rename_i e
    rw [e, h]
  · rfl
end
/-- what a dict of whole numbers and texts has under a key; it may be empty -/
def dfindE (kvs : List (D × D)) (k : D) : Option (Option D) := if kvs = [] then (if isK1 k = true then some none else none) else dfindD kvs k
def inE (S : Sto) (a b : OV) : Option D := match view S b with
  | some (.dict kvs) => (view S a).bind fun k => (dfindE kvs k).map fun o => .bool o.isSome
  | _ => none
def notInE (S : Sto) (a b : OV) : Option D := match view S b with
  | some (.dict kvs) => (view S a).bind fun k => (dfindE kvs k).map fun o => .bool (!o.isSome)
  | _ => none
theorem dict_nil {K : PySem.W.Frag} {G H : Hp} {p : Addr} (D0 : DictAt K G H p []) : H p = some (.dK []) ∨ H p = some (.dT []) := by
  rcases D0 with ⟨ks, vs, ds, hl, hp, rs, e2⟩ | ⟨ks, vs, ds, hl, hp, rs, e2⟩ | ⟨ob, ks, vs, ds, hl, hp, rs, e2⟩ | ⟨ob, ks, vs, ds, hl, hp, rs, e2⟩ | ⟨y0, e2⟩
  · cases ks with
    | nil => exact .inl hp
    | cons k ks => cases rs with
      | nil => simp at hl
      | cons _ _ => cases e2
  · cases ks with
    | nil => exact .inr hp
    | cons k ks => cases rs with
      | nil => simp at hl
      | cons _ _ => cases e2
  · cases e2
  · cases e2
  · cases e2
section
variable {X : Cx}
theorem ro_inE (hu : X.A.units + 1 < cLine) : OpR X (compareOp .In) (rOf X.K inE) := by
  intro pins s σ H x y v u Q I rx ry h
  obtain ⟨L, S, a, b, d, so, ra, rb, e, q⟩ := h
  unfold inE at e
  split at e
  · rename_i kvs h1
    obtain ⟨p, rfl, D0⟩ := dict_at h1 rb so
    obtain ⟨kd, e1, e2⟩ := opt_bind e
    obtain rfl : u = Value.ref p := ry
    by_cases c : kvs = []
    · subst c
      have e3 : dfindE [] kd = if isK1 kd = true then some none else none := rfl
      rw [e3] at e2
      split at e2
      · rename_i ck
        cases e2
        obtain ⟨k, rfl⟩ := isK1_ex ck
        obtain rfl := view_key e1 ra so
        rcases dict_nil D0 with hp | hp
        · exact d_in (o := none) hu I (.inl ⟨[], k, .inl hp, rfl, rfl⟩) rx fun s' I' => ⟨.bl false, H, I', rfl, q _ _ Step.refl so (.bl _)⟩
        · refine d_in (o := none) hu (inv_empK I hp) (.inl ⟨[], k, .inl upd_same, rfl, rfl⟩) rx fun s' I' => ⟨.bl false, H, ?_, rfl, q _ _ Step.refl so (.bl _)⟩
          have := inv_empT I' upd_same
          rw [L2.upd_upd, upd_eq hp] at this
          exact this
      · cases e2
    · have e3 : dfindE kvs kd = dfindD kvs kd := if_neg c
      rw [e3] at e2
      cases e4 : dfindD kvs kd with
      | none => rw [e4] at e2; cases e2
      | some r0 =>
        rw [e4] at e2
        cases e2
        obtain ⟨w, g, gs, _⟩ := dfind_ok e4 D0 e1 ra so
        exact d_in hu I g rx fun s' I' => ⟨.bl r0.isSome, H, I', by rw [gs]; rfl, q _ _ Step.refl so (.bl _)⟩
  · cases e
theorem ro_notInE (hu : X.A.units + 1 < cLine) : OpR X (compareOp .NotIn) (rOf X.K notInE) := by
  intro pins s σ H x y v u Q I rx ry h
  obtain ⟨L, S, a, b, d, so, ra, rb, e, q⟩ := h
  unfold notInE at e
  split at e
  · rename_i kvs h1
    obtain ⟨p, rfl, D0⟩ := dict_at h1 rb so
    obtain ⟨kd, e1, e2⟩ := opt_bind e
    obtain rfl : u = Value.ref p := ry
    by_cases c : kvs = []
    · subst c
      have e3 : dfindE [] kd = if isK1 kd = true then some none else none := rfl
      rw [e3] at e2
      split at e2
      · rename_i ck
        cases e2
        obtain ⟨k, rfl⟩ := isK1_ex ck
        obtain rfl := view_key e1 ra so
        rcases dict_nil D0 with hp | hp
        · exact d_notIn (o := none) hu I (.inl ⟨[], k, .inl hp, rfl, rfl⟩) rx fun s' I' => ⟨.bl true, H, I', rfl, q _ _ Step.refl so (.bl _)⟩
        · refine d_notIn (o := none) hu (inv_empK I hp) (.inl ⟨[], k, .inl upd_same, rfl, rfl⟩) rx fun s' I' => ⟨.bl true, H, ?_, rfl, q _ _ Step.refl so (.bl _)⟩
          have := inv_empT I' upd_same
          rw [L2.upd_upd, upd_eq hp] at this
          exact this
      · cases e2
    · have e3 : dfindE kvs kd = dfindD kvs kd := if_neg c
      rw [e3] at e2
      cases e4 : dfindD kvs kd with
      | none => rw [e4] at e2; cases e2
      | some r0 =>
        rw [e4] at e2
        cases e2
        obtain ⟨w, g, gs, _⟩ := dfind_ok e4 D0 e1 ra so
        exact d_notIn hu I g rx fun s' I' => ⟨.bl (!r0.isSome), H, I', by rw [gs]; rfl, q _ _ Step.refl so (.bl _)⟩
  · cases e
end
/-! ### d[k] = x, the dict perhaps empty -/
def dputE (kvs : List (D × D)) (k x : D) : Option (List (D × D)) := if kvs = [] then (if isK1 k = true then some [(k, x)] else none) else dputD kvs k x
def sPutE (fo fi fv : E1) : SS := sE fv fun v => sE fo fun o => sE fi fun i ρ S => match v, o with
  | .dat d, .own n => match S[n]? with
    | some (.dict kvs) => (view S i).bind fun k => (dputE kvs k d).bind fun kvs' => some (.nx, ρ, S.set n (.dict kvs'))
    | _ => none
  | _, _ => none
/-- a store, into a dict that may be empty -/
def sDPutE (td ty tv : TE) : TS := fun D σ H => tv σ H fun v H1 => td σ H1 fun x H2 => ty σ H2 fun y H3 => ∃ a, x = .ref a ∧ ((∃ k, H3 a = some (.dT []) ∧ y = kV k ∧ D.nx σ (upd H3 a (.dK [(k, v)]))) ∨ ∃ H4, DPut H3 a y v H4 ∧ D.nx σ H4)
section
variable {X : Cx} {C : Str → Value} {W : WX} {o i value : Expr} {fo fi fv : E1} {pos pos' : Pos} {td ty tv : TE}
theorem ps_dputE (hu : X.A.units + 1 < cLine) (ho : PE X o td) (hi : PE X i ty) (hv : PE X value tv) (hs : swapsWith value (some (.Subscript o i pos')) pos.line X.env = pure false) :
    PS X (.Assign [.Subscript o i pos'] value pos) (sDPutE td ty tv) := by
  refine ⟨fun pins s σ H D I h => ?_⟩
  refine wpAny_Assign_Subscript (thn (hv.run pins s σ H _ I h) fun r s1 ⟨v, H1, I1, rv, q1⟩ => thn (ho.run pins s1 σ H1 _ I1 q1) fun u s2 ⟨x, H2, I2, rx, q2⟩ => thn (hi.run pins s2 σ H2 _ I2 q2) fun iv s3 ⟨y, H3, I3, ry, a, ex, q3⟩ => ?_) hs
  subst ex
  obtain rfl : u = Value.ref a := rx
  rcases q3 with ⟨k, hp, rfl, q3⟩ | ⟨H4, g, q3⟩
  · refine d_setItem hu (inv_empK I3 hp) (DPut.k upd_same (show 0 < sizeLine by decide)) ry rv fun s4 I4 => ⟨σ, _, I4, ?_⟩
    rw [L2.upd_upd]
    exact q3
  · exact d_setItem hu I3 g ry rv fun s4 I4 => ⟨σ, H4, I4, q3⟩
theorem ds_putE (hu : X.A.units + 1 < cLine) (ho : DE X C W o fo) (hi : DE X C W i fi) (he : DE X C W value fv) (hs : swapsWith value (some (.Subscript o i pos')) pos.line X.env = pure false := by rfl) : DS X C W (.Assign [.Subscript o i pos'] value pos) (sPutE fo fi fv) := by
  obtain ⟨t1, p1, s1⟩ := ho.ex
  obtain ⟨t2, q2, s2⟩ := hi.ex
  obtain ⟨t3, p3, s3⟩ := he.ex
  refine ⟨_, ps_dputE hu p1 q2 p3 hs, fun ρ S fl ρ' S' h L σ H D en so po => ?_⟩
  refine s3.stm h en so po fun x S1 L1 H1 v h1 st1 so1 r1 en1 po1 => ?_
  refine s1.stm h1 en1 so1 po1 fun y S2 L2 H2 u h2 st2 so2 r2 en2 po2 => ?_
  refine s2.stm h2 en2 so2 po2 fun z S3 L3 H3 w h3 st3 so3 r3 en3 po3 => ?_
  split at h3
  · rename_i d n
    split at h3
    · rename_i kvs hn
      obtain ⟨k, e1, h4⟩ := opt_bind h3
      obtain ⟨kvs', e2, h5⟩ := opt_bind h4
      cases h5
      obtain ⟨a, ea, hL⟩ := r2.step st3
      have rd : Rep X.K (mask L3 H3) v d := (r1.step st2).step st3
      by_cases c : kvs = []
      · subst c
        have e3 : dputE [] k d = if isK1 k = true then some [(k, d)] else none := rfl
        rw [e3] at e2
        split at e2
        · rename_i ck
          cases e2
          obtain ⟨kk, rfl⟩ := isK1_ex ck
          obtain rfl := view_key e1 r3 so3
          have hp : H3 a = some (.dT []) := by
            rcases (so3.obj n a _ hL hn : ObjR X.K (mask L3 H3) H3 a (.dict [])) with ⟨ks, vs, ds, hl, hp, rs, e2, hne⟩ | ⟨ks, vs, ds, hl, hp, rs, e2⟩ | ⟨ob, ks, vs, ds, hl, hp, rs, e2, _⟩ | ⟨ob, ks, vs, ds, hl, hp, rs, e2⟩
            · cases ks with
              | nil => exact absurd rfl hne
              | cons _ _ => cases rs with
                | nil => simp at hl
                | cons _ _ => cases e2
            · cases ks with
              | nil => exact hp
              | cons _ _ => cases rs with
                | nil => simp at hl
                | cons _ _ => cases e2
            · cases e2
            · cases e2
          obtain ⟨w1, w2⟩ := so3.write (o := .dK [(kk, v)]) hL (d := .dict [(keyD kk, d)]) (.inl ⟨[kk], [v], [d], rfl, upd_same, .cons rd .nil, rfl, by simp⟩) (nf_of hp)
          exact ⟨a, ea, .inl ⟨kk, hp, rfl, po3.nx rfl L3 _ σ w1 w2 (en3.step w1)⟩⟩
        · cases e2
      · have e3 : dputE kvs k d = dputD kvs k d := if_neg c
        rw [e3] at e2
        obtain ⟨H4, g, k1, k2⟩ := dput_ok e2 so3 hL hn e1 r3 rd
        exact ⟨a, ea, .inr ⟨H4, g, po3.nx rfl L3 _ σ k1 k2 (en3.step k1)⟩⟩
    · cases h3
  · cases h3
end
/-! ### a dict that a call gives, walked; it stays locked -/
def iKeysF (f : E1) : EI := fun ρ S => (f ρ S).bind fun o S1 => match o with
  | .own n => match S1[n]? with
    | some (.dict kvs) => if isLk kvs = true then none else ret (kvs.map (·.1), none) (S1.set n (.dict (lockD :: kvs)))
    | _ => none
  | _ => none
def tLockK (te : TE) : TI := fun σ H R => te σ H fun x H1 => ∃ a, x = .ref a ∧ ((∃ kvs, H1 a = some (.dK kvs) ∧ ∀ ob, R (Itk a ob kvs) (upd H1 a (.frz ob (.dK kvs)))) ∨ ∃ kvs, H1 a = some (.dT kvs) ∧ ∀ ob, R (Itkt a ob kvs) (upd H1 a (.frz ob (.dT kvs))))
section
variable {X : Cx} {C : Str → Value} {W : WX} {tg e : Expr} {fe : E1} {te : TE}
theorem pi_lockK (he : PE X e te) : PI X tg e (tLockK te) := by
  refine ⟨fun pins s σ H R I h => ?_⟩
  refine thn (he.run pins s σ H _ I h) fun u s1 hh => ?_
  obtain ⟨x, H1, I1, rx, d, ex, q⟩ := hh
  subst ex
  obtain rfl : u = Value.ref d := rx
  rcases q with ⟨kvs, hd, q⟩ | ⟨kvs, hd, q⟩
  · obtain ⟨o, I2⟩ := I1.lock hd True.intro
    obtain ⟨hs, hgd, hx, es, ep, vs, hdt, hsz, kv, hm⟩ := I2.frzK upd_same
    refine iter_keys hs hgd hx hdt (pi_one (tk := s1.toks) I2 _ (turn_keys _ hdt) ⟨_, Heap.get?_push_size _ rfl, rfl, ?_⟩ (q o))
    rw [hsz] <;> rfl
  · obtain ⟨o, I2⟩ := I1.lock hd True.intro
    obtain ⟨hs, hgd, hx, es, ep, hdt, hsz, ent⟩ := I2.frzT upd_same
    refine iter_keys hs hgd hx hdt (pi_one (tk := s1.toks) I2 _ (turn_keysT _ hdt) ⟨_, Heap.get?_push_size _ rfl, rfl, ?_⟩ (q o))
    rw [hsz] <;> rfl
theorem step_lock {K : PySem.W.Frag} {L : List Addr} {H : Hp} {S : Sto} {n : Nat} {p : Addr} {u : HO} {kvs : List (D × D)} (so : StoR K L H S) (hL : L[n]? = some p) (hu : H p = some u) (nf : ∀ ob v, u ≠ .frz ob v) (ob : Obj) (od : ObjR K (mask L H) (upd H p (.frz ob u)) p (.dict kvs)) :
    Step L H L (upd H p (.frz ob u)) ∧ StoR K L (upd H p (.frz ob u)) (S.set n (.dict kvs)) := by
  have hm := List.mem_of_getElem? hL
  refine ⟨⟨by rw [mask_upd_own hm]; exact Same.refl _, ⟨[], by simp⟩, fun b o v h => ?_⟩, so.wr hL od⟩
  have hb : b ≠ p := fun z => by
    rw [z, hu] at h
    exact nf _ _ (Option.some.inj h)
  rw [upd_ne hb]
  exact h
theorem di_keysF (h : DE X C W e fe) : DI X C W tg e (iKeysF fe) := by
  obtain ⟨t, p, s⟩ := h.ex
  refine ⟨_, pi_lockK p, fun ρ S r S' h L σ H R en so po => ?_⟩
  refine s.bind h en so po fun o S1 L1 H1 v h1 st1 so1 r1 en1 po1 => ?_
  split at h1
  · rename_i n
    split at h1
    · rename_i kvs hS
      split at h1
      · cases h1
      · rename_i hlk
        obtain ⟨a, rfl, hL⟩ := r1
        rcases (so1.obj n a _ hL hS : ObjR X.K (mask L1 H1) H1 a (.dict kvs)) with ⟨ks, vs, ds, k1, k2, k3, k4, k5⟩ | ⟨ks, vs, ds, k1, k2, k3, k4⟩ | ⟨ob, ks, vs, ds, k1, k2, k3, k4, _⟩ | ⟨ob, ks, vs, ds, k1, k2, k3, k4⟩
        · refine ⟨a, rfl, .inl ⟨_, k2, fun ob => ?_⟩⟩
          obtain ⟨w1, w2⟩ := step_lock (kvs := lockD :: kvs) so1 hL k2 (by intro _ _ z; cases z) ob (.inr (.inr (.inl ⟨ob, ks, vs, ds, k1, upd_same, k3, by rw [k4], k5⟩)))
          refine po1.done (S0 := S1.set n (.dict (lockD :: kvs))) h1 w1 w2 _ (serves_keys k1 upd_same ?_)
          rw [k4]
          exact keys_of_zip (k1.trans k3.length)
        · refine ⟨a, rfl, .inr ⟨_, k2, fun ob => ?_⟩⟩
          obtain ⟨w1, w2⟩ := step_lock (kvs := lockD :: kvs) so1 hL k2 (by intro _ _ z; cases z) ob (.inr (.inr (.inr ⟨ob, ks, vs, ds, k1, upd_same, k3, by rw [k4]⟩)))
          refine po1.done (S0 := S1.set n (.dict (lockD :: kvs))) h1 w1 w2 _ (serves_keysT k1 upd_same ?_)
          rw [k4]
          exact keys_of_zip (k1.trans k3.length)
        · rw [k4] at hlk
          exact absurd rfl hlk
        · rw [k4] at hlk
          exact absurd rfl hlk
    · cases h1
  · cases h1
end
end Dk
set_option Elab.async false
set_option linter.all false
set_option maxRecDepth 100000
set_option maxHeartbeats 4000000
/-! Errors with a field: clauses with and without a name, in any mixture. -/
namespace Dk
open PySem PySem.Spec PyProof.Rows L2
/-! ### try: .. except A as n: .. except B: .. -/
abbrev Cl := Value × Option Nat × (Addr → Value → Option Addr → TS)
def clrE (i : Nat) (D : Ends) : Ends := { D with nx := fun σ H => D.nx (σ.set i none) H, bk := fun σ H => D.bk (σ.set i none) H, ct := fun σ H => D.ct (σ.set i none) H }
def wMix (K : PySem.W.Frag) (W0 : WX) (D : Ends) : List Cl → WX
  | [] => W0
  | (c, o, ts) :: r => fun cls d σ H => ∃ k, PySem.W.exmOne K cls c = some k ∧ (k = true → ∀ a, H a = none → match o with
      | none => ts a cls d D σ H
      | some i => ts a cls d (clrE i D) (σ.set i (some (.ref a))) H) ∧ (k = false → wMix K W0 D r cls d σ H)
inductive HdX (X : Cx) : List ExceptHandler → List Cl → Prop
  | nil : HdX X [] []
  | plain {y : Str} {c : Value} {ts : Addr → Value → Option Addr → TS} {b0 : Stmt} {rest : List Stmt} {q1 q2 : Pos} {hds : List ExceptHandler} {l : List Cl} (hc : Names X y c)
      (su : ∀ (a : Addr) (oe : Obj) (cls : Value) (d : Option Addr) (pn : List (Addr × Obj)), Zc cls d oe → (∃ vs, oe.data = .fields vs) → PSs (X.suite a ((a, oe) :: pn)) (b0 :: rest) (ts a cls d))
      (r : HdX X hds l) : HdX X (.ExceptHandler (some (.Name y q1)) none (b0 :: rest) q2 :: hds) ((c, none, ts) :: l)
  | named {y n : Str} {i : Nat} {c : Value} {ts : Addr → Value → Option Addr → TS} {b0 : Stmt} {rest : List Stmt} {q1 q2 : Pos} {hds : List ExceptHandler} {l : List Cl} (nd : X.N.Nodup) (hi : X.N[i]? = some n) (hl : X.env.kindOf n = some .local) (hc : Names X y c)
      (su : ∀ (a : Addr) (oe : Obj) (cls : Value) (d : Option Addr) (pn : List (Addr × Obj)), Zc cls d oe → (∃ vs, oe.data = .fields vs) → PSs (X.suite a ((a, oe) :: pn)) (b0 :: rest) (ts a cls d))
      (r : HdX X hds l) : HdX X (.ExceptHandler (some (.Name y q1)) (some n) (b0 :: rest) q2 :: hds) ((c, some i, ts) :: l)
section
variable {X : Cx} {body : List Stmt} {h0 : ExceptHandler} {hds : List ExceptHandler} {l : List Cl} {pos : Pos} {tb : WX → TS} {W0 : WX}
theorem ps_try_mix (hst : X.stack = X.env :: X.outer) (hfm : X.env.frame = some X.env.locals) (tk : Takes X W0)
    (hbd : ∀ (W : WX) (pn : List (Addr × Obj)) (xe : Value → Shared → Prop), Takes (X.tr pn xe) W → PassesOwn (model X.prog X.w) X.A X.env xe → PSs (X.tr pn xe) body (tb W))
    (hh : HdX X (h0 :: hds) l) : PS X (.Try body (h0 :: hds) [] [] pos) (fun D σ H => tb (wMix X.K W0 D l) D σ H) := by
  refine ⟨fun pins s σ H D I act => ?_⟩
  have iok := I.ok
  have frE : X.A.frames = some (X.env :: X.outer) := by rw [iok.frames, hst]
  refine wpAny_Try_except (wpAny_mono ((hbd (wMix X.K W0 D l) (X.pn ++ pins) (fun e z1 => wpAny (model X.prog X.w) X.A (noteFrame e X.env) (fun _ z2 => wpAny (model X.prog X.w) X.A (setFlight e none)
    (fun _ z3 => wpAny (model X.prog X.w) X.A (handleBy e X.env (h0 :: hds)) (SP X pins D) X.xe z3) X.xe z2) X.xe z1) (fun u sC caught => ?_) PassesOwn.looking).run [] s σ H D (I.toTry _) act) (fun fw sE ended => ?_) fun e sE z => z)
  · obtain ⟨a, B, sI, pinsC, σC, HC, cls, d, rfl, JC, nbig, upS, sk, nA, osE, agr, wish⟩ := caught
    have J0 : Inv X pins σC HC sI := JC.ofTry iok
    have sk0 : Sky B (X.env :: X.outer) a (Zc cls d) X.env.locals sC.heap := by rw [← hst]; exact sk
    show wpAny (model X.prog X.w) X.A (noteFrame (.ref a) X.env) _ _ _
    refine Sky.land Zc.steady frE hfm sk0 fun hA flA upA => ?_
    have JA : Inv X pins σC HC { sC with heap := hA } := J0.landed nbig flA.1 (upS.trans upA) osE agr
    obtain ⟨oA, vA, heA, hzA, hdA⟩ := flA.there
    have noFr : a ∉ frs (X.env :: X.outer) := fun hm => by
      obtain ⟨_, o1, e1, nf⟩ := flA.2.2.1.mem hm
      rw [heA] at e1
      cases e1
      exact nf _ hdA
    have nL : a ≠ X.env.locals := fun z => noFr (List.mem_filterMap.mpr ⟨X.env, by simp, by rw [hfm, z]⟩)
    have nF : a ∉ X.fs := fun hm => by
      obtain ⟨e, he, q⟩ := List.mem_filterMap.mp hm
      exact noFr (List.mem_filterMap.mpr ⟨e, by simp [he], q⟩)
    have SA := JA.suite heA hdA nA nL nF
    have asks : ∀ {y : Str} {c : Value} {q1 : Pos} {Q E : Value → Shared → Prop}, Names X y c → Q c { sC with heap := hA } → wpAny (model X.prog X.w) (X.A.mark (some (.ref a))) (eval (.Name y q1) X.env) Q E { sC with heap := hA } := fun {y c q1 Q E} nm q => by
      obtain ⟨g1, g2, g3⟩ := nm
      rcases g3 with g3 | ⟨g3, g4, g5⟩
      · exact ld_glob (X := X.suite a ((a, oA) :: (X.pn ++ pins))) SA g1 g3 q g2
      · exact ld_blt (X := X.suite a ((a, oA) :: (X.pn ++ pins))) SA g1 g3 g4 q g5 g2
    have typ : PySem.W.Looks (model X.prog X.w) hA (typeOf (.ref a)) cls := fun A1 Q1 E1 s1 k1 q1 => wpAny_typeOf_ref (k1 _ _ heA) (by rw [hzA.1]; exact q1)
    have walk : ∀ {hs : List ExceptHandler} {ls : List Cl}, HdX X hs ls → wMix X.K W0 D ls cls d σC HC → wpAny (model X.prog X.w) X.A (handleBy (.ref a) X.env hs) (SP X pins D) X.xe { sC with heap := hA } := by
      intro hs ls hx
      induction hx with
      | nil =>
        intro w
        refine wpAny_handleBy_nil ?_
        obtain ⟨_, _, _, o2, v2, T2, oT2, _, g1, _, g3, g4, _⟩ := id flA
        unfold PySem.passOn
        refine wpAny_bind (wpAny_field g1 g3 g4 ?_)
        rw [if_neg (by simp : ¬ ((Value.ref T2 == Value.none) = true))]
        have out : wpAny (model X.prog X.w) X.A (setFlight (.ref a) X.env.frame) (fun _ z => wpAny (model X.prog X.w) X.A (throw (.ref a) : Sem Flow) (SP X pins D) X.xe z) X.xe { sC with heap := hA } := by
          rw [hfm]
          refine HandSPX.setFlight_upZ flA fun hB up5 upB => wpAny_throw (tk _ _ ⟨a, B, sI, pins, σC, HC, cls, d, rfl, J0, nbig, (upS.trans upA).trans upB, .inr (.inr ?_), nA, osE, agr, w⟩)
          rw [hst]
          exact up5
        first
          | exact wpAny_bind out
          | exact wpAny_bind (wpAny_pure (wpAny_bind out))
      | @plain y c ts b0 rest q1 q2 hs2 ls2 nm su r ih =>
        intro w
        obtain ⟨k, e1, yes, no⟩ := w
        refine wpAny_handleBy_cons (codeAny_handlers_test (asks nm ((PySem.W.exm_one (M := model X.prog X.w) JA.kIn typ e1).here ?_))) (by intro z; cases z)
        cases k with
        | false => exact ih (no rfl)
        | true =>
          refine codeAny_handlers_suite (HandSPX.lands_againZ flA fun hB flB upB => ?_)
          have JB : Inv X pins σC HC { sC with heap := hB } := J0.landed nbig flB.1 ((upS.trans upA).trans upB) osE agr
          obtain ⟨oB, vB, heB, hzB, hdB⟩ := flB.there
          refine wpAny_mono ((su a oB cls d (X.pn ++ pins) hzB ⟨_, hdB⟩).run [] _ _ HC _ (JB.suite heB hdB nA nL nF) (yes rfl a nA)) (fun fw sE ended => ?_) fun _ _ z => z.elim
          cases fw with
          | ret u =>
            obtain ⟨v, σ1, H1, J1, rv, q1⟩ := ended
            exact ⟨_, _, _, J1.unsuite iok, rv, q1⟩
          | next =>
            obtain ⟨σ1, H1, J1, q1⟩ := ended
            exact ⟨_, _, J1.unsuite iok, q1⟩
          | brk =>
            obtain ⟨σ1, H1, J1, q1⟩ := ended
            exact ⟨_, _, J1.unsuite iok, q1⟩
          | cont =>
            obtain ⟨σ1, H1, J1, q1⟩ := ended
            exact ⟨_, _, J1.unsuite iok, q1⟩
      | @named y n i c ts b0 rest q1 q2 hs2 ls2 nd hi hl nm su r ih =>
        intro w
        obtain ⟨k, e1, yes, no⟩ := w
        refine wpAny_handleBy_cons (codeAny_handlers_test (asks nm ((PySem.W.exm_one (M := model X.prog X.w) JA.kIn typ e1).here ?_))) (by intro z; cases z)
        cases k with
        | false => exact ih (no rfl)
        | true =>
          refine codeAny_handlers_suite_as (HandSPX.lands_againZ flA fun hB flB upB => ?_)
          have JB : Inv X pins σC HC { sC with heap := hB } := J0.landed nbig flB.1 ((upS.trans upA).trans upB) osE agr
          obtain ⟨oB, vB, heB, hzB, hdB⟩ := flB.there
          refine store_ok (X := X.suite a ((a, oB) :: (X.pn ++ pins))) (v := .ref a) (JB.suite heB hdB nA nL nF) nd hi (.inl hl) rfl (fun s5 S5 => ?_) (.inr hl)
          refine wpAny_mono ((su a oB cls d (X.pn ++ pins) hzB ⟨_, hdB⟩).run [] s5 _ HC _ S5 (yes rfl a nA)) (fun fw sE ended => ?_) fun _ _ z => z.elim
          have leave : ∀ {σ1 : L2.St} {H1 : Hp} {Q : Shared → Prop}, Inv (X.suite a ((a, oB) :: (X.pn ++ pins))) [] σ1 H1 sE → (∀ s7, Inv X pins (σ1.set i none) H1 s7 → Q s7) →
              wpAny (model X.prog X.w) X.A (do bindName X.env n .none; unbindBehindTheSuite X.env n q2) (fun _ s7 => Q s7) X.xe sE := fun {σ1 H1 Q} S1 hq => gone_ok (S1.unsuite iok) nd hi hl hq
          cases fw with
          | ret u =>
            obtain ⟨v, σ1, H1, J1, rv, q1⟩ := ended
            exact leave J1 fun s7 J7 => ⟨_, _, _, J7, rv, q1⟩
          | next =>
            obtain ⟨σ1, H1, J1, q1⟩ := ended
            exact leave J1 fun s7 J7 => ⟨_, _, J7, q1⟩
          | brk =>
            obtain ⟨σ1, H1, J1, q1⟩ := ended
            exact leave J1 fun s7 J7 => ⟨_, _, J7, q1⟩
          | cont =>
            obtain ⟨σ1, H1, J1, q1⟩ := ended
            exact leave J1 fun s7 J7 => ⟨_, _, J7, q1⟩
    exact walk hh wish
  · cases fw with
    | ret u =>
      obtain ⟨v, σ1, H1, J1, rv, q1⟩ := ended
      exact ⟨v, σ1, H1, J1.ofTry iok, rv, q1⟩
    | next =>
      obtain ⟨σ1, H1, J1, q1⟩ := ended
      exact wpAny_execs_nil ⟨σ1, H1, J1.ofTry iok, q1⟩
    | brk =>
      obtain ⟨σ1, H1, J1, q1⟩ := ended
      exact ⟨σ1, H1, J1.ofTry iok, q1⟩
    | cont =>
      obtain ⟨σ1, H1, J1, q1⟩ := ended
      exact ⟨σ1, H1, J1.ofTry iok, q1⟩
end
end Dk
set_option Elab.async false
set_option linter.all false
set_option maxRecDepth 100000
set_option maxHeartbeats 4000000
/-! Errors with a field: what the text says of their classes, their making, their raising. -/
namespace Dk
open PySem PySem.Spec PyProof.Rows L2
/-! ### what the written part says -/
def oexB (K : PySem.W.Frag) (A : Addr) : Bool := match K.lookup A with
  | some ⟨.type "type", _, .cls cd, sl⟩ => (match cd.mro, sl.toList with
    | .ref A2 :: bm, [_, _, _, _, some (.builtin n), _] => A2 == A && (n == "ValueError.__new__" && (!cd.hasDel && (cd.hasDict && PySem.HandSPX.refsVE bm)))
    | _, _ => false)
  | _ => false
theorem oexB_ok {K : PySem.W.Frag} {A : Addr} (h : oexB K A = true) : ∃ nm q N bs bm sn sub ab col dd k0 k1 k2 k3 k5, K.lookup A = some (excClassObj nm q A N bs bm true sn sub ab col dd k0 k1 k2 k3 k5 "ValueError.__new__") ∧ PySem.HandSPX.refsVE bm = true := by
  unfold oexB at h
  split at h
  · rename_i dd cd sl hl
    split at h
    · rename_i A2 bm k0 k1 k2 k3 n k5 hm hs
      simp only [Bool.and_eq_true, beq_iff_eq, Bool.not_eq_true'] at h
      obtain ⟨rfl, rfl, hdel, hdict, hb⟩ := h
      obtain ⟨nm, bs, mro, ns, qn, hd, sn, sub, ab, col, del⟩ := cd
      dsimp only at hm hdel hdict
      subst hm hdel hdict
      obtain ⟨l⟩ := sl
      simp only at hs
      subst hs
      exact ⟨nm, qn, ns, bs, bm, sn, sub, ab, col, dd, k0, k1, k2, k3, k5, hl, hb⟩
    · cases h
  · cases h
/-- an error class with an __init__ at fI that stores one field -/
structure ErrC (K : PySem.W.Frag) (A fI : Addr) (f : Str) : Prop where
  oex : OexC K A
  iC : PySem.W.findIn K (.ref A) "__init__" = some (some (.ref fI))
  tI : PySem.W.typeIn K (.ref fI) = some (.type "function")
  no : PySem.W.findIn K (.ref A) f = some none
  xf : XfC K A
def errB (K : PySem.W.Frag) (A fI : Addr) (f : Str) : Bool := oexB K A && (He.eqO (PySem.W.findIn K (.ref A) "__setattr__") (some (some (.builtin "object.__setattr__"))) && (decide (PySem.W.subIn K (.ref A) (.type "BaseException") = some true) &&
  (decide (PySem.W.typeIn K (.ref A) = some (.type "type")) && (PySem.W.keepIn K (.ref A) && (He.eqO (PySem.W.findIn K (.ref A) "__init__") (some (some (.ref fI))) && (decide (PySem.W.typeIn K (.ref fI) = some (.type "function")) && (He.eqO (PySem.W.findIn K (.ref A) f) (some none) && xfB K A)))))))
theorem errB_ok {K : PySem.W.Frag} {A fI : Addr} {f : Str} (h : errB K A fI f = true) : ErrC K A fI f := by
  unfold errB at h
  simp only [Bool.and_eq_true, decide_eq_true_eq] at h
  obtain ⟨h1, h2, h3, h4, h5, h6, h7, h8, h9⟩ := h
  exact ⟨⟨oexB_ok h1, He.eqO_ok h2, h3, h4, h5⟩, He.eqO_ok h6, h7, He.eqO_ok h8, xfB_ok h9⟩
/-- a class of errors whose __init__ is ValueError's: W.__init__(x, ..) -/
structure BaseC (K : PySem.W.Frag) (A : Addr) : Prop where
  rd : PySem.W.readsIn K A (.type "type") = true
  ga : PySem.W.specialIn K (.ref A) "__getattribute__" = some (some (.builtin "type.__getattribute__"))
  at_ : PySem.W.findCls K (.ref A) (.type "type") "__init__" = some (.val (.builtin "ValueError.__init__"))
def isVal (o : Option PySem.W.CFound) (n : String) : Bool := match o with
  | some (.val (.builtin m)) => m == n
  | _ => false
theorem isVal_ok {o : Option PySem.W.CFound} {n : String} (h : isVal o n = true) : o = some (.val (.builtin n)) := by
  unfold isVal at h
  split at h
  · rw [beq_iff_eq.mp h]
  · cases h
def baseB (K : PySem.W.Frag) (A : Addr) : Bool := PySem.W.readsIn K A (.type "type") && (He.eqO (PySem.W.specialIn K (.ref A) "__getattribute__") (some (some (.builtin "type.__getattribute__"))) && isVal (PySem.W.findCls K (.ref A) (.type "type") "__init__") "ValueError.__init__")
theorem baseB_ok {K : PySem.W.Frag} {A : Addr} (h : baseB K A = true) : BaseC K A := by
  unfold baseB at h
  simp only [Bool.and_eq_true] at h
  exact ⟨h.1, He.eqO_ok h.2.1, isVal_ok h.2.2⟩
/-! ### W.__init__(self, ..) -/
section
variable {X : Cx} {e : Expr} {es : List Expr} {ta : TA} {p1 p2 pos : Pos} {y : Str} {A : Addr}
theorem pe_baseinit {pl : Sem Bool} (T : BaseC X.K A) (hg : Gl X y) (hm : X.mg y = some (.ref A)) (ha : PA X (e :: es) ta) (hdb : (y == ("__debug__" : Str)) = false := by decide)
    (hc : eval (.Call (.Attribute (.Name y p1) "__init__" p2) (e :: es) [] pos) X.env = (do
      let o ← eval (.Name y p1) X.env
      standAt p2.atName
      let (g, first) ← holding [o] (getMethod o "__init__" pl)
      callWith pos g first (backTo pos (starEach (e :: es) X.env)) (backToKw pos (keywordEach [] X.env))) := by rfl)
    (he : starEach (e :: es) X.env = (false, eval e X.env) :: starEach es X.env := by rfl) (hpl : (backTo pos (starEach es X.env)).any (·.1) = false := by rfl) :
    PE X (.Call (.Attribute (.Name y p1) "__init__" p2) (e :: es) [] pos) (tVeI X.K ta) := by
  refine ⟨fun pins s σ H Q I h => ?_⟩
  refine PySem.W.methodCall_KW (ld_glob I hg hm ?_ hdb) hc
  refine PySem.W.method_cls I.kIn T.ga (PySem.W.cls_value I.kIn T.rd T.at_ (by decide +kernel) ?_)
  refine PyProof.Rows.callWith_method1 (thn (ha.run pos pins _ σ H _ (I.tok _) h) fun us s1 hh => ?_) he hpl
  obtain ⟨vs, H1, I1, r1, a, A2, ws, ev, hl, T2, ea, q⟩ := hh
  subst ev
  cases r1 with
  | @cons _ u0 _ ur ra rr =>
    obtain rfl : u0 = Value.ref a := ra
    exact oinit_ok T2 I1 ea (by rw [← Paired.length rr, sizeLine_eq]; omega) fun s' J => ⟨.non, H1, J, rfl, q⟩
end
/-! ### the __init__ of such a class -/
def spErr (K : PySem.W.Frag) (f : Str) : Sp := fun vs H Q _ => ∃ (a A : Addr) (v : V), vs = [.ref a, v] ∧ OexC K A ∧ PySem.W.findIn K (.ref A) f = some none ∧ H a = some (exo a A none) ∧
  ∀ dx, H dx = none → dx ≠ a → Q .non (upd (upd H dx (exd dx [(f, v)])) a (exo a A (some dx)))
section
variable {P : Program} {w : World} {K : PySem.W.Frag} {mg : Str → Option Value} {base : Heap} {C : Str → Value}
theorem err_init {qual f m : Str} {st : Stmt} {fI : Addr} {fd : FuncData} (F : Fun K "__init__" qual st fI fd) (S : FnScope ["self", f] ["self", f] (defScope st))
    (hb : ∀ (cdv : Value) (A : Around) (outer : List Env) (s : Shared) (H : Hp) (E : XK), PSs (cxOf CX0 P w K mg base ["self", f] qual (defScope st) fI cdv A outer s H E).nox (defBody st) (tSeq (tDrop (tVeI K (tCons (tVar 0) (tCons (tC (.str m)) tNil)))) (tOst K f (tVar 0) (tVar 1)))) :
    FnOk P w K mg base CX0 1 fI fd ["self", f] (spErr K f) := by
  refine F.ok S (fun vs H Q E h => ?_) (fun cdv A outer s H vs Q E hr h => ?_)
  · obtain ⟨a, A, v, rfl, _⟩ := h
    rfl
  · refine ⟨_, hb cdv A outer s H E, ?_⟩
    obtain ⟨a, A2, v, rfl, T2, no, ha, k⟩ := h
    refine ⟨.ref a, rfl, a, A2, [.str m], rfl, (by decide : 1 ≤ 1000), T2, ha, ?_⟩
    exact ⟨v, rfl, .ref a, rfl, a, A2, rfl, T2, no, .inl ⟨ha, fun dx h1 h2 => k dx h1 h2⟩⟩
end
end Dk
set_option Elab.async false
set_option linter.all false
set_option maxRecDepth 100000
set_option maxHeartbeats 4000000
/-! Errors with a field: raised, caught under a name, the field returned. -/
namespace Dk
open PySem PySem.Spec PyProof.Rows L2
structure ErrT (P : Program) (w : World) (K : PySem.W.Frag) (mg : Str → Option Value) (base : Heap) (C : Str → Value) (x f : Str) : Prop where
  ex : ∃ (A fI : Addr) (fd : FuncData), C x = .ref A ∧ mg x = some (.ref A) ∧ ErrC K A fI f ∧ FnOk P w K mg base CX0 1 fI fd ["self", f] (spErr K f) ∧ Binds K fd ["self", f] []
def sRaiseF (x f : Str) (fe : E1) : SS := sE fe fun o ρ S => match o with
  | .dat d => some (.er ⟨x, some (f, d)⟩, ρ, S)
  | _ => none
section
variable {X : Cx} {C : Str → Value} {W : WX} {x f : Str} {e : Expr} {fe : E1} {p p2 pos : Pos}
theorem ds_raiseF (T : ErrT X.prog X.w X.K X.mg X.base C x f) (hc : X.calm = true) (hr : Room 2 X.A) (tk : Takes X W) (hg : Gl X x) (he : DE X C W e fe) (hdb : (x == ("__debug__" : Str)) = false := by decide)
    (hs : starEach (e :: []) X.env = (false, eval e X.env) :: starEach [] X.env := by rfl) (hpl : (backTo p2 (starEach [] X.env)).any (·.1) = false := by rfl) :
    DS X C W (.Raise (some (.Call (.Name x p) [e] [] p2)) none pos) (sRaiseF x f fe) := by
  obtain ⟨A, fI, fd, hC, hm, EC, Fi, hb⟩ := T.ex
  obtain ⟨te, pe, se⟩ := he.ex
  refine ⟨_, ps_raise hc tk (pmk_oex (dvs := []) (ds := []) EC.oex EC.iC EC.tI Fi hr hb .nil pass0 hg hm (pa_cons pe pa_nil hs) hdb hs hpl), fun ρ S fl ρ' S' h L σ H D en so po => ?_⟩
  refine se.stm h en so po fun o S1 L1 H1 v h1 st1 so1 r1 en1 po1 => ?_
  cases o with
  | own n => cases h1
  | dat d =>
    cases h1
    refine ⟨(by decide : 1 ≤ 1000), fun a ha => ⟨a, A, v, rfl, EC.oex, EC.no, upd_same, fun dx k1 k2 => ⟨rfl, dx, [(f, v)], upd_same, ?_, ?_, ?_⟩⟩⟩
    · rw [upd_ne k2, upd_same]
    · rw [upd_ne k2] at k1
      exact k1
    · rw [upd_ne k2] at k1
      have eH : upd (del (upd (upd (upd H1 a (exo a A none)) dx (exd dx [(f, v)])) a (exo a A (some dx))) a) dx (.xd [(f, v)]) = upd H1 dx (.xd [(f, v)]) := by
        funext b
        by_cases c1 : b = dx
        · subst c1
          rw [upd_same, upd_same]
        · rw [upd_ne c1, upd_ne c1]
          by_cases c2 : b = a
          · subst c2
            rw [del_same, ha]
          · rw [del_ne c2, upd_ne c2, upd_ne c1, upd_ne c2]
      rw [eH]
      exact po1.er _ rfl L1 _ σ _ _ (step_new k1) (so1.laid k1) (en1.step (step_new k1)) ⟨hC.symm, dx, v, rfl, upd_same, Rep.mono (mask_upd_new k1) r1⟩
end
/-! ### clauses -/
inductive Hk where
  | pl (g : SS)
  | fl (x f : Str) (F : D → D)
def catchX : List (Mt × Hk) → Exn → SS
  | [], e => fun ρ S => some (.er e, ρ, S)
  | (m, h) :: r, e => fun ρ S => match m e.cls with
    | some true => (match h with
      | .pl g => g ρ S
      | .fl x f F => match e.arg with
        | some (f2, d) => if e.cls = x ∧ f2 = f then some (.rt (.dat (F d)), ρ, S) else none
        | none => none)
    | some false => catchX r e ρ S
    | none => none
def sTryX (n : Nat) (g : SS) (l : List (Mt × Hk)) : SS := fun ρ S => match g ρ S with
  | some (.er e, ρ1, S1) => if ρ1.length = n then catchX l e ρ1 S1 else none
  | r => r
/-- an expression made of the caught error's field -/
structure DX (X : Cx) (i : Nat) (a : Addr) (cls : Value) (d : Option Addr) (A : Addr) (f : Str) (e : Expr) (F : D → D) : Prop where
  ex : ∃ t, PE X e t ∧ ∀ L σ H S (Q : VK) (dd : Addr) (v : V) (x : D), σ[i]? = some (some (.ref a)) → cls = .ref A → d = some dd → H dd = some (.xd [(f, v)]) → Rep X.K (mask L H) v x → StoR X.K L H S →
    (∀ u L' H', Step L H L' H' → StoR X.K L' H' S → Rep X.K (mask L' H') u (F x) → Q u H') → t σ H Q
def tsX (K : PySem.W.Frag) (i : Nat) (A : Addr) (f : Str) (F : D → D) (a : Addr) (cls : Value) (d : Option Addr) : TS := fun D σ H => ∃ L S dd v x, σ[i]? = some (some (.ref a)) ∧ cls = .ref A ∧ d = some dd ∧ H dd = some (.xd [(f, v)]) ∧ Rep K (mask L H) v x ∧ StoR K L H S ∧
  ∀ u L' H', Step L H L' H' → StoR K L' H' S → Rep K (mask L' H') u (F x) → D.rt u H'
section
variable {X : Cx} {a A : Addr} {oe : Obj} {cls : Value} {d : Option Addr} {pn : List (Addr × Obj)} {i : Nat} {n f : Str} {p q1 q2 : Pos}
theorem dx_fld (T : XfC X.K A) (no : PySem.W.findIn X.K (.ref A) f = some none) (hz : Zc cls d oe) (hf : ∃ vs, oe.data = .fields vs) (hN : (X.suite a ((a, oe) :: pn)).N[i]? = some n) (hv : Vis (X.suite a ((a, oe) :: pn)).env.scope n) (hd : (n == ("__debug__" : Str)) = false := by decide) (hcd : (n == ("__classdict__" : Str)) = false := by decide)
    (hb : attributeBase (.Name n p) f X.env (eval (.Name n p) X.env) = eval (.Name n p) X.env := by rfl) : DX (X.suite a ((a, oe) :: pn)) i a cls d A f (.Attribute (.Name n p) f q1) id := by
  refine ⟨_, pe_xf T no hz hf (pe_var (i := i) hN hv hd hcd) hb, fun L σ H S Q dd v x h1 h2 h3 h4 rv so q => ?_⟩
  exact ⟨.ref a, h1, rfl, h2, dd, [(f, v)], v, h3, h4, by simp [List.lookup], q v L H Step.refl so rv⟩
theorem dx_tup {m : Str} {j k2 : Nat} {e : Expr} {F : D → D} (h : DX X i a cls d A f e F) (hs : starEach [.Constant (.str m) j q1, e] X.env = (false, eval (.Constant (.str m) j q1) X.env) :: starEach [e] X.env := by rfl) (hs2 : starEach [e] X.env = (false, eval e X.env) :: starEach [] X.env := by rfl) :
    DX X i a cls d A f (.Tuple [.Constant (.str m) j q1, e] k2 q2) (fun x => .tuple [.str m, F x]) := by
  obtain ⟨t, p, s⟩ := h.ex
  refine ⟨_, pe_tup (pa_cons pe_str (pa_cons p pa_nil hs2) hs), fun L σ H S Q dd v x h1 h2 h3 h4 rv so fin => ?_⟩
  refine s L σ H S _ dd v x h1 h2 h3 h4 rv so fun u L' H' st so' ru => ?_
  exact ⟨(by decide : 2 ≤ sizeLine), fun q hq => fin (.ref q) L' (upd H' q (.tup [.str m, u])) (st.trans (step_new hq)) (so'.laid hq) (new_tup so' hq (.cons (.str m) (.cons ru .nil)))⟩
end
inductive DHx (X : Cx) (C : Str → Value) (W : WX) : List ExceptHandler → List (Mt × Hk) → Prop
  | nil : DHx X C W [] []
  | plain {y : Str} {c : Value} {m : Mt} {g : SS} {b0 : Stmt} {suite : List Stmt} {q1 q2 : Pos} {hds : List ExceptHandler} {l : List (Mt × Hk)} (hc : Names X y c) (hm : ∀ z b, m z = some b → PySem.W.exmOne X.K (C z) c = some b)
      (hsu : ∀ (a : Addr) (oe : Obj) (pn : List (Addr × Obj)), DSs (X.suite a ((a, oe) :: pn)) C W (b0 :: suite) g) (r : DHx X C W hds l) : DHx X C W (.ExceptHandler (some (.Name y q1)) none (b0 :: suite) q2 :: hds) ((m, .pl g) :: l)
  | field {y n x f : Str} {i : Nat} {A : Addr} {F : D → D} {c : Value} {m : Mt} {e : Expr} {q1 q2 q3 : Pos} {hds : List ExceptHandler} {l : List (Mt × Hk)} (nd : X.N.Nodup) (hi : X.N[i]? = some n) (hl : X.env.kindOf n = some .local) (hc : Names X y c) (hm : ∀ z b, m z = some b → PySem.W.exmOne X.K (C z) c = some b) (hA : C x = .ref A)
      (hx : ∀ (a : Addr) (oe : Obj) (cls : Value) (d : Option Addr) (pn : List (Addr × Obj)), Zc cls d oe → (∃ vs, oe.data = .fields vs) → DX (X.suite a ((a, oe) :: pn)) i a cls d A f e F) (r : DHx X C W hds l) :
      DHx X C W (.ExceptHandler (some (.Name y q1)) (some n) [.Return (some e) q3] q2 :: hds) ((m, .fl x f F) :: l)
section
variable {X : Cx} {C : Str → Value} {W : WX} {body : List Stmt} {h₀ : ExceptHandler} {hds : List ExceptHandler} {l : List (Mt × Hk)} {pos : Pos} {g : SS}
theorem len_of {L : List Addr} {H : Hp} {K : PySem.W.Frag} {σ : L2.St} {ρ : Env1} (en : EnvR K L H σ ρ) : σ.length = ρ.length := en.1
theorem dhx_ok (h : DHx X C W hds l) : ∃ l', HdX X hds l' ∧ ∀ e ρ1 S1 fl ρ' S', catchX l e ρ1 S1 = some (fl, ρ', S') → ∀ L H σ D cls d, σ.length = X.N.length → EnvR X.K L H σ ρ1 → StoR X.K L H S1 → ExcR C X.K L H e cls d → PostS X.K C W L H D fl ρ' S' → wMix X.K W D l' cls d σ H := by
  induction h with
  | nil =>
    refine ⟨[], .nil, fun e ρ1 S1 fl ρ' S' h L H σ D cls d ln en so x po => ?_⟩
    cases h
    exact po.er e rfl L H σ cls d Step.refl so en x
  | @plain y c m g b0 suite q1 q2 hds l hc hm hsu r ih =>
    obtain ⟨l', h1, h2⟩ := ih
    refine ⟨(c, none, fun _ _ _ => canS X.K C W g) :: l', .plain hc (fun a oe cls d pn _ _ => (hsu a oe pn).can) h1, fun e ρ1 S1 fl ρ' S' h L H σ D cls d ln en so x po => ?_⟩
    have ec : cls = C e.cls := x.1
    unfold catchX at h
    cases q : m e.cls with
    | none => rw [q] at h; cases h
    | some b =>
      rw [q] at h
      refine ⟨b, by rw [ec]; exact hm _ _ q, fun hb a _ => ?_, fun hb => ?_⟩
      · subst hb
        exact ⟨ρ1, S1, fl, ρ', S', L, h, en, so, po⟩
      · subst hb
        exact h2 e ρ1 S1 fl ρ' S' h L H σ D cls d ln en so x po
  | @field y n x f i A F c m ex q1 q2 q3 hds l nd hi hl hc hm hA hx r ih =>
    obtain ⟨l', h1, h2⟩ := ih
    refine ⟨(c, some i, tsX X.K i A f F) :: l', .named nd hi hl hc (fun a oe cls d pn hz hf => ?_) h1, fun e ρ1 S1 fl ρ' S' h L H σ D cls d ln en so xr po => ?_⟩
    · obtain ⟨t, p, s⟩ := (hx a oe cls d pn hz hf).ex
      refine ⟨fun pins s' σ H D I act => ?_⟩
      obtain ⟨L, S, dd, v, xx, k1, k2, k3, k4, k5, k6, k7⟩ := act
      exact (pss_one (ps_ret p)).run pins s' σ H D I (s L σ H S D.rt dd v xx k1 k2 k3 k4 k5 k6 k7)
    · have ec : cls = C e.cls := xr.1
      unfold catchX at h
      cases q : m e.cls with
      | none => rw [q] at h; cases h
      | some b =>
        rw [q] at h
        refine ⟨b, by rw [ec]; exact hm _ _ q, fun hb a _ => ?_, fun hb => ?_⟩
        · subst hb
          obtain ⟨ecls, earg⟩ := e
          dsimp only at h ec
          cases earg with
          | none => cases h
          | some z =>
            obtain ⟨f2, d0⟩ := z
            dsimp only at h
            split at h
            · rename_i cc
              obtain ⟨rfl, rfl⟩ := cc
              cases h
              obtain ⟨_, da, v, e1, e2, e3⟩ := xr
              have hlt : i < σ.length := by
                rw [ln]
                rcases Nat.lt_or_ge i X.N.length with z | z
                · exact z
                · rw [List.getElem?_eq_none z] at hi
                  cases hi
              exact ⟨L, _, da, v, d0, List.getElem?_set_self hlt, by rw [ec, hA], e1, e2, e3, so, fun u L' H' st so' ru => po.rt _ rfl L' H' u st so' ru⟩
            · cases h
        · subst hb
          exact h2 e ρ1 S1 fl ρ' S' h L H σ D cls d ln en so xr po
theorem ds_tryX {n : Nat} (hn : X.N.length = n) (hs : X.stack = X.env :: X.outer) (hf : X.env.frame = some X.env.locals) (tk : Takes X W)
    (hb : ∀ (W' : WX) (pn : List (Addr × Obj)) (xe : Value → Shared → Prop), Takes (X.tr pn xe) W' → PassesOwn (model X.prog X.w) X.A X.env xe → DSs (X.tr pn xe) C W' body g)
    (hh : DHx X C W (h₀ :: hds) l) : DS X C W (.Try body (h₀ :: hds) [] [] pos) (sTryX n g l) := by
  obtain ⟨l', h1, h2⟩ := dhx_ok hh
  refine ⟨_, ps_try_mix (tb := fun W' => canS X.K C W' g) hs hf tk (fun W' pn xe t p => (hb W' pn xe t p).can) h1, fun ρ S fl ρ' S' h L σ H D en so po => ?_⟩
  unfold sTryX at h
  cases q : g ρ S with
  | none => rw [q] at h; cases h
  | some z =>
    obtain ⟨fl0, ρ0, S0⟩ := z
    rw [q] at h
    refine ⟨ρ, S, fl0, ρ0, S0, L, q, en, so, ?_⟩
    cases fl0 with
    | er e =>
      refine ⟨fun z => (nomatch z), fun z => (nomatch z), fun z => (nomatch z), fun o z => (nomatch z), fun e' z L' H' σ' cls d st so' en' x => ?_⟩
      cases z
      dsimp only at h
      split at h
      · rename_i hl
        exact h2 e ρ0 S0 fl ρ' S' h L' H' σ' D cls d (by rw [len_of en', hl, hn]) en' so' x (po.step st)
      · cases h
    | nx =>
      cases h
      exact ⟨po.nx, po.bk, po.ct, po.rt, fun e z => (nomatch z)⟩
    | bk =>
      cases h
      exact ⟨po.nx, po.bk, po.ct, po.rt, fun e z => (nomatch z)⟩
    | ct =>
      cases h
      exact ⟨po.nx, po.bk, po.ct, po.rt, fun e z => (nomatch z)⟩
    | rt o =>
      cases h
      exact ⟨po.nx, po.bk, po.ct, po.rt, fun e z => (nomatch z)⟩
theorem dhx_c {y : Str} {tab : List (Str × Bool)} {b₀ : Stmt} {suite : List Stmt} {np pos' : Pos} (T : CatT X.K X.mg C y tab) (hg : Gl X y)
    (hsu : ∀ (a : Addr) (oe : Obj) (pn : List (Addr × Obj)), DSs (X.suite a ((a, oe) :: pn)) C W (b₀ :: suite) g) (r : DHx X C W hds l) (hd : (y == ("__debug__" : Str)) = false := by decide) :
    DHx X C W (.ExceptHandler (some (.Name y np)) none (b₀ :: suite) pos' :: hds) ((mtOf tab, .pl g) :: l) := by
  obtain ⟨A, h1, h2⟩ := T.ex
  exact .plain (c := .ref A) ⟨hg, hd, .inl h1⟩ h2 hsu r
theorem dhx_e {y n x f : Str} {i : Nat} {F : D → D} {e : Expr} {q1 q2 q3 : Pos} {tab : List (Str × Bool)} (T : CatT X.K X.mg C y tab) (E : ErrT X.prog X.w X.K X.mg X.base C x f) (hg : Gl X y) (nd : X.N.Nodup) (hi : X.N[i]? = some n) (hl : X.env.kindOf n = some .local)
    (hx : ∀ (A : Addr), XfC X.K A → PySem.W.findIn X.K (.ref A) f = some none → ∀ (a : Addr) (oe : Obj) (cls : Value) (d : Option Addr) (pn : List (Addr × Obj)), Zc cls d oe → (∃ vs, oe.data = .fields vs) → DX (X.suite a ((a, oe) :: pn)) i a cls d A f e F) (r : DHx X C W hds l) (hd : (y == ("__debug__" : Str)) = false := by decide) :
    DHx X C W (.ExceptHandler (some (.Name y q1)) (some n) [.Return (some e) q3] q2 :: hds) ((mtOf tab, .fl x f F) :: l) := by
  obtain ⟨A, h1, h2⟩ := T.ex
  obtain ⟨A2, fI, fd, hC, hm, EC, Fi, hb⟩ := E.ex
  exact .field (c := .ref A) nd hi hl ⟨hg, hd, .inl h1⟩ h2 hC (hx A2 EC.xf EC.no) r
end
end Dk
set_option Elab.async false
set_option linter.all false
set_option maxRecDepth 100000
set_option maxHeartbeats 4000000
/-! t[::-1] of a tuple. -/
namespace HT
open PySem PySem.Spec PyProof.Rows
section
variable {prog : Program} {w : World} {A : Around} {E : Value → Shared → Prop} {s : Shared}
theorem adjust_back (n : Nat) : Builtin.Slice.sliceAdjust none none (-1) (n : Int) = ((n : Int) - 1, -1) := by
  unfold Builtin.Slice.sliceAdjust
  simp
theorem places_back (n : Nat) : Builtin.Slice.slicePlaces ((n : Int) - 1) (-1) (-1) = n := by
  unfold Builtin.Slice.slicePlaces
  simp
  try split
  all_goals try omega
theorem sliceApplied_back {sl : Addr} {vl vu vs : Value} {n : Nat} {Q : Int × Int × Nat → Shared → Prop} (hs : s.heap.IsSliceOf sl vl vu vs) (pl : IsPart vl none) (pu : IsPart vu none) (ps : IsPart vs (some (-1)))
    (h : Q ((n : Int) - 1, -1, n) s) : wpAny (model prog w) A (Builtin.Slice.sliceApplied (.ref sl) (pure (n : Int))) Q E s := by
  obtain ⟨os, hos, hcs, hds⟩ := id hs
  unfold Builtin.Slice.sliceApplied Builtin.Slice.sliceFields
  refine wpAny_bind (wpAny_bind (wpAny_field hos hds (x := vl) rfl (wpAny_bind (wpAny_field hos hds (x := vu) rfl (wpAny_bind (wpAny_field hos hds (x := vs) rfl (wpAny_pure ?_)))))))
  refine wpAny_bind (slicePart_ ps ?_)
  show wpAny _ _ (if ((-1 : Int) == 0) = true then _ else _) _ _ s
  rw [if_neg (by decide)]
  refine wpAny_bind (slicePart_ pl (wpAny_bind (slicePart_ pu (wpAny_bind (wpAny_pure ?_)))))
  show wpAny _ _ (match Builtin.Slice.sliceAdjust none none (-1) (n : Int) with | (lo, hi) => pure (lo, (-1 : Int), Builtin.Slice.slicePlaces lo hi (-1))) _ _ s
  rw [adjust_back n]
  show wpAny _ _ (pure ((n : Int) - 1, (-1 : Int), Builtin.Slice.slicePlaces ((n : Int) - 1) (-1) (-1))) _ _ s
  rw [places_back]
  exact wpAny_pure h
theorem fm_congr {α β : Type} {f g : α → Option β} : ∀ {l : List α}, (∀ k ∈ l, f k = g k) → l.filterMap f = l.filterMap g
  | [], _ => rfl
  | a :: r, h => by
    rw [List.filterMap_cons, List.filterMap_cons, h a (by simp), fm_congr (l := r) fun k hk => h k (by simp [hk])]
theorem back_pick (xs : Array Value) : ((List.range xs.size).filterMap fun (k : Nat) => xs[((xs.size : Int) - 1 + (k : Int) * (-1)).toNat]?).toArray = xs.toList.reverse.toArray := by
  have h := PySem.W.krv_pick xs
  unfold slicePick at h
  rw [PySem.W.krv_bounds] at h
  have h : ((sliceRange ((xs.size : Int) - 1) (-1) (-1)).filterMap (xs[·]?)).toArray = xs.toList.reverse.toArray := h
  rw [PySem.W.krv_sliceRange, List.filterMap_map] at h
  rw [← h]
  congr 1
  apply fm_congr
  intro k hk
  have := List.mem_range.mp hk
  have e : ((xs.size : Int) - 1 + (k : Int) * (-1)).toNat = xs.size - 1 - k := by omega
  rw [e]
  rfl
theorem getItem_tuple_back {t sl : Addr} {items : Array Value} {vl vu vs : Value} {Q : Value → Shared → Prop} (ht : IsTup s.heap t items) (hs : s.heap.IsSliceOf sl vl vu vs) (pl : IsPart vl none) (pu : IsPart vu none) (ps : IsPart vs (some (-1)))
    (h : Q (.ref s.heap.objs.size) { s with heap := s.heap.push { cls := .type "tuple", data := .seq items.toList.reverse.toArray } })
    (hsz : items.size ≤ sizeLine) : wpAny (model prog w) A (getItem (.ref t) (.ref sl)) Q E s := by
  have htake : sizeOk (.seq items.toList.reverse.toArray) := by
    show items.toList.reverse.toArray.size ≤ sizeLine
    rw [List.size_toArray, List.length_reverse, Array.length_toList]
    exact hsz
  obtain ⟨os, hos, hcs, hds⟩ := id hs
  have hTs : s.TypeIs (.ref sl) "slice" := ⟨os, hos, hcs⟩
  unfold getItem
  try with_reducible refine wpAny_holding ?_
  first | refine wpAny_bind (wpAny_pure ?_) | skip
  refine wpAny_bind (wpAny_sequenceKey ht.typeIs (by decide) ?_)
  refine wpAny_bind (wpAny_callSpecial?_slot (name := Str.ofString "__getitem__") ht.typeIs PyProof.Rows.slot_tuple_getitem
    (wpAny_call_entry PyProof.Rows.slot_tuple_getitem ht.typeIs entry_tuple_getitem ?_ (args_tuple_getitem _ _)))
  show wpAny _ _ (Builtin.Tuple.tupleItemsOf (.ref t) >>= _) _ _ s
  refine wpAny_bind (tupleItemsOf_ ht ?_)
  refine wpAny_bind (wpAny_typeOf hTs ?_)
  rw [if_pos (by decide)]
  refine wpAny_bind (sliceApplied_back hs pl pu ps ?_)
  have hno : ¬ (((items.size : Int) - 1 == 0 && (-1 : Int) == 1 && items.size == items.size) = true) := by simp
  show wpAny _ _ (if ((items.size : Int) - 1 == 0 && (-1 : Int) == 1 && items.size == items.size) = true then _ else _) _ _ s
  rw [if_neg hno, back_pick]
  first
    | exact wpAny_bind (m := Builtin.Tuple.tupleExact _) (wpAny_newObj_type (wpAny_pure ⟨_, rfl, wpAny_pure h⟩) htake)
    | exact wpAny_bind (m := Builtin.Tuple.tupleExact _) (wpAny_newObj_type (wpAny_bind (wpAny_pure (wpAny_pure ⟨_, rfl, wpAny_pure h⟩))) htake)
    | exact wpAny_bind (wpAny_bind (m := Builtin.Tuple.tupleExact _) (wpAny_newObj_type (wpAny_pure (wpAny_pure ⟨_, rfl, wpAny_pure h⟩)) htake))
    | exact wpAny_bind (wpAny_bind (m := Builtin.Tuple.tupleExact _) (wpAny_newObj_type (wpAny_pure ⟨_, rfl, wpAny_pure h⟩) htake))
end
end HT
namespace Dk
open PySem PySem.Spec PyProof.Rows L2
section
variable {X : Cx} {C : Str → Value} {W : WX}
def tBack (K : PySem.W.Frag) (te : TE) : TE := fun σ H Q => te σ H fun x H1 => ∃ a xs, x = .ref a ∧ SqT K H1 a xs ∧ ∀ p, H1 p = none → Q (.ref p) (upd H1 p (.tup xs.reverse))
theorem pe_back {e : Expr} {te : TE} {k : Nat} {p1 p2 p3 pos : Pos} (he : PE X e te) : PE X (.Subscript e (.Slice none none (some (.UnaryOp .USub (.Constant (.int 1) k p1) p2)) p3) pos) (tBack X.K te) := by
  refine ⟨fun pins s σ H Q I h => ?_⟩
  refine Subscript_ (thn (he.run pins s σ H _ I h) fun v s1 ⟨x, H1, I1, r1, q1⟩ => ?_)
  obtain ⟨a, xs, ex, hx, q⟩ := q1
  subst ex
  cases r1
  have hst : PO X (some (.UnaryOp .USub (.Constant (.int 1) k p1) p2)) (tPart (tUn (rU fun i => .int (-i)) (tC (.int 1)))) := po_some (pe_un un_neg pe_int)
  refine wpAny_Slice (thn (po_none.run pins s1 σ H1 (fun o H2 => o = none ∧ H2 = H1) I1 ⟨rfl, rfl⟩) fun vl s2 ⟨l, H2, I2, pl, el, e2⟩ => ?_)
  subst el e2
  refine thn (po_none.run pins s2 σ H2 (fun o H3 => o = none ∧ H3 = H2) I2 ⟨rfl, rfl⟩) fun vu s3 ⟨u, H3, I3, pu, eu, e3⟩ => ?_
  subst eu e3
  refine thn (hst.run pins s3 σ H3 (fun o H4 => o = some (-1) ∧ H4 = H3) I3 ⟨1, rfl, -1, rfl, rfl, rfl⟩) fun vs s4 ⟨o, H4, I4, ps, eo, e4⟩ => ?_
  subst eo e4
  have I5 : L2.Inv X pins σ H4 { s4 with heap := s4.heap.push { cls := .type "slice", data := .fields #[vl, vu, vs] } } := I4.kept (t' := s4.toks) fun b ob q => Heap.get?_push_of_some _ q
  obtain ⟨its, r, ht, hz⟩ := I5.tuple hx
  have hlen := r.length
  show wpAny (model X.prog X.w) X.A (subscriptTail e (.Slice none none (some (.UnaryOp .USub (.Constant (.int 1) k p1) p2)) p3) (.ref a) (.ref s4.heap.objs.size)) (EP X pins σ Q) X.xe { s4 with heap := s4.heap.push { cls := .type "slice", data := .fields #[vl, vu, vs] } }
  refine tail_any (ops := [.ref a, .ref s4.heap.objs.size]) ht.typeIs (PyProof.Rows.slot_tuple_getitem.lookup) ?_ (by with_unfolding_all rfl)
  refine HT.getItem_tuple_back ht (Heap.IsSliceOf.new _ vl vu vs) pl pu ps ?_ (by rw [List.size_toArray]; omega)
  refine ⟨.ref _, _, I5.laid (t' := s4.toks) (o := .tup xs.reverse) (fun b ob q => Heap.get?_push_of_some _ q) (Nat.le_refl _) ?_, rfl, q _ (I5.hok.fresh (Nat.le_refl _))⟩
  exact ⟨by rw [List.length_reverse]; exact hz, _, r.reverse, IsTup.new _ _⟩
theorem Reps.rev {K : PySem.W.Frag} {G : Hp} : ∀ {vs : List V} {ds : List D}, Reps K G vs ds → Reps K G vs.reverse ds.reverse
  | _, _, .nil => .nil
  | _, _, .cons h r => by
    rw [List.reverse_cons, List.reverse_cons]
    exact (Reps.rev r).append (.cons h .nil)
def backS (S : Sto) (a : OV) : Option D := match view S a with
  | some (.tuple ds) => some (.tuple ds.reverse)
  | _ => none
theorem de_back {e : Expr} {fe : E1} {k : Nat} {p1 p2 p3 pos : Pos} (he : DE X C W e fe) : DE X C W (.Subscript e (.Slice none none (some (.UnaryOp .USub (.Constant (.int 1) k p1) p2)) p3) pos) (op1 backS fe) := by
  obtain ⟨t, p, s⟩ := he.ex
  refine ⟨_, pe_back p, fun ρ S r S' h L σ H Q en so po => ?_⟩
  refine s.bind h en so po fun a S1 L1 H1 v h1 st1 so1 r1 en1 po1 => ?_
  obtain ⟨d, e1, h2⟩ := opt_bind h1
  unfold backS at e1
  split at e1
  · rename_i ds hv
    cases e1
    obtain ⟨q, vs, rfl, m, rs⟩ := view_tup hv r1 so1
    exact ⟨q, vs, rfl, m, fun p hp => po1.done (S0 := S1) h2 (step_new hp) (so1.laid hp) _ (new_tup so1 hp rs.rev)⟩
  · cases e1
end
end Dk
set_option Elab.async false
set_option linter.all false
set_option maxRecDepth 100000
set_option maxHeartbeats 4000000
/-! texts.count(text); a list from behind. -/
namespace Dk
open PySem PySem.Spec PyProof.Rows L2
def stk (k : Str) (v : Value) : Bool := match v with
  | .str x _ => x == k
  | _ => false
theorem stk_vals {k : Str} : ∀ {us : List Value} {ns : List Str}, Vals (ns.map V.str) us → us.countP (stk k) = ns.count k ∧ ∀ y ∈ us, ∃ x t, y = Value.str x t
  | _, [], .nil => ⟨rfl, fun y hy => by cases hy⟩
  | _, n :: ns, .cons h r => by
    obtain ⟨a, b⟩ := stk_vals (k := k) (ns := ns) r
    obtain ⟨t, rfl⟩ := h
    refine ⟨?_, fun y hy => ?_⟩
    · rw [List.countP_cons, List.count_cons, a]
      rfl
    · rcases List.mem_cons.mp hy with e | e
      · exact ⟨n, t, e⟩
      · exact b y e
def rCntS (K : PySem.W.Frag) : V → List V → Hp → VK → Prop := fun x xs H Q => ∃ (p : Addr) (ns : List Str) (k : Str), x = .ref p ∧ xs = [.str k] ∧ SqL K H p (ns.map V.str) ∧ Q (.int (ns.count k : Nat)) H
def countS (S : Sto) (a b : OV) : Option D := match view S a, view S b with
  | some (.list ds), some (.str k) => (asStrs ds).map fun ns => .int (ns.count k : Nat)
  | _, _ => none
def fCount (fo : E1) (fa : EL) : E1 := fun ρ S => (fo ρ S).bind fun o S1 => (viewL S1 o).bind fun _ => (fa ρ S1).bind fun as S2 => match as with
  | [b] => (countS S2 o b).bind fun d => ret (.dat d) S2
  | _ => none
section
variable {X : Cx} {C : Str → Value} {W : WX} {o e : Expr} {fo fe : E1} {pos apos : Pos}
theorem mt_countS : MtR X "list.count" (rCntS X.K) := by
  intro pins s σ H x xs v us Q I rx rxs h
  obtain ⟨p, ns, k, rfl, rfl, hs, q⟩ := h
  cases rx
  obtain ⟨u, rfl, ru⟩ := rxs.one
  obtain ⟨t, rfl⟩ := ru
  obtain ⟨its, rv, ⟨⟨cls, dd, data, sl⟩, n, ho, hc, hdn, hd⟩, hlen⟩ := I.list hs
  simp only at hc hd
  subst hc hd
  obtain ⟨ec, hy⟩ := stk_vals (k := k) rv
  refine call_meets PySem.F.slot_list_count ⟨_, ho, rfl⟩ PySem.F.entry_list_count (PySem.F.args_list_count_2 _ _)
    (SeqAt.list_countAt p its.toArray n dd sl (.str k t) (stk k)) ⟨ho, fun y hm => ?_, ?_⟩
  · obtain ⟨x, t', rfl⟩ := hy y (by simpa using hm)
    exact SeqAt.EqAt.str_str x t' k t
  · refine ⟨.int (ns.count k : Nat), H, I.tok _, ⟨s.toks, ?_⟩, q⟩
    show Value.int ((its.toArray.toList.countP (stk k) : Nat) : Int) s.toks = Value.int ((ns.count k : Nat) : Int) s.toks
    rw [show its.toArray.toList.countP (stk k) = ns.count k from ec]
theorem de_count (ho : DE X C W o fo) {fa : EL} (ha : DA X C W [e] fa)
    (hbase : attributeBase o "count" X.env (eval o X.env) = eval o X.env := by rfl)
    (hfew : ((backTo pos (starEach [e] X.env)).all (fun x => !x.1) && (backToKw pos (keywordEach [] X.env)).all (fun x => x.1.isSome) && decide ([e].length + ([] : List Keyword).length + (if ([] : List Keyword).isEmpty then 0 else 1) < 30)) = true := by rfl)
    (hline : (apos.endLine == pos.line) = true := by rfl) (hs : starEach [e] X.env = (false, eval e X.env) :: starEach [] X.env := by rfl) (hplain : (backTo pos (starEach [] X.env)).any (·.1) = false := by rfl) :
    DE X C W (.Call (.Attribute o "count" apos) [e] [] pos) (fCount fo fa) := by
  obtain ⟨t1, p1, s1⟩ := ho.ex
  obtain ⟨t2, q2, s2⟩ := ha.ex
  refine ⟨_, pe_bm PySem.F.plainAttrs_list PySem.F.slot_list_count PySem.F.type_list_count mt_countS p1 q2 hbase hfew hline hs hplain, fun ρ S r S' h L σ H Q en so po => ?_⟩
  refine s1.bind h en so po fun y S1 L1 H1 u h1 st1 so1 r1 en1 po1 => ?_
  obtain ⟨ds0, e0, k0⟩ := opt_bind h1
  obtain ⟨a0, vs0, e00, m0, _⟩ := view_list (viewL_eq e0) r1 so1
  refine ⟨by rw [e00]; exact tyV_list m0, ?_⟩
  refine s2.bind k0 en1 so1 po1 fun as S2 L2 H2 ws h2 st2 so2 r2 en2 po2 => ?_
  split at h2
  · rename_i b
    obtain ⟨d, e1, h3⟩ := opt_bind h2
    obtain ⟨v, rfl, rv⟩ := reps_one r2
    unfold countS at e1
    split at e1
    · rename_i ds k hx hy
      obtain ⟨ns, e2, rfl⟩ := opt_map e1
      obtain rfl := view_str hy rv so2
      obtain ⟨a1, vs, e3, m1, rs⟩ := view_list hx (r1.step st2) so2
      rw [asStrs_eq e2] at rs
      rw [rs.strs] at m1
      exact ⟨a1, ns, k, e3, rfl, m1, po2.done (S0 := S2) h3 Step.refl so2 _ (.int _)⟩
    · cases e1
  · cases h2
def backL (S : Sto) (a : OV) : Option D := match view S a with
  | some (.list ds) => some (.list ds.reverse)
  | _ => none
theorem de_backL {fe : E1} {k : Nat} {p1 p2 p3 pos : Pos} (he : DE X C W e fe) : DE X C W (.Subscript e (.Slice none none (some (.UnaryOp .USub (.Constant (.int 1) k p1) p2)) p3) pos) (op1 backL fe) := by
  obtain ⟨t, p, s⟩ := he.ex
  refine ⟨_, pe_revL p, fun ρ S r S' h L σ H Q en so po => ?_⟩
  refine s.bind h en so po fun a S1 L1 H1 v h1 st1 so1 r1 en1 po1 => ?_
  obtain ⟨d, e1, h2⟩ := opt_bind h1
  unfold backL at e1
  split at e1
  · rename_i ds hv
    cases e1
    obtain ⟨q, vs, rfl, m, rs⟩ := view_list hv r1 so1
    exact ⟨q, vs, rfl, m, fun p hp => po1.done (S0 := S1) h2 (step_new hp) (so1.laid hp) _ (new_lst so1 hp rs.rev)⟩
  · cases e1
end
/-! ### the error class of the top -/
theorem errT_mk {K : PySem.W.Frag} {h : Heap} {mg : Str → Option Value} {fa : List He.Fa} {fn : List He.FnD} {P : Program} {w : World} {base : Heap} (X : K.In h) (G : h.Ns mainGlobals mg) (c : He.SaysE fa fn K) (i j k : Nat) {x f m qual : Str} {st : Stmt}
    (he : errB K (He.ga K x) (He.ma K (He.ga K x) "__init__") f = true) (S : FnScope ["self", f] ["self", f] (defScope st))
    (hb : ∀ (kV doc pm : Value) (an : Option Addr) (cdv ct : Value) (us : List Value), us.length = 2 → bindArgs (PySem.W.fnOf "__init__" qual (defArgs st) (defBody st) (defScope st) .none kV doc pm an cdv ct) ⟨us, []⟩ = pure ((["self", f] : List Str).zip us))
    (hbody : ∀ (fI : Addr) (cdv : Value) (A : Around) (outer : List Env) (s : Shared) (H : Hp) (E : XK), PSs (cxOf CX0 P w K mg base ["self", f] qual (defScope st) fI cdv A outer s H E).nox (defBody st) (tSeq (tDrop (tVeI K (tCons (tVar 0) (tCons (tC (.str m)) tNil)))) (tOst K f (tVar 0) (tVar 1))))
    (h1 : fn[i]? = some ⟨(x, some "__init__"), "__init__", qual, defArgs st, defBody st, defScope st⟩ := by rfl)
    (h2 : fa[j]? = some (.glo x) := by rfl) (h3 : fa[k]? = some (.meth x "__init__") := by rfl) : ErrT P w K mg base (cOf mg) x f := by
  obtain ⟨oc, od, osl, kV, doc, pm, an, cdv, ct, l, cc⟩ := c.def_ i h1
  obtain ⟨_, _, hk⟩ := He.meth_ok (c.fact k h3)
  have g := He.glo_ok X G (c.fact j h2)
  have F : Fun K "__init__" qual st (He.ma K (He.ga K x) "__init__") (PySem.W.fnOf "__init__" qual (defArgs st) (defBody st) (defScope st) .none kV doc pm an cdv ct) := ⟨⟨oc, od, kV, doc, pm, an, cdv, ct, osl, rfl, l, cc⟩, hk⟩
  exact ⟨_, _, _, (by unfold cOf; rw [g] <;> rfl), g, errB_ok he, err_init F S (hbody _), .all (hb kV doc pm an cdv ct)⟩
end Dk
set_option Elab.async false
set_option linter.all false
set_option maxRecDepth 100000
set_option maxHeartbeats 4000000
/-! Errors as values: made, asked for their class, their text, their field. -/
namespace Dk
open PySem PySem.Spec PyProof.Rows L2
def excS (x t : Str) : D := opD (.tuple [.str x, .str t])
def excF (x f : Str) (n : Int) : D := opD (.tuple [.str x, .str f, .int n])
/-! ### X(text) -/
def tExcS (A : Addr) (ta : TE) : TE := fun σ H Q => ta σ H fun v H1 => ∃ t, v = .str t ∧ ∀ a t0, H1 a = none → H1 t0 = none → a ≠ t0 → Q (.ref a) (upd (upd H1 t0 (.tup [.str t])) a (ExAO A t0 a))
def fExcS (x : Str) (fe : E1) : E1 := fun ρ S => (fe ρ S).bind fun o S1 => match o with
  | .dat (.str t) => ret (.dat (excS x t)) S1
  | _ => none
section
variable {X : Cx} {C : Str → Value} {W : WX} {x : Str} {A : Addr} {e : Expr} {fe : E1} {ta : TE} {p pos : Pos}
theorem pe_excS {bmB : List Value} {B newId initId : String} (F : ExcBaseFacts B newId initId bmB) (q : PySem.W.excIn X.K A bmB newId = true) (gC : X.mg x = some (.ref A)) (kC : PySem.W.keepIn X.K (.ref A) = true) (hg : Gl X x) (he : PE X e ta)
    (hdb : (x == ("__debug__" : Str)) = false := by decide) (hs : starEach [e] X.env = (false, eval e X.env) :: starEach [] X.env := by rfl) : PE X (.Call (.Name x p) [e] [] pos) (tExcS A ta) := by
  refine ⟨fun pins s σ H Q I h => ?_⟩
  refine wpAny_Call_Name_kw (ld_glob I hg gC ?_ hdb)
  refine PySem.W.callWith_K (h₀ := X.base) I.ok.mod.kin kC ?_ hs (by rfl)
  rw [hs]
  refine Calls.spliced_cons (thn (he.run pins s σ H _ I h) fun u s1 hh => ?_)
  obtain ⟨v, H1, I1, r1, t, rfl, q1⟩ := hh
  refine Calls.spliced_nil ⟨I1.kIn, ?_⟩
  show wpAny _ _ (call (.ref A) [u]) _ _ _
  obtain ⟨bm, N, nm, qn, bs, hdct, sn, sub, ab, col, dd, k0, k1, k2, k3, k5, mN, hC, hN, hni, T⟩ := exc_obj I1.kIn q
  refine wpAny_call_exc_subT F T hC hN hni (fun h' a hm => ?_) (by show 1 ≤ sizeLine; rw [sizeLine_eq]; omega)
  obtain ⟨t0, ha, hn0, ht0⟩ := hm.there
  have na : H1 a = none := I1.hok.gone hm.new
  have n0 : H1 t0 = none := I1.hok.gone hn0
  have ne : a ≠ t0 := fun z => by
    rw [← z, ha] at ht0
    cases ht0
  obtain ⟨G, g1, g2⟩ := restrict h' fun b => decide (b ≠ a)
  have gk : ∀ b, b ≠ a → G.get? b = h'.get? b := fun b hb => g1 b (decide_eq_true hb)
  have ga : G.get? a = none := g2 a (by simp)
  have old : ∀ b o, s1.heap.get? b = some o → b ≠ a := fun b o z e2 => by
    rw [e2, hm.new] at z
    cases z
  have I2 := I1.laidN (t' := s1.toks) (a := t0) (o := .tup [.str t]) (h' := G) (fun b o z => (gk b (old b o z)).trans (hm.keeps b o z)) hn0 n0 ⟨by show 1 ≤ sizeLine; rw [sizeLine_eq]; omega, [u], .cons r1 .nil, _, (gk t0 (Ne.symm ne)).trans ht0, rfl, _, rfl⟩
  have na2 : upd H1 t0 (.tup [.str t]) a = none := by rw [upd_ne ne]; exact na
  have I3 := I2.laidN (t' := s1.toks) (a := a) (o := ExAO A t0 a) (h' := h') (fun b o z => by
    by_cases hb : b = a
    · have z2 : G.get? b = some o := z
      rw [hb, ga] at z2
      cases z2
    · exact (gk b hb).symm.trans z) ga na2 (exAO_ok ha)
  exact ⟨.ref a, _, I3, rfl, q1 a t0 na n0 ne⟩
theorem de_excS (T : ExcT X.K X.mg C x A) (hA : A = He.ga X.K x) (hg : Gl X x) (he : DE X C W e fe) (hdb : (x == ("__debug__" : Str)) = false := by decide) (hs : starEach [e] X.env = (false, eval e X.env) :: starEach [] X.env := by rfl) :
    DE X C W (.Call (.Name x p) [e] [] pos) (fExcS x fe) := by
  obtain ⟨t, pe, s⟩ := he.ex
  refine ⟨_, pe_excS PySem.F.excBase_ValueError T.q T.g T.k hg pe hdb hs, fun ρ S r S' h L σ H Q en so po => ?_⟩
  refine s.bind h en so po fun o S1 L1 H1 v h1 st1 so1 r1 en1 po1 => ?_
  match o, h1 with
  | .dat (.str m), h1 =>
    cases (r1 : Rep X.K _ v (.str m))
    refine ⟨m, rfl, fun a t0 na n0 ne => ?_⟩
    have n2 : upd H1 t0 (.tup [.str m]) a = none := by rw [upd_ne ne]; exact na
    have so2 := so1.laid (o := .tup [.str m]) n0
    refine po1.done (S0 := S1) h1 ((step_new n0).trans (step_new n2)) (so2.laid n2) _ (.op ?_)
    subst hA
    refine .exS x m (mask_of (so2.new n2) upd_same) (mask_of (so1.new n0) ?_)
    rw [upd_ne (Ne.symm ne), upd_same]
end
/-! ### X(n), X with an __init__ of its own -/
def tExcF (K : PySem.W.Frag) (A : Addr) (f : Str) (ta : TE) : TE := fun σ H Q => ta σ H fun v H1 => ∀ a dx, H1 a = none → H1 dx = none → dx ≠ a → Q (.ref a) (upd (upd H1 dx (exd dx [(f, v)])) a (exo a A (some dx)))
def fExcF (x f : Str) (fe : E1) : E1 := fun ρ S => (fe ρ S).bind fun o S1 => match o with
  | .dat (.int n) => ret (.dat (excF x f n)) S1
  | _ => none
section
variable {X : Cx} {C : Str → Value} {W : WX} {x f : Str} {A fI : Addr} {e : Expr} {fe : E1} {ta : TE} {fd : FuncData} {p pos : Pos}
theorem pe_excF (T : ErrC X.K A fI f) (F1 : FnOk X.prog X.w X.K X.mg X.base CX0 1 fI fd ["self", f] (spErr X.K f)) (hb : Binds X.K fd ["self", f] []) (hr : Room 2 X.A) (hm : X.mg x = some (.ref A)) (hg : Gl X x) (he : PE X e ta)
    (hdb : (x == ("__debug__" : Str)) = false := by decide) (hs : starEach [e] X.env = (false, eval e X.env) :: starEach [] X.env := by rfl) : PE X (.Call (.Name x p) [e] [] pos) (tExcF X.K A f ta) := by
  refine ⟨fun pins s σ H Q I h => ?_⟩
  obtain ⟨nm, q, N, bs, bm, sn, sub, ab, col, dd, k0, k1, k2, k3, k5, hC, hbm⟩ := T.oex.cls
  refine wpAny_Call_Name_kw (ld_glob I hg hm ?_ hdb)
  refine PySem.W.callWith_K (h₀ := X.base) I.ok.mod.kin T.oex.kC ?_ hs (by rfl)
  rw [hs]
  refine Calls.spliced_cons (thn (he.run pins s σ H _ I h) fun u s1 hh => ?_)
  obtain ⟨v, H1, I1, r1, q1⟩ := hh
  refine Calls.spliced_nil ⟨I1.kIn, ?_⟩
  show wpAny _ _ (call (.ref A) [u]) _ _ _
  obtain ⟨hp, g, dr, tk, os⟩ := s1
  have hsz : hp.objs.size ≤ hp.objs.size + 1 := Nat.le_succ _
  have hn : H1 (hp.objs.size + 1) = none := I1.hok.fresh hsz
  have kk : ∀ b o, hp.get? b = some o → ((hp.push (PySem.W.kdv_tup [u])).push (PySem.HandSPX.excO A hp.objs.size)).get? b = some o := fun b o z => Heap.get?_push_of_some _ (Heap.get?_push_of_some _ z)
  have hget : ((hp.push (PySem.W.kdv_tup [u])).push (PySem.HandSPX.excO A hp.objs.size)).get? (hp.objs.size + 1) = some (PySem.HandSPX.excO A hp.objs.size) := by heap_get
  have I2 := I1.laid (t' := tk) (a := hp.objs.size + 1) (o := exo (hp.objs.size + 1) A none) kk hsz (exo_ok hget)
  have act : spErr X.K f [V.ref (hp.objs.size + 1), v] (upd H1 (hp.objs.size + 1) (exo (hp.objs.size + 1) A none)) (fun w H2 => w = .non ∧ Q (.ref (hp.objs.size + 1)) H2) (fun _ _ _ => False) := by
    refine ⟨_, A, v, rfl, T.oex, T.no, upd_same, fun dx k1 k2 => ⟨rfl, ?_⟩⟩
    rw [upd_ne k2] at k1
    have eH : upd (upd (upd H1 (hp.objs.size + 1) (exo (hp.objs.size + 1) A none)) dx (exd dx [(f, v)])) (hp.objs.size + 1) (exo (hp.objs.size + 1) A (some dx)) = upd (upd H1 dx (exd dx [(f, v)])) (hp.objs.size + 1) (exo (hp.objs.size + 1) A (some dx)) := by
      funext b
      by_cases c : b = hp.objs.size + 1
      · rw [c, upd_same, upd_same]
      · rw [upd_ne c, upd_ne c]
        by_cases c2 : b = dx
        · rw [c2, upd_same, upd_same]
        · rw [upd_ne c2, upd_ne c2, upd_ne c]
    rw [eH]
    exact q1 _ dx hn k1 k2
  have r2 : Vals [V.ref (hp.objs.size + 1), v] [Value.ref (hp.objs.size + 1), u] := .cons rfl (.cons r1 .nil)
  refine wpAny_call (PySem.HandSPX.call_own F.excBase_ValueError (fun Y => PySem.HandSPX.refsVE_contains Y bm hbm) (I1.kIn _ _ hC) (PySem.W.looks_findIn I1.kIn T.iC) (fun self => PySem.W.bind_fn I1.kIn self T.tI) (by show 1 ≤ sizeLine; rw [sizeLine_eq]; omega)
    (codeAny_mono (F1.run _ X.stack _ _ ⟨[Value.ref (hp.objs.size + 1), u], []⟩ [Value.ref (hp.objs.size + 1), u] _ _ (fun _ _ _ => False) (hr.make A [u] []) (I2.env0.make A [u] []) (hb _ [Value.ref (hp.objs.size + 1), u] I2.kIn rfl) r2 act) fun r s' hq' => ?_))
  cases r with
  | error er => exact pass0 pins σ _ _ er s' I2 hq'
  | ok fl =>
    cases fl with
    | ret w =>
      obtain ⟨w2, H2, J, rv, ev, q2⟩ := I2.after hq'
      subst ev
      exact ⟨rv, .ref (hp.objs.size + 1), H2, J, rfl, q2⟩
    | next => exact False.elim hq'
    | brk => exact False.elim hq'
    | cont => exact False.elim hq'
theorem de_excF (T : ErrT X.prog X.w X.K X.mg X.base C x f) (hA : X.mg x = some (.ref (He.ga X.K x))) (hr : Room 2 X.A) (hg : Gl X x) (he : DE X C W e fe) (hdb : (x == ("__debug__" : Str)) = false := by decide) (hs : starEach [e] X.env = (false, eval e X.env) :: starEach [] X.env := by rfl) :
    DE X C W (.Call (.Name x p) [e] [] pos) (fExcF x f fe) := by
  obtain ⟨A2, fI2, fd2, hC, hm, EC, Fi, hb⟩ := T.ex
  obtain ⟨t, pe, s⟩ := he.ex
  refine ⟨_, pe_excF EC Fi hb hr hm hg pe hdb hs, fun ρ S r S' h L σ H Q en so po => ?_⟩
  refine s.bind h en so po fun o S1 L1 H1 v h1 st1 so1 r1 en1 po1 => ?_
  match o, h1 with
  | .dat (.int n), h1 =>
    cases (r1 : Rep X.K _ v (.int n))
    refine fun a dx na n0 ne => ?_
    have n2 : upd H1 dx (exd dx [(f, .int n)]) a = none := by rw [upd_ne (Ne.symm ne)]; exact na
    have so2 := so1.laid (o := exd dx [(f, .int n)]) n0
    refine po1.done (S0 := S1) h1 ((step_new n0).trans (step_new n2)) (so2.laid n2) _ (.op ?_)
    have hA2 : A2 = He.ga X.K x := by
      rw [hA] at hm
      cases hm
      rfl
    subst hA2
    refine .exF x f n (mask_of (so2.new n2) upd_same) (mask_of (so1.new n0) ?_)
    rw [upd_ne ne, upd_same]
end
/-! ### asked -/
/-- what the written part says of a class of errors, for asking -/
structure ExcK (K : PySem.W.Frag) (A : Addr) : Prop where
  xf : XfC K A
  cl : (PySem.W.clsIn K A).isSome = true
  ca : PySem.W.findIn K (.ref A) "__class__" = some (some (.builtin "object.__class__"))
  gs : PySem.W.specialIn K (.builtin "object.__class__") "__get__" = some (some (.builtin "getset_descriptor.__get__"))
  tk : PySem.W.takesIn K (.builtin "object.__class__") = some true
  mo : PySem.W.mroIn K A (.type "object") = some true
  st : PySem.W.findIn K (.ref A) "__str__" = some (some (.builtin "BaseException.__str__"))
def excKB (K : PySem.W.Frag) (A : Addr) : Bool := xfB K A && ((PySem.W.clsIn K A).isSome && (He.eqO (PySem.W.findIn K (.ref A) "__class__") (some (some (.builtin "object.__class__"))) && (He.eqO (PySem.W.specialIn K (.builtin "object.__class__") "__get__") (some (some (.builtin "getset_descriptor.__get__"))) &&
  (decide (PySem.W.takesIn K (.builtin "object.__class__") = some true) && (decide (PySem.W.mroIn K A (.type "object") = some true) && He.eqO (PySem.W.findIn K (.ref A) "__str__") (some (some (.builtin "BaseException.__str__"))))))))
theorem excKB_ok {K : PySem.W.Frag} {A : Addr} (h : excKB K A = true) : ExcK K A := by
  unfold excKB at h
  simp only [Bool.and_eq_true, decide_eq_true_eq] at h
  obtain ⟨h1, h2, h3, h4, h5, h6, h7⟩ := h
  exact ⟨xfB_ok h1, h2, He.eqO_ok h3, He.eqO_ok h4, h5, h6, He.eqO_ok h7⟩
theorem ExcK.kit {K : PySem.W.Frag} {A a : Addr} {ox : Obj} {od : Option Obj} (E : ExcK K A) : PySem.W.KitX K (.ref a) (.ref A) (fun h => PySem.W.InstAt h a ox A od) := PySem.W.kitx_exc E.cl E.xf.ga E.xf.gg E.xf.exC E.ca E.gs E.tk E.mo
/-- an exception of the class A stands at a -/
def ExcAt (H : Hp) (a A : Addr) : Prop := (∃ t0, H a = some (ExAO A t0 a)) ∨ ∃ dx fs, H a = some (exo a A (some dx)) ∧ H dx = some (exd dx fs)
theorem exAO_at {P : Program} {w : World} {H : Hp} {h : Heap} {A t0 a : Addr} (hok : HOk P w H h) (he : H a = some (ExAO A t0 a)) : h.get? a = some ({ cls := .ref A, dict := none, data := .fields #[.ref t0, .none, .none, .none, .bool false, .none] } : Obj) := by
  have x : ObjOk P w H h a (.ext fun h => h.get? a = some ({ cls := .ref A, dict := none, data := .fields #[.ref t0, .none, .none, .none, .bool false, .none] } : Obj)) := hok a _ he
  exact x.1
theorem ExcAt.inst {P : Program} {w : World} {H : Hp} {h : Heap} {a A : Addr} (e : ExcAt H a A) (hok : HOk P w H h) : ∃ ox od, PySem.W.InstAt h a ox A od := by
  rcases e with ⟨t0, e⟩ | ⟨dx, fs, e, ed⟩
  · exact ⟨_, none, exAO_at hok e, rfl, rfl, trivial⟩
  · obtain ⟨t1, ho⟩ := exo_at hok e
    obtain ⟨mA, ⟨od, es, ep, e2, r⟩, _⟩ := exd_at hok ed
    exact ⟨_, some od, ho, rfl, rfl, e2⟩
def rIsX (K : PySem.W.Frag) : List V → Hp → VK → Prop := fun xs H Q => ∃ (a A : Addr) (c : V) (cv : Value) (b : Bool), xs = [.ref a, c] ∧ (∀ u, RelV c u → u = cv) ∧ PySem.W.kitOne K (.ref A) cv = some b ∧ ExcK K A ∧ ExcAt H a A ∧ Q (.bl b) H
theorem call_isX {X : Cx} : CallR X (.builtin "isinstance") (rIsX X.K) := by
  intro pins s σ H xs us Q I r h
  obtain ⟨a, A, c, cv, b, rfl, hcv, e, E, ea, q⟩ := h
  match us, r with
  | [_, _], .cons rx (.cons rt .nil) =>
    cases rx
    obtain rfl := hcv _ rt
    obtain ⟨ox, od, J⟩ := ea.inst I.hok
    exact PySem.W.kia_one E.kit I.kIn J e (fun z => nomatch z) fun tk => ⟨.bl b, H, I.kept (t' := tk) fun _ _ z => z, rfl, q⟩
theorem opq_inv {K : PySem.W.Frag} {G : Hp} {v : V} {y : D} (r0 : Rep K G v (opD y)) : Opq K G v y := by
  generalize hd : opD y = d at r0
  cases r0 with
  | op hz => cases hd; exact hz
  | dk hl hg rr =>
    rename_i ks vs ds
    cases ks with
    | nil => cases hd
    | cons k0 ks =>
      cases rr with
      | nil => cases hd
      | cons _ _ => cases k0 <;> cases hd
  | dt hl hg rr =>
    rename_i ks vs ds
    cases ks with
    | nil => cases hd
    | cons k0 ks =>
      cases rr with
      | nil => cases hd
      | cons _ _ => cases hd
  | _ => cases hd
/-- the class's name of an opaque value, if it is an exception -/
def excN : D → Option Str
  | .dict [(.none, .tuple [.str x, .str _])] => some x
  | .dict [(.none, .tuple [.str x, .str _, .int _])] => some x
  | _ => none
theorem excN_at {K : PySem.W.Frag} {G H : Hp} (sm : Same G H) {v : V} {d : D} {x : Str} (h : excN d = some x) (r : Rep K G v d) : ∃ a, v = .ref a ∧ ExcAt H a (He.ga K x) := by
  have key : ∀ y, Rep K G v (opD y) → Opq K G v y := fun y r0 => opq_inv r0
  unfold excN at h
  split at h
  · rename_i x2 t
    cases h
    have q := key _ r
    cases q with
    | exS _ _ h1 h2 => exact ⟨_, rfl, .inl ⟨_, sm _ _ h1⟩⟩
  · rename_i x2 f n
    cases h
    have q := key _ r
    cases q with
    | exF _ _ _ h1 h2 => exact ⟨_, rfl, .inr ⟨_, _, sm _ _ h1, sm _ _ h2⟩⟩
  · cases h
def fIsE (tab : List (Str × Bool)) (fe : E1) : E1 := fun ρ S => (fe ρ S).bind fun o S1 => match o with
  | .dat d => (excN d).bind fun x => (tab.lookup x).bind fun b => ret (.dat (.bool b)) S1
  | _ => none
/-- isinstance by a class, told for some classes of errors -/
structure IsT (K : PySem.W.Frag) (c : V) (tab : List (Str × Bool)) : Prop where
  ex : ∃ cv, (∀ u, RelV c u → u = cv) ∧ ∀ z b, tab.lookup z = some b → ExcK K (He.ga K z) ∧ PySem.W.kitOne K (.ref (He.ga K z)) cv = some b
def isTB (K : PySem.W.Frag) (cv : Value) (tab : List (Str × Bool)) : Bool := tab.all fun q => excKB K (He.ga K q.1) && decide (PySem.W.kitOne K (.ref (He.ga K q.1)) cv = some q.2)
theorem isT_mk {K : PySem.W.Frag} {c : V} {cv : Value} {tab : List (Str × Bool)} (hc : ∀ u, RelV c u → u = cv) (h : isTB K cv tab = true) : IsT K c tab := ⟨cv, hc, fun z b e => by
  obtain ⟨l1, l2, e2, _⟩ := List.lookup_eq_some_iff.mp e
  have h1 := List.all_eq_true.mp h (z, b) (by rw [e2]; simp)
  simp only [Bool.and_eq_true, decide_eq_true_eq] at h1
  exact ⟨excKB_ok h1.1, h1.2⟩⟩
section
variable {X : Cx} {C : Str → Value} {W : WX} {y f x : Str} {c : V} {tab : List (Str × Bool)} {e : Expr} {fe : E1} {tc : TE} {p p2 pos : Pos}
theorem de_isE (T : IsT X.K c tab) (hc : PE X (.Name y p2) (tC c)) (ha : DE X C W e fe) (hg : Gl X "isinstance") (hm : X.mg "isinstance" = none)
    (hs1 : starEach [e, .Name y p2] X.env = (false, eval e X.env) :: starEach [.Name y p2] X.env := by rfl) (hs2 : starEach [.Name y p2] X.env = (false, eval (.Name y p2) X.env) :: starEach [] X.env := by rfl)
    (hpl : (backTo pos (starEach [.Name y p2] X.env)).any (·.1) = false := by rfl) : DE X C W (.Call (.Name "isinstance" p) [e, .Name y p2] [] pos) (fIsE tab fe) := by
  obtain ⟨t, pa, s⟩ := ha.ex
  obtain ⟨cv, hcv, ht⟩ := T.ex
  refine ⟨_, pe_callB call_isX hg hm (by decide +kernel) (pa_cons pa (pa_cons hc pa_nil hs2) hs1) (by decide) (by decide) hs1 hpl, fun ρ S r S' h L σ H Q en so po => ?_⟩
  refine s.bind h en so po fun o S1 L1 H1 v h1 st1 so1 r1 en1 po1 => ?_
  cases o with
  | own n => cases h1
  | dat d =>
    obtain ⟨x, e1, h2⟩ := opt_bind h1
    obtain ⟨b, e2, h3⟩ := opt_bind h2
    obtain ⟨a, rfl, ea⟩ := excN_at (mask_same L1 H1) e1 r1
    obtain ⟨k1, k2⟩ := ht x b e2
    exact ⟨a, He.ga X.K x, c, cv, b, rfl, hcv, k2, k1, ea, po1.done (S0 := S1) h3 Step.refl so1 _ (.bl b)⟩
/-- str(e) -/
def rStrX (K : PySem.W.Frag) : List V → Hp → VK → Prop := fun xs H Q => ∃ (a A t0 : Addr) (t : Str), xs = [.ref a] ∧ ExcK K A ∧ H a = some (ExAO A t0 a) ∧ H t0 = some (.tup [.str t]) ∧ Q (.str t) H
theorem call_strX {k : Nat} (hr : Room k X.A) : CallR X (.type "str") (rStrX X.K) := by
  intro pins s σ H xs us Q I r h
  obtain ⟨a, A, t0, t, rfl, E, ea, et, q⟩ := h
  match us, r with
  | [_], .cons rx .nil =>
    cases rx
    have ho := exAO_at I.hok ea
    obtain ⟨_, its, rv, oo, e1, e2, n, e3⟩ := I.hok t0 _ et
    match its, rv with
    | [u], .cons ru .nil =>
      obtain ⟨tk, eu⟩ := (show ∃ tk, u = Value.str t tk from ru)
      subst eu
      refine PySem.P.str_of_C_one (by have := hr.un; omega) ⟨I.kIn, _, _, ho, rfl, rfl, rfl⟩ ⟨oo, n, e1, e2, e3⟩ E.st E.xf.exC ⟨.str t, H, I, ru, q⟩
def fStrE (l : List Str) (fe : E1) : E1 := fun ρ S => (fe ρ S).bind fun o S1 => match o with
  | .dat (.dict [(.none, .tuple [.str x, .str t])]) => if x ∈ l then ret (.dat (.str t)) S1 else none
  | _ => none
theorem de_strE {k : Nat} {l : List Str} (hl : ∀ x ∈ l, ExcK X.K (He.ga X.K x)) (hr : Room k X.A) (ha : DE X C W e fe) (hg : Gl X "str") (hm : X.mg "str" = none) (hs : starEach (e :: []) X.env = (false, eval e X.env) :: starEach [] X.env := by rfl) (hpl : (backTo pos (starEach [] X.env)).any (·.1) = false := by rfl) :
    DE X C W (.Call (.Name "str" p) [e] [] pos) (fStrE l fe) := by
  obtain ⟨t, pa, s⟩ := ha.ex
  refine ⟨_, pe_callTy (call_strX hr) hg hm (by decide +kernel) (pa_cons pa pa_nil hs) (by decide) (by decide) hs hpl, fun ρ S r S' h L σ H Q en so po => ?_⟩
  refine s.bind h en so po fun o S1 L1 H1 v h1 st1 so1 r1 en1 po1 => ?_
  match o, h1 with
  | .dat (.dict [(.none, .tuple [.str x, .str m])]), h1 =>
    change (if x ∈ l then ret (OV.dat (.str m)) S1 else none) = _ at h1
    split at h1
    · rename_i hx
      have q := opq_inv (y := .tuple [.str x, .str m]) r1
      cases q with
      | exS _ _ h2 h3 => exact ⟨_, _, _, m, rfl, hl x hx, mask_same L1 H1 _ _ h2, mask_same L1 H1 _ _ h3, po1.done (S0 := S1) h1 Step.refl so1 _ (.str m)⟩
    · cases h1
/-! e.f -/
def fFldE (x f : Str) (fe : E1) : E1 := fun ρ S => (fe ρ S).bind fun o S1 => match o with
  | .dat (.dict [(.none, .tuple [.str z, .str g, .int n])]) => if z = x ∧ g = f then ret (.dat (.int n)) S1 else none
  | _ => none
def tFldE (A : Addr) (f : Str) (te : TE) : TE := fun σ H Q => te σ H fun x H1 => ∃ a dx v, x = .ref a ∧ H1 a = some (exo a A (some dx)) ∧ H1 dx = some (exd dx [(f, v)]) ∧ Q v H1
theorem pe_fldE {te : TE} {A : Addr} (T : XfC X.K A) (hno : PySem.W.findIn X.K (.ref A) f = some none) (he : PE X e te) (hb : attributeBase e f X.env (eval e X.env) = eval e X.env := by rfl) : PE X (.Attribute e f pos) (tFldE A f te) := by
  refine ⟨fun pins s σ H Q I h => ?_⟩
  refine attr_of hb (thn (he.run pins s σ H _ I h) fun u s1 hh => ?_)
  obtain ⟨z, H1, I1, rx, a, dx, v, rfl, ea, ed, q⟩ := hh
  obtain rfl : u = Value.ref a := rx
  obtain ⟨t1, ho⟩ := exo_at I1.hok ea
  obtain ⟨mA, hns, hr⟩ := exd_at I1.hok ed
  obtain ⟨od, hod, hl⟩ := lookIn_ns hns
  obtain ⟨w, hu, ru⟩ := RelO.some_of (v := v) (o := mA f) (by have := hr f; rw [List.lookup_cons_self] at this; exact this)
  have J : PySem.W.InstAt s1.heap a _ A (some od) := ⟨ho, rfl, rfl, hod⟩
  exact HandSPX.exc_get I1.kIn J T.ga T.gg T.exC (PySem.W.findObj_own T.hdC hno rfl (by rw [hl, hu])) (handed_of ru) ⟨v, H1, I1.tok _, ru, q⟩
theorem de_fldE (T : ErrT X.prog X.w X.K X.mg X.base C x f) (hA : X.mg x = some (.ref (He.ga X.K x))) (ha : DE X C W e fe) (hb : attributeBase e f X.env (eval e X.env) = eval e X.env := by rfl) : DE X C W (.Attribute e f pos) (fFldE x f fe) := by
  obtain ⟨A2, fI2, fd2, hC, hm, EC, Fi, hbb⟩ := T.ex
  obtain ⟨t, pa, s⟩ := ha.ex
  have hA2 : A2 = He.ga X.K x := by
    rw [hA] at hm
    cases hm
    rfl
  subst hA2
  refine ⟨_, pe_fldE EC.xf EC.no pa hb, fun ρ S r S' h L σ H Q en so po => ?_⟩
  refine s.bind h en so po fun o S1 L1 H1 v h1 st1 so1 r1 en1 po1 => ?_
  match o, h1 with
  | .dat (.dict [(.none, .tuple [.str z, .str g, .int n])]), h1 =>
    have h5 : (if z = x ∧ g = f then ret (OV.dat (.int n)) S1 else none) = some (r, S') := h1
    clear h1
    by_cases hx : z = x ∧ g = f
    · rw [if_pos hx] at h5
      obtain ⟨rfl, rfl⟩ := hx
      have q := opq_inv (y := .tuple [.str z, .str g, .int n]) r1
      cases q with
      | exF _ _ _ h2 h3 => exact ⟨_, _, _, rfl, mask_same L1 H1 _ _ h2, mask_same L1 H1 _ _ h3, po1.done (S0 := S1) h5 Step.refl so1 _ (Rep.int n)⟩
    · rw [if_neg hx] at h5
      cases h5
end
end Dk
set_option Elab.async false
set_option linter.all false
set_option maxRecDepth 100000
set_option maxHeartbeats 4000000
namespace K19
open PySem PySem.Spec L2 Dk
def topS (i : Nat) : Stmt := PySem.Challenge.pw_walkcounts_k19_errors_and_their_classes.main.body.getD i (.Pass ⟨0, 0, 0, 0⟩)
section
variable {P : Program} {w : World} {K : PySem.W.Frag} {mg : Str → Option Value} {base : Heap} {C : Str → Value}

def tab_WalkError : List (Str × Bool) := [("WalkError", true), ("InvalidBook", true), ("InvalidReading", true), ("InvalidStretch", true), ("InvalidWalk", true), ("InvalidClaim", true), ("InvalidChain", true), ("InvalidRule", true), ("InvalidMenu", true), ("InvalidNumber", true), ("InvalidIndex", true), ("Impossible", true), ("Unlike", true), ("NothingToUndo", true), ("TooMany", true), ("InvalidText", true), ("Failed", true)]
def tab_InvalidBook : List (Str × Bool) := [("WalkError", false), ("InvalidBook", true), ("InvalidReading", false), ("InvalidStretch", false), ("InvalidWalk", false), ("InvalidClaim", false), ("InvalidChain", false), ("InvalidRule", false), ("InvalidMenu", false), ("InvalidNumber", false), ("InvalidIndex", false), ("Impossible", false), ("Unlike", false), ("NothingToUndo", false), ("TooMany", false), ("InvalidText", false), ("Failed", false)]
def tab_InvalidReading : List (Str × Bool) := [("WalkError", false), ("InvalidBook", false), ("InvalidReading", true), ("InvalidStretch", false), ("InvalidWalk", false), ("InvalidClaim", false), ("InvalidChain", false), ("InvalidRule", false), ("InvalidMenu", false), ("InvalidNumber", false), ("InvalidIndex", false), ("Impossible", false), ("Unlike", false), ("NothingToUndo", false), ("TooMany", false), ("InvalidText", false), ("Failed", false)]
def tab_InvalidStretch : List (Str × Bool) := [("WalkError", false), ("InvalidBook", false), ("InvalidReading", false), ("InvalidStretch", true), ("InvalidWalk", false), ("InvalidClaim", false), ("InvalidChain", false), ("InvalidRule", false), ("InvalidMenu", false), ("InvalidNumber", false), ("InvalidIndex", false), ("Impossible", false), ("Unlike", false), ("NothingToUndo", false), ("TooMany", false), ("InvalidText", false), ("Failed", false)]
def tab_InvalidWalk : List (Str × Bool) := [("WalkError", false), ("InvalidBook", false), ("InvalidReading", false), ("InvalidStretch", false), ("InvalidWalk", true), ("InvalidClaim", false), ("InvalidChain", false), ("InvalidRule", false), ("InvalidMenu", false), ("InvalidNumber", false), ("InvalidIndex", false), ("Impossible", false), ("Unlike", false), ("NothingToUndo", false), ("TooMany", false), ("InvalidText", false), ("Failed", false)]
def tab_InvalidClaim : List (Str × Bool) := [("WalkError", false), ("InvalidBook", false), ("InvalidReading", false), ("InvalidStretch", false), ("InvalidWalk", false), ("InvalidClaim", true), ("InvalidChain", false), ("InvalidRule", false), ("InvalidMenu", false), ("InvalidNumber", false), ("InvalidIndex", false), ("Impossible", false), ("Unlike", false), ("NothingToUndo", false), ("TooMany", false), ("InvalidText", false), ("Failed", false)]
def tab_InvalidChain : List (Str × Bool) := [("WalkError", false), ("InvalidBook", false), ("InvalidReading", false), ("InvalidStretch", false), ("InvalidWalk", false), ("InvalidClaim", false), ("InvalidChain", true), ("InvalidRule", false), ("InvalidMenu", false), ("InvalidNumber", false), ("InvalidIndex", false), ("Impossible", false), ("Unlike", false), ("NothingToUndo", false), ("TooMany", false), ("InvalidText", false), ("Failed", false)]
def tab_InvalidRule : List (Str × Bool) := [("WalkError", false), ("InvalidBook", false), ("InvalidReading", false), ("InvalidStretch", false), ("InvalidWalk", false), ("InvalidClaim", false), ("InvalidChain", false), ("InvalidRule", true), ("InvalidMenu", false), ("InvalidNumber", false), ("InvalidIndex", false), ("Impossible", false), ("Unlike", false), ("NothingToUndo", false), ("TooMany", false), ("InvalidText", false), ("Failed", false)]
def tab_InvalidMenu : List (Str × Bool) := [("WalkError", false), ("InvalidBook", false), ("InvalidReading", false), ("InvalidStretch", false), ("InvalidWalk", false), ("InvalidClaim", false), ("InvalidChain", false), ("InvalidRule", false), ("InvalidMenu", true), ("InvalidNumber", false), ("InvalidIndex", false), ("Impossible", false), ("Unlike", false), ("NothingToUndo", false), ("TooMany", false), ("InvalidText", false), ("Failed", false)]
def tab_InvalidNumber : List (Str × Bool) := [("WalkError", false), ("InvalidBook", false), ("InvalidReading", false), ("InvalidStretch", false), ("InvalidWalk", false), ("InvalidClaim", false), ("InvalidChain", false), ("InvalidRule", false), ("InvalidMenu", false), ("InvalidNumber", true), ("InvalidIndex", false), ("Impossible", false), ("Unlike", false), ("NothingToUndo", false), ("TooMany", false), ("InvalidText", false), ("Failed", false)]
def tab_InvalidIndex : List (Str × Bool) := [("WalkError", false), ("InvalidBook", false), ("InvalidReading", false), ("InvalidStretch", false), ("InvalidWalk", false), ("InvalidClaim", false), ("InvalidChain", false), ("InvalidRule", false), ("InvalidMenu", false), ("InvalidNumber", false), ("InvalidIndex", true), ("Impossible", false), ("Unlike", false), ("NothingToUndo", false), ("TooMany", false), ("InvalidText", false), ("Failed", false)]
def tab_Impossible : List (Str × Bool) := [("WalkError", false), ("InvalidBook", false), ("InvalidReading", false), ("InvalidStretch", false), ("InvalidWalk", false), ("InvalidClaim", false), ("InvalidChain", false), ("InvalidRule", false), ("InvalidMenu", false), ("InvalidNumber", false), ("InvalidIndex", false), ("Impossible", true), ("Unlike", false), ("NothingToUndo", false), ("TooMany", false), ("InvalidText", false), ("Failed", false)]
def tab_Unlike : List (Str × Bool) := [("WalkError", false), ("InvalidBook", false), ("InvalidReading", false), ("InvalidStretch", false), ("InvalidWalk", false), ("InvalidClaim", false), ("InvalidChain", false), ("InvalidRule", false), ("InvalidMenu", false), ("InvalidNumber", false), ("InvalidIndex", false), ("Impossible", false), ("Unlike", true), ("NothingToUndo", false), ("TooMany", false), ("InvalidText", false), ("Failed", false)]
def tab_NothingToUndo : List (Str × Bool) := [("WalkError", false), ("InvalidBook", false), ("InvalidReading", false), ("InvalidStretch", false), ("InvalidWalk", false), ("InvalidClaim", false), ("InvalidChain", false), ("InvalidRule", false), ("InvalidMenu", false), ("InvalidNumber", false), ("InvalidIndex", false), ("Impossible", false), ("Unlike", false), ("NothingToUndo", true), ("TooMany", false), ("InvalidText", false), ("Failed", false)]
def tab_TooMany : List (Str × Bool) := [("WalkError", false), ("InvalidBook", false), ("InvalidReading", false), ("InvalidStretch", false), ("InvalidWalk", false), ("InvalidClaim", false), ("InvalidChain", false), ("InvalidRule", false), ("InvalidMenu", false), ("InvalidNumber", false), ("InvalidIndex", false), ("Impossible", false), ("Unlike", false), ("NothingToUndo", false), ("TooMany", true), ("InvalidText", false), ("Failed", false)]
def tab_InvalidText : List (Str × Bool) := [("WalkError", false), ("InvalidBook", false), ("InvalidReading", false), ("InvalidStretch", false), ("InvalidWalk", false), ("InvalidClaim", false), ("InvalidChain", false), ("InvalidRule", false), ("InvalidMenu", false), ("InvalidNumber", false), ("InvalidIndex", false), ("Impossible", false), ("Unlike", false), ("NothingToUndo", false), ("TooMany", false), ("InvalidText", true), ("Failed", false)]
def tab_Failed : List (Str × Bool) := [("WalkError", false), ("InvalidBook", false), ("InvalidReading", false), ("InvalidStretch", false), ("InvalidWalk", false), ("InvalidClaim", false), ("InvalidChain", false), ("InvalidRule", false), ("InvalidMenu", false), ("InvalidNumber", false), ("InvalidIndex", false), ("Impossible", false), ("Unlike", false), ("NothingToUndo", false), ("TooMany", false), ("InvalidText", false), ("Failed", true)]
def tabB_ValueError : List (Str × Bool) := [("WalkError", true), ("InvalidBook", true), ("InvalidReading", true), ("InvalidStretch", true), ("InvalidWalk", true), ("InvalidClaim", true), ("InvalidChain", true), ("InvalidRule", true), ("InvalidMenu", true), ("InvalidNumber", true), ("InvalidIndex", true), ("Impossible", true), ("Unlike", true), ("NothingToUndo", true), ("TooMany", true), ("InvalidText", true), ("Failed", true)]
def strL : List Str := ["WalkError", "InvalidBook", "InvalidReading", "InvalidStretch", "InvalidWalk", "InvalidClaim", "InvalidChain", "InvalidRule", "InvalidMenu", "InvalidNumber", "InvalidIndex", "Impossible", "Unlike", "NothingToUndo"]
abbrev s__law_flask : Stmt := topS 19
theorem sc__law_flask : FnScope ["_law_cell", "_law_salt", "_law_great"] ["_law_cell", "_law_salt"] (defScope s__law_flask) := ⟨rfl, rfl, rfl, by decide +kernel, rfl, by decide +kernel, by decide +kernel⟩
noncomputable def g__law_flask : SS := (sSeq (sAsg (vIf (bOf (op2 geS (fVar 0) (op2 powS (fC (.int 10)) (fC (.int 18))))) (op2 addS (op2 fdivS (fVar 0) (fC (.int 10))) (op2 mulS (fC (.int 53)) (fVar 1))) (fC (.int 0))) (tgN 2))
  (sRet (ownL (fLst (aCons (fVar 2) (aCons (op2 addS (op2 modS (opL intS (aCons (op2 addS (op2 mulS (fVar 0) (fC (.int 89))) (op2 mulS (fC (.int 1061)) (fVar 1))) aNil)) (fC (.int 2077504273))) (fC (.int 59))) aNil))))))
noncomputable def F__law_flask : List OV → Sto → Rs OV := runO 2 3 g__law_flask
theorem ok__law_flask (B : Bt mg) {f : Addr} {fd : FuncData} (F : Fun K "_law_flask" "_law_flask" s__law_flask f fd) (hm : mg "_law_flask" = some (.ref f)) (hb : Binds K fd ["_law_cell", "_law_salt"] []) : FnD P w K mg base C 1 "_law_flask" 2 F__law_flask := by
  refine fn_mkO F hm hb sc__law_flask fun cdv A outer s H E hr => ?_
  have tk := takes_body (P := P) (w := w) (K := K) (mg := mg) (base := base) (N := ["_law_cell", "_law_salt", "_law_great"]) (qual := "_law_flask") (scope := defScope s__law_flask) (f := f) (cd := cdv) (A := A) (outer := outer) (s := s) (H := H) (E := E)
  exact (dss_cons (ds_set 2 sc__law_flask.nd rfl (by first | exact Or.inl rfl | exact Or.inr rfl) (de_if (dt_cmp ro_ge (de_var 0) (de_op ro_pow de_int de_int) (nomark _)) (de_op ro_add (de_op ro_fdiv (de_var 0) de_int) (de_op ro_mul de_int (de_var 1))) de_int))
    (dss_one (ds_ret (DF.own (df_lst (da_cons (de_var 2) (da_cons (de_op ro_add (de_op ro_mod (de_callTy rc_int rfl B.int bt_int (da_cons (de_op ro_add (de_op ro_mul (de_var 0) de_int) (de_op ro_mul de_int (de_var 1))) da_nil)) de_int) de_int) da_nil)))))))
abbrev s__law_sip : Stmt := topS 20
theorem sc__law_sip : FnScope ["_law_flask_here", "_law_many", "_law_found", "_law_deep"] ["_law_flask_here", "_law_many"] (defScope s__law_sip) := ⟨rfl, rfl, rfl, by decide +kernel, rfl, by decide +kernel, by decide +kernel⟩
noncomputable def g__law_sip : SS := (sSeq (sIf (bOf (op2 gtS (op2 ixS (fVar 0) (fC (.int 0))) (fC (.int 0)))) (sSeq (sAsg (op2 modS (opL intS (aCons (op2 ixS (fVar 0) (fC (.int 0))) aNil)) (fVar 1)) (tgN 2))
  (sSeq (sSetIx (fVar 0) (fC (.int 0)) (op2 fdivS (op2 ixS (fVar 0) (fC (.int 0))) (fVar 1)))
  (sRet (fVar 2)))) sNx)
  (sSeq (sSetIx (fVar 0) (fC (.int 1)) (op2 modS (opL intS (aCons (op2 addS (op2 mulS (op2 ixS (fVar 0) (fC (.int 1))) (fC (.int 31019))) (fC (.int 9013))) aNil)) (fC (.int 2147483549))))
  (sSeq (sAsg (op2 modS (opL intS (aCons (op2 mulS (op2 ixS (fVar 0) (fC (.int 1))) (op2 addS (op2 ixS (fVar 0) (fC (.int 1))) (fC (.int 97)))) aNil)) (fC (.int 2147483587))) (tgN 3))
  (sRet (op2 modS (opL intS (aCons (op2 fdivS (fVar 3) (fC (.int 607))) aNil)) (fVar 1))))))
noncomputable def F__law_sip : List OV → Sto → Rs OV := runF 2 4 g__law_sip
theorem ok__law_sip (B : Bt mg) {f : Addr} {fd : FuncData} (F : Fun K "_law_sip" "_law_sip" s__law_sip f fd) (hm : mg "_law_sip" = some (.ref f)) (hb : Binds K fd ["_law_flask_here", "_law_many"] []) : FnD P w K mg base C 1 "_law_sip" 2 F__law_sip := by
  refine fn_mk F hm hb sc__law_sip fun cdv A outer s H E hr => ?_
  have tk := takes_body (P := P) (w := w) (K := K) (mg := mg) (base := base) (N := ["_law_flask_here", "_law_many", "_law_found", "_law_deep"]) (qual := "_law_sip") (scope := defScope s__law_sip) (f := f) (cd := cdv) (A := A) (outer := outer) (s := s) (H := H) (E := E)
  exact (dss_cons (ds_if (dt_cmp ro_gt (de_ix (de_var 0) de_int (fun _ _ => rfl)) de_int (nomark _)) (dss_cons (ds_set 2 sc__law_sip.nd rfl (by first | exact Or.inl rfl | exact Or.inr rfl) (de_op ro_mod (de_callTy rc_int rfl B.int bt_int (da_cons (de_ix (de_var 0) de_int (fun _ _ => rfl)) da_nil)) (de_var 1)))
    (dss_cons (ds_setIx (de_var 0) de_int (de_op ro_fdiv (de_ix (de_var 0) de_int (fun _ _ => rfl)) (de_var 1)))
    (dss_one (ds_ret (de_var 2))))) dss_nil)
    (dss_cons (ds_setIx (de_var 0) de_int (de_op ro_mod (de_callTy rc_int rfl B.int bt_int (da_cons (de_op ro_add (de_op ro_mul (de_ix (de_var 0) de_int (fun _ _ => rfl)) de_int) de_int) da_nil)) de_int))
    (dss_cons (ds_set 3 sc__law_sip.nd rfl (by first | exact Or.inl rfl | exact Or.inr rfl) (de_op ro_mod (de_callTy rc_int rfl B.int bt_int (da_cons (de_op ro_mul (de_ix (de_var 0) de_int (fun _ _ => rfl)) (de_op ro_add (de_ix (de_var 0) de_int (fun _ _ => rfl)) de_int)) da_nil)) de_int))
    (dss_one (ds_ret (de_op ro_mod (de_callTy rc_int rfl B.int bt_int (da_cons (de_op ro_fdiv (de_var 3) de_int) da_nil)) (de_var 1)))))))
abbrev s__law_pick : Stmt := topS 21
theorem sc__law_pick : FnScope ["_law_flask_here", "_law_things"] ["_law_flask_here", "_law_things"] (defScope s__law_pick) := ⟨rfl, rfl, rfl, by decide +kernel, rfl, by decide +kernel, by decide +kernel⟩
noncomputable def g__law_pick : SS := (sRet (op2 ixS (fVar 1) (fCall F__law_sip (aCons (fVar 0) (aCons (opL lenS (aCons (fVar 1) aNil)) aNil)))))
noncomputable def F__law_pick : List OV → Sto → Rs OV := runF 2 2 g__law_pick
theorem ok__law_pick (B : Bt mg) {f : Addr} {fd : FuncData} (F : Fun K "_law_pick" "_law_pick" s__law_pick f fd) (hm : mg "_law_pick" = some (.ref f)) (hb : Binds K fd ["_law_flask_here", "_law_things"] []) (h__law_sip : FnD P w K mg base C 1 "_law_sip" 2 F__law_sip) : FnD P w K mg base C 2 "_law_pick" 2 F__law_pick := by
  refine fn_mk F hm hb sc__law_pick fun cdv A outer s H E hr => ?_
  have tk := takes_body (P := P) (w := w) (K := K) (mg := mg) (base := base) (N := ["_law_flask_here", "_law_things"]) (qual := "_law_pick") (scope := defScope s__law_pick) (f := f) (cd := cdv) (A := A) (outer := outer) (s := s) (H := H) (E := E)
  exact (dss_one (ds_ret (de_ix (de_var 1) (de_call h__law_sip (hr.mono (by decide)) tk rfl (da_cons (de_var 0) (da_cons (de_callB rc_len rfl B.len bt_len (da_cons (de_var 1) da_nil)) da_nil)) (len_cons (len_cons len_nil))) (fun _ _ => rfl))))
abbrev s__law_which : Stmt := topS 22
theorem sc__law_which : FnScope ["_law_error", "_law_found"] ["_law_error"] (defScope s__law_which) := ⟨rfl, rfl, rfl, by decide +kernel, rfl, by decide +kernel, by decide +kernel⟩
noncomputable def g__law_which : SS := (sSeq (sAsg (ownL (fLst (aCons (fIsE tab_InvalidBook (fVar 0)) (aCons (fIsE tab_InvalidReading (fVar 0)) (aCons (fIsE tab_InvalidStretch (fVar 0)) aNil))))) (tgN 1))
  (sSeq (sAsg (ownL (fCat (fVar 1) (frz (fLst (aCons (fIsE tab_InvalidWalk (fVar 0)) (aCons (fIsE tab_InvalidClaim (fVar 0)) aNil)))))) (tgN 1))
  (sSeq (sAsg (ownL (fCat (fVar 1) (frz (fLst (aCons (fIsE tab_InvalidChain (fVar 0)) (aCons (fIsE tab_InvalidRule (fVar 0)) aNil)))))) (tgN 1))
  (sSeq (sAsg (ownL (fCat (fVar 1) (frz (fLst (aCons (fIsE tab_InvalidMenu (fVar 0)) (aCons (fIsE tab_InvalidNumber (fVar 0)) aNil)))))) (tgN 1))
  (sSeq (sAsg (ownL (fCat (fVar 1) (frz (fLst (aCons (fIsE tab_InvalidIndex (fVar 0)) (aCons (fIsE tab_Impossible (fVar 0)) (aCons (fIsE tab_Unlike (fVar 0)) aNil))))))) (tgN 1))
  (sSeq (sExpr (fApp (fVar 1) (aCons (fIsE tab_NothingToUndo (fVar 0)) aNil)))
  (sRet (op2 addS (fVar 1) (frz (fLst (aCons (fIsE tab_TooMany (fVar 0)) (aCons (fIsE tab_InvalidText (fVar 0)) (aCons (fIsE tab_Failed (fVar 0)) aNil)))))))))))))
noncomputable def F__law_which : List OV → Sto → Rs OV := runF 1 2 g__law_which
theorem ok__law_which (B : Bt mg) {f : Addr} {fd : FuncData} (F : Fun K "_law_which" "_law_which" s__law_which f fd) (hm : mg "_law_which" = some (.ref f)) (hb : Binds K fd ["_law_error"] []) (gv_Failed : mg "Failed" = some (.ref (He.ga K "Failed"))) (gv_Impossible : mg "Impossible" = some (.ref (He.ga K "Impossible"))) (gv_InvalidBook : mg "InvalidBook" = some (.ref (He.ga K "InvalidBook"))) (gv_InvalidChain : mg "InvalidChain" = some (.ref (He.ga K "InvalidChain"))) (gv_InvalidClaim : mg "InvalidClaim" = some (.ref (He.ga K "InvalidClaim"))) (gv_InvalidIndex : mg "InvalidIndex" = some (.ref (He.ga K "InvalidIndex"))) (gv_InvalidMenu : mg "InvalidMenu" = some (.ref (He.ga K "InvalidMenu"))) (gv_InvalidNumber : mg "InvalidNumber" = some (.ref (He.ga K "InvalidNumber"))) (gv_InvalidReading : mg "InvalidReading" = some (.ref (He.ga K "InvalidReading"))) (gv_InvalidRule : mg "InvalidRule" = some (.ref (He.ga K "InvalidRule"))) (gv_InvalidStretch : mg "InvalidStretch" = some (.ref (He.ga K "InvalidStretch"))) (gv_InvalidText : mg "InvalidText" = some (.ref (He.ga K "InvalidText"))) (gv_InvalidWalk : mg "InvalidWalk" = some (.ref (He.ga K "InvalidWalk"))) (gv_NothingToUndo : mg "NothingToUndo" = some (.ref (He.ga K "NothingToUndo"))) (gv_TooMany : mg "TooMany" = some (.ref (He.ga K "TooMany"))) (gv_Unlike : mg "Unlike" = some (.ref (He.ga K "Unlike"))) (it_Failed : IsT K (.ref (He.ga K "Failed")) tab_Failed) (it_Impossible : IsT K (.ref (He.ga K "Impossible")) tab_Impossible) (it_InvalidBook : IsT K (.ref (He.ga K "InvalidBook")) tab_InvalidBook) (it_InvalidChain : IsT K (.ref (He.ga K "InvalidChain")) tab_InvalidChain) (it_InvalidClaim : IsT K (.ref (He.ga K "InvalidClaim")) tab_InvalidClaim) (it_InvalidIndex : IsT K (.ref (He.ga K "InvalidIndex")) tab_InvalidIndex) (it_InvalidMenu : IsT K (.ref (He.ga K "InvalidMenu")) tab_InvalidMenu) (it_InvalidNumber : IsT K (.ref (He.ga K "InvalidNumber")) tab_InvalidNumber) (it_InvalidReading : IsT K (.ref (He.ga K "InvalidReading")) tab_InvalidReading) (it_InvalidRule : IsT K (.ref (He.ga K "InvalidRule")) tab_InvalidRule) (it_InvalidStretch : IsT K (.ref (He.ga K "InvalidStretch")) tab_InvalidStretch) (it_InvalidText : IsT K (.ref (He.ga K "InvalidText")) tab_InvalidText) (it_InvalidWalk : IsT K (.ref (He.ga K "InvalidWalk")) tab_InvalidWalk) (it_NothingToUndo : IsT K (.ref (He.ga K "NothingToUndo")) tab_NothingToUndo) (it_TooMany : IsT K (.ref (He.ga K "TooMany")) tab_TooMany) (it_Unlike : IsT K (.ref (He.ga K "Unlike")) tab_Unlike) : FnD P w K mg base C 1 "_law_which" 1 F__law_which := by
  refine fn_mk F hm hb sc__law_which fun cdv A outer s H E hr => ?_
  have tk := takes_body (P := P) (w := w) (K := K) (mg := mg) (base := base) (N := ["_law_error", "_law_found"]) (qual := "_law_which") (scope := defScope s__law_which) (f := f) (cd := cdv) (A := A) (outer := outer) (s := s) (H := H) (E := E)
  exact (dss_cons (ds_set 1 sc__law_which.nd rfl (by first | exact Or.inl rfl | exact Or.inr rfl) (DF.own (df_lst (da_cons (de_isE it_InvalidBook (pe_glob (v := .ref (He.ga _ "InvalidBook")) rfl gv_InvalidBook rfl) (de_var 0) rfl B.isinstance) (da_cons (de_isE it_InvalidReading (pe_glob (v := .ref (He.ga _ "InvalidReading")) rfl gv_InvalidReading rfl) (de_var 0) rfl B.isinstance) (da_cons (de_isE it_InvalidStretch (pe_glob (v := .ref (He.ga _ "InvalidStretch")) rfl gv_InvalidStretch rfl) (de_var 0) rfl B.isinstance) da_nil))))))
    (dss_cons (ds_set 1 sc__law_which.nd rfl (by first | exact Or.inl rfl | exact Or.inr rfl) (DF.own (df_cat (de_var 1) (DF.dat (df_lst (da_cons (de_isE it_InvalidWalk (pe_glob (v := .ref (He.ga _ "InvalidWalk")) rfl gv_InvalidWalk rfl) (de_var 0) rfl B.isinstance) (da_cons (de_isE it_InvalidClaim (pe_glob (v := .ref (He.ga _ "InvalidClaim")) rfl gv_InvalidClaim rfl) (de_var 0) rfl B.isinstance) da_nil)))))))
    (dss_cons (ds_set 1 sc__law_which.nd rfl (by first | exact Or.inl rfl | exact Or.inr rfl) (DF.own (df_cat (de_var 1) (DF.dat (df_lst (da_cons (de_isE it_InvalidChain (pe_glob (v := .ref (He.ga _ "InvalidChain")) rfl gv_InvalidChain rfl) (de_var 0) rfl B.isinstance) (da_cons (de_isE it_InvalidRule (pe_glob (v := .ref (He.ga _ "InvalidRule")) rfl gv_InvalidRule rfl) (de_var 0) rfl B.isinstance) da_nil)))))))
    (dss_cons (ds_set 1 sc__law_which.nd rfl (by first | exact Or.inl rfl | exact Or.inr rfl) (DF.own (df_cat (de_var 1) (DF.dat (df_lst (da_cons (de_isE it_InvalidMenu (pe_glob (v := .ref (He.ga _ "InvalidMenu")) rfl gv_InvalidMenu rfl) (de_var 0) rfl B.isinstance) (da_cons (de_isE it_InvalidNumber (pe_glob (v := .ref (He.ga _ "InvalidNumber")) rfl gv_InvalidNumber rfl) (de_var 0) rfl B.isinstance) da_nil)))))))
    (dss_cons (ds_set 1 sc__law_which.nd rfl (by first | exact Or.inl rfl | exact Or.inr rfl) (DF.own (df_cat (de_var 1) (DF.dat (df_lst (da_cons (de_isE it_InvalidIndex (pe_glob (v := .ref (He.ga _ "InvalidIndex")) rfl gv_InvalidIndex rfl) (de_var 0) rfl B.isinstance) (da_cons (de_isE it_Impossible (pe_glob (v := .ref (He.ga _ "Impossible")) rfl gv_Impossible rfl) (de_var 0) rfl B.isinstance) (da_cons (de_isE it_Unlike (pe_glob (v := .ref (He.ga _ "Unlike")) rfl gv_Unlike rfl) (de_var 0) rfl B.isinstance) da_nil))))))))
    (dss_cons (ds_expr (de_app (de_var 1) (da_cons (de_isE it_NothingToUndo (pe_glob (v := .ref (He.ga _ "NothingToUndo")) rfl gv_NothingToUndo rfl) (de_var 0) rfl B.isinstance) da_nil)))
    (dss_one (ds_ret (de_op ro_add (de_var 1) (DF.dat (df_lst (da_cons (de_isE it_TooMany (pe_glob (v := .ref (He.ga _ "TooMany")) rfl gv_TooMany rfl) (de_var 0) rfl B.isinstance) (da_cons (de_isE it_InvalidText (pe_glob (v := .ref (He.ga _ "InvalidText")) rfl gv_InvalidText rfl) (de_var 0) rfl B.isinstance) (da_cons (de_isE it_Failed (pe_glob (v := .ref (He.ga _ "Failed")) rfl gv_Failed rfl) (de_var 0) rfl B.isinstance) da_nil))))))))))))))
abbrev s_law : Stmt := topS 23
theorem sc_law : FnScope ["_law_script", "_law_cell", "_law_flask_here", "_law_text", "_law_number", "_law_errors", "_law_at", "_law_place"] ["_law_script"] (defScope s_law) := ⟨rfl, rfl, rfl, by decide +kernel, rfl, by decide +kernel, by decide +kernel⟩
noncomputable def g_law : SS := (sSeq (sFor (iSeq (fSl (op2 addS (frz (fLst (aCons (fC (.int 0)) aNil))) (fVar 0)) oNone (oSome (fC (.int 6))))) (tgN 1) (sSeq (sAsg (fCall F__law_flask (aCons (fVar 1) (aCons (fC (.int 111)) aNil))) (tgN 2))
  (sSeq (sPar 3 4 (aCons (fCall F__law_pick (aCons (fVar 2) (aCons (frz (fLst (aCons (fC (.str "")) (aCons (fC (.str "a step")) (aCons (fC (.str "no such day")) aNil))))) aNil))) (aCons (fCall F__law_sip (aCons (fVar 2) (aCons (fC (.int 500)) aNil))) aNil)))
  (sSeq (sAsg (frz (fLst (aCons (fExcS "InvalidBook" (fVar 3)) (aCons (fExcS "InvalidReading" (fVar 3)) (aCons (fExcS "InvalidStretch" (fVar 3)) (aCons (fExcS "InvalidWalk" (fVar 3)) aNil)))))) (tgN 5))
  (sSeq (sAsg (op2 addS (fVar 5) (frz (fLst (aCons (fExcS "InvalidClaim" (fVar 3)) (aCons (fExcS "InvalidChain" (fVar 3)) (aCons (fExcS "InvalidRule" (fVar 3)) (aCons (fExcS "InvalidMenu" (fVar 3)) aNil))))))) (tgN 5))
  (sSeq (sAsg (op2 addS (fVar 5) (frz (fLst (aCons (fExcS "InvalidNumber" (fVar 3)) (aCons (fExcS "InvalidIndex" (fVar 3)) (aCons (fExcS "Impossible" (fVar 3)) (aCons (fExcS "Unlike" (fVar 3)) aNil))))))) (tgN 5))
  (sSeq (sAsg (op2 addS (fVar 5) (frz (fLst (aCons (fExcS "NothingToUndo" (fVar 3)) (aCons (fExcF "TooMany" "limit" (fVar 4)) (aCons (fExcF "InvalidText" "line" (fVar 4)) (aCons (fExcF "Failed" "place" (fVar 4)) aNil))))))) (tgN 5))
  (sSeq (sFor (iRg1 (aCons (fC (.int 16)) aNil)) (tgN 6) (sSeq (sIf (bOf (op2 neS (fCall F__law_which (aCons (op2 ixS (fVar 5) (fVar 6)) aNil)) (frz (fLc (iRg1 (aCons (fC (.int 16)) aNil)) (tgN 7) bYes (op2 eqS (fVar 7) (fVar 6)) [7])))) (sRet (fC (.bool false))) sNx)
  (sSeq (sIf (bOr (bNot (bOf (fIsE tab_WalkError (op2 ixS (fVar 5) (fVar 6))))) (bNot (bOf (fIsE tabB_ValueError (op2 ixS (fVar 5) (fVar 6)))))) (sRet (fC (.bool false))) sNx)
  (sIf (bAnd (bOf (op2 ltS (fVar 6) (fC (.int 13)))) (bOf (op2 neS (fStrE strL (op2 ixS (fVar 5) (fVar 6))) (fVar 3)))) (sRet (fC (.bool false))) sNx))))
  (sSeq (sIf (bOf (op2 neS (frz (fLst (aCons (fFldE "TooMany" "limit" (op2 ixS (fVar 5) (fC (.int 13)))) (aCons (fFldE "InvalidText" "line" (op2 ixS (fVar 5) (fC (.int 14)))) (aCons (fFldE "Failed" "place" (op2 ixS (fVar 5) (fC (.int 15)))) aNil))))) (frz (fRep (fLst (aCons (fVar 4) aNil)) (fC (.int 3)))))) (sRet (fC (.bool false))) sNx)
  (sIf (bOf (op2 neS (fCall F__law_which (aCons (fExcS "WalkError" (fVar 3)) aNil)) (frz (fRep (fLst (aCons (fC (.bool false)) aNil)) (fC (.int 16)))))) (sRet (fC (.bool false))) sNx))))))))))
  (sRet (fC (.bool true))))
noncomputable def F_law : List OV → Sto → Rs OV := runF 1 8 g_law
theorem ok_law (B : Bt mg) {f : Addr} {fd : FuncData} (F : Fun K "law" "law" s_law f fd) (er_Failed : ErrT P w K mg base C "Failed" "place") (er_InvalidText : ErrT P w K mg base C "InvalidText" "line") (er_TooMany : ErrT P w K mg base C "TooMany" "limit") (gv_Failed : mg "Failed" = some (.ref (He.ga K "Failed"))) (gv_InvalidText : mg "InvalidText" = some (.ref (He.ga K "InvalidText"))) (gv_TooMany : mg "TooMany" = some (.ref (He.ga K "TooMany"))) (gv_WalkError : mg "WalkError" = some (.ref (He.ga K "WalkError"))) (it_WalkError : IsT K (.ref (He.ga K "WalkError")) tab_WalkError) (it_ValueError : IsT K (.ty "ValueError") tabB_ValueError) (nv_ValueError : mg "ValueError" = none) (sk_ : ∀ x ∈ strL, ExcK K (He.ga K x)) (xv_Impossible : ExcT K mg C "Impossible" (He.ga K "Impossible")) (xv_InvalidBook : ExcT K mg C "InvalidBook" (He.ga K "InvalidBook")) (xv_InvalidChain : ExcT K mg C "InvalidChain" (He.ga K "InvalidChain")) (xv_InvalidClaim : ExcT K mg C "InvalidClaim" (He.ga K "InvalidClaim")) (xv_InvalidIndex : ExcT K mg C "InvalidIndex" (He.ga K "InvalidIndex")) (xv_InvalidMenu : ExcT K mg C "InvalidMenu" (He.ga K "InvalidMenu")) (xv_InvalidNumber : ExcT K mg C "InvalidNumber" (He.ga K "InvalidNumber")) (xv_InvalidReading : ExcT K mg C "InvalidReading" (He.ga K "InvalidReading")) (xv_InvalidRule : ExcT K mg C "InvalidRule" (He.ga K "InvalidRule")) (xv_InvalidStretch : ExcT K mg C "InvalidStretch" (He.ga K "InvalidStretch")) (xv_InvalidWalk : ExcT K mg C "InvalidWalk" (He.ga K "InvalidWalk")) (xv_NothingToUndo : ExcT K mg C "NothingToUndo" (He.ga K "NothingToUndo")) (xv_Unlike : ExcT K mg C "Unlike" (He.ga K "Unlike")) (xv_WalkError : ExcT K mg C "WalkError" (He.ga K "WalkError")) (h__law_flask : FnD P w K mg base C 1 "_law_flask" 2 F__law_flask) (h__law_pick : FnD P w K mg base C 2 "_law_pick" 2 F__law_pick) (h__law_sip : FnD P w K mg base C 1 "_law_sip" 2 F__law_sip) (h__law_which : FnD P w K mg base C 1 "_law_which" 1 F__law_which) : FnOk P w K mg base (L2.CX P w) 3 f fd ["_law_script"] (spD K C 1 F_law) := by
  refine fn_ok F sc_law fun cdv A outer s H E hr => ?_
  have tk := takes_body (P := P) (w := w) (K := K) (mg := mg) (base := base) (N := ["_law_script", "_law_cell", "_law_flask_here", "_law_text", "_law_number", "_law_errors", "_law_at", "_law_place"]) (qual := "law") (scope := defScope s_law) (f := f) (cd := cdv) (A := A) (outer := outer) (s := s) (H := H) (E := E)
  have hp := passes_body (P := P) (w := w) (K := K) (mg := mg) (base := base) (N := ["_law_script", "_law_cell", "_law_flask_here", "_law_text", "_law_number", "_law_errors", "_law_at", "_law_place"]) (qual := "law") (scope := defScope s_law) (f := f) (cd := cdv) (A := A) (outer := outer) (s := s) (H := H) (E := E)
  exact (dss_cons (ds_for hp rfl (di_any (de_sl (de_op ro_add (DF.dat (df_lst (da_cons de_int da_nil))) (de_var 0)) do_none (do_some de_int))) (dg_n 1 sc_law.nd rfl (by first | exact Or.inl rfl | exact Or.inr rfl)) (dss_cons (ds_set 2 sc_law.nd rfl (by first | exact Or.inl rfl | exact Or.inr rfl) (de_call h__law_flask (hr.mono (by decide)) tk rfl (da_cons (de_var 1) (da_cons de_int da_nil)) (len_cons (len_cons len_nil))))
    (dss_cons (ds_par (i := 3) (j := 4) rfl sc_law.nd rfl rfl (by decide) rfl rfl (da_cons (de_call h__law_pick (hr.mono (by decide)) tk rfl (da_cons (de_var 2) (da_cons (DF.dat (df_lst (da_cons de_str (da_cons de_str (da_cons de_str da_nil))))) da_nil)) (len_cons (len_cons len_nil))) (da_cons (de_call h__law_sip (hr.mono (by decide)) tk rfl (da_cons (de_var 2) (da_cons de_int da_nil)) (len_cons (len_cons len_nil))) da_nil)))
    (dss_cons (ds_set 5 sc_law.nd rfl (by first | exact Or.inl rfl | exact Or.inr rfl) (DF.dat (df_lst (da_cons (de_excS xv_InvalidBook rfl rfl (de_var 3)) (da_cons (de_excS xv_InvalidReading rfl rfl (de_var 3)) (da_cons (de_excS xv_InvalidStretch rfl rfl (de_var 3)) (da_cons (de_excS xv_InvalidWalk rfl rfl (de_var 3)) da_nil)))))))
    (dss_cons (ds_set 5 sc_law.nd rfl (by first | exact Or.inl rfl | exact Or.inr rfl) (de_op ro_add (de_var 5) (DF.dat (df_lst (da_cons (de_excS xv_InvalidClaim rfl rfl (de_var 3)) (da_cons (de_excS xv_InvalidChain rfl rfl (de_var 3)) (da_cons (de_excS xv_InvalidRule rfl rfl (de_var 3)) (da_cons (de_excS xv_InvalidMenu rfl rfl (de_var 3)) da_nil))))))))
    (dss_cons (ds_set 5 sc_law.nd rfl (by first | exact Or.inl rfl | exact Or.inr rfl) (de_op ro_add (de_var 5) (DF.dat (df_lst (da_cons (de_excS xv_InvalidNumber rfl rfl (de_var 3)) (da_cons (de_excS xv_InvalidIndex rfl rfl (de_var 3)) (da_cons (de_excS xv_Impossible rfl rfl (de_var 3)) (da_cons (de_excS xv_Unlike rfl rfl (de_var 3)) da_nil))))))))
    (dss_cons (ds_set 5 sc_law.nd rfl (by first | exact Or.inl rfl | exact Or.inr rfl) (de_op ro_add (de_var 5) (DF.dat (df_lst (da_cons (de_excS xv_NothingToUndo rfl rfl (de_var 3)) (da_cons (de_excF er_TooMany gv_TooMany (hr.mono (by decide)) rfl (de_var 4)) (da_cons (de_excF er_InvalidText gv_InvalidText (hr.mono (by decide)) rfl (de_var 4)) (da_cons (de_excF er_Failed gv_Failed (hr.mono (by decide)) rfl (de_var 4)) da_nil))))))))
    (dss_cons (ds_for hp rfl (di_range1 rfl B.range (da_cons de_int da_nil)) (dg_n 6 sc_law.nd rfl (by first | exact Or.inl rfl | exact Or.inr rfl)) (dss_cons (ds_if (dt_cmp (ro_ne hr) (de_call h__law_which (hr.mono (by decide)) tk rfl (da_cons (de_ix (de_var 5) (de_var 6) (fun _ _ => rfl)) da_nil) (len_cons len_nil)) (DF.dat (df_lc (own := [("_law_place", 7)]) rfl sc_law.nd (di_range1 rfl B.range (da_cons de_int da_nil)) (blkOk_by (own := [("_law_place", 7)]) (N := ["_law_script", "_law_cell", "_law_flask_here", "_law_text", "_law_number", "_law_errors", "_law_at", "_law_place"]) (sc := defScope s_law) (by decide +kernel)) (by decide) (fun _ _ _ _ _ => (dg_n 7 sc_law.nd rfl (by first | exact Or.inl rfl | exact Or.inr rfl))) (fun _ _ _ _ _ => dts_nil) (fun _ _ _ _ _ => (de_cmp (ro_eq hr) (de_var 7) (de_var 6) (nomark _))))) (nomark _)) (dss_one (ds_ret de_bl)) dss_nil)
    (dss_cons (ds_if (DW.dt (dw_or (dt_not (dt_val (de_isE it_WalkError (pe_glob (v := .ref (He.ga _ "WalkError")) rfl gv_WalkError rfl) (de_ix (de_var 5) (de_var 6) (fun _ _ => rfl)) rfl B.isinstance))) (dw_or1 (dt_not (dt_val (de_isE it_ValueError (pe_bltn (v := .ty "ValueError") (u := .type "ValueError") rfl nv_ValueError (by decide +kernel) rfl) (de_ix (de_var 5) (de_var 6) (fun _ _ => rfl)) rfl B.isinstance)))))) (dss_one (ds_ret de_bl)) dss_nil)
    (dss_one (ds_if (DW.dt (dw_and (dt_cmp ro_lt (de_var 6) de_int (nomark _)) (dw_and1 (dt_cmp (ro_ne hr) (de_strE sk_ hr (de_ix (de_var 5) (de_var 6) (fun _ _ => rfl)) rfl B.str) (de_var 3) (nomark _))))) (dss_one (ds_ret de_bl)) dss_nil)))))
    (dss_cons (ds_if (dt_cmp (ro_ne hr) (DF.dat (df_lst (da_cons (de_fldE er_TooMany gv_TooMany (de_ix (de_var 5) de_int (fun _ _ => rfl))) (da_cons (de_fldE er_InvalidText gv_InvalidText (de_ix (de_var 5) de_int (fun _ _ => rfl))) (da_cons (de_fldE er_Failed gv_Failed (de_ix (de_var 5) de_int (fun _ _ => rfl))) da_nil))))) (DF.dat (df_rep (df_lst (da_cons (de_var 4) da_nil)) de_int)) (nomark _)) (dss_one (ds_ret de_bl)) dss_nil)
    (dss_one (ds_if (dt_cmp (ro_ne hr) (de_call h__law_which (hr.mono (by decide)) tk rfl (da_cons (de_excS xv_WalkError rfl rfl (de_var 3)) da_nil) (len_cons len_nil)) (DF.dat (df_rep (df_lst (da_cons de_bl da_nil)) de_int)) (nomark _)) (dss_one (ds_ret de_bl)) dss_nil)))))))))))
    (dss_one (ds_ret de_bl)))
abbrev si_Failed : Stmt := inClass (topS 17) 0
theorem sci_Failed : FnScope ["self", "place"] ["self", "place"] (defScope si_Failed) := ⟨rfl, rfl, rfl, by decide +kernel, rfl, by decide +kernel, by decide +kernel⟩
theorem init_Failed {A0 : Addr} (T : BaseC K A0) (hm : mg "WalkError" = some (.ref A0)) (fI : Addr) (cdv : Value) (A : Around) (outer : List Env) (s : Shared) (H : Hp) (E : XK) : PSs (cxOf CX0 P w K mg base ["self", "place"] "Failed.__init__" (defScope si_Failed) fI cdv A outer s H E).nox (defBody si_Failed) (tSeq (tDrop (tVeI K (tCons (tVar 0) (tCons (tC (.str "an error came from one of several functions")) tNil)))) (tOst K "place" (tVar 0) (tVar 1))) := pss_cons (ps_expr (pe_baseinit T rfl hm (pa_cons (pv 0) (pa_cons pe_str pa_nil)))) (pss_one (ps_ost (pv 0) (pv 1)))
abbrev si_InvalidText : Stmt := inClass (topS 16) 0
theorem sci_InvalidText : FnScope ["self", "line"] ["self", "line"] (defScope si_InvalidText) := ⟨rfl, rfl, rfl, by decide +kernel, rfl, by decide +kernel, by decide +kernel⟩
theorem init_InvalidText {A0 : Addr} (T : BaseC K A0) (hm : mg "WalkError" = some (.ref A0)) (fI : Addr) (cdv : Value) (A : Around) (outer : List Env) (s : Shared) (H : Hp) (E : XK) : PSs (cxOf CX0 P w K mg base ["self", "line"] "InvalidText.__init__" (defScope si_InvalidText) fI cdv A outer s H E).nox (defBody si_InvalidText) (tSeq (tDrop (tVeI K (tCons (tVar 0) (tCons (tC (.str "no text of a book")) tNil)))) (tOst K "line" (tVar 0) (tVar 1))) := pss_cons (ps_expr (pe_baseinit T rfl hm (pa_cons (pv 0) (pa_cons pe_str pa_nil)))) (pss_one (ps_ost (pv 0) (pv 1)))
abbrev si_TooMany : Stmt := inClass (topS 15) 0
theorem sci_TooMany : FnScope ["self", "limit"] ["self", "limit"] (defScope si_TooMany) := ⟨rfl, rfl, rfl, by decide +kernel, rfl, by decide +kernel, by decide +kernel⟩
theorem init_TooMany {A0 : Addr} (T : BaseC K A0) (hm : mg "WalkError" = some (.ref A0)) (fI : Addr) (cdv : Value) (A : Around) (outer : List Env) (s : Shared) (H : Hp) (E : XK) : PSs (cxOf CX0 P w K mg base ["self", "limit"] "TooMany.__init__" (defScope si_TooMany) fI cdv A outer s H E).nox (defBody si_TooMany) (tSeq (tDrop (tVeI K (tCons (tVar 0) (tCons (tC (.str "there would be too many readings")) tNil)))) (tOst K "limit" (tVar 0) (tVar 1))) := pss_cons (ps_expr (pe_baseinit T rfl hm (pa_cons (pv 0) (pa_cons pe_str pa_nil)))) (pss_one (ps_ost (pv 0) (pv 1)))
def fnL : List He.FnD := [⟨("_law_flask", none), "_law_flask", "_law_flask", defArgs s__law_flask, defBody s__law_flask, defScope s__law_flask⟩, ⟨("_law_sip", none), "_law_sip", "_law_sip", defArgs s__law_sip, defBody s__law_sip, defScope s__law_sip⟩, ⟨("_law_pick", none), "_law_pick", "_law_pick", defArgs s__law_pick, defBody s__law_pick, defScope s__law_pick⟩, ⟨("_law_which", none), "_law_which", "_law_which", defArgs s__law_which, defBody s__law_which, defScope s__law_which⟩, ⟨("law", none), "law", "law", defArgs s_law, defBody s_law, defScope s_law⟩, ⟨("Failed", some "__init__"), "__init__", "Failed.__init__", defArgs si_Failed, defBody si_Failed, defScope si_Failed⟩, ⟨("InvalidText", some "__init__"), "__init__", "InvalidText.__init__", defArgs si_InvalidText, defBody si_InvalidText, defScope si_InvalidText⟩, ⟨("TooMany", some "__init__"), "__init__", "TooMany.__init__", defArgs si_TooMany, defBody si_TooMany, defScope si_TooMany⟩]
def faL : List He.Fa := [.glo "_law_flask", .glo "_law_sip", .glo "_law_pick", .glo "_law_which", .glo "law", .keep "_law_flask", .keep "_law_sip", .keep "_law_pick", .keep "_law_which", .keep "law", .glo "Impossible", .exc "Impossible", .glo "InvalidBook", .exc "InvalidBook", .glo "InvalidChain", .exc "InvalidChain", .glo "InvalidClaim", .exc "InvalidClaim", .glo "InvalidIndex", .exc "InvalidIndex", .glo "InvalidMenu", .exc "InvalidMenu", .glo "InvalidNumber", .exc "InvalidNumber", .glo "InvalidReading", .exc "InvalidReading", .glo "InvalidRule", .exc "InvalidRule", .glo "InvalidStretch", .exc "InvalidStretch", .glo "InvalidWalk", .exc "InvalidWalk", .glo "NothingToUndo", .exc "NothingToUndo", .glo "Unlike", .exc "Unlike", .glo "WalkError", .exc "WalkError", .glo "Failed", .meth "Failed" "__init__", .glo "WalkError", .glo "InvalidText", .meth "InvalidText" "__init__", .glo "WalkError", .glo "TooMany", .meth "TooMany" "__init__", .glo "WalkError"]
def btL : List He.Fa := [.free "len", .free "int", .free "str", .free "bool", .free "tuple", .free "list", .free "dict", .free "set", .free "isinstance", .free "range", .free "zip", .free "enumerate", .free "all", .free "any", .free "sum", .free "max", .free "min", .free "sorted"]
theorem law_ok {h : Heap} {fa : Addr} (X : K.In h) (G : h.Ns mainGlobals mg) (c : He.SaysE faL fnL K) (bt : btL.all (fun f => f.ok K) = true) (eb_Failed : errB K (He.ga K "Failed") (He.ma K (He.ga K "Failed") "__init__") "place" = true) (bb_Failed : baseB K (He.ga K "WalkError") = true) (eb_InvalidText : errB K (He.ga K "InvalidText") (He.ma K (He.ga K "InvalidText") "__init__") "line" = true) (bb_InvalidText : baseB K (He.ga K "WalkError") = true) (eb_TooMany : errB K (He.ga K "TooMany") (He.ma K (He.ga K "TooMany") "__init__") "limit" = true) (bb_TooMany : baseB K (He.ga K "WalkError") = true) (q_gv_Failed : (He.Fa.glo "Failed").ok K = true) (q_gv_Impossible : (He.Fa.glo "Impossible").ok K = true) (q_gv_InvalidBook : (He.Fa.glo "InvalidBook").ok K = true) (q_gv_InvalidChain : (He.Fa.glo "InvalidChain").ok K = true) (q_gv_InvalidClaim : (He.Fa.glo "InvalidClaim").ok K = true) (q_gv_InvalidIndex : (He.Fa.glo "InvalidIndex").ok K = true) (q_gv_InvalidMenu : (He.Fa.glo "InvalidMenu").ok K = true) (q_gv_InvalidNumber : (He.Fa.glo "InvalidNumber").ok K = true) (q_gv_InvalidReading : (He.Fa.glo "InvalidReading").ok K = true) (q_gv_InvalidRule : (He.Fa.glo "InvalidRule").ok K = true) (q_gv_InvalidStretch : (He.Fa.glo "InvalidStretch").ok K = true) (q_gv_InvalidText : (He.Fa.glo "InvalidText").ok K = true) (q_gv_InvalidWalk : (He.Fa.glo "InvalidWalk").ok K = true) (q_gv_NothingToUndo : (He.Fa.glo "NothingToUndo").ok K = true) (q_gv_TooMany : (He.Fa.glo "TooMany").ok K = true) (q_gv_Unlike : (He.Fa.glo "Unlike").ok K = true) (q_gv_WalkError : (He.Fa.glo "WalkError").ok K = true) (q_it_Failed : isTB K (.ref (He.ga K "Failed")) tab_Failed = true) (q_it_Impossible : isTB K (.ref (He.ga K "Impossible")) tab_Impossible = true) (q_it_InvalidBook : isTB K (.ref (He.ga K "InvalidBook")) tab_InvalidBook = true) (q_it_InvalidChain : isTB K (.ref (He.ga K "InvalidChain")) tab_InvalidChain = true) (q_it_InvalidClaim : isTB K (.ref (He.ga K "InvalidClaim")) tab_InvalidClaim = true) (q_it_InvalidIndex : isTB K (.ref (He.ga K "InvalidIndex")) tab_InvalidIndex = true) (q_it_InvalidMenu : isTB K (.ref (He.ga K "InvalidMenu")) tab_InvalidMenu = true) (q_it_InvalidNumber : isTB K (.ref (He.ga K "InvalidNumber")) tab_InvalidNumber = true) (q_it_InvalidReading : isTB K (.ref (He.ga K "InvalidReading")) tab_InvalidReading = true) (q_it_InvalidRule : isTB K (.ref (He.ga K "InvalidRule")) tab_InvalidRule = true) (q_it_InvalidStretch : isTB K (.ref (He.ga K "InvalidStretch")) tab_InvalidStretch = true) (q_it_InvalidText : isTB K (.ref (He.ga K "InvalidText")) tab_InvalidText = true) (q_it_InvalidWalk : isTB K (.ref (He.ga K "InvalidWalk")) tab_InvalidWalk = true) (q_it_NothingToUndo : isTB K (.ref (He.ga K "NothingToUndo")) tab_NothingToUndo = true) (q_it_TooMany : isTB K (.ref (He.ga K "TooMany")) tab_TooMany = true) (q_it_Unlike : isTB K (.ref (He.ga K "Unlike")) tab_Unlike = true) (q_it_WalkError : isTB K (.ref (He.ga K "WalkError")) tab_WalkError = true) (q_it_ValueError : isTB K (.type "ValueError") tabB_ValueError = true) (q_nv_ValueError : (He.Fa.free "ValueError").ok K = true) (q_sk_ : (strL.all fun x => excKB K (He.ga K x)) = true) (hfa : mg "law" = some (.ref fa)) :
    ∃ fd : FuncData, (∀ (s : Shared) (u : Value), BindsTo s fd ⟨[u], []⟩ [("_law_script", u)]) ∧ ∀ base : Heap, (∀ y ∈ (tabCs K).map (·.1), TabD K base mg y) → FnOk P w K mg base (L2.CX P w) 3 fa fd ["_law_script"] (spD K (cOf mg) 1 F_law) := by
  have B := bt_mk X G bt
  have gv_Failed : mg "Failed" = some (.ref (He.ga K "Failed")) := He.glo_ok X G q_gv_Failed
  have gv_Impossible : mg "Impossible" = some (.ref (He.ga K "Impossible")) := He.glo_ok X G q_gv_Impossible
  have gv_InvalidBook : mg "InvalidBook" = some (.ref (He.ga K "InvalidBook")) := He.glo_ok X G q_gv_InvalidBook
  have gv_InvalidChain : mg "InvalidChain" = some (.ref (He.ga K "InvalidChain")) := He.glo_ok X G q_gv_InvalidChain
  have gv_InvalidClaim : mg "InvalidClaim" = some (.ref (He.ga K "InvalidClaim")) := He.glo_ok X G q_gv_InvalidClaim
  have gv_InvalidIndex : mg "InvalidIndex" = some (.ref (He.ga K "InvalidIndex")) := He.glo_ok X G q_gv_InvalidIndex
  have gv_InvalidMenu : mg "InvalidMenu" = some (.ref (He.ga K "InvalidMenu")) := He.glo_ok X G q_gv_InvalidMenu
  have gv_InvalidNumber : mg "InvalidNumber" = some (.ref (He.ga K "InvalidNumber")) := He.glo_ok X G q_gv_InvalidNumber
  have gv_InvalidReading : mg "InvalidReading" = some (.ref (He.ga K "InvalidReading")) := He.glo_ok X G q_gv_InvalidReading
  have gv_InvalidRule : mg "InvalidRule" = some (.ref (He.ga K "InvalidRule")) := He.glo_ok X G q_gv_InvalidRule
  have gv_InvalidStretch : mg "InvalidStretch" = some (.ref (He.ga K "InvalidStretch")) := He.glo_ok X G q_gv_InvalidStretch
  have gv_InvalidText : mg "InvalidText" = some (.ref (He.ga K "InvalidText")) := He.glo_ok X G q_gv_InvalidText
  have gv_InvalidWalk : mg "InvalidWalk" = some (.ref (He.ga K "InvalidWalk")) := He.glo_ok X G q_gv_InvalidWalk
  have gv_NothingToUndo : mg "NothingToUndo" = some (.ref (He.ga K "NothingToUndo")) := He.glo_ok X G q_gv_NothingToUndo
  have gv_TooMany : mg "TooMany" = some (.ref (He.ga K "TooMany")) := He.glo_ok X G q_gv_TooMany
  have gv_Unlike : mg "Unlike" = some (.ref (He.ga K "Unlike")) := He.glo_ok X G q_gv_Unlike
  have gv_WalkError : mg "WalkError" = some (.ref (He.ga K "WalkError")) := He.glo_ok X G q_gv_WalkError
  have it_Failed : IsT K (.ref (He.ga K "Failed")) tab_Failed := isT_mk (fun _ h => h) q_it_Failed
  have it_Impossible : IsT K (.ref (He.ga K "Impossible")) tab_Impossible := isT_mk (fun _ h => h) q_it_Impossible
  have it_InvalidBook : IsT K (.ref (He.ga K "InvalidBook")) tab_InvalidBook := isT_mk (fun _ h => h) q_it_InvalidBook
  have it_InvalidChain : IsT K (.ref (He.ga K "InvalidChain")) tab_InvalidChain := isT_mk (fun _ h => h) q_it_InvalidChain
  have it_InvalidClaim : IsT K (.ref (He.ga K "InvalidClaim")) tab_InvalidClaim := isT_mk (fun _ h => h) q_it_InvalidClaim
  have it_InvalidIndex : IsT K (.ref (He.ga K "InvalidIndex")) tab_InvalidIndex := isT_mk (fun _ h => h) q_it_InvalidIndex
  have it_InvalidMenu : IsT K (.ref (He.ga K "InvalidMenu")) tab_InvalidMenu := isT_mk (fun _ h => h) q_it_InvalidMenu
  have it_InvalidNumber : IsT K (.ref (He.ga K "InvalidNumber")) tab_InvalidNumber := isT_mk (fun _ h => h) q_it_InvalidNumber
  have it_InvalidReading : IsT K (.ref (He.ga K "InvalidReading")) tab_InvalidReading := isT_mk (fun _ h => h) q_it_InvalidReading
  have it_InvalidRule : IsT K (.ref (He.ga K "InvalidRule")) tab_InvalidRule := isT_mk (fun _ h => h) q_it_InvalidRule
  have it_InvalidStretch : IsT K (.ref (He.ga K "InvalidStretch")) tab_InvalidStretch := isT_mk (fun _ h => h) q_it_InvalidStretch
  have it_InvalidText : IsT K (.ref (He.ga K "InvalidText")) tab_InvalidText := isT_mk (fun _ h => h) q_it_InvalidText
  have it_InvalidWalk : IsT K (.ref (He.ga K "InvalidWalk")) tab_InvalidWalk := isT_mk (fun _ h => h) q_it_InvalidWalk
  have it_NothingToUndo : IsT K (.ref (He.ga K "NothingToUndo")) tab_NothingToUndo := isT_mk (fun _ h => h) q_it_NothingToUndo
  have it_TooMany : IsT K (.ref (He.ga K "TooMany")) tab_TooMany := isT_mk (fun _ h => h) q_it_TooMany
  have it_Unlike : IsT K (.ref (He.ga K "Unlike")) tab_Unlike := isT_mk (fun _ h => h) q_it_Unlike
  have it_WalkError : IsT K (.ref (He.ga K "WalkError")) tab_WalkError := isT_mk (fun _ h => h) q_it_WalkError
  have it_ValueError : IsT K (.ty "ValueError") tabB_ValueError := isT_mk (fun _ h => h) q_it_ValueError
  have nv_ValueError : mg "ValueError" = none := He.free_ok X G q_nv_ValueError
  have sk_ : ∀ x ∈ strL, ExcK K (He.ga K x) := fun x hx => excKB_ok (List.all_eq_true.mp q_sk_ x hx)
  have xv_Impossible : ExcT K mg (cOf mg) "Impossible" (He.ga K "Impossible") := excT_mk X G c 10 11 (x := "Impossible")
  have xv_InvalidBook : ExcT K mg (cOf mg) "InvalidBook" (He.ga K "InvalidBook") := excT_mk X G c 12 13 (x := "InvalidBook")
  have xv_InvalidChain : ExcT K mg (cOf mg) "InvalidChain" (He.ga K "InvalidChain") := excT_mk X G c 14 15 (x := "InvalidChain")
  have xv_InvalidClaim : ExcT K mg (cOf mg) "InvalidClaim" (He.ga K "InvalidClaim") := excT_mk X G c 16 17 (x := "InvalidClaim")
  have xv_InvalidIndex : ExcT K mg (cOf mg) "InvalidIndex" (He.ga K "InvalidIndex") := excT_mk X G c 18 19 (x := "InvalidIndex")
  have xv_InvalidMenu : ExcT K mg (cOf mg) "InvalidMenu" (He.ga K "InvalidMenu") := excT_mk X G c 20 21 (x := "InvalidMenu")
  have xv_InvalidNumber : ExcT K mg (cOf mg) "InvalidNumber" (He.ga K "InvalidNumber") := excT_mk X G c 22 23 (x := "InvalidNumber")
  have xv_InvalidReading : ExcT K mg (cOf mg) "InvalidReading" (He.ga K "InvalidReading") := excT_mk X G c 24 25 (x := "InvalidReading")
  have xv_InvalidRule : ExcT K mg (cOf mg) "InvalidRule" (He.ga K "InvalidRule") := excT_mk X G c 26 27 (x := "InvalidRule")
  have xv_InvalidStretch : ExcT K mg (cOf mg) "InvalidStretch" (He.ga K "InvalidStretch") := excT_mk X G c 28 29 (x := "InvalidStretch")
  have xv_InvalidWalk : ExcT K mg (cOf mg) "InvalidWalk" (He.ga K "InvalidWalk") := excT_mk X G c 30 31 (x := "InvalidWalk")
  have xv_NothingToUndo : ExcT K mg (cOf mg) "NothingToUndo" (He.ga K "NothingToUndo") := excT_mk X G c 32 33 (x := "NothingToUndo")
  have xv_Unlike : ExcT K mg (cOf mg) "Unlike" (He.ga K "Unlike") := excT_mk X G c 34 35 (x := "Unlike")
  have xv_WalkError : ExcT K mg (cOf mg) "WalkError" (He.ga K "WalkError") := excT_mk X G c 36 37 (x := "WalkError")
  obtain ⟨a__law_flask, e__law_flask, i__law_flask, m__law_flask, b__law_flask, bb__law_flask⟩ := (funT_mk (st := s__law_flask) (ps := ["_law_cell", "_law_salt"]) X G c 0 0 5 (x := "_law_flask") (hb := fun _ _ _ _ _ _ us hl => match us, hl with | [_, _], _ => rfl)).ex
  obtain ⟨a__law_sip, e__law_sip, i__law_sip, m__law_sip, b__law_sip, bb__law_sip⟩ := (funT_mk (st := s__law_sip) (ps := ["_law_flask_here", "_law_many"]) X G c 1 1 6 (x := "_law_sip") (hb := fun _ _ _ _ _ _ us hl => match us, hl with | [_, _], _ => rfl)).ex
  obtain ⟨a__law_pick, e__law_pick, i__law_pick, m__law_pick, b__law_pick, bb__law_pick⟩ := (funT_mk (st := s__law_pick) (ps := ["_law_flask_here", "_law_things"]) X G c 2 2 7 (x := "_law_pick") (hb := fun _ _ _ _ _ _ us hl => match us, hl with | [_, _], _ => rfl)).ex
  obtain ⟨a__law_which, e__law_which, i__law_which, m__law_which, b__law_which, bb__law_which⟩ := (funT_mk (st := s__law_which) (ps := ["_law_error"]) X G c 3 3 8 (x := "_law_which") (hb := fun _ _ _ _ _ _ us hl => match us, hl with | [_], _ => rfl)).ex
  obtain ⟨a_law, e_law, i_law, m_law, b_law, bb_law⟩ := (funT_mk (st := s_law) (ps := ["_law_script"]) X G c 4 4 9 (x := "law") (hb := fun _ _ _ _ _ _ us hl => match us, hl with | [_], _ => rfl)).ex
  cases hfa.symm.trans m_law
  refine ⟨_, fun s u => bb_law s [u] rfl, fun base tbs => ?_⟩
  have er_Failed : ErrT P w K mg base (cOf mg) "Failed" "place" := errT_mk (st := si_Failed) X G c 5 38 39 (x := "Failed") (f := "place") (qual := "Failed.__init__") (m := "an error came from one of several functions") (he := eb_Failed) (S := sci_Failed) (hb := fun _ _ _ _ _ _ us hl => match us, hl with | [_, _], _ => rfl) (hbody := init_Failed (baseB_ok bb_Failed) (He.glo_ok X G (c.fact 40 (by rfl))))
  have er_InvalidText : ErrT P w K mg base (cOf mg) "InvalidText" "line" := errT_mk (st := si_InvalidText) X G c 6 41 42 (x := "InvalidText") (f := "line") (qual := "InvalidText.__init__") (m := "no text of a book") (he := eb_InvalidText) (S := sci_InvalidText) (hb := fun _ _ _ _ _ _ us hl => match us, hl with | [_, _], _ => rfl) (hbody := init_InvalidText (baseB_ok bb_InvalidText) (He.glo_ok X G (c.fact 43 (by rfl))))
  have er_TooMany : ErrT P w K mg base (cOf mg) "TooMany" "limit" := errT_mk (st := si_TooMany) X G c 7 44 45 (x := "TooMany") (f := "limit") (qual := "TooMany.__init__") (m := "there would be too many readings") (he := eb_TooMany) (S := sci_TooMany) (hb := fun _ _ _ _ _ _ us hl => match us, hl with | [_, _], _ => rfl) (hbody := init_TooMany (baseB_ok bb_TooMany) (He.glo_ok X G (c.fact 46 (by rfl))))
  have h__law_flask : FnD P w K mg base (cOf mg) 1 "_law_flask" 2 F__law_flask := ok__law_flask B i__law_flask m__law_flask b__law_flask
  have h__law_sip : FnD P w K mg base (cOf mg) 1 "_law_sip" 2 F__law_sip := ok__law_sip B i__law_sip m__law_sip b__law_sip
  have h__law_pick : FnD P w K mg base (cOf mg) 2 "_law_pick" 2 F__law_pick := ok__law_pick B i__law_pick m__law_pick b__law_pick h__law_sip
  have h__law_which : FnD P w K mg base (cOf mg) 1 "_law_which" 1 F__law_which := ok__law_which B i__law_which m__law_which b__law_which gv_Failed gv_Impossible gv_InvalidBook gv_InvalidChain gv_InvalidClaim gv_InvalidIndex gv_InvalidMenu gv_InvalidNumber gv_InvalidReading gv_InvalidRule gv_InvalidStretch gv_InvalidText gv_InvalidWalk gv_NothingToUndo gv_TooMany gv_Unlike it_Failed it_Impossible it_InvalidBook it_InvalidChain it_InvalidClaim it_InvalidIndex it_InvalidMenu it_InvalidNumber it_InvalidReading it_InvalidRule it_InvalidStretch it_InvalidText it_InvalidWalk it_NothingToUndo it_TooMany it_Unlike
  exact ok_law B i_law er_Failed er_InvalidText er_TooMany gv_Failed gv_InvalidText gv_TooMany gv_WalkError it_WalkError it_ValueError nv_ValueError sk_ xv_Impossible xv_InvalidBook xv_InvalidChain xv_InvalidClaim xv_InvalidIndex xv_InvalidMenu xv_InvalidNumber xv_InvalidReading xv_InvalidRule xv_InvalidStretch xv_InvalidWalk xv_NothingToUndo xv_Unlike xv_WalkError h__law_flask h__law_pick h__law_sip h__law_which
end
end K19
set_option Elab.async false
set_option linter.all false
set_option maxRecDepth 100000
set_option maxHeartbeats 4000000
/-! What is computed, no program in sight: the words by which the functions of Dk are reasoned about. -/
namespace Dk
open PySem PySem.Spec L2
def Ok {α : Type} (r : Rs α) (Q : α → Sto → Prop) (X : Exn → Sto → Prop) : Prop := match r with
  | some (.inl a, S) => Q a S
  | some (.inr e, S) => X e S
  | none => False
def OkS (r : Option (Fl × Env1 × Sto)) (Q : Fl → Env1 → Sto → Prop) : Prop := match r with
  | some (fl, ρ, S) => Q fl ρ S
  | none => False
def no : Exn → Sto → Prop := fun _ _ => False
theorem Ok.imp {α : Type} {r : Rs α} {Q Q' : α → Sto → Prop} {X X' : Exn → Sto → Prop} (h : Ok r Q X) (a : ∀ v S, Q v S → Q' v S) (b : ∀ e S, X e S → X' e S) : Ok r Q' X' := by
  unfold Ok at h ⊢
  split at h
  · exact a _ _ h
  · exact b _ _ h
  · exact h.elim
theorem OkS.imp {r : Option (Fl × Env1 × Sto)} {Q Q' : Fl → Env1 → Sto → Prop} (h : OkS r Q) (a : ∀ fl ρ S, Q fl ρ S → Q' fl ρ S) : OkS r Q' := by
  unfold OkS at h ⊢
  split at h
  · exact a _ _ _ h
  · exact h.elim
theorem Ok.eq {α : Type} {r : Rs α} {a : α} {S : Sto} (h : Ok r (fun b S' => b = a ∧ S' = S) no) : r = some (.inl a, S) := by
  unfold Ok at h
  split at h
  · obtain ⟨rfl, rfl⟩ := h
    rfl
  · exact h.elim
  · exact h.elim
section
variable {α β : Type} {Q : β → Sto → Prop} {Qa : α → Sto → Prop} {X : Exn → Sto → Prop} {S : Sto} {ρ : Env1} {a : α} {QO : OV → Sto → Prop} {QL : List OV → Sto → Prop} {QF : List D → Sto → Prop} {QB : Bool → Sto → Prop} {QS : Fl → Env1 → Sto → Prop}
  {f g h : E1} {t u : EB} {fs : EL} {lo hi : EO} {ff : EF}
@[simp] theorem ok_ret : Ok (ret a S) Qa X = Qa a S := rfl
@[simp] theorem ok_some : Ok (some (.inl a, S)) Qa X = Qa a S := rfl
@[simp] theorem ok_err {e : Exn} : Ok (some (.inr e, S)) Qa X = X e S := rfl
@[simp] theorem ok_none : Ok (none : Rs α) Qa X = False := rfl
@[simp] theorem ok_bind {r : Rs α} {k : α → Sto → Rs β} : Ok (r.bind k) Q X = Ok r (fun a S' => Ok (k a S') Q X) X := by
  cases r with
  | none => rfl
  | some z =>
    obtain ⟨z, S1⟩ := z
    cases z <;> rfl
@[simp] theorem ok_obind {γ : Type} {o : Option γ} {k : γ → Rs β} : Ok (o.bind k) Q X = ∃ c, o = some c ∧ Ok (k c) Q X := by
  cases o with
  | none => simp [Ok]
  | some c => simp
@[simp] theorem ok_if {c : Prop} [Decidable c] {r r' : Rs α} : Ok (if c then r else r') Qa X = if c then Ok r Qa X else Ok r' Qa X := by
  split <;> rfl
@[simp] theorem oks_some {fl : Fl} : OkS (some (fl, ρ, S)) QS = QS fl ρ S := rfl
@[simp] theorem oks_none : OkS none QS = False := rfl
@[simp] theorem oks_if {c : Prop} [Decidable c] {r r' : Option (Fl × Env1 × Sto)} : OkS (if c then r else r') QS = if c then OkS r QS else OkS r' QS := by
  split <;> rfl
@[simp] theorem oks_obind {γ : Type} {o : Option γ} {k : γ → Option (Fl × Env1 × Sto)} : OkS (o.bind k) QS = ∃ c, o = some c ∧ OkS (k c) QS := by
  cases o with
  | none => simp [OkS]
  | some c => simp
/-! expressions -/
@[simp] theorem ok_fVar {i : Nat} : Ok (fVar i ρ S) QO X = ∃ o, ρ[i]?.join = some o ∧ QO o S := by
  unfold fVar
  rw [ok_obind]
  rfl
@[simp] theorem ok_fC {d : D} : Ok (fC d ρ S) QO X = QO (.dat d) S := rfl
@[simp] theorem ok_op2 {o : Sto → OV → OV → Option D} : Ok (op2 o f g ρ S) QO X = Ok (f ρ S) (fun a S1 => Ok (g ρ S1) (fun b S2 => ∃ d, o S2 a b = some d ∧ QO (.dat d) S2) X) X := by
  unfold op2
  simp
@[simp] theorem ok_op1 {o : Sto → OV → Option D} : Ok (op1 o f ρ S) QO X = Ok (f ρ S) (fun a S1 => ∃ d, o S1 a = some d ∧ QO (.dat d) S1) X := by
  unfold op1
  simp
@[simp] theorem ok_opL {o : Sto → List OV → Option D} : Ok (opL o fs ρ S) QO X = Ok (fs ρ S) (fun a S1 => ∃ d, o S1 a = some d ∧ QO (.dat d) S1) X := by
  unfold opL
  simp
@[simp] theorem ok_opF {o : Sto → List OV → Option (List D)} : Ok (opF o fs ρ S) QF X = Ok (fs ρ S) (fun a S1 => ∃ d, o S1 a = some d ∧ QF d S1) X := by
  unfold opF
  simp
@[simp] theorem ok_frz : Ok (frz ff ρ S) QO X = Ok (ff ρ S) (fun ds S1 => QO (.dat (.list ds)) S1) X := by
  unfold frz
  simp
@[simp] theorem ok_ownL : Ok (ownL ff ρ S) QO X = Ok (ff ρ S) (fun ds S1 => QO (.own S1.length) (S1 ++ [.list ds])) X := by
  unfold ownL
  simp
@[simp] theorem ok_aNil : Ok (aNil ρ S) QL X = QL [] S := rfl
@[simp] theorem ok_aCons : Ok (aCons f fs ρ S) QL X = Ok (f ρ S) (fun a S1 => Ok (fs ρ S1) (fun as S2 => QL (a :: as) S2) X) X := by
  unfold aCons
  simp
@[simp] theorem ok_fCall {F : List OV → Sto → Rs OV} : Ok (fCall F fs ρ S) QO X = Ok (fs ρ S) (fun os S1 => Ok (F os S1) QO X) X := by
  unfold fCall
  simp
@[simp] theorem ok_bOf : Ok (bOf f ρ S) QB X = Ok (f ρ S) (fun a S1 => ∃ k, a = .dat (.bool k) ∧ QB k S1) X := by
  unfold bOf
  rw [ok_bind]
  congr 1
  funext a S1
  cases a with
  | own n => simp
  | dat d => cases d <;> simp
@[simp] theorem ok_bAnd : Ok (bAnd t u ρ S) QB X = Ok (t ρ S) (fun k S1 => if k = true then Ok (u ρ S1) QB X else QB false S1) X := by
  unfold bAnd
  simp
@[simp] theorem ok_bOr : Ok (bOr t u ρ S) QB X = Ok (t ρ S) (fun k S1 => if k = true then QB true S1 else Ok (u ρ S1) QB X) X := by
  unfold bOr
  simp
@[simp] theorem ok_bNot : Ok (bNot t ρ S) QB X = Ok (t ρ S) (fun k S1 => QB (!k) S1) X := by
  unfold bNot
  simp
@[simp] theorem ok_bYes : Ok (bYes ρ S) QB X = QB true S := rfl
@[simp] theorem ok_vAnd : Ok (vAnd f g ρ S) QO X = Ok (bOf f ρ S) (fun k S1 => if k = true then Ok (g ρ S1) QO X else QO (.dat (.bool false)) S1) X := by
  unfold vAnd
  rw [ok_bind]
  simp only [ok_if, ok_ret]
@[simp] theorem ok_vOr : Ok (vOr f g ρ S) QO X = Ok (bOf f ρ S) (fun k S1 => if k = true then QO (.dat (.bool true)) S1 else Ok (g ρ S1) QO X) X := by
  unfold vOr
  rw [ok_bind]
  simp only [ok_if, ok_ret]
@[simp] theorem ok_vNot : Ok (vNot f ρ S) QO X = Ok (bOf f ρ S) (fun k S1 => QO (.dat (.bool (!k))) S1) X := by
  unfold vNot
  rw [ok_bind]
  simp only [ok_ret]
@[simp] theorem ok_vIf : Ok (vIf t f g ρ S) QO X = Ok (t ρ S) (fun k S1 => if k = true then Ok (f ρ S1) QO X else Ok (g ρ S1) QO X) X := by
  unfold vIf
  simp
@[simp] theorem ok_chn {o o' : Sto → OV → OV → Option D} : Ok (chn o o' f g h ρ S) QO X = Ok (f ρ S) (fun a S1 => Ok (g ρ S1) (fun b S2 => ∃ k, o S2 a b = some (.bool k) ∧
    if k = true then Ok (h ρ S2) (fun c S3 => ∃ d, o' S3 b c = some d ∧ QO (.dat d) S3) X else QO (.dat (.bool false)) S2) X) X := by
  unfold chn
  rw [ok_bind]
  congr 1
  funext a S1
  rw [ok_bind]
  congr 1
  funext b S2
  rw [ok_obind]
  apply propext
  constructor
  · rintro ⟨c, e, h⟩
    cases c with
    | bool k => exact ⟨k, e, by cases k <;> simpa using h⟩
    | _ => simp at h
  · rintro ⟨k, e, h⟩
    exact ⟨_, e, by cases k <;> simpa using h⟩
@[simp] theorem ok_fTup : Ok (fTup fs ρ S) QO X = Ok (fs ρ S) (fun as S1 => ∃ ds, dats as = some ds ∧ ds.length ≤ sizeLine ∧ QO (.dat (.tuple ds)) S1) X := by
  unfold fTup
  rw [ok_bind]
  congr 1
  funext as S1
  rw [ok_obind]
  apply propext
  constructor
  · rintro ⟨c, e, h⟩
    exact ⟨c, e, by split at h <;> simp_all⟩
  · rintro ⟨c, e, h1, h2⟩
    exact ⟨c, e, by rw [if_pos h1]; exact h2⟩
@[simp] theorem ok_fLst : Ok (fLst fs ρ S) QF X = Ok (fs ρ S) (fun as S1 => ∃ ds, dats as = some ds ∧ ds.length ≤ sizeLine ∧ QF ds S1) X := by
  unfold fLst
  rw [ok_bind]
  congr 1
  funext as S1
  rw [ok_obind]
  apply propext
  constructor
  · rintro ⟨c, e, h⟩
    exact ⟨c, e, by split at h <;> simp_all⟩
  · rintro ⟨c, e, h1, h2⟩
    exact ⟨c, e, by rw [if_pos h1]; exact h2⟩
@[simp] theorem isOp_none : isOpD .none = false := rfl
@[simp] theorem isOp_bool {b : Bool} : isOpD (.bool b) = false := rfl
@[simp] theorem isOp_int {i : Int} : isOpD (.int i) = false := rfl
@[simp] theorem isOp_str {x : Str} : isOpD (.str x) = false := rfl
@[simp] theorem isOp_list {l : List D} : isOpD (.list l) = false := rfl
@[simp] theorem isOp_tuple {l : List D} : isOpD (.tuple l) = false := rfl
@[simp] theorem viewI_none : viewI S (.dat .none) = some .none := rfl
@[simp] theorem viewI_bool {b : Bool} : viewI S (.dat (.bool b)) = some (.bool b) := rfl
@[simp] theorem viewI_int {i : Int} : viewI S (.dat (.int i)) = some (.int i) := rfl
@[simp] theorem viewI_str {x : Str} : viewI S (.dat (.str x)) = some (.str x) := rfl
@[simp] theorem viewI_list {l : List D} : viewI S (.dat (.list l)) = some (.list l) := rfl
@[simp] theorem viewI_tuple {l : List D} : viewI S (.dat (.tuple l)) = some (.tuple l) := rfl
theorem viewI_dat {d : D} (h : isOpD d = false) : viewI S (.dat d) = some d := by
  unfold viewI
  simp only [h]
  rfl
theorem viewI_own {n : Nat} {ds : List D} (h : S[n]? = some (.list ds)) : viewI S (.own n) = some (.list ds) := by
  show (match S[n]? with
    | some (.dict kvs) => if isLk kvs = true then none else some (.dict kvs)
    | r => r) = some (PyData.list ds)
  rw [h]
@[simp] theorem ok_isiF {T : String} : Ok (isiF T f ρ S) QO X = Ok (f ρ S) (fun a S1 => ∃ d, viewI S1 a = some d ∧ QO (.dat (.bool (isTy (tyName d) T))) S1) X := by
  unfold isiF
  simp
@[simp] theorem ok_oNone {QI : Option Int → Sto → Prop} : Ok (oNone ρ S) QI X = QI none S := rfl
@[simp] theorem ok_oSome {QI : Option Int → Sto → Prop} : Ok (oSome f ρ S) QI X = Ok (f ρ S) (fun a S1 => ∃ i, a = .dat (.int i) ∧ QI (some i) S1) X := by
  unfold oSome
  rw [ok_bind]
  congr 1
  funext a S1
  cases a with
  | own n => simp
  | dat d => cases d <;> simp
@[simp] theorem ok_fSl : Ok (fSl f lo hi ρ S) QO X = Ok (f ρ S) (fun a S1 => Ok (lo ρ S1) (fun l S2 => Ok (hi ρ S2) (fun h S3 => ∃ d, slS S3 a l h = some d ∧ QO (.dat d) S3) X) X) X := by
  unfold fSl
  simp
@[simp] theorem ok_fSlL : Ok (fSlL f lo hi ρ S) QF X = Ok (f ρ S) (fun a S1 => Ok (lo ρ S1) (fun l S2 => Ok (hi ρ S2) (fun h S3 => ∃ d, slL S3 a l h = some d ∧ QF d S3) X) X) X := by
  unfold fSlL
  simp
@[simp] theorem ok_fJoin : Ok (fJoin f g ρ S) QO X = Ok (f ρ S) (fun a S1 => isStrO S1 a = true ∧ Ok (g ρ S1) (fun b S2 => ∃ d, joinS S2 a b = some d ∧ QO (.dat d) S2) X) X := by
  unfold fJoin
  rw [ok_bind]
  congr 1
  funext a S1
  cases isStrO S1 a <;> simp
@[simp] theorem ok_fSplit : Ok (fSplit f g ρ S) QF X = Ok (f ρ S) (fun a S1 => isStrO S1 a = true ∧ Ok (g ρ S1) (fun b S2 => ∃ d, splitS S2 a b = some d ∧ QF d S2) X) X := by
  unfold fSplit
  rw [ok_bind]
  congr 1
  funext a S1
  cases isStrO S1 a <;> simp
@[simp] theorem ok_fApp : Ok (fApp f fs ρ S) QO X = Ok (f ρ S) (fun o S1 => ∃ l, viewL S1 o = some l ∧ Ok (fs ρ S1) (fun as S2 => ∃ n d ds, o = .own n ∧ as = [.dat d] ∧ S2[n]? = some (.list ds) ∧ ds.length < sizeLine ∧ QO (.dat .none) (S2.set n (.list (ds ++ [d])))) X) X := by
  unfold fApp
  rw [ok_bind]
  congr 1
  funext o S1
  rw [ok_obind]
  congr 1
  funext l
  congr 1
  rw [ok_bind]
  congr 1
  funext as S2
  apply propext
  constructor
  · intro h
    split at h
    · split at h
      · rename_i n d ds e
        simp only [ok_if, ok_ret, ok_none] at h
        split at h
        · exact ⟨_, _, _, rfl, rfl, e, by assumption, h⟩
        · exact h.elim
      · exact h.elim
    · exact h.elim
  · rintro ⟨n, d, ds, rfl, rfl, e, h1, h2⟩
    simp [e, h1, h2]
theorem wd_str {kvs : List (Str × Int)} {o : Option D} {k : Option Int → Rs OV} : Ok (match o with
      | some (.str z) => k (kvs.lookup z)
      | _ => none) QO X = ∃ z, o = some (.str z) ∧ Ok (k (kvs.lookup z)) QO X := by
  cases o with
  | none => simp
  | some d => cases d <;> simp
@[simp] theorem ok_inWD {kvs : List (Str × Int)} : Ok (inWD kvs f ρ S) QO X = Ok (f ρ S) (fun a S1 => ∃ z, view S1 a = some (.str z) ∧ QO (.dat (.bool (kvs.lookup z).isSome)) S1) X := by
  unfold inWD
  rw [ok_bind]
  congr 1
  funext a S1
  exact wd_str (k := fun r => ret (.dat (.bool r.isSome)) S1)
@[simp] theorem ok_notInWD {kvs : List (Str × Int)} : Ok (notInWD kvs f ρ S) QO X = Ok (f ρ S) (fun a S1 => ∃ z, view S1 a = some (.str z) ∧ QO (.dat (.bool (!(kvs.lookup z).isSome))) S1) X := by
  unfold notInWD
  rw [ok_bind]
  congr 1
  funext a S1
  exact wd_str (k := fun r => ret (.dat (.bool (!r.isSome))) S1)
@[simp] theorem ok_ixWD {kvs : List (Str × Int)} : Ok (ixWD kvs f ρ S) QO X = Ok (f ρ S) (fun a S1 => ∃ z, view S1 a = some (.str z) ∧ ∃ i, kvs.lookup z = some i ∧ QO (.dat (.int i)) S1) X := by
  unfold ixWD
  rw [ok_bind]
  congr 1
  funext a S1
  refine (wd_str (k := fun r => r.bind fun i => ret (.dat (.int i)) S1)).trans ?_
  simp only [ok_obind, ok_ret]
@[simp] theorem ok_fSortSet : Ok (fSortSet f ρ S) QF X = Ok (f ρ S) (fun o S1 => ∃ ds, viewL S1 o = some ds ∧ ∃ ns, asInts ds = some ns ∧ ns.length < 64 ∧ QF ((sortU ns).map .int) S1) X := by
  unfold fSortSet
  rw [ok_bind]
  congr 1
  funext o S1
  simp only [ok_obind, ok_if, ok_ret, ok_none]
  apply propext
  constructor
  · rintro ⟨ds, h1, ns, h2, h3⟩
    split at h3
    · exact ⟨ds, h1, ns, h2, by assumption, h3⟩
    · exact h3.elim
  · rintro ⟨ds, h1, ns, h2, h3, h4⟩
    exact ⟨ds, h1, ns, h2, by rw [if_pos h3]; exact h4⟩
/-! statements -/
@[simp] theorem ok_sE {k : OV → SS} : OkS (sE f k ρ S) QS = Ok (f ρ S) (fun a S1 => OkS (k a ρ S1) QS) (fun e S1 => QS (.er e) ρ S1) := by
  unfold sE
  cases f ρ S with
  | none => rfl
  | some z =>
    obtain ⟨z, S1⟩ := z
    cases z <;> rfl
@[simp] theorem ok_sB {k : Bool → SS} : OkS (sB t k ρ S) QS = Ok (t ρ S) (fun a S1 => OkS (k a ρ S1) QS) (fun e S1 => QS (.er e) ρ S1) := by
  unfold sB
  cases t ρ S with
  | none => rfl
  | some z =>
    obtain ⟨z, S1⟩ := z
    cases z <;> rfl
@[simp] theorem ok_sNx : OkS (sNx ρ S) QS = QS .nx ρ S := rfl
/-- what is asked ahead of a statement, for behind it -/
def thenS (b : SS) (QS : Fl → Env1 → Sto → Prop) : Fl → Env1 → Sto → Prop
  | .nx, ρ, S => OkS (b ρ S) QS
  | fl, ρ, S => QS fl ρ S
@[simp] theorem thenS_nx {b : SS} : thenS b QS .nx ρ S = OkS (b ρ S) QS := rfl
@[simp] theorem thenS_rt {b : SS} {o : OV} : thenS b QS (.rt o) ρ S = QS (.rt o) ρ S := rfl
@[simp] theorem thenS_er {b : SS} {e : Exn} : thenS b QS (.er e) ρ S = QS (.er e) ρ S := rfl
@[simp] theorem thenS_bk {b : SS} : thenS b QS .bk ρ S = QS .bk ρ S := rfl
@[simp] theorem thenS_ct {b : SS} : thenS b QS .ct ρ S = QS .ct ρ S := rfl
@[simp] theorem ok_sSeq {a b : SS} : OkS (sSeq a b ρ S) QS = OkS (a ρ S) (thenS b QS) := by
  unfold sSeq
  cases a ρ S with
  | none => rfl
  | some z =>
    obtain ⟨z, ρ1, S1⟩ := z
    cases z <;> rfl
@[simp] theorem ok_sExpr : OkS (sExpr f ρ S) QS = Ok (f ρ S) (fun _ S1 => QS .nx ρ S1) (fun e S1 => QS (.er e) ρ S1) := by
  unfold sExpr
  simp
@[simp] theorem ok_sAsg {tg : Tg} : OkS (sAsg f tg ρ S) QS = Ok (f ρ S) (fun a S1 => ∃ ρ1, tg a ρ = some ρ1 ∧ QS .nx ρ1 S1) (fun e S1 => QS (.er e) ρ S1) := by
  unfold sAsg
  simp
@[simp] theorem ok_sRet : OkS (sRet f ρ S) QS = Ok (f ρ S) (fun a S1 => QS (.rt a) ρ S1) (fun e S1 => QS (.er e) ρ S1) := by
  unfold sRet
  simp
@[simp] theorem ok_sRetN : OkS (sRetN ρ S) QS = QS (.rt (.dat .none)) ρ S := rfl
@[simp] theorem ok_sIf {a b : SS} : OkS (sIf t a b ρ S) QS = Ok (t ρ S) (fun k S1 => if k = true then OkS (a ρ S1) QS else OkS (b ρ S1) QS) (fun e S1 => QS (.er e) ρ S1) := by
  unfold sIf
  simp
@[simp] theorem ok_sRaise {c : Str} : OkS (sRaise c ρ S) QS = QS (.er ⟨c, none⟩) ρ S := rfl
@[simp] theorem ok_sNone : OkS (sNone ρ S) QS = False := rfl
@[simp] theorem ok_sPar {i j : Nat} : OkS (sPar i j fs ρ S) QS = Ok (fs ρ S) (fun as S1 => ∃ a b, as = [a, b] ∧ QS .nx ((ρ.set i (some a)).set j (some b)) S1) (fun e S1 => QS (.er e) ρ S1) := by
  unfold sPar
  cases fs ρ S with
  | none => rfl
  | some z =>
    obtain ⟨z, S1⟩ := z
    cases z with
    | inr e => rfl
    | inl as =>
      match as with
      | [] => simp [Ok, OkS]
      | [a] => simp [Ok, OkS]
      | [a, b] => exact propext ⟨fun h => ⟨a, b, rfl, h⟩, fun ⟨_, _, e, h⟩ => by cases e; exact h⟩
      | a :: b :: c :: r => simp [Ok, OkS]
@[simp] theorem ok_sSetIx : OkS (sSetIx f g h ρ S) QS = Ok (h ρ S) (fun v S1 => Ok (f ρ S1) (fun o S2 => Ok (g ρ S2) (fun i S3 => ∃ d n k ds j, v = .dat d ∧ o = .own n ∧ i = .dat (.int k) ∧ S3[n]? = some (.list ds) ∧ ixN ds.length k = some j ∧
    QS .nx ρ (S3.set n (.list (ds.set j d)))) (fun e S1 => QS (.er e) ρ S1)) (fun e S1 => QS (.er e) ρ S1)) (fun e S1 => QS (.er e) ρ S1) := by
  unfold sSetIx
  simp only [ok_sE]
  congr 1
  funext v S1
  congr 1
  funext o S2
  congr 1
  funext i S3
  apply propext
  constructor
  · intro hh
    split at hh
    · split at hh
      · rename_i d n k _ ds e
        rw [oks_obind] at hh
        obtain ⟨j, h1, h2⟩ := hh
        exact ⟨_, _, _, _, _, rfl, rfl, rfl, e, h1, h2⟩
      · exact hh.elim
    · exact hh.elim
  · rintro ⟨d, n, k, ds, j, rfl, rfl, rfl, e, h1, h2⟩
    simp [e, h1, h2]
/-! targets, iterables -/
@[simp] theorem tgN_eq {i : Nat} {o : OV} : tgN i o ρ = some (ρ.set i (some o)) := rfl
@[simp] theorem tgTup_eq {n : Nat} {ts : Tgs} {ds : List D} : tgTup n ts (.dat (.tuple ds)) ρ = if ds.length = n then ts (ds.map .dat) ρ else none := rfl
@[simp] theorem tgCons_eq {tg : Tg} {ts : Tgs} {o : OV} {r : List OV} : tgCons tg ts (o :: r) ρ = (tg o ρ).bind fun ρ1 => ts r ρ1 := rfl
@[simp] theorem tgNil_eq : tgNil [] ρ = some ρ := rfl
@[simp] theorem view_dat {d : D} : view S (.dat d) = some d := rfl
@[simp] theorem view_own {n : Nat} : view S (.own n) = S[n]? := rfl
@[simp] theorem dats_nil : dats [] = some [] := rfl
@[simp] theorem dats_cons {d : D} {r : List OV} : dats (.dat d :: r) = (dats r).map (d :: ·) := by show (dats r).bind _ = _; cases dats r <;> rfl
@[simp] theorem ok_iSeq {QI : List D × Option Nat → Sto → Prop} : Ok (iSeq f ρ S) QI X = Ok (f ρ S) (fun o S1 => (∃ ds, view S1 o = some (.list ds) ∧ QI (ds, srcOf o) S1) ∨ (∃ ds, view S1 o = some (.tuple ds) ∧ QI (ds, none) S1) ∨ ∃ x, view S1 o = some (.str x) ∧ QI (x.cps.toList.map fun c => .str ⟨#[c]⟩, none) S1) X := by
  unfold iSeq
  rw [ok_bind]
  congr 1
  funext o S1
  cases e : view S1 o with
  | none => simp
  | some d => cases d <;> simp
@[simp] theorem ok_iRg1 {QI : List D × Option Nat → Sto → Prop} : Ok (iRg1 fs ρ S) QI X = Ok (fs ρ S) (fun os S1 => ∃ j, os = [.dat (.int j)] ∧ -lim62 ≤ j ∧ j < lim62 ∧ QI ((List.range j.toNat).map fun i : Nat => .int (0 + i), none) S1) X := by
  unfold iRg1
  rw [ok_bind]
  congr 1
  funext os S1
  apply propext
  constructor
  · intro hh
    split at hh
    · simp only [ok_if, ok_ret, ok_none] at hh
      split at hh
      · rename_i j c
        exact ⟨j, rfl, c.1, c.2, hh⟩
      · exact hh.elim
    · exact hh.elim
  · rintro ⟨j, rfl, h1, h2, h3⟩
    simp only [ok_if, ok_ret, ok_none]
    rw [if_pos ⟨h1, h2⟩]
    exact h3
@[simp] theorem ok_iRg2 {QI : List D × Option Nat → Sto → Prop} : Ok (iRg2 fs ρ S) QI X = Ok (fs ρ S) (fun os S1 => ∃ i j, os = [.dat (.int i), .dat (.int j)] ∧ -lim62 ≤ i ∧ i < lim62 ∧ -lim62 ≤ j ∧ j < lim62 ∧ QI ((List.range (j - i).toNat).map fun k : Nat => .int (i + k), none) S1) X := by
  unfold iRg2
  rw [ok_bind]
  congr 1
  funext os S1
  apply propext
  constructor
  · intro hh
    split at hh
    · simp only [ok_if, ok_ret, ok_none] at hh
      split at hh
      · rename_i i j c
        exact ⟨i, j, rfl, c.1, c.2.1, c.2.2.1, c.2.2.2, hh⟩
      · exact hh.elim
    · exact hh.elim
  · rintro ⟨i, j, rfl, h1, h2, h3, h4, h5⟩
    simp only [ok_if, ok_ret, ok_none]
    rw [if_pos ⟨h1, h2, h3, h4⟩]
    exact h5
@[simp] theorem ok_iZp {QI : List D × Option Nat → Sto → Prop} : Ok (iZp fs ρ S) QI X = Ok (fs ρ S) (fun os S1 => (∃ xs ys, os = [.dat (.list xs), .dat (.list ys)] ∧ QI (pairUp xs ys, none) S1) ∨ ∃ xs ys, os = [.dat (.tuple xs), .dat (.tuple ys)] ∧ QI (pairUp xs ys, none) S1) X := by
  unfold iZp
  rw [ok_bind]
  congr 1
  funext os S1
  apply propext
  constructor
  · intro hh
    split at hh
    · exact .inl ⟨_, _, rfl, hh⟩
    · exact .inr ⟨_, _, rfl, hh⟩
    · exact hh.elim
  · rintro (⟨xs, ys, rfl, hh⟩ | ⟨xs, ys, rfl, hh⟩) <;> exact hh
@[simp] theorem wipeR_nil : wipeR ρ [] = ρ := rfl
@[simp] theorem wipeR_cons {v : Nat} {vs : List Nat} : wipeR ρ (v :: vs) = (wipeR ρ vs).set v none := rfl
/-! loops -/
@[simp] theorem ok_sFor {fi : EI} {tg : Tg} {body : SS} : OkS (sFor fi tg body ρ S) QS = Ok (fi ρ S) (fun p S1 => OkS (forL p.2 p.1 tg body p.1 ρ S1) QS) (fun e S1 => QS (.er e) ρ S1) := by
  unfold sFor
  cases fi ρ S with
  | none => rfl
  | some z =>
    obtain ⟨z, S1⟩ := z
    cases z <;> rfl
theorem for_inv {src : Option Nat} {items : List D} {tg : Tg} {body : SS} (I : List D → Env1 → Sto → Prop) (step : ∀ d r ρ S, I (d :: r) ρ S → srcOk src items S ∧ ∃ ρ1, tg (.dat d) ρ = some ρ1 ∧ OkS (body ρ1 S) (fun fl ρ2 S2 => match fl with
      | .nx => I r ρ2 S2
      | .ct => I r ρ2 S2
      | .bk => QS .nx ρ2 S2
      | fl => QS fl ρ2 S2)) (fin : ∀ ρ S, I [] ρ S → srcOk src items S ∧ QS .nx ρ S) : ∀ (ds : List D) {ρ : Env1} {S : Sto}, I ds ρ S → OkS (forL src items tg body ds ρ S) QS
  | [], ρ, S, h => by
    unfold forL
    obtain ⟨a, b⟩ := fin ρ S h
    rw [if_pos a]
    exact b
  | d :: r, ρ, S, h => by
    unfold forL
    obtain ⟨a, ρ1, b, c⟩ := step d r ρ S h
    rw [if_pos a, b]
    show OkS (match body ρ1 S with
      | none => none
      | some (.nx, ρ2, S2) => forL src items tg body r ρ2 S2
      | some (.ct, ρ2, S2) => forL src items tg body r ρ2 S2
      | some (.bk, ρ2, S2) => some (.nx, ρ2, S2)
      | some (.rt o, ρ2, S2) => some (.rt o, ρ2, S2)
      | some (.er e, ρ2, S2) => some (.er e, ρ2, S2)) QS
    cases e : body ρ1 S with
    | none => rw [e] at c; exact c
    | some z =>
      obtain ⟨fl, ρ2, S2⟩ := z
      rw [e] at c
      cases fl with
      | nx => exact for_inv I step fin r c
      | ct => exact for_inv I step fin r c
      | bk => exact c
      | rt o => exact c
      | er e => exact c
@[simp] theorem srcOk_dat {items : List D} : srcOk none items S = True := by simp [srcOk]
@[simp] theorem srcOk_own {n : Nat} {items : List D} : srcOk (some n) items S = (S[n]? = some (.list items)) := by simp [srcOk]
@[simp] theorem srcOf_dat {d : D} : srcOf (.dat d) = none := rfl
@[simp] theorem srcOf_own {n : Nat} : srcOf (.own n) = some n := rfl
/-- a comprehension behind its first iterable -/
noncomputable def lcR (src : Option Nat) (items : List D) (tg : Tg) (tst : EB) (elt : E1) (σ : Env1) (S : Sto) : Rs (List D) := (lcL src items tg tst elt S.length σ items (S ++ [.list []])).bind fun S2 => popAt S.length S2
theorem lc_inv {src : Option Nat} {items : List D} {tg : Tg} {tst : EB} {elt : E1} {n0 : Nat} {σ : Env1} (I : List D → List D → Sto → Prop) (step : ∀ d r acc S, I (d :: r) acc S → S.length = n0 ∧ acc.length < sizeLine ∧ srcOk src items (S ++ [.list acc]) ∧ ∃ ρ1, tg (.dat d) σ = some ρ1 ∧
      Ok (tst ρ1 (S ++ [.list acc])) (fun k S1 => if k = true then Ok (elt ρ1 S1) (fun o S2 => ∃ e S3, o = .dat e ∧ S2 = S3 ++ [.list acc] ∧ S3.length = n0 ∧ I r (acc ++ [e]) S3) no else ∃ S3, S1 = S3 ++ [.list acc] ∧ S3.length = n0 ∧ I r acc S3) no)
    (fin : ∀ acc S, I [] acc S → S.length = n0 ∧ srcOk src items (S ++ [.list acc]) ∧ QF acc S) : ∀ (ds acc : List D) {S : Sto}, I ds acc S → Ok ((lcL src items tg tst elt n0 σ ds (S ++ [.list acc])).bind fun S2 => popAt n0 S2) QF X
  | [], acc, S, h => by
    unfold lcL
    obtain ⟨l, a, b⟩ := fin acc S h
    rw [if_pos a, ok_obind]
    refine ⟨_, rfl, ?_⟩
    unfold popAt
    subst l
    simpa using b
  | d :: r, acc, S, h => by
    unfold lcL
    obtain ⟨l, la, a, ρ1, b, c⟩ := step d r acc S h
    rw [if_pos a, b]
    show Ok (Option.bind (match tst ρ1 (S ++ [.list acc]) with
      | some (.inl true, S1) => match elt ρ1 S1 with
        | some (.inl o, S2) => (putAt n0 S2 o).bind fun S3 => lcL src items tg tst elt n0 σ r S3
        | _ => none
      | some (.inl false, S1) => lcL src items tg tst elt n0 σ r S1
      | _ => none) _) QF X
    cases e : tst ρ1 (S ++ [.list acc]) with
    | none => rw [e] at c; exact c.elim
    | some z =>
      obtain ⟨z, S1⟩ := z
      rw [e] at c
      cases z with
      | inr _ => exact c.elim
      | inl k =>
        cases k with
        | false =>
          obtain ⟨S3, e1, e2, e3⟩ := (show ∃ S3, S1 = S3 ++ [.list acc] ∧ S3.length = n0 ∧ I r acc S3 from by simpa [Ok] using c)
          subst e1
          exact lc_inv I step fin r acc e3
        | true =>
          have c2 : Ok (elt ρ1 S1) (fun o S2 => ∃ e S3, o = .dat e ∧ S2 = S3 ++ [.list acc] ∧ S3.length = n0 ∧ I r (acc ++ [e]) S3) no := by simpa [Ok] using c
          show Ok (Option.bind (match elt ρ1 S1 with
            | some (.inl o, S2) => (putAt n0 S2 o).bind fun S3 => lcL src items tg tst elt n0 σ r S3
            | _ => none) _) QF X
          cases e2 : elt ρ1 S1 with
          | none => rw [e2] at c2; exact c2.elim
          | some z =>
            obtain ⟨z, S2⟩ := z
            rw [e2] at c2
            cases z with
            | inr _ => exact c2.elim
            | inl o =>
              obtain ⟨x, S3, rfl, rfl, e4, e5⟩ := c2
              have p : putAt n0 (S3 ++ [.list acc]) (.dat x) = some (S3 ++ [.list (acc ++ [x])]) := by
                unfold putAt
                subst e4
                simp [la]
              show Ok (Option.bind ((putAt n0 (S3 ++ [.list acc]) (.dat x)).bind fun S3 => lcL src items tg tst elt n0 σ r S3) _) QF X
              rw [p]
              exact lc_inv I step fin r (acc ++ [x]) e5
@[simp] theorem ok_lc {fi : EI} {tg : Tg} {tst : EB} {elt : E1} {vs : List Nat} : Ok (fLc fi tg tst elt vs ρ S) QF X = Ok (fi ρ S) (fun p S1 => Ok (lcR p.2 p.1 tg tst elt (wipeR ρ vs) S1) QF X) X := by
  unfold fLc
  rw [ok_bind]
  rfl
theorem lc_fold {src : Option Nat} {items : List D} {tg : Tg} {tst : EB} {elt : E1} {σ : Env1} (I : List D → List D → Sto → Prop) (start : I items [] S) (step : ∀ d r acc S', I (d :: r) acc S' → S'.length = S.length ∧ acc.length < sizeLine ∧ srcOk src items (S' ++ [.list acc]) ∧ ∃ ρ1, tg (.dat d) σ = some ρ1 ∧
      Ok (tst ρ1 (S' ++ [.list acc])) (fun k S1 => if k = true then Ok (elt ρ1 S1) (fun o S2 => ∃ e S3, o = .dat e ∧ S2 = S3 ++ [.list acc] ∧ S3.length = S.length ∧ I r (acc ++ [e]) S3) no else ∃ S3, S1 = S3 ++ [.list acc] ∧ S3.length = S.length ∧ I r acc S3) no)
    (fin : ∀ acc S', I [] acc S' → S'.length = S.length ∧ srcOk src items (S' ++ [.list acc]) ∧ QF acc S') : Ok (lcR src items tg tst elt σ S) QF X := lc_inv I step fin items [] start
/-- a comprehension whose parts leave the store as it is -/
theorem lc_mapF {α : Type} {src : Option Nat} {tg : Tg} {tst : EB} {elt : E1} {σ : Env1} (f : α → D) (l : List α) (p : α → Bool) (φ : α → D) (hl : l.length ≤ sizeLine) (hs : ∀ acc, srcOk src (l.map f) (S ++ [.list acc]))
    (h : ∀ d ∈ l, ∀ T, ∃ ρ1, tg (.dat (f d)) σ = some ρ1 ∧ Ok (tst ρ1 T) (fun k T' => k = p d ∧ T' = T ∧ (p d = true → Ok (elt ρ1 T) (fun o T' => o = .dat (φ d) ∧ T' = T) no)) no) (q : QF ((l.filter p).map φ) S) :
    Ok (lcR src (l.map f) tg tst elt σ S) QF X := by
  refine lc_fold (I := fun ds acc S' => S' = S ∧ ∃ us vs, l = us ++ vs ∧ ds = vs.map f ∧ acc = (us.filter p).map φ) ⟨rfl, [], l, rfl, rfl, rfl⟩ (fun d r acc S' hI => ?_) (fun acc S' hI => ?_)
  · obtain ⟨rfl, us, vs, e, e2, rfl⟩ := hI
    cases vs with
    | nil => cases e2
    | cons v vs =>
      cases e2
      have hd : v ∈ l := by rw [e]; simp
      obtain ⟨ρ1, h1, h2⟩ := h v hd (S' ++ [.list ((us.filter p).map φ)])
      refine ⟨rfl, ?_, hs _, ρ1, h1, h2.imp (fun k T' z => ?_) fun _ _ z => z⟩
      · have l1 : (us.filter p).length ≤ us.length := List.length_filter_le ..
        have l2 := congrArg List.length e
        simp at l2 ⊢
        omega
      · obtain ⟨rfl, rfl, z⟩ := z
        cases hp : p v with
        | true =>
          simp only [if_true]
          refine (z hp).imp (fun o T' y => ?_) fun _ _ z => z
          obtain ⟨rfl, rfl⟩ := y
          exact ⟨_, S', rfl, rfl, rfl, rfl, us ++ [v], vs, by rw [e]; simp, rfl, by simp [hp]⟩
        | false =>
          simp only [Bool.false_eq_true, if_false]
          exact ⟨S', rfl, rfl, rfl, us ++ [v], vs, by rw [e]; simp, rfl, by simp [hp]⟩
  · obtain ⟨rfl, us, vs, e, e2, rfl⟩ := hI
    cases vs with
    | cons v vs => cases e2
    | nil =>
      rw [List.append_nil] at e
      subst e
      exact ⟨rfl, hs _, q⟩
theorem lc_mapT {α : Type} {src : Option Nat} {tg : Tg} {elt : E1} {σ : Env1} (f : α → D) (l : List α) (φ : α → D) (hl : l.length ≤ sizeLine) (hs : ∀ acc, srcOk src (l.map f) (S ++ [.list acc]))
    (h : ∀ d ∈ l, ∀ T, ∃ ρ1, tg (.dat (f d)) σ = some ρ1 ∧ Ok (elt ρ1 T) (fun o T' => o = .dat (φ d) ∧ T' = T) no) (q : QF (l.map φ) S) : Ok (lcR src (l.map f) tg bYes elt σ S) QF X :=
  lc_mapF f l (fun _ => true) φ hl hs (fun d hd T => by
    obtain ⟨ρ1, h1, h2⟩ := h d hd T
    exact ⟨ρ1, h1, rfl, rfl, fun _ => h2⟩) (by
    have e : l.filter (fun _ => true) = l := by simp
    rw [e]
    exact q)
theorem lc_map {src : Option Nat} {items : List D} {tg : Tg} {tst : EB} {elt : E1} {σ : Env1} (p : D → Bool) (φ : D → D) (hl : items.length ≤ sizeLine) (hs : ∀ acc, srcOk src items (S ++ [.list acc]))
    (h : ∀ d ∈ items, ∀ T, ∃ ρ1, tg (.dat d) σ = some ρ1 ∧ Ok (tst ρ1 T) (fun k T' => k = p d ∧ T' = T ∧ (p d = true → Ok (elt ρ1 T) (fun o T' => o = .dat (φ d) ∧ T' = T) no)) no) (q : QF ((items.filter p).map φ) S) :
    Ok (lcR src items tg tst elt σ S) QF X := by
  have e : items.map (fun d : D => d) = items := List.map_id' _
  have := lc_mapF (QF := QF) (X := X) (src := src) (tg := tg) (tst := tst) (elt := elt) (σ := σ) (S := S) (fun d : D => d) items p φ hl (by rw [e]; exact hs) h q
  rw [e] at this
  exact this
end
/-! defs -/
section
variable {QO : OV → Sto → Prop} {X : Exn → Sto → Prop} {S : Sto}
theorem ok_run {n m : Nat} {g : SS} {os : List OV} (hn : os.length = n) (h : OkS (g (os.map some ++ List.replicate (m - n) none) S) (fun fl _ S' => match fl with
      | .rt (.dat d) => QO (.dat d) (S'.take S.length)
      | .rt (.own k) => if k < S.length then QO (.own k) (S'.take S.length) else ∃ ds, S'[k]? = some (.list ds) ∧ QO (.dat (.list ds)) (S'.take S.length)
      | .nx => QO (.dat .none) (S'.take S.length)
      | .er e => X e (S'.take S.length)
      | _ => False)) : Ok (runF n m g os S) QO X := by
  unfold runF
  rw [if_pos hn]
  cases e : g (os.map some ++ List.replicate (m - n) none) S with
  | none => rw [e] at h; exact h.elim
  | some z =>
    obtain ⟨fl, ρ, S'⟩ := z
    rw [e] at h
    cases fl with
    | nx => exact h
    | bk => exact h.elim
    | ct => exact h.elim
    | er x => exact h
    | rt o =>
      cases o with
      | dat d => exact h
      | own k =>
        have h1 : if k < S.length then QO (.own k) (S'.take S.length) else ∃ ds, S'[k]? = some (.list ds) ∧ QO (.dat (.list ds)) (S'.take S.length) := h
        show Ok (if k < S.length then ret (.own k) (S'.take S.length) else match S'[k]? with
          | some (.list ds) => ret (.dat (.list ds)) (S'.take S.length)
          | some (.dict kvs) => if isLk kvs = true then none else ret (.dat (.dict kvs)) (S'.take S.length)
          | _ => none) QO X
        split at h1
        · rw [if_pos (by assumption)]
          exact h1
        · rw [if_neg (by assumption)]
          obtain ⟨ds, e1, e2⟩ := h1
          rw [e1]
          exact e2
theorem ok_runO {n m : Nat} {g : SS} {os : List OV} (hn : os.length = n) (h : OkS (g (os.map some ++ List.replicate (m - n) none) S) (fun fl _ S' => match fl with
      | .rt (.own k) => k = S.length ∧ S'.length = S.length + 1 ∧ QO (.own k) S'
      | .er e => X e (S'.take S.length)
      | _ => False)) : Ok (runO n m g os S) QO X := by
  unfold runO
  rw [if_pos hn]
  cases e : g (os.map some ++ List.replicate (m - n) none) S with
  | none => rw [e] at h; exact h.elim
  | some z =>
    obtain ⟨fl, ρ, S'⟩ := z
    rw [e] at h
    cases fl with
    | nx => exact h.elim
    | bk => exact h.elim
    | ct => exact h.elim
    | er x => exact h
    | rt o =>
      cases o with
      | dat d => exact h.elim
      | own k =>
        have h1 : k = S.length ∧ S'.length = S.length + 1 ∧ QO (.own k) S' := h
        obtain ⟨e1, e2, e3⟩ := h1
        show Ok (if k = S.length ∧ S'.length = S.length + 1 then some (.inl (.own k), S') else none) QO X
        rw [if_pos ⟨e1, e2⟩]
        exact e3
end
/-! ### on data -/
section
variable {S : Sto} {i j : Int} {x y : Str} {xs ys : List D}
@[simp] theorem addS_int : addS S (.dat (.int i)) (.dat (.int j)) = some (.int (i + j)) := rfl
@[simp] theorem addS_str : addS S (.dat (.str x)) (.dat (.str y)) = if x.length + y.length ≤ sizeLine then some (.str (x ++ y)) else none := rfl
@[simp] theorem addS_list : addS S (.dat (.list xs)) (.dat (.list ys)) = if xs.length + ys.length ≤ sizeLine then some (.list (xs ++ ys)) else none := rfl
@[simp] theorem addS_tuple : addS S (.dat (.tuple xs)) (.dat (.tuple ys)) = if xs.length + ys.length ≤ sizeLine then some (.tuple (xs ++ ys)) else none := rfl
@[simp] theorem subS_int : subS S (.dat (.int i)) (.dat (.int j)) = some (.int (i - j)) := rfl
@[simp] theorem mulS_int : mulS S (.dat (.int i)) (.dat (.int j)) = if (-big < i ∧ i < big) ∨ (-big < j ∧ j < big) then some (.int (i * j)) else none := rfl
@[simp] theorem fdivS_int : fdivS S (.dat (.int i)) (.dat (.int j)) = if j ≠ 0 ∧ (j.natAbs < 1073741824 ∨ j.natAbs.log2 < 9000) then some (.int (i.fdiv j)) else none := rfl
@[simp] theorem modS_int : modS S (.dat (.int i)) (.dat (.int j)) = if j ≠ 0 then some (.int (i.fmod j)) else none := rfl
@[simp] theorem powS_int : powS S (.dat (.int i)) (.dat (.int j)) = if 0 ≤ j ∧ j ≤ 1000000 ∧ i.natAbs < 2 ^ 64 then some (.int (i ^ j.toNat)) else none := rfl
@[simp] theorem cmpS_int {p : Int → Int → Bool} : cmpS p S (.dat (.int i)) (.dat (.int j)) = some (.bool (p i j)) := rfl
@[simp] theorem eqS_dat {d e : D} : eqS S (.dat d) (.dat e) = (eqD d e).map PyData.bool := rfl
@[simp] theorem neS_dat {d e : D} : neS S (.dat d) (.dat e) = (eqD d e).map fun k => PyData.bool (!k) := rfl
@[simp] theorem eqD_int : eqD (.int i) (.int j) = some (decide (i = j)) := rfl
@[simp] theorem eqD_str : eqD (.str x) (.str y) = some (decide (x = y)) := rfl
@[simp] theorem eqD_bool {a b : Bool} : eqD (.bool a) (.bool b) = some (a == b) := rfl
theorem eqD_refl {d : D} (h : SeqAt.shaped d = true) : eqD d d = some true := by
  cases d with
  | int i => simp [eqD]
  | str x => simp [eqD]
  | _ => unfold eqD; simp only [h, and_self, if_true]; rw [PySem.SeqAt.eqv_refl _ (SeqAt.canLay_of_shaped h)]
@[simp] theorem ixS_list : ixS S (.dat (.list xs)) (.dat (.int i)) = atI xs i := rfl
@[simp] theorem ixS_tuple : ixS S (.dat (.tuple xs)) (.dat (.int i)) = atI xs i := rfl
@[simp] theorem lenS_list : lenS S [.dat (.list xs)] = some (.int xs.length) := rfl
@[simp] theorem lenS_tuple : lenS S [.dat (.tuple xs)] = some (.int xs.length) := rfl
@[simp] theorem lenS_str : lenS S [.dat (.str x)] = if x.length ≤ sizeLine then some (.int x.length) else none := rfl
@[simp] theorem intS_int : intS S [.dat (.int i)] = some (.int i) := rfl
@[simp] theorem strS_int : strS S [.dat (.int i)] = if i.natAbs.log2 < 1920 then some (.str (toString i)) else none := rfl
@[simp] theorem allS_dat : allS S [.dat (.list xs)] = (asBools xs).map fun bs => .bool (bs.all id) := rfl
@[simp] theorem anyS_dat : anyS S [.dat (.list xs)] = (asBools xs).map fun bs => .bool (bs.any id) := rfl
@[simp] theorem sumS_dat : sumS S [.dat (.list xs)] = (asInts xs).map fun bs => .int bs.sum := rfl
@[simp] theorem viewL_dat : viewL S (.dat (.list xs)) = some xs := rfl
theorem viewL_own {n : Nat} (h : S[n]? = some (.list xs)) : viewL S (.own n) = some xs := by simp [viewL, h]
theorem tupleS_own {n : Nat} (h : S[n]? = some (.list xs)) : tupleS S [.own n] = some (.tuple xs) := by simp [tupleS, viewSeq, h]
theorem insU_lt {x : Int} : ∀ {l : List Int}, l.Pairwise (· < ·) → (insU x l).Pairwise (· < ·)
  | [], _ => by simp [insU]
  | y :: r, h => by
    obtain ⟨h1, h2⟩ := List.pairwise_cons.mp h
    unfold insU
    split
    · rename_i c
      refine List.pairwise_cons.mpr ⟨fun z hz => ?_, h⟩
      rcases List.mem_cons.mp hz with rfl | hz
      · exact c
      · exact Int.lt_trans c (h1 z hz)
    · split
      · exact h
      · rename_i c1 c2
        refine List.pairwise_cons.mpr ⟨fun z hz => ?_, insU_lt h2⟩
        rcases insU_mem.mp hz with rfl | hz
        · omega
        · exact h1 z hz
theorem sortU_lt : ∀ l : List Int, (sortU l).Pairwise (· < ·)
  | [] => List.Pairwise.nil
  | x :: r => insU_lt (sortU_lt r)
theorem sortU_mem1 {z : Int} : ∀ {l : List Int}, z ∈ sortU l ↔ z ∈ l
  | [] => by simp [sortU]
  | x :: r => by
    show z ∈ insU x (sortU r) ↔ _
    rw [insU_mem, sortU_mem1]
    simp
theorem insU_len {x : Int} : ∀ {l : List Int}, (insU x l).length ≤ l.length + 1
  | [] => by simp [insU]
  | y :: r => by
    have := @insU_len x r
    unfold insU
    split
    · simp
    · split <;> simp <;> omega
theorem sortU_len : ∀ l : List Int, (sortU l).length ≤ l.length
  | [] => by simp [sortU]
  | x :: r => by
    have h1 := sortU_len r
    have h2 := @insU_len x (sortU r)
    show (insU x (sortU r)).length ≤ _
    simp
    omega
@[simp] theorem tupleS_list : tupleS S [.dat (.list xs)] = some (.tuple xs) := rfl
@[simp] theorem max2S_int : max2S S [.dat (.int i), .dat (.int j)] = some (.int (if j > i then j else i)) := rfl
@[simp] theorem min2S_int : min2S S [.dat (.int i), .dat (.int j)] = some (.int (if j < i then j else i)) := rfl
theorem asBools_map {α : Type} (f : α → Bool) : ∀ l : List α, asBools (l.map fun a => .bool (f a)) = some (l.map f)
  | [] => rfl
  | a :: r => by simp [asBools, asBools_map f r]
@[simp] theorem filter_tt {α : Type} (l : List α) : l.filter (fun _ => true) = l := by simp
@[simp] theorem all_tt {α : Type} (l : List α) : (l.all fun _ => true) = true := by simp
@[simp] theorem asBools_tt {α : Type} (l : List α) : asBools (l.map fun _ => .bool true) = some (l.map fun _ => true) := asBools_map (fun _ => true) l
@[simp] theorem asBools_rep (n : Nat) (b : Bool) : asBools (List.replicate n (.bool b)) = some (List.replicate n b) := by
  induction n with
  | zero => rfl
  | succ n ih => simp [List.replicate_succ, asBools, ih]
theorem asInts_map {α : Type} (f : α → Int) : ∀ l : List α, asInts (l.map fun a => .int (f a)) = some (l.map f)
  | [] => rfl
  | a :: r => by simp [asInts, asInts_map f r]
theorem asStrs_map {α : Type} (f : α → Str) : ∀ l : List α, asStrs (l.map fun a => .str (f a)) = some (l.map f)
  | [] => rfl
  | a :: r => by simp [asStrs, asStrs_map f r]
theorem atI_zero {α : Type} {a : α} {r : List α} : atI (a :: r) 0 = some a := by simp [atI, ixN]
theorem atI_nat {α : Type} {l : List α} {n : Nat} (h : n < l.length) : atI l (n : Int) = l[n]? := by
  unfold atI ixN
  rw [if_pos (by omega), if_pos (by omega)]
  simp
end
/-! ### a flask: two numbers in an owned list -/
def fl (S : Sto) (k : Nat) (g n : Int) : Sto := S.set k (.list [.int g, .int n])
section
variable {S T : Sto} {k : Nat} {g n g' n' : Int}
@[simp] theorem fl_len : (fl S k g n).length = S.length := by simp [fl]
theorem fl_get (h : k < S.length) : (fl S k g n)[k]? = some (.list [.int g, .int n]) := by simp [fl, h]
@[simp] theorem fl_fl : fl (fl S k g n) k g' n' = fl S k g' n' := by simp [fl]
theorem fl_set (a b : Int) : (fl S k g n).set k (.list [.int a, .int b]) = fl S k a b := by simp [fl]
theorem fl_app (h : k < S.length) : fl S k g n ++ T = fl (S ++ T) k g n := by simp [fl, List.set_append_left, h]
theorem fl_take {m : Nat} (h : k < S.length) (hm : m = S.length) : (fl (S ++ T) k g n).take m = fl S k g n := by
  rw [← fl_app h, List.take_append_of_le_length (by simp [hm]), hm]
  exact List.take_of_length_le (by simp)
theorem fl_last {x : D} (h : k < S.length) : (fl (S ++ [x]) k g n)[S.length]? = some x := by simp [fl, Nat.ne_of_lt h]
theorem fl_last' {x : D} (h : k < S.length) (hh : S.length < (fl (S ++ [x]) k g n).length) : (fl (S ++ [x]) k g n)[S.length]'hh = x := by
  have := fl_last (x := x) (g := g) (n := n) h
  rw [List.getElem?_eq_getElem hh] at this
  exact Option.some.inj this
theorem fl_set_last {x y : D} (h : k < S.length) : (fl (S ++ [x]) k g n).set S.length y = fl (S ++ [y]) k g n := by
  unfold fl
  rw [List.set_append_left _ _ h, List.set_append_left _ _ h, List.set_append_right _ _ (by simp)]
  simp
theorem fl_take1 {x : D} (h : k < S.length) : (fl (S ++ [x]) k g n).take S.length = fl S k g n := fl_take h rfl
theorem fl_take0 : (fl S k g n).take S.length = fl S k g n := List.take_of_length_le (by simp)
theorem fl_new : S ++ [.list [.int g, .int n]] = fl (S ++ [.none]) S.length g n := by simp [fl]
end
end Dk
set_option Elab.async false
set_option linter.all false
set_option maxRecDepth 100000
set_option maxHeartbeats 1000000
/-! Plain: a word made of a call. -/
namespace Dk
open PySem PySem.Spec L2
theorem ok_lam {l : List (Mt × D)} {d0 : D} {f : E1} {ρ : Env1} {S : Sto} {Q : OV → Sto → Prop} {X : Exn → Sto → Prop} : Ok (fLam (hiE l d0) f ρ S) Q X = Ok (f ρ S) (fun _ S1 => Q (.dat d0) S1) (fun e S1 => ∃ d, catchD l e.cls = some d ∧ Q (.dat d) S1) := by
  unfold fLam hiE
  cases h : f ρ S with
  | none => simp [h]
  | some z =>
    obtain ⟨z, S1⟩ := z
    cases z with
    | inl o => simp [h, ret]
    | inr e =>
      simp only [h, ok_err]
      cases c : catchD l e.cls with
      | none => simp
      | some d => simp [ret]
@[simp] theorem ok_fRep {fa : EF} {fb : E1} {ρ : Env1} {S : Sto} {Q : List D → Sto → Prop} {X : Exn → Sto → Prop} : Ok (fRep fa fb ρ S) Q X = Ok (fa ρ S) (fun ds S1 => Ok (fb ρ S1) (fun b S2 => ∃ k, b = .dat (.int k) ∧ (-(2 ^ 63) ≤ k ∧ k < 2 ^ 63 ∧ ds.length * k.toNat ≤ sizeLine) ∧ Q (List.replicate k.toNat ds).flatten S2) X) X := by
  unfold fRep
  rw [ok_bind]
  congr 1
  funext ds S1
  rw [ok_bind]
  congr 1
  funext b S2
  apply propext
  constructor
  · intro h
    split at h
    · rename_i k
      rw [ok_if] at h
      split at h
      · rename_i hz
        exact ⟨k, rfl, hz, h⟩
      · exact h.elim
    · exact h.elim
  · rintro ⟨k, rfl, hz, h⟩
    show Ok (if _ then _ else _) Q X
    rw [if_pos hz]
    exact h
end Dk
namespace Dk
open PySem PySem.Spec L2
@[simp] theorem ok_fCat {fa fb : E1} {ρ : Env1} {S : Sto} {Q : List D → Sto → Prop} {X : Exn → Sto → Prop} : Ok (fCat fa fb ρ S) Q X = Ok (fa ρ S) (fun a S1 => Ok (fb ρ S1) (fun b S2 => ∃ ds, catS S2 a b = some ds ∧ Q ds S2) X) X := by
  unfold fCat
  simp
end Dk
set_option Elab.async false
set_option linter.all false
set_option maxRecDepth 100000
set_option maxHeartbeats 1000000
/-! plain rules: errors as values -/
namespace Dk
open PySem PySem.Spec L2
section
variable {ρ : Env1} {S : Sto} {QO : OV → Sto → Prop} {X : Exn → Sto → Prop} {f : E1} {x y : Str} {tab : List (Str × Bool)} {l : List Str}
def lkB (tab : List (Str × Bool)) (z : Str) : Option D := (tab.lookup z).map PyData.bool
@[simp] theorem ok_fExcS : Ok (fExcS x f ρ S) QO X = Ok (f ρ S) (fun a S1 => ∃ t, a = .dat (.str t) ∧ QO (.dat (excS x t)) S1) X := by
  unfold fExcS
  rw [ok_bind]
  congr 1
  funext a S1
  cases a with
  | own n => simp
  | dat d => cases d <;> simp
@[simp] theorem ok_fExcF : Ok (fExcF x y f ρ S) QO X = Ok (f ρ S) (fun a S1 => ∃ t, a = .dat (.int t) ∧ QO (.dat (excF x y t)) S1) X := by
  unfold fExcF
  rw [ok_bind]
  congr 1
  funext a S1
  cases a with
  | own n => simp
  | dat d => cases d <;> simp
@[simp] theorem ok_fIsE : Ok (fIsE tab f ρ S) QO X = Ok (f ρ S) (fun a S1 => ∃ d, a = .dat d ∧ ∃ z, excN d = some z ∧ ∃ c, lkB tab z = some c ∧ QO (.dat c) S1) X := by
  unfold fIsE
  rw [ok_bind]
  congr 1
  funext a S1
  cases a with
  | own n => simp
  | dat d =>
    simp only [ok_obind, ok_ret]
    apply propext
    constructor
    · rintro ⟨z, h1, b, h2, h3⟩
      exact ⟨d, rfl, z, h1, .bool b, by unfold lkB; rw [h2]; rfl, h3⟩
    · rintro ⟨_, e, z, h1, c, h2, h3⟩
      cases e
      refine ⟨z, h1, ?_⟩
      unfold lkB at h2
      cases q : tab.lookup z with
      | none => rw [q] at h2; cases h2
      | some b =>
        rw [q] at h2
        cases h2
        exact ⟨b, rfl, h3⟩
@[simp] theorem ok_fStrE : Ok (fStrE l f ρ S) QO X = Ok (f ρ S) (fun a S1 => ∃ z t, a = .dat (excS z t) ∧ z ∈ l ∧ QO (.dat (.str t)) S1) X := by
  unfold fStrE
  rw [ok_bind]
  congr 1
  funext a S1
  apply propext
  constructor
  · intro h
    split at h
    · rename_i z t
      rw [ok_if] at h
      split at h
      · exact ⟨z, t, rfl, by assumption, h⟩
      · exact h.elim
    · exact h.elim
  · rintro ⟨z, t, rfl, h1, h2⟩
    show Ok (if z ∈ l then ret (OV.dat (.str t)) S1 else none) QO X
    rw [if_pos h1]
    exact h2
@[simp] theorem ok_fFldE : Ok (fFldE x y f ρ S) QO X = Ok (f ρ S) (fun a S1 => ∃ n, a = .dat (excF x y n) ∧ QO (.dat (.int n)) S1) X := by
  unfold fFldE
  rw [ok_bind]
  congr 1
  funext a S1
  apply propext
  constructor
  · intro h
    split at h
    · rename_i z g n
      rw [ok_if] at h
      split at h
      · rename_i c
        obtain ⟨rfl, rfl⟩ := c
        exact ⟨n, rfl, h⟩
      · exact h.elim
    · exact h.elim
  · rintro ⟨n, rfl, h2⟩
    show Ok (if x = x ∧ y = y then ret (OV.dat (.int n)) S1 else none) QO X
    rw [if_pos ⟨rfl, rfl⟩]
    exact h2
@[simp] theorem excN_S {t : Str} : excN (excS x t) = some x := rfl
@[simp] theorem excN_F {n : Int} : excN (excF x y n) = some x := rfl
end
end Dk
set_option Elab.async false
set_option linter.all false
set_option maxRecDepth 100000
set_option maxHeartbeats 4000000
/-! More words of the plain side: enumerate, dict displays, tuple(range(n)), while. -/
namespace Dk
open PySem PySem.Spec L2
section
variable {X : Exn → Sto → Prop} {S : Sto} {ρ : Env1} {QO : OV → Sto → Prop} {QF : List D → Sto → Prop} {QS : Fl → Env1 → Sto → Prop} {f : E1} {t : EB} {fs : EL}
@[simp] theorem ok_iEn {QI : List D × Option Nat → Sto → Prop} : Ok (iEn fs ρ S) QI X = Ok (fs ρ S) (fun os S1 => (∃ xs, os = [.dat (.list xs)] ∧ QI (enumD 0 xs, none) S1) ∨ ∃ xs, os = [.dat (.tuple xs)] ∧ QI (enumD 0 xs, none) S1) X := by
  unfold iEn
  rw [ok_bind]
  congr 1
  funext os S1
  apply propext
  constructor
  · intro hh
    split at hh
    · exact .inl ⟨_, rfl, hh⟩
    · exact .inr ⟨_, rfl, hh⟩
    · exact hh.elim
  · rintro (⟨xs, rfl, hh⟩ | ⟨xs, rfl, hh⟩) <;> exact hh
@[simp] theorem ok_fTupRg : Ok (fTupRg f ρ S) QO X = Ok (f ρ S) (fun a S1 => ∃ n, a = .dat (.int n) ∧ 0 ≤ n ∧ n ≤ 1000 ∧ QO (.dat (.tuple (rgD n))) S1) X := by
  unfold fTupRg
  rw [ok_bind]
  congr 1
  funext a S1
  apply propext
  constructor
  · intro hh
    split at hh
    · rw [ok_if] at hh
      split at hh
      · rename_i n c
        exact ⟨n, rfl, c.1, c.2, hh⟩
      · exact hh.elim
    · exact hh.elim
  · rintro ⟨n, rfl, h1, h2, h3⟩
    simp only [ok_if, ok_ret, ok_none]
    rw [if_pos ⟨h1, h2⟩]
    exact h3
theorem while_succ {g : SS} {n : Nat} : OkS (whileN t g (n + 1) ρ S) QS = Ok (t ρ S) (fun k S1 => if k = true then OkS (g ρ S1) (fun fl ρ2 S2 => match fl with
      | .nx => OkS (whileN t g n ρ2 S2) QS
      | .ct => OkS (whileN t g n ρ2 S2) QS
      | .bk => QS .nx ρ2 S2
      | fl => QS fl ρ2 S2) else QS .nx ρ S1) (fun e S1 => QS (.er e) ρ S1) := by
  show OkS (sB t (fun b ρ S => if b = true then afterW (g ρ S) (whileN t g n) else some (.nx, ρ, S)) ρ S) QS = _
  rw [ok_sB]
  congr 1
  funext k S1
  rw [oks_if]
  cases k with
  | false => rfl
  | true =>
    simp only [if_true]
    unfold afterW
    cases g ρ S1 with
    | none => rfl
    | some z =>
      obtain ⟨fl, ρ2, S2⟩ := z
      cases fl <;> rfl
end
end Dk
set_option Elab.async false
set_option linter.all false
set_option maxRecDepth 100000
set_option maxHeartbeats 4000000
/-! More words of the plain side: shapes of data, sorted, two fors, pop, index. -/
namespace Dk
open PySem PySem.Spec L2
/-! shapes -/
/-- can be laid, and is not deeper -/
def niceD (k : Nat) (d : D) : Prop := PyData.canLay0 d = true ∧ d.depth ≤ k
theorem niceD.mono {k m : Nat} {d : D} (h : niceD k d) (hm : k ≤ m) : niceD m d := ⟨h.1, Nat.le_trans h.2 hm⟩
theorem nice_all {k : Nat} : ∀ {l : List D}, (∀ d ∈ l, niceD k d) → PyData.canLayAll0 l = true ∧ PyData.depthAll l ≤ k
  | [], _ => ⟨rfl, Nat.zero_le _⟩
  | d :: r, h => by
    obtain ⟨h1, h2⟩ := h d (by simp)
    obtain ⟨h3, h4⟩ := nice_all (l := r) fun e he => h e (by simp [he])
    exact ⟨by simp [PyData.canLayAll0, h1, h3], by simp [PyData.depthAll]; omega⟩
theorem nice_list {k : Nat} {l : List D} (h : ∀ d ∈ l, niceD k d) : niceD (k + 1) (.list l) := by
  obtain ⟨a, b⟩ := nice_all h
  exact ⟨by simp [PyData.canLay0, a], by simp [PyData.depth]; omega⟩
theorem nice_tuple {k : Nat} {l : List D} (h : ∀ d ∈ l, niceD k d) : niceD (k + 1) (.tuple l) := by
  obtain ⟨a, b⟩ := nice_all h
  exact ⟨by simp [PyData.canLay0, a], by simp [PyData.depth]; omega⟩
theorem nice_int {i : Int} {k : Nat} : niceD k (.int i) := ⟨rfl, Nat.zero_le _⟩
theorem nice_bool {b : Bool} {k : Nat} : niceD k (.bool b) := ⟨rfl, Nat.zero_le _⟩
theorem nice_none {k : Nat} : niceD k .none := ⟨rfl, Nat.zero_le _⟩
theorem nice_shaped {k : Nat} {d : D} (h : niceD k d) (hk : k ≤ 64) : SeqAt.shaped d = true := by
  unfold SeqAt.shaped
  rw [h.1]
  have := h.2
  simp
  omega
/-- equal as data -/
theorem eqvAll_map {α : Type} [DecidableEq α] {f : α → D} (h : ∀ a b, PyData.eqv (f a) (f b) = decide (a = b)) : ∀ l m : List α, PyData.eqvAll (l.map f) (m.map f) = decide (l = m)
  | [], [] => by simp [PyData.eqvAll]
  | a :: l, [] => by simp [PyData.eqvAll]
  | [], b :: m => by simp [PyData.eqvAll]
  | a :: l, b :: m => by
    simp [PyData.eqvAll, h a b, eqvAll_map h l m]
theorem eqD_nice {k m : Nat} {d e : D} (h : niceD k d) (h2 : niceD m e) (hk : k ≤ 64) (hm : m ≤ 64) : eqD d e = some (PyData.eqv d e) := by
  unfold eqD
  split
  · simp only [PyData.eqv]
    rw [Option.some.injEq, Bool.eq_iff_iff]
    simp
  · simp only [PyData.eqv]
    rw [Option.some.injEq, Bool.eq_iff_iff]
    simp
  · exact if_pos ⟨nice_shaped h hk, nice_shaped h2 hm⟩
theorem sortA_of {α : Type} {S : Sto} {f : α → D} {l : List α} (h : ∀ a ∈ l, niceD 64 (f a)) (ha : ∀ a ∈ l, ∀ b ∈ l, PySem.W.alike (f a) (f b) = true) (hn : ∀ a ∈ l, f a ≠ .none) (ht : l.length ≤ 1 ∨ (∀ a ∈ l, tupB (f a) = true) ∨ ∀ a ∈ l, plainB (f a) = true) :
    sortA S [.dat (.list (l.map f))] = some ((l.map f).mergeSort (PySem.W.dataLe false id)) := by
  obtain ⟨h1, h2⟩ := nice_all (k := 64) (l := l.map f) (by simpa using h)
  have h3 : alikeB (l.map f) = true := by
    unfold alikeB
    simp only [List.all_map, List.all_eq_true, Function.comp]
    exact fun a ha' b hb => ha a ha' b hb
  have h4 : ∀ d ∈ l.map f, d.depth ≤ 64 := by
    intro d hd
    obtain ⟨a, ha', rfl⟩ := List.mem_map.mp hd
    exact (h a ha').2
  have h5 : ((l.map f).all fun d => !isNoneD d) = true := by
    simp only [List.all_map, List.all_eq_true, Function.comp]
    intro a ha'
    have := hn a ha'
    cases e : f a <;> simp_all [isNoneD]
  unfold sortA
  by_cases c : l.length ≤ 1
  · have e1 : sort1S S [.dat (.list (l.map f))] = some (l.map f) := by
      unfold sort1S
      simp only [viewL_dat, Option.bind_some]
      exact if_pos ⟨h1, h3, by simpa using c, h5, h4⟩
    rw [e1]
    have : (l.map f).length ≤ 1 := by simpa using c
    generalize l.map f = m at this
    show some m = _
    congr 1
    match m, this with
    | [], _ => simp
    | [x], _ => simp
  · have e1 : sort1S S [.dat (.list (l.map f))] = none := by
      unfold sort1S
      simp only [viewL_dat, Option.bind_some]
      exact if_neg fun z => c (by simpa using z.2.2.1)
    rw [e1]
    show sortS S [.dat (.list (l.map f))] = _
    unfold sortS
    simp only [viewL_dat, Option.bind_some]
    refine if_pos ⟨h1, h3, ?_, h4⟩
    rcases ht with z | z | z
    · exact absurd z c
    · exact .inl (by simp only [List.all_map, List.all_eq_true, Function.comp]; exact z)
    · exact .inr (by simp only [List.all_map, List.all_eq_true, Function.comp]; exact z)
theorem alike_ints {α β : Type} (f : α → Int) (g : β → Int) : ∀ (l : List α) (m : List β), PySem.W.alikeAll (l.map fun a => .int (f a)) (m.map fun b => .int (g b)) = true
  | [], [] => rfl
  | [], _ :: _ => rfl
  | _ :: _, [] => rfl
  | a :: l, b :: m => by
    simp only [List.map_cons, PySem.W.alikeAll, PySem.W.alike, Bool.true_and]
    exact alike_ints f g l m
section
variable {X : Exn → Sto → Prop} {S : Sto} {ρ : Env1} {QO : OV → Sto → Prop} {QF : List D → Sto → Prop} {QS : Fl → Env1 → Sto → Prop} {f : E1} {t : EB} {fs : EL}
/-! [e for t in xs for u in ys if c], whose parts leave the store as it is -/
noncomputable def lc2R (src : Option Nat) (items : List D) (tg : Tg) (fi1 : EI) (tg1 : Tg) (tst1 : EB) (elt : E1) (vs1 : List Nat) (σ : Env1) (S : Sto) : Rs (List D) := (lc2L src items tg fi1 tg1 tst1 elt S.length vs1 σ items (S ++ [.list []])).bind fun S2 => popAt S.length S2
@[simp] theorem ok_lc2 {fi fi1 : EI} {tg tg1 : Tg} {tst1 : EB} {elt : E1} {vs vs1 : List Nat} : Ok (fLc2 fi tg fi1 tg1 tst1 elt vs vs1 ρ S) QF X = Ok (fi ρ S) (fun p S1 => Ok (lc2R p.2 p.1 tg fi1 tg1 tst1 elt vs1 (wipeR ρ vs) S1) QF X) X := by
  unfold fLc2
  rw [ok_bind]
  rfl
/-- the inner walk, filling at a place -/
theorem lcL_fill {β : Type} {tg1 : Tg} {tst1 : EB} {elt : E1} {σ : Env1} {n0 : Nat} (hS : S.length = n0) (f1 : β → D) (p : β → Bool) (φ : β → D) (items : List D) :
    ∀ (l : List β) (acc : List D), (∀ d ∈ l, ∀ T, ∃ ρ1, tg1 (.dat (f1 d)) σ = some ρ1 ∧ Ok (tst1 ρ1 T) (fun k T' => k = p d ∧ T' = T ∧ (p d = true → Ok (elt ρ1 T) (fun o T' => o = .dat (φ d) ∧ T' = T) no)) no) → acc.length + l.length ≤ sizeLine →
      lcL none items tg1 tst1 elt n0 σ (l.map f1) (S ++ [.list acc]) = some (S ++ [.list (acc ++ (l.filter p).map φ)])
  | [], acc, _, _ => by
    unfold lcL
    simp
  | d :: r, acc, h, hl => by
    obtain ⟨ρ1, h1, h2⟩ := h d (by simp) (S ++ [.list acc])
    have ih := fun acc' => lcL_fill hS f1 p φ items r acc' fun e he => h e (by simp [he])
    simp only [List.length_cons] at hl
    rw [List.map_cons]
    unfold lcL
    rw [if_pos (by simp), h1]
    show (match tst1 ρ1 (S ++ [.list acc]) with
      | some (.inl true, S1) => match elt ρ1 S1 with
        | some (.inl o, S2) => (putAt n0 S2 o).bind fun S3 => lcL none items tg1 tst1 elt n0 σ (r.map f1) S3
        | _ => none
      | some (.inl false, S1) => lcL none items tg1 tst1 elt n0 σ (r.map f1) S1
      | _ => none) = _
    cases e : tst1 ρ1 (S ++ [.list acc]) with
    | none => rw [e] at h2; exact h2.elim
    | some z =>
      obtain ⟨z, S1⟩ := z
      rw [e] at h2
      cases z with
      | inr _ => exact h2.elim
      | inl k =>
        obtain ⟨rfl, rfl, h3⟩ := (show k = p d ∧ S1 = S ++ [.list acc] ∧ _ from h2)
        cases hp : p d with
        | false =>
          show lcL none items tg1 tst1 elt n0 σ (r.map f1) (S ++ [.list acc]) = _
          rw [ih acc (by omega), List.filter_cons_of_neg (by simp [hp])]
        | true =>
          have h4 := h3 hp
          show (match elt ρ1 (S ++ [.list acc]) with
            | some (.inl o, S2) => (putAt n0 S2 o).bind fun S3 => lcL none items tg1 tst1 elt n0 σ (r.map f1) S3
            | _ => none) = _
          cases e2 : elt ρ1 (S ++ [.list acc]) with
          | none => rw [e2] at h4; exact h4.elim
          | some z =>
            obtain ⟨z, S2⟩ := z
            rw [e2] at h4
            cases z with
            | inr _ => exact h4.elim
            | inl o =>
              obtain ⟨rfl, rfl⟩ := (show o = .dat (φ d) ∧ S2 = S ++ [.list acc] from h4)
              have pa : putAt n0 (S ++ [.list acc]) (.dat (φ d)) = some (S ++ [.list (acc ++ [φ d])]) := by
                unfold putAt
                subst hS
                have : acc.length < sizeLine := by omega
                simp [this]
              show (putAt n0 (S ++ [.list acc]) (.dat (φ d))).bind _ = _
              rw [pa]
              show lcL none items tg1 tst1 elt n0 σ (r.map f1) (S ++ [.list (acc ++ [φ d])]) = _
              rw [ih _ (by simp; omega), List.filter_cons_of_pos (by simp [hp])]
              simp
theorem lc2_fill {α β : Type} {tg tg1 : Tg} {fi1 : EI} {tst1 : EB} {elt : E1} {vs1 : List Nat} {σ : Env1} {n0 : Nat} (hS : S.length = n0) (f0 : α → D) (l1 : α → List β) (f1 : α → β → D) (p : α → β → Bool) (φ : α → β → D) (items : List D) (N : Nat) (hN : N ≤ sizeLine) :
    ∀ (l : List α) (acc : List D), (∀ d ∈ l, ∃ ρ1, tg (.dat (f0 d)) σ = some ρ1 ∧ ∀ T, (∃ x, T = S ++ [.list x]) → fi1 ρ1 T = some (.inl ((l1 d).map (f1 d), none), T) ∧ ∀ b ∈ l1 d, ∀ T, ∃ ρ2, tg1 (.dat (f1 d b)) (wipeR ρ1 vs1) = some ρ2 ∧
        Ok (tst1 ρ2 T) (fun k T' => k = p d b ∧ T' = T ∧ (p d b = true → Ok (elt ρ2 T) (fun o T' => o = .dat (φ d b) ∧ T' = T) no)) no) →
      acc.length + (l.flatMap l1).length ≤ N →
      lc2L none items tg fi1 tg1 tst1 elt n0 vs1 σ (l.map f0) (S ++ [.list acc]) = some (S ++ [.list (acc ++ l.flatMap fun d => ((l1 d).filter (p d)).map (φ d))])
  | [], acc, _, _ => by
    unfold lc2L
    simp
  | d :: r, acc, h, hl => by
    obtain ⟨ρ1, h1, h2⟩ := h d (by simp)
    obtain ⟨h3, h4⟩ := h2 (S ++ [.list acc]) ⟨_, rfl⟩
    simp only [List.flatMap_cons, List.length_append] at hl
    rw [List.map_cons]
    unfold lc2L
    rw [if_pos (by simp), h1]
    show (match fi1 ρ1 (S ++ [.list acc]) with
      | some (.inl p, S1) => (lcL p.2 p.1 tg1 tst1 elt n0 (wipeR ρ1 vs1) p.1 S1).bind fun S2 => lc2L none items tg fi1 tg1 tst1 elt n0 vs1 σ (r.map f0) S2
      | _ => none) = _
    rw [h3]
    show (lcL none ((l1 d).map (f1 d)) tg1 tst1 elt n0 (wipeR ρ1 vs1) ((l1 d).map (f1 d)) (S ++ [.list acc])).bind _ = _
    rw [lcL_fill hS (f1 d) (p d) (φ d) _ (l1 d) acc h4 (by omega)]
    show lc2L none items tg fi1 tg1 tst1 elt n0 vs1 σ (r.map f0) (S ++ [.list (acc ++ ((l1 d).filter (p d)).map (φ d))]) = _
    have lf : ((l1 d).filter (p d)).length ≤ (l1 d).length := List.length_filter_le ..
    rw [lc2_fill hS f0 l1 f1 p φ items N hN r _ (fun e he => h e (by simp [he])) (by rw [List.length_append, List.length_map]; omega)]
    simp
theorem lc2_map {α β : Type} {tg tg1 : Tg} {fi1 : EI} {tst1 : EB} {elt : E1} {vs1 : List Nat} {σ : Env1} (f0 : α → D) (l : List α) (l1 : α → List β) (f1 : α → β → D) (p : α → β → Bool) (φ : α → β → D) (hN : (l.flatMap l1).length ≤ sizeLine)
    (h : ∀ d ∈ l, ∃ ρ1, tg (.dat (f0 d)) σ = some ρ1 ∧ ∀ T, (∃ x, T = S ++ [.list x]) → fi1 ρ1 T = some (.inl ((l1 d).map (f1 d), none), T) ∧ ∀ b ∈ l1 d, ∀ T, ∃ ρ2, tg1 (.dat (f1 d b)) (wipeR ρ1 vs1) = some ρ2 ∧
        Ok (tst1 ρ2 T) (fun k T' => k = p d b ∧ T' = T ∧ (p d b = true → Ok (elt ρ2 T) (fun o T' => o = .dat (φ d b) ∧ T' = T) no)) no)
    (q : QF (l.flatMap fun d => ((l1 d).filter (p d)).map (φ d)) S) : Ok (lc2R none (l.map f0) tg fi1 tg1 tst1 elt vs1 σ S) QF X := by
  unfold lc2R
  rw [lc2_fill rfl f0 l1 f1 p φ _ _ hN l [] h (by simp)]
  show Ok (popAt S.length (S ++ [.list ([] ++ _)])) QF X
  unfold popAt
  simpa using q
@[simp] theorem ok_fPopAt : Ok (fPopAt f fs ρ S) QO X = Ok (f ρ S) (fun o S1 => ∃ l, viewL S1 o = some l ∧ Ok (fs ρ S1) (fun as S2 => ∃ n i ds j d, o = .own n ∧ as = [.dat (.int i)] ∧ S2[n]? = some (.list ds) ∧ ds.length ≤ 16777216 ∧ ixN ds.length i = some j ∧ ds[j]? = some d ∧ QO (.dat d) (S2.set n (.list (ds.eraseIdx j)))) X) X := by
  unfold fPopAt
  rw [ok_bind]
  congr 1
  funext o S1
  rw [ok_obind]
  congr 1
  funext l
  congr 1
  rw [ok_bind]
  congr 1
  funext as S2
  apply propext
  constructor
  · intro h
    split at h
    · rename_i n i
      split at h
      · rename_i ds e
        simp only [ok_if, ok_obind, ok_ret, ok_none] at h
        split at h
        · obtain ⟨j, h1, d, h2, h3⟩ := h
          exact ⟨n, i, ds, j, d, rfl, rfl, e, by assumption, h1, h2, h3⟩
        · exact h.elim
      · exact h.elim
    · exact h.elim
  · rintro ⟨n, i, ds, j, d, rfl, rfl, e, h1, h2, h3, h4⟩
    simp only [e, ok_if, ok_obind, ok_ret, ok_none]
    rw [if_pos h1]
    exact ⟨j, h2, d, h3, h4⟩
@[simp] theorem ok_fIndex : Ok (fIndex f fs ρ S) QO X = Ok (f ρ S) (fun o S1 => ∃ l, viewL S1 o = some l ∧ Ok (fs ρ S1) (fun as S2 => ∃ b d, as = [b] ∧ indexS S2 o b = some d ∧ QO (.dat d) S2) X) X := by
  unfold fIndex
  rw [ok_bind]
  congr 1
  funext o S1
  rw [ok_obind]
  congr 1
  funext l
  congr 1
  rw [ok_bind]
  congr 1
  funext as S2
  apply propext
  constructor
  · intro h
    split at h
    · rw [ok_obind] at h
      obtain ⟨d, h1, h2⟩ := h
      exact ⟨_, d, rfl, h1, h2⟩
    · exact h.elim
  · rintro ⟨b, d, rfl, h1, h2⟩
    simp only [h1, ok_obind, ok_ret]
    exact ⟨d, rfl, h2⟩
/-- a dict of ints by texts, written and asked at once -/
theorem ok_fDictIx {zs : List Str} {fs : List FI} {j : Nat} : Ok (fDictIx zs fs j ρ S) QO X = ∃ z, ρ[j]?.join = some (.dat (.str z)) ∧ ∃ is, fs.mapM (fun f : FI => f ρ) = some is ∧ ∃ i, (zs.zip is).lookup z = some i ∧ QO (.dat (.int i)) S := by
  unfold fDictIx
  apply propext
  constructor
  · intro h
    split at h
    · rename_i z e
      simp only [ok_obind, ok_ret] at h
      exact ⟨z, e, h⟩
    · exact h.elim
  · rintro ⟨z, e, h⟩
    rw [e]
    simp only [ok_obind, ok_ret]
    exact h
end
theorem enumD_map {α : Type} (f : α → D) : ∀ (l : List α) (n : Nat), enumD n (l.map f) = (l.zipIdx n).map fun p => .tuple [.int (p.2 : Nat), f p.1]
  | [], _ => rfl
  | a :: r, n => by simp [enumD, enumD_map f r (n + 1)]
end Dk
set_option Elab.async false
set_option linter.all false
set_option maxRecDepth 100000
set_option maxHeartbeats 4000000
/-! More words: slices, while by a measure, two owned lists, the first of the least. -/
namespace Dk
open PySem PySem.Spec L2
theorem cut_to {α : Type} (xs : List α) (a : Nat) : cutD xs none (some (a : Int)) = xs.take a := by
  unfold cutD
  rw [HT.sIx_nat, HT.sIx_none, List.drop_zero, Nat.sub_zero]
  by_cases h : a ≤ xs.length
  · rw [Nat.min_eq_left h]
  · rw [Nat.min_eq_right (by omega), List.take_length, List.take_of_length_le (by omega)]
theorem cut_from {α : Type} (xs : List α) (a : Nat) : cutD xs (some (a : Int)) none = xs.drop a := by
  unfold cutD
  rw [HT.sIx_nat, HT.sIx_none]
  by_cases h : a ≤ xs.length
  · rw [Nat.min_eq_left h, List.take_of_length_le (by simp)]
  · rw [Nat.min_eq_right (by omega), List.drop_length, List.drop_eq_nil_of_le (by omega)]
    simp
theorem cut_mid {α : Type} (xs : List α) (a b : Nat) (h : a ≤ b) : cutD xs (some (a : Int)) (some (b : Int)) = (xs.drop a).take (b - a) := by
  unfold cutD
  rw [HT.sIx_nat, HT.sIx_nat]
  by_cases h1 : a ≤ xs.length
  · rw [Nat.min_eq_left h1]
    by_cases h2 : b ≤ xs.length
    · rw [Nat.min_eq_left h2]
    · rw [Nat.min_eq_right (by omega), List.take_of_length_le (by simp), List.take_of_length_le (by simp; omega)]
  · rw [Nat.min_eq_right (a := a) (by omega), List.drop_length, List.drop_eq_nil_of_le (by omega)]
    simp
theorem drop_range {n a : Nat} (h : a < n) : (List.range n).drop a = a :: (List.range n).drop (a + 1) := by
  rw [List.drop_eq_getElem_cons (by simpa using h)]
  simp
section
variable {X : Exn → Sto → Prop} {S : Sto} {ρ : Env1} {QS : Fl → Env1 → Sto → Prop} {t : EB} {g : SS}
theorem while_inv (I : Nat → Env1 → Sto → Prop) (step : ∀ m ρ S, I m ρ S → Ok (t ρ S) (fun k S1 => if k = true then OkS (g ρ S1) (fun fl ρ2 S2 => match fl with
      | .nx => ∃ m', m' < m ∧ I m' ρ2 S2
      | .ct => ∃ m', m' < m ∧ I m' ρ2 S2
      | .bk => QS .nx ρ2 S2
      | fl => QS fl ρ2 S2) else QS .nx ρ S1) (fun e S1 => QS (.er e) ρ S1)) : ∀ (n m : Nat) {ρ : Env1} {S : Sto}, m < n → I m ρ S → OkS (whileN t g n ρ S) QS
  | 0, m, _, _, h, _ => absurd h (by omega)
  | n + 1, m, ρ, S, h, hI => by
    rw [while_succ]
    refine (step m ρ S hI).imp (fun k S1 hk => ?_) fun _ _ z => z
    cases k with
    | false => simpa using hk
    | true =>
      simp only [if_true] at hk ⊢
      refine hk.imp fun fl ρ2 S2 z => ?_
      cases fl with
      | nx =>
        obtain ⟨m', h1, h2⟩ := z
        exact while_inv I step n m' (by omega) h2
      | ct =>
        obtain ⟨m', h1, h2⟩ := z
        exact while_inv I step n m' (by omega) h2
      | bk => exact z
      | rt o => exact z
      | er e => exact z
end
/-! a store with two own objects on its end, and others behind -/
def st2 (S : Sto) (a b : D) (J : Sto) : Sto := S ++ a :: b :: J
section
variable {S J : Sto} {a b x : D}
theorem st2_get0 : (st2 S a b J)[S.length]? = some a := by simp [st2]
theorem st2_get1 : (st2 S a b J)[S.length + 1]? = some b := by simp [st2]
theorem st2_set0 : (st2 S a b J).set S.length x = st2 S x b J := by
  unfold st2
  rw [List.set_append_right _ _ (Nat.le_refl _)]
  simp
theorem st2_set1 : (st2 S a b J).set (S.length + 1) x = st2 S a x J := by
  unfold st2
  rw [List.set_append_right _ _ (by omega)]
  simp
theorem st2_app : st2 S a b J ++ [x] = st2 S a b (J ++ [x]) := by simp [st2]
theorem st2_len : (st2 S a b J).length = S.length + 2 + J.length := by simp [st2]; omega
theorem st2_last : (st2 S a b (J ++ [x]))[S.length + 2 + J.length]? = some x := by
  unfold st2
  rw [List.getElem?_append_right (by omega)]
  have e : S.length + 2 + J.length - S.length = J.length + 2 := by omega
  rw [e]
  simp
theorem st2_setlast {y : D} : (st2 S a b (J ++ [x])).set (S.length + 2 + J.length) y = st2 S a b (J ++ [y]) := by
  unfold st2
  rw [List.set_append_right _ _ (by omega)]
  have e : S.length + 2 + J.length - S.length = J.length + 2 := by omega
  rw [e]
  simp
theorem st2_take : (st2 S a b J).take S.length = S := by simp [st2]
theorem st2_new : S ++ [a] ++ [b] = st2 S a b [] := by simp [st2]
end
/-! the first of the least -/
theorem lmin_split : ∀ (ws : List Int), ws ≠ [] → ∃ m u v, lmin ws = some m ∧ ws = u ++ m :: v ∧ (∀ y ∈ u, m < y) ∧ ∀ y ∈ v, m ≤ y
  | [], h => absurd rfl h
  | [x], _ => ⟨x, [], [], rfl, rfl, by simp, by simp⟩
  | x :: y :: r, _ => by
    obtain ⟨m, u, v, h1, h2, h3, h4⟩ := lmin_split (y :: r) (by simp)
    have e : lmin (x :: y :: r) = some (if m < x then m else x) := by
      unfold lmin
      rw [h1]
      rfl
    by_cases c : m < x
    · rw [if_pos c] at e
      refine ⟨m, x :: u, v, e, by rw [h2]; rfl, fun z hz => ?_, h4⟩
      rcases List.mem_cons.mp hz with rfl | hz
      · exact c
      · exact h3 z hz
    · rw [if_neg c] at e
      refine ⟨x, [], y :: r, e, rfl, by simp, fun z hz => ?_⟩
      have := (lmin_ok h1).2 z hz
      omega
theorem find_first {m : Int} : ∀ (u v : List Int), (∀ y ∈ u, m < y) → ((u ++ m :: v).map PyData.int).findIdx? (fun z => PyData.eqv z (.int m)) = some u.length
  | [], v, _ => by simp [List.findIdx?_cons, PyData.eqv]
  | x :: u, v, h => by
    have := h x (by simp)
    have ih := find_first u v fun y hy => h y (by simp [hy])
    rw [List.cons_append, List.map_cons, List.findIdx?_cons, ih]
    have c : PyData.eqv (.int x) (.int m) = false := by simp [PyData.eqv]; omega
    rw [c]
    simp
theorem shaped_ints (ws : List Int) : SeqAt.shaped (.list (ws.map .int)) = true := nice_shaped (nice_list (k := 0) fun d hd => by
  obtain ⟨a, _, rfl⟩ := List.mem_map.mp hd
  exact nice_int) (by decide)
theorem index_first {S : Sto} {o : OV} {u v : List Int} {m : Int} (ho : view S o = some (.list ((u ++ m :: v).map .int))) (h : ∀ y ∈ u, m < y) : indexS S o (.dat (.int m)) = some (.int (u.length : Nat)) := by
  unfold indexS
  rw [ho]
  show (if SeqAt.shaped (.list ((u ++ m :: v).map PyData.int)) = true ∧ SeqAt.shaped (.int m) = true then _ else none) = _
  rw [if_pos ⟨shaped_ints _, rfl⟩, find_first u v h]
  rfl
end Dk
set_option Elab.async false
set_option linter.all false
set_option maxRecDepth 100000
set_option maxHeartbeats 1000000
namespace K19
open PySem PySem.Spec L2 Dk
def pairD (p : Int × Int) : D := .tuple [.int p.1, .int p.2]
def rowD (r : Int × Int × Int × Int) : D := .tuple [.int r.1, .int r.2.1, .int r.2.2.1, .int r.2.2.2]
abbrev Bk := List (Int × Int) × List (Int × Int × Int × Int)
def bookD (b : Bk) : D := .tuple [.tuple (b.1.map pairD), .tuple (b.2.map rowD)]
def walkD (w : List (Int × Int)) : D := .tuple (w.map pairD)
def okDev (p : Int × Int) : Prop := 0 ≤ p.1 ∧ p.1 ≤ 1000000000 ∧ 0 ≤ p.2 ∧ p.2 ≤ 1000000000
def okRow (n : Nat) (r : Int × Int × Int × Int) : Prop := 0 ≤ r.1 ∧ r.1 ≤ (n : Int) - 1 ∧ 0 ≤ r.2.1 ∧ r.2.1 < r.2.2.1 ∧ r.2.2.1 ≤ 1000000000000000000000000000000 ∧ 0 ≤ r.2.2.2 ∧ r.2.2.2 ≤ 1000000000000000000000000000000
structure OkBook (b : Bk) : Prop where
  d1 : 1 ≤ b.1.length
  d2 : b.1.length ≤ 3
  d : ∀ p ∈ b.1, okDev p
  n : b.2.length ≤ 6
  r : ∀ r ∈ b.2, okRow b.1.length r
section
variable {S : Sto} {Q : OV → Sto → Prop} {X : Exn → Sto → Prop}
def limD (b : Bk) (r : Int × Int × Int × Int) : Int × Int := match b.1[r.1.toNat]? with
  | some p => (r.2.2.2 - p.1, r.2.2.2 + p.2)
  | none => (0, 0)
def stepsIn (w : List (Int × Int)) (s g : Int) : Int := ((w.filter fun p => decide (s ≤ p.1 ∧ p.1 < g)).map fun p => p.2).sum
def keptB (b : Bk) (w : List (Int × Int)) : Bool := b.2.all fun r => decide ((limD b r).1 ≤ stepsIn w r.2.1 r.2.2.1 ∧ stepsIn w r.2.1 r.2.2.1 ≤ (limD b r).2)
structure OkWalk (w : List (Int × Int)) : Prop where
  n : w.length ≤ 40
  p : ∀ p ∈ w, 0 ≤ p.1 ∧ p.1 ≤ 1000000000000000000000000000000 ∧ 1 ≤ p.2 ∧ p.2 ≤ 1000000000000000000000000000000
  s : w.Pairwise fun p q => p.1 < q.1
theorem pairUp_map (f : Int × Int → D) : ∀ l : List (Int × Int), pairUp (l.map f) (l.map f).tail = (l.zip l.tail).map fun p => .tuple [f p.1, f p.2]
  | [] => rfl
  | [a] => rfl
  | a :: b :: r => by
    have := pairUp_map f (b :: r)
    simp [pairUp] at this ⊢
    exact this
end

section
variable {S : Sto} {Q : OV → Sto → Prop} {X : Exn → Sto → Prop} {k : Nat} {g n : Int}
theorem flask_t {c salt : Int} (q : ∀ g n, Q (.own S.length) (S ++ [.list [.int g, .int n]])) : Ok (F__law_flask [.dat (.int c), .dat (.int salt)] S) Q X := by
  refine ok_runO rfl ?_
  have sz : 2 ≤ sizeLine := by decide
  by_cases h : (1000000000000000000 : Int) ≤ c
  · simp [g__law_flask, big, h, sz, q]
  · have h' : c < 1000000000000000000 := by omega
    simp [g__law_flask, big, h, h', sz, q]
theorem fmod_b {i m : Int} (h : 0 < m) : 0 ≤ i.fmod m ∧ i.fmod m < m := ⟨Int.fmod_nonneg_of_pos _ h, Int.fmod_lt_of_pos _ h⟩
theorem sip_t {many : Int} (hk : k < S.length) (h1 : 0 < many) (h2 : many < 1073741824) (q : ∀ r g' n', 0 ≤ r → r < many → Q (.dat (.int r)) (fl S k g' n')) : Ok (F__law_sip [.own k, .dat (.int many)] (fl S k g n)) Q X := by
  refine ok_run rfl ?_
  have e0 : ¬ many = 0 := by omega
  have e1 : many.natAbs < 1073741824 := by omega
  have b := fmod_b (i := n * 31019 + 9013) (m := 2147483549) (by decide)
  have b1 : -18446744073709551616 < (n * 31019 + 9013).fmod 2147483549 := by omega
  have b2 : (n * 31019 + 9013).fmod 2147483549 < 18446744073709551616 := by omega
  have tk : ∀ g n : Int, List.take S.length (fl S k g n) = fl S k g n := fun g n => List.take_of_length_le (by simp)
  by_cases hg : 0 < g
  · have hg' : ¬ g ≤ 0 := by omega
    simp [g__law_sip, ixS, fl_get hk, atI, ixN, big, e0, e1, fl_set, hg, hg', tk]
    exact q _ _ _ (fmod_b h1).1 (fmod_b h1).2
  · have hg' : g ≤ 0 := by omega
    simp [g__law_sip, ixS, fl_get hk, atI, ixN, big, e0, e1, fl_set, hg, hg', b1, b2, tk]
    exact q _ _ _ (fmod_b h1).1 (fmod_b h1).2
theorem pick_t {ds : List D} (hk : k < S.length) (h1 : 0 < ds.length) (h2 : (ds.length : Int) < 1073741824) (q : ∀ d ∈ ds, ∀ g n, Q (.dat d) (fl S k g n)) : Ok (F__law_pick [.own k, .dat (.list ds)] (fl S k g n)) Q X := by
  refine ok_run rfl ?_
  simp [g__law_pick]
  refine sip_t hk (by omega) h2 fun r g' n' r0 r1 => ?_
  have e : r.toNat < ds.length := by omega
  refine ⟨ds[r.toNat], ?_, ?_⟩
  · have := atI_nat (l := ds) e
    rw [Int.toNat_of_nonneg r0] at this
    rw [ixS_list, this]
    exact List.getElem?_eq_getElem e
  · rw [fl_take0]
    exact q _ (List.getElem_mem e) _ _
structure Drawn (far wide : Int) (w : List (Int × Int)) : Prop where
  n : w.length ≤ 4
  p : ∀ p ∈ w, 0 ≤ p.1 ∧ p.1 < far ∧ 1 ≤ p.2 ∧ p.2 ≤ wide
  s : w.Pairwise fun p q => p.1 < q.1
theorem stepsIn_app (us : List (Int × Int)) (v : Int × Int) (s e : Int) : stepsIn (us ++ [v]) s e = stepsIn us s e + if s ≤ v.1 ∧ v.1 < e then v.2 else 0 := by
  unfold stepsIn
  rw [List.filter_append, List.map_append, List.sum_append]
  congr 1
  by_cases c : s ≤ v.1 ∧ v.1 < e
  · rw [if_pos c, List.filter_cons_of_pos (by simpa using c)]
    simp
  · rw [if_neg c, List.filter_cons_of_neg (by simpa using c)]
    simp
end
section
variable {S : Sto} {Q : OV → Sto → Prop} {X : Exn → Sto → Prop} {k : Nat} {g n : Int}
structure DrawnBook (most far wide slips : Int) (b : Bk) : Prop where
  d1 : 1 ≤ b.1.length
  d2 : b.1.length ≤ 3
  d : ∀ p ∈ b.1, 0 ≤ p.1 ∧ p.1 ≤ slips ∧ 0 ≤ p.2 ∧ p.2 ≤ slips
  n : (b.2.length : Int) ≤ most
  r : ∀ r ∈ b.2, 0 ≤ r.1 ∧ r.1 ≤ (b.1.length : Int) - 1 ∧ 0 ≤ r.2.1 ∧ r.2.1 < r.2.2.1 ∧ r.2.2.1 ≤ far ∧ 0 ≤ r.2.2.2 ∧ r.2.2.2 ≤ 4 * wide + slips + 2
theorem sum_b {M : Int} : ∀ l : List Int, (∀ x ∈ l, 0 ≤ x ∧ x ≤ M) → 0 ≤ l.sum ∧ l.sum ≤ M * l.length
  | [], _ => by simp
  | x :: r, h => by
    obtain ⟨h1, h2⟩ := h x (by simp)
    obtain ⟨h3, h4⟩ := sum_b r fun y hy => h y (by simp [hy])
    simp only [List.sum_cons, List.length_cons]
    rw [Int.natCast_add, Int.mul_add]
    simp
    omega
theorem steps_b {far wide s e : Int} {w : List (Int × Int)} (hw : 0 ≤ wide) (h : Drawn far wide w) : 0 ≤ stepsIn w s e ∧ stepsIn w s e ≤ 4 * wide := by
  unfold stepsIn
  have := sum_b (M := wide) ((w.filter fun p => decide (s ≤ p.1 ∧ p.1 < e)).map fun p => p.2) (fun x hx => by
    obtain ⟨p, hp, rfl⟩ := List.mem_map.mp hx
    have := h.p p (List.mem_filter.mp hp).1
    exact ⟨by omega, this.2.2.2⟩)
  have l1 : (w.filter fun p => decide (s ≤ p.1 ∧ p.1 < e)).length ≤ w.length := List.length_filter_le ..
  have l2 := h.n
  refine ⟨this.1, Int.le_trans this.2 ?_⟩
  rw [List.length_map, Int.mul_comm]
  exact Int.mul_le_mul_of_nonneg_right (by omega) hw
end

end K19
set_option Elab.async false
set_option linter.all false
set_option maxRecDepth 100000
set_option maxHeartbeats 1000000
namespace K19
open PySem PySem.Spec L2 Dk
theorem drawn_ok {most far wide slips : Int} {b : Bk} (h : DrawnBook most far wide slips b) (h1 : most ≤ 6) (h2 : far ≤ 1000000000) (h3 : 4 * wide + slips + 2 ≤ 1000000000) (h4 : slips ≤ 1000000000) : OkBook b := ⟨h.d1, h.d2, fun p hp => by
  obtain ⟨a, c, d, e⟩ := h.d p hp
  exact ⟨a, by omega, d, by omega⟩, by have := h.n; omega, fun r hr => by
  obtain ⟨a, c, d, e, f, g, i⟩ := h.r r hr
  exact ⟨a, c, d, e, by omega, g, by omega⟩⟩
theorem ok_of (b : Bk) (h : (decide (1 ≤ b.1.length) && decide (b.1.length ≤ 3) && (b.1.all fun p => decide (0 ≤ p.1 ∧ p.1 ≤ 1000000000 ∧ 0 ≤ p.2 ∧ p.2 ≤ 1000000000)) && decide (b.2.length ≤ 6) && (b.2.all fun r => decide (0 ≤ r.1 ∧ r.1 ≤ (b.1.length : Int) - 1 ∧ 0 ≤ r.2.1 ∧ r.2.1 < r.2.2.1 ∧ r.2.2.1 ≤ 1000000000000000000000000000000 ∧ 0 ≤ r.2.2.2 ∧ r.2.2.2 ≤ 1000000000000000000000000000000))) = true) : OkBook b := by
  simp only [Bool.and_eq_true, decide_eq_true_eq, List.all_eq_true] at h
  obtain ⟨⟨⟨⟨h1, h2⟩, h3⟩, h4⟩, h5⟩ := h
  exact ⟨h1, h2, h3, h4, h5⟩

def nxI (P : Env1 → Sto → Prop) : Fl → Env1 → Sto → Prop
  | .nx, ρ, S => P ρ S
  | _, _, _ => False
@[simp] theorem nxI_nx {P : Env1 → Sto → Prop} {ρ : Env1} {S : Sto} : nxI P .nx ρ S = P ρ S := rfl
theorem okS_cut {r : Option (Fl × Env1 × Sto)} {QS : Fl → Env1 → Sto → Prop} (P : Env1 → Sto → Prop) (h : OkS r (nxI P)) (k : ∀ ρ S, P ρ S → QS .nx ρ S) : OkS r QS := by
  unfold OkS at *
  cases r with
  | none => exact h
  | some z =>
    obtain ⟨fl, ρ, S⟩ := z
    cases fl <;> first | exact k _ _ h | exact absurd h id

/-! k19: errors as values -/
def namesL : List Str := ["InvalidBook", "InvalidReading", "InvalidStretch", "InvalidWalk", "InvalidClaim", "InvalidChain", "InvalidRule", "InvalidMenu", "InvalidNumber", "InvalidIndex", "Impossible", "Unlike", "NothingToUndo", "TooMany", "InvalidText", "Failed"]
def allN : List Str := namesL ++ [("WalkError" : Str)]
def fieldsL : List Str := ["limit", "line", "place"]
def nameAt (i : Nat) : Str := namesL.getD i ""
def errAt (t : Str) (r : Int) (i : Nat) : D := if i < 13 then excS (nameAt i) t else excF (nameAt i) (fieldsL.getD (i - 13) "") r
def errsL (t : Str) (r : Int) : List D := (List.range 16).map (errAt t r)
theorem excN_at' {t : Str} {r : Int} {i : Nat} : excN (errAt t r i) = some (nameAt i) := by
  unfold errAt
  split <;> rfl
def isL (x : Str) : D := .list (namesL.map fun y => .bool (decide (x = y)))
theorem lkB_of {tab : List (Str × Bool)} {x : Str} {b : Bool} (h : tab.lookup x = some b) : lkB tab x = some (.bool b) := by
  unfold lkB
  rw [h]
  rfl
theorem lk : ∀ x ∈ allN, lkB tab_InvalidBook x = some (.bool (decide (x = "InvalidBook"))) ∧ lkB tab_InvalidReading x = some (.bool (decide (x = "InvalidReading"))) ∧ lkB tab_InvalidStretch x = some (.bool (decide (x = "InvalidStretch"))) ∧ lkB tab_InvalidWalk x = some (.bool (decide (x = "InvalidWalk"))) ∧ lkB tab_InvalidClaim x = some (.bool (decide (x = "InvalidClaim"))) ∧ lkB tab_InvalidChain x = some (.bool (decide (x = "InvalidChain"))) ∧ lkB tab_InvalidRule x = some (.bool (decide (x = "InvalidRule"))) ∧ lkB tab_InvalidMenu x = some (.bool (decide (x = "InvalidMenu"))) ∧ lkB tab_InvalidNumber x = some (.bool (decide (x = "InvalidNumber"))) ∧ lkB tab_InvalidIndex x = some (.bool (decide (x = "InvalidIndex"))) ∧ lkB tab_Impossible x = some (.bool (decide (x = "Impossible"))) ∧ lkB tab_Unlike x = some (.bool (decide (x = "Unlike"))) ∧ lkB tab_NothingToUndo x = some (.bool (decide (x = "NothingToUndo"))) ∧ lkB tab_TooMany x = some (.bool (decide (x = "TooMany"))) ∧ lkB tab_InvalidText x = some (.bool (decide (x = "InvalidText"))) ∧ lkB tab_Failed x = some (.bool (decide (x = "Failed"))) := fun x hx => ⟨lkB_of ((by decide +kernel : ∀ x ∈ allN, tab_InvalidBook.lookup x = some (decide (x = "InvalidBook"))) x hx), lkB_of ((by decide +kernel : ∀ x ∈ allN, tab_InvalidReading.lookup x = some (decide (x = "InvalidReading"))) x hx), lkB_of ((by decide +kernel : ∀ x ∈ allN, tab_InvalidStretch.lookup x = some (decide (x = "InvalidStretch"))) x hx), lkB_of ((by decide +kernel : ∀ x ∈ allN, tab_InvalidWalk.lookup x = some (decide (x = "InvalidWalk"))) x hx), lkB_of ((by decide +kernel : ∀ x ∈ allN, tab_InvalidClaim.lookup x = some (decide (x = "InvalidClaim"))) x hx), lkB_of ((by decide +kernel : ∀ x ∈ allN, tab_InvalidChain.lookup x = some (decide (x = "InvalidChain"))) x hx), lkB_of ((by decide +kernel : ∀ x ∈ allN, tab_InvalidRule.lookup x = some (decide (x = "InvalidRule"))) x hx), lkB_of ((by decide +kernel : ∀ x ∈ allN, tab_InvalidMenu.lookup x = some (decide (x = "InvalidMenu"))) x hx), lkB_of ((by decide +kernel : ∀ x ∈ allN, tab_InvalidNumber.lookup x = some (decide (x = "InvalidNumber"))) x hx), lkB_of ((by decide +kernel : ∀ x ∈ allN, tab_InvalidIndex.lookup x = some (decide (x = "InvalidIndex"))) x hx), lkB_of ((by decide +kernel : ∀ x ∈ allN, tab_Impossible.lookup x = some (decide (x = "Impossible"))) x hx), lkB_of ((by decide +kernel : ∀ x ∈ allN, tab_Unlike.lookup x = some (decide (x = "Unlike"))) x hx), lkB_of ((by decide +kernel : ∀ x ∈ allN, tab_NothingToUndo.lookup x = some (decide (x = "NothingToUndo"))) x hx), lkB_of ((by decide +kernel : ∀ x ∈ allN, tab_TooMany.lookup x = some (decide (x = "TooMany"))) x hx), lkB_of ((by decide +kernel : ∀ x ∈ allN, tab_InvalidText.lookup x = some (decide (x = "InvalidText"))) x hx), lkB_of ((by decide +kernel : ∀ x ∈ allN, tab_Failed.lookup x = some (decide (x = "Failed"))) x hx)⟩
theorem lkW : ∀ x ∈ allN, lkB tab_WalkError x = some (.bool true) ∧ lkB tabB_ValueError x = some (.bool true) := fun x hx => ⟨lkB_of ((by decide +kernel : ∀ x ∈ allN, tab_WalkError.lookup x = some true) x hx), lkB_of ((by decide +kernel : ∀ x ∈ allN, tabB_ValueError.lookup x = some true) x hx)⟩
section
variable {S : Sto} {Q : OV → Sto → Prop} {X : Exn → Sto → Prop}
theorem last19 (T : Sto) (x : D) : (T ++ [x])[T.length]? = some x := by simp
theorem cat19 {T : Sto} {xs ys : List D} (h : xs.length + ys.length ≤ 1000) : catS (T ++ [.list xs]) (.own T.length) (.dat (.list ys)) = some (xs ++ ys) := by
  unfold catS
  rw [view_own, last19, view_dat]
  exact if_pos (by unfold sizeLine; omega)
theorem seq_cut {a b : SS} {ρ : Env1} {S : Sto} {QS : Fl → Env1 → Sto → Prop} (I : Env1 → Sto → Prop) (h1 : OkS (a ρ S) (fun fl ρ1 S1 => fl = .nx ∧ I ρ1 S1)) (h2 : ∀ ρ1 S1, I ρ1 S1 → OkS (b ρ1 S1) QS) : OkS (sSeq a b ρ S) QS := by
  rw [ok_sSeq]
  refine h1.imp fun fl ρ1 S1 h => ?_
  obtain ⟨rfl, h⟩ := h
  exact h2 _ _ h
theorem add19 {T : Sto} {xs ys : List D} (h : xs.length + ys.length ≤ 1000) : addS (T ++ [.list xs]) (.own T.length) (.dat (.list ys)) = some (.list (xs ++ ys)) := by
  unfold addS
  rw [view_own, last19, view_dat]
  exact if_pos (by unfold sizeLine; omega)
def J19 (S : Sto) (d : D) (l : List D) (ρ : Env1) (S2 : Sto) : Prop := ∃ U, U.take S.length = S ∧ S.length ≤ U.length ∧ S2 = U ++ [PyData.list l] ∧ ρ = [some (.dat d), some (.own U.length)]
theorem J19_more {S U : Sto} {d x : D} {l : List D} (h1 : U.take S.length = S) (h2 : S.length ≤ U.length) : J19 S d l [some (.dat d), some (.own (U.length + 1))] (U ++ [x, .list l]) := ⟨U ++ [x], by rw [List.take_append_of_le_length h2]; exact h1, by simp; omega, by simp, by simp⟩
theorem which_t {d : D} {x : Str} (hd : excN d = some x) (hx : x ∈ allN) (q : Q (.dat (isL x)) S) : Ok (F__law_which [.dat d] S) Q X := by
  refine ok_run (n := 1) (m := 2) (g := g__law_which) rfl ?_
  obtain ⟨l1, l2, l3, l4, l5, l6, l7, l8, l9, l10, l11, l12, l13, l14, l15, l16⟩ := lk x hx
  have q2 : Q (.dat (.list [.bool (decide (x = ("InvalidBook" : Str))), .bool (decide (x = ("InvalidReading" : Str))), .bool (decide (x = ("InvalidStretch" : Str))), .bool (decide (x = ("InvalidWalk" : Str))), .bool (decide (x = ("InvalidClaim" : Str))), .bool (decide (x = ("InvalidChain" : Str))), .bool (decide (x = ("InvalidRule" : Str))), .bool (decide (x = ("InvalidMenu" : Str))), .bool (decide (x = ("InvalidNumber" : Str))), .bool (decide (x = ("InvalidIndex" : Str))), .bool (decide (x = ("Impossible" : Str))), .bool (decide (x = ("Unlike" : Str))), .bool (decide (x = ("NothingToUndo" : Str))), .bool (decide (x = ("TooMany" : Str))), .bool (decide (x = ("InvalidText" : Str))), .bool (decide (x = ("Failed" : Str)))])) S := q
  clear q hx
  generalize decide (x = ("InvalidBook" : Str)) = b1 at l1 q2
  generalize decide (x = ("InvalidReading" : Str)) = b2 at l2 q2
  generalize decide (x = ("InvalidStretch" : Str)) = b3 at l3 q2
  generalize decide (x = ("InvalidWalk" : Str)) = b4 at l4 q2
  generalize decide (x = ("InvalidClaim" : Str)) = b5 at l5 q2
  generalize decide (x = ("InvalidChain" : Str)) = b6 at l6 q2
  generalize decide (x = ("InvalidRule" : Str)) = b7 at l7 q2
  generalize decide (x = ("InvalidMenu" : Str)) = b8 at l8 q2
  generalize decide (x = ("InvalidNumber" : Str)) = b9 at l9 q2
  generalize decide (x = ("InvalidIndex" : Str)) = b10 at l10 q2
  generalize decide (x = ("Impossible" : Str)) = b11 at l11 q2
  generalize decide (x = ("Unlike" : Str)) = b12 at l12 q2
  generalize decide (x = ("NothingToUndo" : Str)) = b13 at l13 q2
  generalize decide (x = ("TooMany" : Str)) = b14 at l14 q2
  generalize decide (x = ("InvalidText" : Str)) = b15 at l15 q2
  generalize decide (x = ("Failed" : Str)) = b16 at l16 q2
  unfold g__law_which
  refine seq_cut (J19 S d [.bool b1, .bool b2, .bool b3]) ?_ fun ρ S2 hI => ?_
  · simp [hd, l1, l2, l3]
    exact ⟨by decide, S, by simp, Nat.le_refl _, rfl, rfl⟩
  obtain ⟨U, u1, u2, rfl, rfl⟩ := hI
  refine seq_cut (J19 S d [.bool b1, .bool b2, .bool b3, .bool b4, .bool b5]) ?_ fun ρ S2 hI => ?_
  · simp [hd, l4, l5]
    exact ⟨by decide, _, cat19 (T := U) (by simp), J19_more u1 u2⟩
  obtain ⟨U, u1, u2, rfl, rfl⟩ := hI
  refine seq_cut (J19 S d [.bool b1, .bool b2, .bool b3, .bool b4, .bool b5, .bool b6, .bool b7]) ?_ fun ρ S2 hI => ?_
  · simp [hd, l6, l7]
    exact ⟨by decide, _, cat19 (T := U) (by simp), J19_more u1 u2⟩
  obtain ⟨U, u1, u2, rfl, rfl⟩ := hI
  refine seq_cut (J19 S d [.bool b1, .bool b2, .bool b3, .bool b4, .bool b5, .bool b6, .bool b7, .bool b8, .bool b9]) ?_ fun ρ S2 hI => ?_
  · simp [hd, l8, l9]
    exact ⟨by decide, _, cat19 (T := U) (by simp), J19_more u1 u2⟩
  obtain ⟨U, u1, u2, rfl, rfl⟩ := hI
  refine seq_cut (J19 S d [.bool b1, .bool b2, .bool b3, .bool b4, .bool b5, .bool b6, .bool b7, .bool b8, .bool b9, .bool b10, .bool b11, .bool b12]) ?_ fun ρ S2 hI => ?_
  · simp [hd, l10, l11, l12]
    exact ⟨by decide, _, cat19 (T := U) (by simp), J19_more u1 u2⟩
  obtain ⟨U, u1, u2, rfl, rfl⟩ := hI
  refine seq_cut (J19 S d [.bool b1, .bool b2, .bool b3, .bool b4, .bool b5, .bool b6, .bool b7, .bool b8, .bool b9, .bool b10, .bool b11, .bool b12, .bool b13]) ?_ fun ρ S2 hI => ?_
  · simp [hd, l13, viewL_own (last19 U _)]
    exact ⟨by decide, U, u1, u2, rfl, rfl⟩
  obtain ⟨U, u1, u2, rfl, rfl⟩ := hI
  simp [hd, l14, l15, l16]
  exact ⟨by decide, _, add19 (by simp), by rw [List.take_append_of_le_length u2, u1]; exact q2⟩
end

end K19
set_option Elab.async false
set_option linter.all false
set_option maxRecDepth 100000
set_option maxHeartbeats 1000000
namespace K19
open PySem PySem.Spec L2 Dk
/-! k19: the law -/
def ce19 (ns : List Int) (ds : List D) (ρ : Env1) (_ : Sto) : Prop := ∃ (cs : List Int) (x1 x2 x3 x4 x5 x6 : Option OV), ds = cs.map .int ∧ ρ = [some (.dat (.list (ns.map .int))), x1, x2, x3, x4, x5, x6, none]
def tu19 (ns : List Int) (x1 x2 : Option OV) (t : Str) (r : Int) (U : Sto) (ds : List D) (ρ : Env1) (S' : Sto) : Prop := ∃ x6, S' = U ∧ (∀ d ∈ ds, ∃ i : Nat, i < 16 ∧ d = .int i) ∧
  ρ = [some (.dat (.list (ns.map .int))), x1, x2, some (.dat (.str t)), some (.dat (.int r)), some (.dat (.list (errsL t r))), x6, none]
theorem errs_get {t : Str} {r : Int} {i : Nat} (h : i < 16) : atI (errsL t r) (i : Int) = some (errAt t r i) := by
  rw [Dk.atI_nat (by unfold errsL; simpa using h)]
  unfold errsL
  rw [List.getElem?_map, List.getElem?_range h]
  rfl
theorem name_in : ∀ i, i < 16 → nameAt i ∈ allN := by decide +kernel
theorem name_str : ∀ i, i < 13 → nameAt i ∈ strL := by decide +kernel
theorem which_eq : ∀ i, i < 16 → namesL.map (fun y => decide (nameAt i = y)) = (List.range 16).map fun p => decide (p = i) := by decide +kernel
def boolsD (l : List Bool) : D := .list (l.map .bool)
theorem bools_shaped (l : List Bool) : SeqAt.shaped (boolsD l) = true := by
  have key : PyData.canLayAll0 (l.map .bool) = true ∧ PyData.depthAll (l.map .bool) = 0 := by
    induction l with
    | nil => exact ⟨rfl, rfl⟩
    | cons a r ih => exact ⟨by simp [PyData.canLayAll0, PyData.canLay0, ih.1], by simp [PyData.depthAll, PyData.depth, ih.2]⟩
  simp [SeqAt.shaped, boolsD, PyData.canLay0, PyData.depth, key.1, key.2]
theorem law_plain : ∀ ns : List Int, ns.length ≤ 63 → F_law [.dat (.list (ns.map .int))] [] = some (.inl (.dat (.bool true)), []) := by
  intro ns hn
  refine Ok.eq ?_
  refine ok_run (n := 1) (m := 8) (g := g_law) rfl ?_
  unfold g_law
  rw [ok_sSeq, ok_sFor]
  simp
  refine ⟨by decide, _, ⟨by simp [sizeLine]; omega, rfl⟩, _, rfl, .inl ⟨_, rfl, ?_⟩⟩
  have e0 : cutD (PyData.int 0 :: ns.map PyData.int) none (some 6) = (0 :: ns.take 5).map PyData.int := by
    rw [show (6 : Int) = ((6 : Nat) : Int) from rfl]
    unfold cutD
    rw [HT.sIx_none, HT.sIx_nat, List.drop_zero, Nat.sub_zero, ← List.take_eq_take_min]
    simp [List.map_take]
  rw [e0]
  clear e0
  refine okS_cut (ce19 ns []) ?_ fun ρ S' hI => ?_
  · refine for_inv (I := ce19 ns) (fun d r ρ S' hI => ?_) (fun ρ S' hI => ⟨by simp [srcOf], hI⟩) _ ⟨_, none, none, none, none, none, none, rfl, rfl⟩
    obtain ⟨cs, a1, a2, a3, a4, a5, a6, e, rfl⟩ := hI
    cases cs with
    | nil => cases e
    | cons c cs =>
      cases e
      refine ⟨by simp [srcOf], _, rfl, ?_⟩
      simp only [ok_sSeq, ok_sAsg, ok_fCall, ok_aCons, ok_aNil, ok_fVar, ok_fC]
      refine ⟨_, rfl, ?_⟩
      refine flask_t fun g n => ?_
      rw [fl_new]
      have hk : S'.length < (S' ++ [(PyData.none : D)]).length := by simp
      generalize S' ++ [(PyData.none : D)] = U at hk ⊢
      generalize S'.length = k at hk ⊢
      refine ⟨_, rfl, ?_⟩
      rw [thenS_nx]
      refine seq_cut (fun ρ S2 => ∃ (t : Str) (r g2 n2 : Int), S2 = fl U k g2 n2 ∧ ρ = [some (.dat (.list (ns.map .int))), some (.dat (.int c)), some (.own k), some (.dat (.str t)), some (.dat (.int r)), a5, a6, none]) ?_ fun ρ S2 hI => ?_
      · simp
        refine ⟨by decide, ?_⟩
        refine pick_t hk (by decide) (by decide) fun t ht g3 n3 => ?_
        refine sip_t hk (by decide) (by decide) fun r g4 n4 r0 r1 => ?_
        have ht2 : ∃ w, t = .str w := by
          simp at ht
          rcases ht with rfl | rfl | rfl <;> exact ⟨_, rfl⟩
        obtain ⟨w, rfl⟩ := ht2
        exact ⟨_, _, ⟨rfl, rfl⟩, ⟨_, _, rfl⟩, ⟨_, rfl⟩, _, rfl⟩
      obtain ⟨t, r, g2, n2, rfl, rfl⟩ := hI
      generalize fl U k g2 n2 = V
      refine seq_cut (fun ρ S2 => S2 = V ∧ ρ = [some (.dat (.list (ns.map .int))), some (.dat (.int c)), some (.own k), some (.dat (.str t)), some (.dat (.int r)), some (.dat (.list ((errsL t r).take 4))), a6, none]) ?_ fun ρ S2 hI => ?_
      · simp
        exact ⟨by decide, rfl⟩
      obtain ⟨rfl, rfl⟩ := hI
      refine seq_cut (fun ρ S3 => S3 = S2 ∧ ρ = [some (.dat (.list (ns.map .int))), some (.dat (.int c)), some (.own k), some (.dat (.str t)), some (.dat (.int r)), some (.dat (.list ((errsL t r).take 8))), a6, none]) ?_ fun ρ S3 hI => ?_
      · simp
        exact ⟨by decide, by rw [show (errsL t r).length = 16 from rfl]; decide, rfl⟩
      obtain ⟨rfl, rfl⟩ := hI
      refine seq_cut (fun ρ S2 => S2 = S3 ∧ ρ = [some (.dat (.list (ns.map .int))), some (.dat (.int c)), some (.own k), some (.dat (.str t)), some (.dat (.int r)), some (.dat (.list ((errsL t r).take 12))), a6, none]) ?_ fun ρ S2 hI => ?_
      · simp
        exact ⟨by decide, by rw [show (errsL t r).length = 16 from rfl]; decide, rfl⟩
      obtain ⟨rfl, rfl⟩ := hI
      refine seq_cut (fun ρ S3 => S3 = S2 ∧ ρ = [some (.dat (.list (ns.map .int))), some (.dat (.int c)), some (.own k), some (.dat (.str t)), some (.dat (.int r)), some (.dat (.list (errsL t r))), a6, none]) ?_ fun ρ S3 hI => ?_
      · simp
        exact ⟨by decide, by rw [show (errsL t r).length = 16 from rfl]; decide, rfl⟩
      obtain ⟨rfl, rfl⟩ := hI
      refine seq_cut (tu19 ns (some (.dat (.int c))) (some (.own k)) t r S3 []) ?_ fun ρ S2 hI => ?_
      · rw [ok_sFor]
        simp
        refine ⟨by decide, by decide, ?_⟩
        have hall : ∀ d ∈ (List.range 16).map fun i : Nat => PyData.int i, ∃ i : Nat, i < 16 ∧ d = .int i := fun d hd => by
          obtain ⟨i, hi, rfl⟩ := List.mem_map.mp hd
          exact ⟨i, List.mem_range.mp hi, rfl⟩
        refine for_inv (I := tu19 ns (some (.dat (.int c))) (some (.own k)) t r S3) (fun d rr ρ S2 hI => ?_) (fun ρ S2 hI => ⟨by simp, rfl, hI⟩) _ ⟨_, rfl, hall, rfl⟩
        obtain ⟨x6, rfl, hds, rfl⟩ := hI
        obtain ⟨i, hi, rfl⟩ := hds d (by simp)
        have nx := name_in i hi
        have eg := errs_get (t := t) (r := r) hi
        refine ⟨by simp, _, rfl, ?_⟩
        refine seq_cut (fun ρ S3 => S3 = S2 ∧ ρ = [some (.dat (.list (ns.map .int))), some (.dat (.int c)), some (.own k), some (.dat (.str t)), some (.dat (.int r)), some (.dat (.list (errsL t r))), some (.dat (.int i)), none]) ?_ fun ρ S3 hI => ?_
        · simp
          refine ⟨_, eg, which_t excN_at' nx ?_⟩
          refine ⟨by decide, by decide, ?_⟩
          refine lc_mapT (fun p : Nat => PyData.int p) (List.range 16) (φ := fun p => .bool (decide (p = i))) (by decide) (by simp) (fun p hp T => ⟨_, rfl, ?_⟩) ?_
          · simp
            omega
          · have e : isL (nameAt i) = PyData.list ((List.range 16).map fun p => .bool (decide (p = i))) := by
              show PyData.list (namesL.map ((PyData.bool) ∘ fun y => decide (nameAt i = y))) = _
              rw [← List.map_map, which_eq i hi, List.map_map]
              rfl
            rw [e]
            have sh : SeqAt.shaped (PyData.list ((List.range 16).map fun p => .bool (decide (p = i)))) = true := by
              have := bools_shaped ((List.range 16).map fun p => decide (p = i))
              unfold boolsD at this
              rw [List.map_map] at this
              exact this
            exact ⟨.bool false, by rw [neS_dat, eqD_refl sh]; rfl, rfl, rfl⟩
        · obtain ⟨rfl, rfl⟩ := hI
          obtain ⟨w1, w2⟩ := lkW (nameAt i) nx
          refine seq_cut (fun ρ S4 => S4 = S3 ∧ ρ = [some (.dat (.list (ns.map .int))), some (.dat (.int c)), some (.own k), some (.dat (.str t)), some (.dat (.int r)), some (.dat (.list (errsL t r))), some (.dat (.int i)), none]) ?_ fun ρ S4 hI => ?_
          · simp [eg, excN_at', w1, w2]
          · obtain ⟨rfl, rfl⟩ := hI
            simp [eg]
            have fin : tu19 ns (some (.dat (.int c))) (some (.own k)) t r S4 rr [some (.dat (.list (ns.map .int))), some (.dat (.int c)), some (.own k), some (.dat (.str t)), some (.dat (.int r)), some (.dat (.list (errsL t r))), some (.dat (.int i)), none] S4 := ⟨_, rfl, fun d hd => hds d (by simp [hd]), rfl⟩
            by_cases h13 : i < 13
            · have e : errAt t r i = excS (nameAt i) t := by unfold errAt; rw [if_pos h13]
              exact .inr ⟨by omega, nameAt i, t, e, name_str i h13, rfl, fin⟩
            · exact .inl ⟨by omega, fin⟩
      obtain ⟨x6, rfl, _, rfl⟩ := hI
      simp
      refine ⟨_, errs_get (i := 13) (by decide), r, rfl, _, errs_get (i := 14) (by decide), r, rfl, _, errs_get (i := 15) (by decide), r, rfl, by decide, by decide, by decide, .bool false, .inr ⟨?_, rfl⟩, .inl ⟨rfl, ?_⟩⟩
      · exact eqD_refl (by simp [SeqAt.shaped, PyData.canLay0, PyData.canLayAll0, PyData.depth, PyData.depthAll])
      · refine which_t (x := "WalkError") rfl (by decide +kernel) ?_
        refine ⟨by decide, by decide, ?_⟩
        have e : isL "WalkError" = boolsD (List.replicate 16 false) := by
          show PyData.list (namesL.map ((PyData.bool) ∘ fun y => decide (("WalkError" : Str) = y))) = _
          rw [← List.map_map, show namesL.map (fun y => decide (("WalkError" : Str) = y)) = List.replicate 16 false from by decide +kernel]
          rfl
        rw [e]
        refine ⟨.bool false, ?_, .inl ⟨rfl, cs, _, _, _, _, _, _, rfl, rfl⟩⟩
        show neS _ (OV.dat (boolsD (List.replicate 16 false))) (OV.dat (boolsD (List.replicate 16 false))) = _
        rw [neS_dat, eqD_refl (bools_shaped _)]
        rfl
  · obtain ⟨cs, a1, a2, a3, a4, a5, a6, e, rfl⟩ := hI
    simp

end K19
open PySem PySem.W PyProof.Rows
set_option maxRecDepth 100000 in
set_option maxHeartbeats 0 in
theorem PySem.Challenge.cw_walkcounts_k19_errors_and_their_classes_holds : PySem.Challenge.rw_walkcounts_k19_errors_and_their_classes.Holds := by
  w_on; o_law; k_head; (case hw => w_witness2)
  k_fill
  refine Dk.walk_ofL (l := PySem.Challenge.rw_walkcounts_k19_errors_and_their_classes) (n := 63) (k := 3) (x := "_law_script") (C := Dk.cOf) (F := K19.F_law) rfl (by decide) rfl ⟨rfl, by decide, by decide⟩ [] (fun w h Y => ⟨PySem.W.kIn_of Y, fun _ z => by cases z⟩) ?T ?F K19.law_plain
  · intro w
    kernel_rfl
  intro w mg fa h KX G XP hmg
  exact K19.law_ok KX G (by show He.obsE _ _ _ = He.valE _; kernel_rfl) (by kernel_rfl) (by kernel_rfl) (by kernel_rfl) (by kernel_rfl) (by kernel_rfl) (by kernel_rfl) (by kernel_rfl) (by kernel_rfl) (by kernel_rfl) (by kernel_rfl) (by kernel_rfl) (by kernel_rfl) (by kernel_rfl) (by kernel_rfl) (by kernel_rfl) (by kernel_rfl) (by kernel_rfl) (by kernel_rfl) (by kernel_rfl) (by kernel_rfl) (by kernel_rfl) (by kernel_rfl) (by kernel_rfl) (by kernel_rfl) (by kernel_rfl) (by kernel_rfl) (by kernel_rfl) (by kernel_rfl) (by kernel_rfl) (by kernel_rfl) (by kernel_rfl) (by kernel_rfl) (by kernel_rfl) (by kernel_rfl) (by kernel_rfl) (by kernel_rfl) (by kernel_rfl) (by kernel_rfl) (by kernel_rfl) (by kernel_rfl) (by kernel_rfl) (by kernel_rfl) (by kernel_rfl) (by kernel_rfl) hmg

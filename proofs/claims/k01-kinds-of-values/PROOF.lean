import PyProof.Rows.All
import Wide.All
import OpenK.AllK
import Wide.FinOn
import HandS.ForMost
import HandS.ForExc
import HandS.HeadHook2
import HandS.IsInst
import HandS.Flow
import HandS.TupAny
import HandS.Wide
import HandS.Style
import HandS.Deep
import HandS.WordsDict
import HandS.TupLen
import HandS.RaiseMore
import HandS.Zip
import HandS.CallSlots
import HandS.Defaults
import HandS.Small
import HandS.Text
import HandS.Dict
import HandS.Star
import HandS.MakeKwOnly
import HandS.HeadEnd
import HandS.Head2
import PySem.Challenge.RW_pastsayings_k01_kinds_of_values
set_option Elab.async false
set_option linter.all false
set_option maxRecDepth 100000
set_option autoImplicit false
namespace Dl
open PySem PySem.Spec PyProof.Rows L2

/-! ### the classes of the program, by numbers -/
def clsNames : List Str := (["MachineError", "BadValue", "BadNumber", "BadMachine", "TooMany", "BadKit", "Misfit", "Nothing", "BadPaper", "NoName", "BadWord", "BadText", "Paper", "Denial", "Machine", "Row", "Rounds", "Turn", "Knot", "Walk", "Stage", "Lots", "Laid", "Laying", "Ladder", "Covered", "Bare", "Said", "Look", "Telling", "Knit", "Beside", "Alike", "Stepping", "Curve", "Apart", "Wired", "Tangled", "Sides", "Recent", "Held", "Stances", "Series", "Needs", "Differ", "Agree", "Vital", "Trimmed", "Spare", "Within", "Turned", "Torn", "Lean", "Heard", "Causes", "Session", "Scan", "Reader", "Page", "Lasts", "Taking", "Joined", "Desk"] : List String).map Str.ofString
/-- where the class stands -/
def ca (K : PySem.W.Frag) (n : Nat) : Addr := He.ga K (clsNames.getD n Str.empty)

/-! ### data -/
inductive D where
  | non | bl (b : Bool) | int (i : Int) | str (x : Str)
  | lst (ds : List D) | tup (ds : List D) | kt (ds : List D) | kl (ds : List D)
  | dk (kvs : List (Key × D)) | dt (kvs : List (List Key × D)) | ins (C : Nat) (fs : List (Str × D))

/-- a tuple whose object is known: it has no dict -/
def KT (K : PySem.W.Frag) (F : Hp) (a : Addr) (vs : List V) : Prop :=
  (∃ o, F a = some (.frz o (.tup vs)) ∧ o.cls = .type "tuple" ∧ o.dict = none) ∨
    ∃ (o : Obj) (its : Array Value) (n : Nat), K.lookup a = some o ∧ o.cls = .type "tuple" ∧ o.dict = none ∧ o.data = .seq its n ∧ its.size ≤ sizeLine ∧ Vals vs its.toList
theorem KT.sqT {K : PySem.W.Frag} {F : Hp} {a : Addr} {vs : List V} (h : KT K F a vs) : SqT K F a vs := by
  rcases h with ⟨o, h, _⟩ | ⟨o, its, n, h1, h2, _, h3, h4, h5⟩
  · exact .inl (.inr ⟨o, h⟩)
  · exact .inr ⟨o, its, n, h1, h2, h3, h4, h5⟩
theorem KT.mono {K : PySem.W.Frag} {F F' : Hp} {a : Addr} {vs : List V} (e : Same F F') (h : KT K F a vs) : KT K F' a vs := by
  rcases h with ⟨o, h, h2⟩ | h
  · exact .inl ⟨o, e _ _ h, h2⟩
  · exact .inr h
theorem sqT_mono {K : PySem.W.Frag} {H H' : Hp} {a : Addr} {xs : List V} (e : Same H H') (h : SqT K H a xs) : SqT K H' a xs := by
  rcases h with (h | ⟨o, h⟩) | h
  · exact .inl (.inl (e _ _ h))
  · exact .inl (.inr ⟨o, e _ _ h⟩)
  · exact .inr h
theorem sqL_mono {K : PySem.W.Frag} {H H' : Hp} {a : Addr} {xs : List V} (e : Same H H') (h : SqL K H a xs) : SqL K H' a xs := by
  rcases h with (h | ⟨o, h⟩) | h
  · exact .inl (.inl (e _ _ h))
  · exact .inl (.inr ⟨o, e _ _ h⟩)
  · exact .inr h
mutual
def Rep (K : PySem.W.Frag) (F : Hp) : D → V → Prop
  | .non, v => v = .non
  | .bl b, v => v = .bl b
  | .int i, v => v = .int i
  | .str x, v => v = .str x
  | .lst ds, v => ∃ a vs, v = .ref a ∧ F a = some (.lst vs) ∧ Reps K F ds vs
  | .tup ds, v => ∃ a vs, v = .ref a ∧ F a = some (.tup vs) ∧ Reps K F ds vs
  | .kt ds, v => ∃ a vs, v = .ref a ∧ KT K F a vs ∧ Reps K F ds vs
  | .kl ds, v => ∃ a vs, v = .ref a ∧ SqL K F a vs ∧ Reps K F ds vs
  | .dk kvs, v => ∃ a us, v = .ref a ∧ F a = some (.dK us) ∧ RepK K F kvs us
  | .dt kvs, v => ∃ a us, v = .ref a ∧ F a = some (.dT us) ∧ RepT K F kvs us
  | .ins C fs, v => ∃ a dx us, v = .ref a ∧ F a = some (.ins (ca K C) dx us) ∧ F dx = some (.own a) ∧ RepF K F fs us
def Reps (K : PySem.W.Frag) (F : Hp) : List D → List V → Prop
  | [], vs => vs = []
  | d :: ds, vs => ∃ v r, vs = v :: r ∧ Rep K F d v ∧ Reps K F ds r
def RepK (K : PySem.W.Frag) (F : Hp) : List (Key × D) → List (Key × V) → Prop
  | [], us => us = []
  | (k, d) :: ds, us => ∃ v r, us = (k, v) :: r ∧ Rep K F d v ∧ RepK K F ds r
def RepT (K : PySem.W.Frag) (F : Hp) : List (List Key × D) → List (List Key × V) → Prop
  | [], us => us = []
  | (k, d) :: ds, us => ∃ v r, us = (k, v) :: r ∧ Rep K F d v ∧ RepT K F ds r
def RepF (K : PySem.W.Frag) (F : Hp) : List (Str × D) → List (Str × V) → Prop
  | [], us => us = []
  | (k, d) :: ds, us => ∃ v r, us = (k, v) :: r ∧ Rep K F d v ∧ RepF K F ds r
end

theorem Same.sqT {K : PySem.W.Frag} {H H' : Hp} {a : Addr} {xs : List V} (e : Same H H') (h : H a = some (.tup xs)) : SqT K H' a xs := .inl (.inl (e _ _ h))
mutual
theorem Rep.mono {K : PySem.W.Frag} {F F' : Hp} (e : Same F F') : ∀ (d : D) (v : V), Rep K F d v → Rep K F' d v
  | .non, v, h => by simpa only [Rep] using h
  | .bl b, v, h => by simpa only [Rep] using h
  | .int i, v, h => by simpa only [Rep] using h
  | .str x, v, h => by simpa only [Rep] using h
  | .lst ds, v, h => by
    simp only [Rep] at h ⊢
    obtain ⟨a, vs, rfl, h1, h2⟩ := h
    exact ⟨a, vs, rfl, e _ _ h1, Reps.mono e ds vs h2⟩
  | .tup ds, v, h => by
    simp only [Rep] at h ⊢
    obtain ⟨a, vs, rfl, h1, h2⟩ := h
    exact ⟨a, vs, rfl, e _ _ h1, Reps.mono e ds vs h2⟩
  | .kt ds, v, h => by
    simp only [Rep] at h ⊢
    obtain ⟨a, vs, rfl, h1, h2⟩ := h
    exact ⟨a, vs, rfl, h1.mono e, Reps.mono e ds vs h2⟩
  | .kl ds, v, h => by
    simp only [Rep] at h ⊢
    obtain ⟨a, vs, rfl, h1, h2⟩ := h
    exact ⟨a, vs, rfl, sqL_mono e h1, Reps.mono e ds vs h2⟩
  | .dk ds, v, h => by
    simp only [Rep] at h ⊢
    obtain ⟨a, vs, rfl, h1, h2⟩ := h
    exact ⟨a, vs, rfl, e _ _ h1, RepK.mono e ds vs h2⟩
  | .dt ds, v, h => by
    simp only [Rep] at h ⊢
    obtain ⟨a, vs, rfl, h1, h2⟩ := h
    exact ⟨a, vs, rfl, e _ _ h1, RepT.mono e ds vs h2⟩
  | .ins C ds, v, h => by
    simp only [Rep] at h ⊢
    obtain ⟨a, dx, vs, rfl, h1, h3, h2⟩ := h
    exact ⟨a, dx, vs, rfl, e _ _ h1, e _ _ h3, RepF.mono e ds vs h2⟩
theorem Reps.mono {K : PySem.W.Frag} {F F' : Hp} (e : Same F F') : ∀ (d : List D) (v : List V), Reps K F d v → Reps K F' d v
  | [], v, h => by simpa only [Reps] using h
  | d :: ds, v, h => by
    simp only [Reps] at h ⊢
    obtain ⟨v, r, rfl, h1, h2⟩ := h
    exact ⟨v, r, rfl, Rep.mono e d v h1, Reps.mono e ds r h2⟩
theorem RepK.mono {K : PySem.W.Frag} {F F' : Hp} (e : Same F F') : ∀ (d : List (Key × D)) (v : List (Key × V)), RepK K F d v → RepK K F' d v
  | [], v, h => by simpa only [RepK] using h
  | (k, d) :: ds, v, h => by
    simp only [RepK] at h ⊢
    obtain ⟨v, r, rfl, h1, h2⟩ := h
    exact ⟨v, r, rfl, Rep.mono e d v h1, RepK.mono e ds r h2⟩
theorem RepT.mono {K : PySem.W.Frag} {F F' : Hp} (e : Same F F') : ∀ (d : List (List Key × D)) (v : List (List Key × V)), RepT K F d v → RepT K F' d v
  | [], v, h => by simpa only [RepT] using h
  | (k, d) :: ds, v, h => by
    simp only [RepT] at h ⊢
    obtain ⟨v, r, rfl, h1, h2⟩ := h
    exact ⟨v, r, rfl, Rep.mono e d v h1, RepT.mono e ds r h2⟩
theorem RepF.mono {K : PySem.W.Frag} {F F' : Hp} (e : Same F F') : ∀ (d : List (Str × D)) (v : List (Str × V)), RepF K F d v → RepF K F' d v
  | [], v, h => by simpa only [RepF] using h
  | (k, d) :: ds, v, h => by
    simp only [RepF] at h ⊢
    obtain ⟨v, r, rfl, h1, h2⟩ := h
    exact ⟨v, r, rfl, Rep.mono e d v h1, RepF.mono e ds r h2⟩
end

/-! ### owned contents, entries -/
inductive O where
  | lst (ds : List D) | dk (kvs : List (Key × D)) | dt (kvs : List (List Key × D)) | ins (C : Nat) (dx : Addr) (fs : List (Str × D))
def O.toD : O → Option D
  | .lst ds => some (.lst ds)
  | .dk kvs => some (.dk kvs)
  | .dt kvs => some (.dt kvs)
  | .ins C _ fs => some (.ins C fs)
/-- what stands at p (its items frozen) -/
def OwnAt (K : PySem.W.Frag) (N : Addr → Prop) (F H : Hp) (p : Addr) : O → Prop
  | .lst ds => ∃ vs, H p = some (.lst vs) ∧ Reps K F ds vs
  | .dk kvs => ∃ us, H p = some (.dK us) ∧ RepK K F kvs us
  | .dt kvs => ∃ us, H p = some (.dT us) ∧ RepT K F kvs us
  | .ins C dx fs => ∃ us, H p = some (.ins (ca K C) dx us) ∧ RepF K F fs us ∧ H dx = some (.own p) ∧ F dx = none ∧ N dx
inductive B where
  | un | val (d : D) | own (fresh : Bool) (o : O) | al (i : Nat)
abbrev Ev := List B

structure Fit (K : PySem.W.Frag) (M : Addr → Prop) (F0 H0 : Hp) (n : Nat) (F H : Hp) (vs : List (Option V)) (bs : List B) : Prop where
  sub0 : ∀ a o, ¬ M a → H0 a = some o → H a = some o
  subF0 : Same F0 F
  sub : Same F H
  new : ∀ a, F0 a = none → H0 a ≠ none → F a = none
  len : bs.length = vs.length
  val : ∀ (i : Nat) (d : D), bs[i]? = some (B.val d) → ∃ v, vs[i]? = some (some v) ∧ Rep K F d v
  own : ∀ (i : Nat) (f : Bool) (o : O), bs[i]? = some (B.own f o) → ∃ p, vs[i]? = some (some (V.ref p)) ∧ F p = none ∧ (if f = true then H0 p = none else M p) ∧ OwnAt K (fun a => f = true → H0 a = none) F H p o
  dis : ∀ (i j : Nat) (f g : Bool) (o o' : O) (p : Addr), bs[i]? = some (B.own f o) → bs[j]? = some (B.own g o') → vs[i]? = some (some (V.ref p)) → vs[j]? = some (some (V.ref p)) → i = j
  al : ∀ (i j : Nat), bs[i]? = some (B.al j) → (j < n ∧ n ≤ i) ∧ vs[i]? = vs[j]?
  mem0 : ∀ a, M a → H0 a ≠ none ∧ H a ≠ none

theorem OwnAt.grow {K : PySem.W.Frag} {N N' : Addr → Prop} {F H F' H' : Hp} {p : Addr} (hF : Same F F') (hp : ∀ o, H p = some o → H' p = some o) (hq : ∀ b, H b = some (.own p) → H' b = some (.own p)) (hN : ∀ a, N a → N' a)
    (hf : ∀ b, H b = some (.own p) → F b = none → F' b = none) : ∀ {o : O}, OwnAt K N F H p o → OwnAt K N' F' H' p o
  | .lst ds, ⟨vs, h1, h2⟩ => ⟨vs, hp _ h1, Reps.mono hF _ _ h2⟩
  | .dk ds, ⟨vs, h1, h2⟩ => ⟨vs, hp _ h1, RepK.mono hF _ _ h2⟩
  | .dt ds, ⟨vs, h1, h2⟩ => ⟨vs, hp _ h1, RepT.mono hF _ _ h2⟩
  | .ins C dx ds, ⟨vs, h1, h2, h3, h4, h5⟩ => ⟨vs, hp _ h1, RepF.mono hF _ _ h2, hq _ h3, hf _ h3 h4, hN _ h5⟩
theorem OwnAt.there {K : PySem.W.Frag} {N : Addr → Prop} {F H : Hp} {p : Addr} {o : O} (h : OwnAt K N F H p o) : ∃ x, H p = some x ∧ ∀ q, x ≠ .own q := by
  cases o with
  | lst ds => obtain ⟨vs, h1, h2⟩ := h; exact ⟨_, h1, fun _ z => nomatch z⟩
  | dk ds => obtain ⟨vs, h1, h2⟩ := h; exact ⟨_, h1, fun _ z => nomatch z⟩
  | dt ds => obtain ⟨vs, h1, h2⟩ := h; exact ⟨_, h1, fun _ z => nomatch z⟩
  | ins C dx ds => obtain ⟨vs, h1, h2⟩ := h; exact ⟨_, h1, fun _ z => nomatch z⟩

section
variable {K : PySem.W.Frag} {M : Addr → Prop} {F0 H0 F H F' H' : Hp} {n : Nat} {vs ws : List (Option V)} {bs cs : List B} {v : V} {b : B}

/-- what an operation gives: a frozen value, or a new object of its own; all else stands -/
structure Adds (K : PySem.W.Frag) (M : Addr → Prop) (F H F' H' : Hp) (v : V) (b : B) : Prop where
  same : ∀ a o, ¬ M a → H a = some o → H' a = some o
  sameF : Same F F'
  sub : Same F' H'
  new : ∀ a, F a = none → H a ≠ none → F' a = none
  res : match b with
    | .val d => Rep K F' d v
    | .own f o => f = true ∧ ∃ p, v = .ref p ∧ F' p = none ∧ H p = none ∧ OwnAt K (fun a => H a = none) F' H' p o
    | _ => False
abbrev none0 : Addr → Prop := fun _ => False
theorem Adds.val0 {d : D} (s : Same F H) (h : Rep K F d v) : Adds K none0 F H F H v (.val d) := ⟨fun _ _ _ h => h, Same.refl F, s, fun _ h _ => h, h⟩

theorem getElem?_snoc {α : Type} {l : List α} {x y : α} {i : Nat} (h : (l ++ [x])[i]? = some y) : l[i]? = some y ∨ (i = l.length ∧ y = x) := by
  rw [List.getElem?_append] at h
  split at h
  · exact .inl h
  · rename_i hi
    have : i - l.length = 0 := by
      rcases Nat.eq_zero_or_pos (i - l.length) with z | z
      · exact z
      · rw [List.getElem?_eq_none (by simp; omega)] at h; cases h
    rw [this] at h
    exact .inr ⟨by omega, by simpa using h.symm⟩
theorem lt_of_get {α : Type} {l : List α} {y : α} {i : Nat} (h : l[i]? = some y) : i < l.length := (List.getElem?_eq_some_iff.mp h).1
theorem get_snoc {α : Type} {l : List α} {x y : α} {i : Nat} (h : l[i]? = some y) : (l ++ [x])[i]? = some y := by
  rw [List.getElem?_append_left (lt_of_get h)]; exact h
theorem get_last {α : Type} (l : List α) (x : α) : (l ++ [x])[l.length]? = some x := by simp

theorem Fit.out (f : Fit K M F0 H0 n F H vs bs) {p : Addr} (h : H p = none) : H0 p = none := by
  cases e : H0 p with
  | none => rfl
  | some o =>
    by_cases m : M p
    · exact absurd h (f.mem0 p m).2
    · rw [f.sub0 p o m e] at h; cases h
theorem OwnAt.weak {N N' : Addr → Prop} {p : Addr} {o : O} (h : OwnAt K N F H p o) (hN : ∀ a, N a → N' a) : OwnAt K N' F H p o :=
  h.grow (Same.refl _) (fun _ h => h) (fun _ h => h) hN fun _ _ h => h
theorem Same.none_back {H H' : Hp} {p : Addr} (h : ∀ o, H p = some o → H' p = some o) (n : H' p = none) : H p = none := by
  cases e : H p with
  | none => rfl
  | some o => rw [h o e] at n; cases n
/-- behind an operation: its value is one more entry -/
theorem Fit.add (f : Fit K M F0 H0 n F H vs bs) (a : Adds K none0 F H F' H' v b) : Fit K M F0 H0 n F' H' (vs ++ [some v]) (bs ++ [b]) := by
  have own' : ∀ (i : Nat) (g : Bool) (o : O), bs[i]? = some (B.own g o) → ∃ p, vs[i]? = some (some (V.ref p)) ∧ H p ≠ none ∧ F' p = none ∧ (if g = true then H0 p = none else M p) ∧ OwnAt K (fun a => g = true → H0 a = none) F' H' p o := by
    intro i g o e
    obtain ⟨p, h1, h2, h3, h4⟩ := f.own i g o e
    obtain ⟨x, hx, _⟩ := h4.there
    have hn : H p ≠ none := by rw [hx]; simp
    exact ⟨p, h1, hn, a.new p h2 hn, h3, h4.grow a.sameF (fun o h => a.same _ _ (fun z => z) h) (fun b h => a.same _ _ (fun z => z) h) (fun _ z => z) fun b h1 h2 => a.new b h2 (by rw [h1]; simp)⟩
  refine ⟨fun x o m h => a.same _ _ (fun z => z) (f.sub0 x o m h), f.subF0.trans a.sameF, a.sub, fun x h1 h2 => ?_, by simp [f.len], fun i d e => ?_, fun i g o e => ?_, fun i j g g' o o' p h1 h2 h3 h4 => ?_, fun i j e => ?_, fun x h => ?_⟩
  · refine a.new x (f.new x h1 h2) ?_
    by_cases m : M x
    · exact (f.mem0 x m).2
    · cases e : H0 x with
      | none => exact absurd e h2
      | some o => rw [f.sub0 x o m e]; simp
  · rcases getElem?_snoc e with e | ⟨rfl, e2⟩
    · obtain ⟨w, h1, h2⟩ := f.val i d e
      exact ⟨w, get_snoc h1, Rep.mono a.sameF _ _ h2⟩
    · subst e2
      exact ⟨v, by rw [f.len]; exact get_last _ _, a.res⟩
  · rcases getElem?_snoc e with e | ⟨rfl, e2⟩
    · obtain ⟨p, h1, _, h3, h4, h5⟩ := own' i g o e
      exact ⟨p, get_snoc h1, h3, h4, h5⟩
    · subst e2
      obtain ⟨hf, p, rfl, h2, h3, h4⟩ := a.res
      subst hf
      have h0 : H0 p = none := f.out h3
      exact ⟨p, by rw [f.len]; exact get_last _ _, h2, by rw [if_pos rfl]; exact h0, h4.weak fun a h _ => f.out h⟩
  · have key : ∀ (k : Nat) (f' : Bool) (oo : O) (p : Addr), (bs ++ [b])[k]? = some (B.own f' oo) → (vs ++ [some v])[k]? = some (some (V.ref p)) → (k < bs.length ∧ H p ≠ none ∧ bs[k]? = some (B.own f' oo) ∧ vs[k]? = some (some (V.ref p))) ∨ (k = bs.length ∧ H p = none) := by
      intro k f' oo p e1 e2
      rcases getElem?_snoc e1 with e | ⟨rfl, e⟩
      · have hk := lt_of_get e
        rw [List.getElem?_append_left (by rw [← f.len]; exact hk)] at e2
        obtain ⟨q, h5, h6, _⟩ := own' k f' oo e
        rw [e2] at h5; cases h5
        exact .inl ⟨hk, h6, e, e2⟩
      · subst e
        obtain ⟨_, q, rfl, _, h7, _⟩ := a.res
        rw [f.len, get_last] at e2; cases e2
        exact .inr ⟨rfl, h7⟩
    rcases key i g o p h1 h3 with ⟨_, n1, e1, e3⟩ | ⟨z1, n1⟩ <;> rcases key j g' o' p h2 h4 with ⟨_, n2, e2, e4⟩ | ⟨z2, n2⟩
    · exact f.dis i j g g' o o' p e1 e2 e3 e4
    · exact absurd n2 n1
    · exact absurd n1 n2
    · rw [z1, z2]
  · rcases getElem?_snoc e with e | ⟨rfl, e2⟩
    · obtain ⟨h1, h2⟩ := f.al i j e
      have hi := lt_of_get e
      refine ⟨h1, ?_⟩
      rw [List.getElem?_append_left (by rw [← f.len]; exact hi), List.getElem?_append_left (by rw [← f.len]; omega)]
      exact h2
    · subst e2; exact a.res.elim
  · exact ⟨(f.mem0 x h).1, fun z => (f.mem0 x h).2 (Same.none_back (fun o q => a.same x o (fun z => z) q) z)⟩

theorem get_app {α : Type} {l m : List α} {y : α} {i : Nat} (h : l[i]? = some y) : (l ++ m)[i]? = some y := by
  rw [List.getElem?_append_left (lt_of_get h)]; exact h
/-- the last entries forgotten -/
theorem Fit.drop (f : Fit K M F0 H0 n F H (vs ++ ws) (bs ++ cs)) (hl : bs.length = vs.length) : Fit K M F0 H0 n F H vs bs := by
  have up : ∀ {i : Nat} {b : B}, bs[i]? = some b → (bs ++ cs)[i]? = some b := fun h => get_app h
  have dn : ∀ {i : Nat} {b : B}, bs[i]? = some b → (vs ++ ws)[i]? = vs[i]? := fun {i b} h => List.getElem?_append_left (by rw [← hl]; exact lt_of_get h)
  refine ⟨f.sub0, f.subF0, f.sub, f.new, hl, fun i d e => ?_, fun i g o e => ?_, fun i j g g' o o' p h1 h2 h3 h4 => ?_, fun i j e => ?_, f.mem0⟩
  · obtain ⟨v, h1, h2⟩ := f.val i d (up e)
    exact ⟨v, by rw [← dn e]; exact h1, h2⟩
  · obtain ⟨p, h1, h2⟩ := f.own i g o (up e)
    exact ⟨p, by rw [← dn e]; exact h1, h2⟩
  · exact f.dis i j g g' o o' p (up h1) (up h2) (by rw [dn h1]; exact h3) (by rw [dn h2]; exact h4)
  · obtain ⟨h1, h2⟩ := f.al i j (up e)
    refine ⟨h1, ?_⟩
    rw [← dn e, h2]
    exact List.getElem?_append_left (by rw [← hl]; have := lt_of_get e; omega)
/-- a name of a slot, pushed -/
theorem Fit.alias (f : Fit K M F0 H0 n F H vs bs) {i : Nat} (h : vs[i]? = some (some v)) (hin : i < n) (hn : n ≤ vs.length) : Fit K M F0 H0 n F H (vs ++ [some v]) (bs ++ [.al i]) := by
  refine ⟨f.sub0, f.subF0, f.sub, f.new, by simp [f.len], fun j d e => ?_, fun j g o e => ?_, fun j k g g' o o' p h1 h2 h3 h4 => ?_, fun j k e => ?_, f.mem0⟩
  · rcases getElem?_snoc e with e | ⟨_, e⟩
    · obtain ⟨w, h1, h2⟩ := f.val j d e
      exact ⟨w, get_snoc h1, h2⟩
    · cases e
  · rcases getElem?_snoc e with e | ⟨_, e⟩
    · obtain ⟨p, h1, h2⟩ := f.own j g o e
      exact ⟨p, get_snoc h1, h2⟩
    · cases e
  · rcases getElem?_snoc h1 with h1 | ⟨_, e⟩
    · rcases getElem?_snoc h2 with h2 | ⟨_, e⟩
      · rw [List.getElem?_append_left (by rw [← f.len]; exact lt_of_get h1)] at h3
        rw [List.getElem?_append_left (by rw [← f.len]; exact lt_of_get h2)] at h4
        exact f.dis j k g g' o o' p h1 h2 h3 h4
      · cases e
    · cases e
  · have hi : i < vs.length := lt_of_get h
    rcases getElem?_snoc e with e | ⟨rfl, e2⟩
    · obtain ⟨h1, h2⟩ := f.al j k e
      have hj := lt_of_get e
      refine ⟨h1, ?_⟩
      rw [List.getElem?_append_left (by rw [← f.len]; exact hj), List.getElem?_append_left (by rw [← f.len]; omega)]
      exact h2
    · cases e2
      refine ⟨⟨hin, by rw [f.len]; exact hn⟩, ?_⟩
      rw [f.len, get_last, List.getElem?_append_left hi, h]
theorem getElem?_set_cases {α : Type} {l : List α} {i j : Nat} {x y : α} (h : (l.set i x)[j]? = some y) : (j = i ∧ y = x ∧ i < l.length) ∨ (j ≠ i ∧ l[j]? = some y) := by
  rw [List.getElem?_set] at h
  split at h
  · rename_i e
    split at h
    · rename_i hl
      exact .inl ⟨e.symm, by simpa using h.symm, by omega⟩
    · cases h
  · rename_i e
    exact .inr ⟨fun z => e z.symm, h⟩
theorem get_set_ne {α : Type} {l : List α} {i j : Nat} {x : α} (h : j ≠ i) : (l.set i x)[j]? = l[j]? := by
  rw [List.getElem?_set, if_neg (fun z => h z.symm)]
/-- the object of an owned entry is frozen -/
theorem Fit.freeze (f : Fit K M F0 H0 n F H vs bs) {i : Nat} {o : O} {d : D} (h : bs[i]? = some (.own true o)) (hd : o.toD = some d) : ∃ F', Same F F' ∧ Fit K M F0 H0 n F' H vs (bs.set i (.val d)) := by
  obtain ⟨p, h1, h2, h3, h4⟩ := f.own i true o h
  rw [if_pos rfl] at h3
  -- the frozen part
  obtain ⟨F', hs, hsub, hnew, hrep, hout⟩ : ∃ F', Same F F' ∧ Same F' H ∧ (∀ a, F a = none → F' a ≠ none → H0 a = none) ∧ Rep K F' d (.ref p) ∧ ∀ a, F a = none → F' a ≠ none → a = p ∨ H a = some (.own p) := by
    have s1 : ∀ {F : Hp} {q : Addr} {u : HO}, F q = none → Same F (upd F q u) := fun {F q u} hn b x e => by rw [upd_ne (ne_of_none e hn)]; exact e
    cases o with
    | lst ds =>
      obtain ⟨us, e1, e2⟩ := h4
      cases hd
      refine ⟨upd F p (.lst us), s1 h2, fun b x e => ?_, fun a n e => ?_, ?_, fun a n e => ?_⟩
      · by_cases hb : b = p
        · subst hb; rw [upd_same] at e; cases e; exact e1
        · rw [upd_ne hb] at e; exact f.sub _ _ e
      · by_cases hb : a = p
        · subst hb; exact h3
        · rw [upd_ne hb] at e; exact absurd n e
      · simp only [Rep]; exact ⟨p, us, rfl, upd_same, Reps.mono (s1 h2) _ _ e2⟩
      · by_cases hb : a = p
        · exact .inl hb
        · rw [upd_ne hb] at e; exact absurd n e
    | dk ds =>
      obtain ⟨us, e1, e2⟩ := h4
      cases hd
      refine ⟨upd F p (.dK us), s1 h2, fun b x e => ?_, fun a n e => ?_, ?_, fun a n e => ?_⟩
      · by_cases hb : b = p
        · subst hb; rw [upd_same] at e; cases e; exact e1
        · rw [upd_ne hb] at e; exact f.sub _ _ e
      · by_cases hb : a = p
        · subst hb; exact h3
        · rw [upd_ne hb] at e; exact absurd n e
      · simp only [Rep]; exact ⟨p, us, rfl, upd_same, RepK.mono (s1 h2) _ _ e2⟩
      · by_cases hb : a = p
        · exact .inl hb
        · rw [upd_ne hb] at e; exact absurd n e
    | dt ds =>
      obtain ⟨us, e1, e2⟩ := h4
      cases hd
      refine ⟨upd F p (.dT us), s1 h2, fun b x e => ?_, fun a n e => ?_, ?_, fun a n e => ?_⟩
      · by_cases hb : b = p
        · subst hb; rw [upd_same] at e; cases e; exact e1
        · rw [upd_ne hb] at e; exact f.sub _ _ e
      · by_cases hb : a = p
        · subst hb; exact h3
        · rw [upd_ne hb] at e; exact absurd n e
      · simp only [Rep]; exact ⟨p, us, rfl, upd_same, RepT.mono (s1 h2) _ _ e2⟩
      · by_cases hb : a = p
        · exact .inl hb
        · rw [upd_ne hb] at e; exact absurd n e
    | ins C dx ds =>
      obtain ⟨us, e1, e2, e3, e4, e5⟩ := h4
      cases hd
      have hne : dx ≠ p := fun z => by rw [z, e1] at e3; cases e3
      have s2 : Same F (upd (upd F p (.ins (ca K C) dx us)) dx (.own p)) := (s1 h2).trans (s1 (by rw [upd_ne hne]; exact e4))
      refine ⟨upd (upd F p (.ins (ca K C) dx us)) dx (.own p), s2, fun b x e => ?_, fun a n e => ?_, ?_, fun a n e => ?_⟩
      · by_cases hb : b = dx
        · subst hb; rw [upd_same] at e; cases e; exact e3
        · rw [upd_ne hb] at e
          by_cases hb : b = p
          · subst hb; rw [upd_same] at e; cases e; exact e1
          · rw [upd_ne hb] at e; exact f.sub _ _ e
      · by_cases hb : a = dx
        · subst hb; exact e5 rfl
        · rw [upd_ne hb] at e
          by_cases hb : a = p
          · subst hb; exact h3
          · rw [upd_ne hb] at e; exact absurd n e
      · simp only [Rep]; exact ⟨p, dx, us, rfl, by rw [upd_ne (Ne.symm hne), upd_same], upd_same, RepF.mono s2 _ _ e2⟩
      · by_cases hb : a = dx
        · subst hb; exact .inr e3
        · rw [upd_ne hb] at e
          by_cases hb : a = p
          · exact .inl hb
          · rw [upd_ne hb] at e; exact absurd n e
  have hi := lt_of_get h
  refine ⟨F', hs, f.sub0, f.subF0.trans hs, hsub, fun a e1 e2 => ?_, by simp [f.len], fun j e e1 => ?_, fun j g o' e => ?_, fun j k g g' o1 o2 q e1 e2 e3 e4 => ?_, fun j k e => ?_, f.mem0⟩
  · exact Classical.byContradiction fun q => e2 (hnew a (f.new a e1 e2) q)
  · rcases getElem?_set_cases e1 with ⟨rfl, e, _⟩ | ⟨hj, e1⟩
    · cases e; exact ⟨_, h1, hrep⟩
    · obtain ⟨w, q1, q2⟩ := f.val j e e1
      exact ⟨w, q1, Rep.mono hs _ _ q2⟩
  · rcases getElem?_set_cases e with ⟨rfl, e, _⟩ | ⟨hj, e1⟩
    · cases e
    · obtain ⟨q, q1, q2, q3, q4⟩ := f.own j g o' e1
      have hqp : q ≠ p := fun z => by subst z; exact hj (f.dis j i g true o' o q e1 h q1 h1)
      obtain ⟨x, hx, hno⟩ := q4.there
      refine ⟨q, q1, Classical.byContradiction fun z => ?_, q3, q4.grow hs (fun _ h => h) (fun _ h => h) (fun _ h => h) fun b n1 n2 => Classical.byContradiction fun z => ?_⟩
      · rcases hout q q2 z with w | w
        · exact hqp w
        · rw [w] at hx; cases hx; exact hno _ rfl
      · rcases hout b n2 z with w | w
        · subst w
          obtain ⟨x, hx, hno⟩ := h4.there
          rw [n1] at hx; cases hx; exact hno _ rfl
        · rw [n1] at w; cases w; exact hqp rfl
  · rcases getElem?_set_cases e1 with ⟨rfl, e, _⟩ | ⟨_, e1⟩
    · cases e
    · rcases getElem?_set_cases e2 with ⟨rfl, e, _⟩ | ⟨_, e2⟩
      · cases e
      · exact f.dis j k g g' o1 o2 q e1 e2 e3 e4
  · rcases getElem?_set_cases e with ⟨rfl, e, _⟩ | ⟨_, e1⟩
    · cases e
    · exact f.al j k e1

/-- an owned entry's object is written -/
theorem Fit.write (f : Fit K M F0 H0 n F H vs bs) {i : Nat} {g : Bool} {o o' : O} {p : Addr} {u : HO} (h : bs[i]? = some (.own g o)) (hv : vs[i]? = some (some (.ref p)))
    (hn : OwnAt K (fun a => g = true → H0 a = none) F (upd H p u) p o') (ho : ∀ q, u ≠ .own q) : Fit K M F0 H0 n F (upd H p u) vs (bs.set i (.own g o')) := by
  obtain ⟨q, h1, h2, h3, h4⟩ := f.own i g o h
  rw [hv] at h1; cases h1
  have hi := lt_of_get h
  obtain ⟨x, hx, hno⟩ := h4.there
  refine ⟨fun a w m e => ?_, f.subF0, fun a w e => ?_, f.new, by simp [f.len], fun j d e => ?_, fun j g' o1 e => ?_, fun j k g1 g2 o1 o2 q e1 e2 e3 e4 => ?_, fun j k e => ?_, fun a m => ⟨(f.mem0 a m).1, ?_⟩⟩
  · have : a ≠ p := fun z => by
      subst z
      cases g with
      | true => rw [if_pos rfl] at h3; rw [h3] at e; cases e
      | false => rw [if_neg (by decide)] at h3; exact m h3
    rw [upd_ne this]; exact f.sub0 a w m e
  · rw [upd_ne (ne_of_none e h2)]; exact f.sub a w e
  · rcases getElem?_set_cases e with ⟨rfl, e, _⟩ | ⟨hj, e1⟩
    · cases e
    · exact f.val j d e1
  · rcases getElem?_set_cases e with ⟨rfl, e, _⟩ | ⟨hj, e1⟩
    · cases e; exact ⟨p, hv, h2, h3, hn⟩
    · obtain ⟨q, q1, q2, q3, q4⟩ := f.own j g' o1 e1
      have hqp : q ≠ p := fun z => by subst z; exact hj (f.dis j i g' g o1 o q e1 h q1 hv)
      refine ⟨q, q1, q2, q3, q4.grow (Same.refl _) (fun w e => by rw [upd_ne hqp]; exact e) (fun b e => ?_) (fun _ z => z) fun _ _ h => h⟩
      rw [upd_ne (fun z => by subst z; rw [e] at hx; cases hx; exact hno _ rfl)]; exact e
  · have key : ∀ {j : Nat} {g1 : Bool} {o1 : O}, (bs.set i (.own g o'))[j]? = some (B.own g1 o1) → ∃ g2 o2, bs[j]? = some (B.own g2 o2) := fun {j g1 o1} e => by
      rcases getElem?_set_cases e with ⟨rfl, _, _⟩ | ⟨_, e1⟩
      · exact ⟨_, _, h⟩
      · exact ⟨_, _, e1⟩
    obtain ⟨a1, b1, k1⟩ := key e1
    obtain ⟨a2, b2, k2⟩ := key e2
    exact f.dis j k a1 a2 b1 b2 q k1 k2 e3 e4
  · rcases getElem?_set_cases e with ⟨rfl, e, _⟩ | ⟨_, e1⟩
    · cases e
    · exact f.al j k e1
  · unfold upd; split
    · simp
    · exact (f.mem0 a m).2
/-- a slot is set to what the last entry holds -/
theorem Fit.asg (f : Fit K M F0 H0 n F H (vs ++ [some v]) (bs ++ [b])) (hb : ∀ j, b ≠ .al j) {i : Nat} (hi : i < vs.length) (hl : bs.length = vs.length) (na : ∀ (j k : Nat), n ≤ j → bs[j]? ≠ some (B.al k)) :
    Fit K M F0 H0 n F H (vs.set i (some v)) (bs.set i b) := by
  have lastb : (bs ++ [b])[bs.length]? = some b := get_last _ _
  have lastv : (vs ++ [some v])[bs.length]? = some (some v) := by rw [hl]; exact get_last _ _
  have self : (vs.set i (some v))[i]? = some (some v) := by rw [List.getElem?_set]; simp [hi]
  refine ⟨f.sub0, f.subF0, f.sub, f.new, by simp [hl], fun j d e => ?_, fun j g' o1 e => ?_, fun j k g1 g2 o1 o2 q e1 e2 e3 e4 => ?_, fun j k e => ?_, f.mem0⟩
  · rcases getElem?_set_cases e with ⟨rfl, e, _⟩ | ⟨hj, e1⟩
    · subst e
      obtain ⟨w, h1, h2⟩ := f.val _ d lastb
      rw [lastv] at h1; cases h1
      exact ⟨v, self, h2⟩
    · obtain ⟨w, h1, h2⟩ := f.val j d (get_snoc e1)
      rw [List.getElem?_append_left (by rw [← hl]; exact lt_of_get e1)] at h1
      exact ⟨w, by rw [get_set_ne hj]; exact h1, h2⟩
  · rcases getElem?_set_cases e with ⟨rfl, e, _⟩ | ⟨hj, e1⟩
    · subst e
      obtain ⟨w, h1, h2⟩ := f.own _ g' o1 lastb
      rw [lastv] at h1; cases h1
      exact ⟨w, self, h2⟩
    · obtain ⟨w, h1, h2⟩ := f.own j g' o1 (get_snoc e1)
      rw [List.getElem?_append_left (by rw [← hl]; exact lt_of_get e1)] at h1
      exact ⟨w, by rw [get_set_ne hj]; exact h1, h2⟩
  · have key : ∀ {j : Nat} {g1 : Bool} {o1 : O}, (bs.set i b)[j]? = some (B.own g1 o1) → (vs.set i (some v))[j]? = some (some (V.ref q)) → ∃ j', (bs ++ [b])[j']? = some (B.own g1 o1) ∧ (vs ++ [some v])[j']? = some (some (V.ref q)) ∧ ((j = i ∧ j' = bs.length) ∨ (j ≠ i ∧ j' = j ∧ j < bs.length)) := fun {j g1 o1} e e' => by
      rcases getElem?_set_cases e with ⟨rfl, z, _⟩ | ⟨hj, e1⟩
      · rw [self] at e'; cases e'
        exact ⟨_, by rw [← z] at lastb; rw [z] at lastb ⊢; exact lastb, lastv, .inl ⟨rfl, rfl⟩⟩
      · rw [get_set_ne hj] at e'
        exact ⟨j, get_snoc e1, get_snoc e', .inr ⟨hj, rfl, lt_of_get e1⟩⟩
    obtain ⟨j', k1, k2, k3⟩ := key e1 e3
    obtain ⟨k', l1, l2, l3⟩ := key e2 e4
    have := f.dis j' k' g1 g2 o1 o2 q k1 l1 k2 l2
    rcases k3 with ⟨r1, r2⟩ | ⟨r1, r2, r3⟩ <;> rcases l3 with ⟨t1, t2⟩ | ⟨t1, t2, t3⟩ <;> omega
  · rcases getElem?_set_cases e with ⟨rfl, e, _⟩ | ⟨hj, e1⟩
    · exact absurd e.symm (hb k)
    · obtain ⟨h1, h2⟩ := f.al j k (get_snoc e1)
      have := lt_of_get e1
      rw [List.getElem?_append_left (by omega), List.getElem?_append_left (by omega)] at h2
      exact absurd e1 (na j k h1.2)
/-- an entry forgotten -/
theorem Fit.unset (f : Fit K M F0 H0 n F H vs bs) (i : Nat) : Fit K M F0 H0 n F H vs (bs.set i .un) := by
  refine ⟨f.sub0, f.subF0, f.sub, f.new, by simp [f.len], fun j d e => ?_, fun j g' o1 e => ?_, fun j k g1 g2 o1 o2 q e1 e2 e3 e4 => ?_, fun j k e => ?_, f.mem0⟩
  · rcases getElem?_set_cases e with ⟨rfl, e, _⟩ | ⟨hj, e1⟩
    · cases e
    · exact f.val j d e1
  · rcases getElem?_set_cases e with ⟨rfl, e, _⟩ | ⟨hj, e1⟩
    · cases e
    · exact f.own j g' o1 e1
  · rcases getElem?_set_cases e1 with ⟨rfl, e, _⟩ | ⟨_, e1⟩
    · cases e
    · rcases getElem?_set_cases e2 with ⟨rfl, e, _⟩ | ⟨_, e2⟩
      · cases e
      · exact f.dis j k g1 g2 o1 o2 q e1 e2 e3 e4
  · rcases getElem?_set_cases e with ⟨rfl, e, _⟩ | ⟨_, e1⟩
    · cases e
    · exact f.al j k e1
end
end Dl
namespace Dl
open PySem PySem.Spec PyProof.Rows L2

inductive R (α : Type) where
  | ok (a : α) (ρ : Ev) | er (C : Nat) (fs : List (Str × D)) (ρ : Ev) | no
def R.bind {α β : Type} (r : R α) (k : α → Ev → R β) : R β := match r with
  | .ok a ρ => k a ρ
  | .er C fs ρ => .er C fs ρ
  | .no => .no
/-- the entry at a slot -/
def gb : Ev → Nat → B
  | [], _ => .un
  | b :: _, 0 => b
  | _ :: r, i + 1 => gb r i
theorem gb_get : ∀ {ρ : Ev} {i : Nat} {b : B}, gb ρ i = b → b ≠ .un → ρ[i]? = some b
  | [], i, b, h, n => absurd h.symm n
  | a :: r, 0, b, h, n => by rw [← h]; rfl
  | a :: r, i + 1, b, h, n => by
    rw [List.getElem?_cons_succ]
    exact gb_get (ρ := r) h n
def look (ρ : Ev) : B → Option D
  | .val d => some d
  | .own _ o => o.toD
  | .al i => match gb ρ i with
    | .val d => some d
    | .own _ o => o.toD
    | _ => none
  | .un => none

def ExcAt (K : PySem.W.Frag) (F : Hp) (dd : Addr) (fs : List (Str × D)) : Prop := ∃ us, F dd = some (.xd us) ∧ RepF K F fs us

section
variable (K : PySem.W.Frag) (W : WX) (M : Addr → Prop) (F0 H0 : Hp) (σ : L2.St) (ts : L2.St) (τ : List B)
def GoX (C : Nat) (fs : List (Str × D)) (ρ : Ev) : Prop := ∀ F' H' dd, ρ.length = σ.length → Fit K M F0 H0 σ.length F' H' (σ ++ ts) (ρ ++ τ) → ExcAt K F' dd fs → W (.ref (ca K C)) (some dd) σ H'
def Go (r : R B) (Q : VK) : Prop := match r with
  | .ok b ρ => ∀ F' H' v, ρ.length = σ.length → Fit K M F0 H0 σ.length F' H' (σ ++ (ts ++ [some v])) (ρ ++ (τ ++ [b])) → Q v H'
  | .er C fs ρ => GoX K W M F0 H0 σ ts τ C fs ρ
  | .no => False
def GoT {α : Type} (r : R α) (Q : α → Hp → Prop) : Prop := match r with
  | .ok b ρ => ∀ F' H', ρ.length = σ.length → Fit K M F0 H0 σ.length F' H' (σ ++ ts) (ρ ++ τ) → Q b H'
  | .er C fs ρ => GoX K W M F0 H0 σ ts τ C fs ρ
  | .no => False
def GoA (r : R (List B)) (Q : List V → Hp → Prop) : Prop := match r with
  | .ok bs ρ => ∀ F' H' vs, ρ.length = σ.length → bs.length = vs.length → Fit K M F0 H0 σ.length F' H' (σ ++ (ts ++ vs.map some)) (ρ ++ (τ ++ bs)) → Q vs H'
  | .er C fs ρ => GoX K W M F0 H0 σ ts τ C fs ρ
  | .no => False
end
def tE (K : PySem.W.Frag) (W : WX) (f : Ev → R B) : TE := fun σ H Q => ∃ (M : Addr → Prop) (F0 H0 F : Hp) (ρ : Ev) (ts : L2.St) (τ : List B), ρ.length = σ.length ∧ Fit K M F0 H0 σ.length F H (σ ++ ts) (ρ ++ τ) ∧ Go K W M F0 H0 σ ts τ (f ρ) Q
def tT (K : PySem.W.Frag) (W : WX) (f : Ev → R Bool) : TT := fun σ H Q => ∃ (M : Addr → Prop) (F0 H0 F : Hp) (ρ : Ev) (ts : L2.St) (τ : List B), ρ.length = σ.length ∧ Fit K M F0 H0 σ.length F H (σ ++ ts) (ρ ++ τ) ∧ GoT K W M F0 H0 σ ts τ (f ρ) Q
def tA (K : PySem.W.Frag) (W : WX) (f : Ev → R (List B)) : TA := fun σ H Q => ∃ (M : Addr → Prop) (F0 H0 F : Hp) (ρ : Ev) (ts : L2.St) (τ : List B), ρ.length = σ.length ∧ Fit K M F0 H0 σ.length F H (σ ++ ts) (ρ ++ τ) ∧ GoA K W M F0 H0 σ ts τ (f ρ) Q

/-- the judgements -/
def PD (X : Cx) (W : WX) (e : Expr) (f : Ev → R B) : Prop := PE X e (tE X.K W f)
def PDT (X : Cx) (W : WX) (e : Expr) (f : Ev → R Bool) : Prop := PT X e (tT X.K W f)
def PDA (X : Cx) (W : WX) (es : List Expr) (f : Ev → R (List B)) : Prop := PA X es (tA X.K W f)

theorem PE.imp {X : Cx} {e : Expr} {t t' : TE} (h : PE X e t) (i : ∀ σ H Q, t' σ H Q → t σ H Q) : PE X e t' := ⟨fun pins s σ H Q I hq => h.run pins s σ H Q I (i σ H Q hq)⟩
theorem PT.imp {X : Cx} {e : Expr} {t t' : TT} (h : PT X e t) (i : ∀ σ H Q, t' σ H Q → t σ H Q) : PT X e t' := ⟨fun pins s σ H Q I hq => h.run pins s σ H Q I (i σ H Q hq)⟩
theorem PA.imp {X : Cx} {e : List Expr} {t t' : TA} (h : PA X e t) (i : ∀ σ H Q, t' σ H Q → t σ H Q) : PA X e t' := ⟨fun p pins s σ H Q I hq => h.run p pins s σ H Q I (i σ H Q hq)⟩

section
variable {K : PySem.W.Frag} {W : WX} {M : Addr → Prop} {F0 H0 F H : Hp} {σ ts us ts' : L2.St} {τ cs τ' : List B} {ρ : Ev}

theorem GoX.back {C : Nat} {fs : List (Str × D)} (h : GoX K W M F0 H0 σ ts τ C fs ρ) (hl : us.length = cs.length) (e1 : ts' = ts ++ us) (e2 : τ' = τ ++ cs) : GoX K W M F0 H0 σ ts' τ' C fs ρ := by
  subst e1 e2
  intro F' H' dd l f x
  refine h F' H' dd l ?_ x
  rw [← List.append_assoc, ← List.append_assoc] at f
  have := f.len
  simp only [List.length_append] at this
  exact f.drop (by simp only [List.length_append]; omega)
theorem Go.bind {r : R B} {k : B → Ev → R B} {Q : VK} {cont : VK} (go : Go K W M F0 H0 σ ts τ (r.bind k) Q) (e1 : ts' = ts ++ us) (e2 : τ' = τ ++ cs) (hl : us.length = cs.length)
    (step : ∀ b ρ1 F1 H1 x, ρ1.length = σ.length → Fit K M F0 H0 σ.length F1 H1 (σ ++ (ts' ++ [some x])) (ρ1 ++ (τ' ++ [b])) → Go K W M F0 H0 σ ts τ (k b ρ1) Q → cont x H1) : Go K W M F0 H0 σ ts' τ' r cont := by
  cases r with
  | ok b ρ1 => exact fun F' H' v l f => step b ρ1 F' H' v l f go
  | er C fs ρ1 => exact GoX.back (show GoX K W M F0 H0 σ ts τ C fs ρ1 from go) hl e1 e2
  | no => exact go.elim
theorem Go.bindT {α : Type} {r : R B} {k : B → Ev → R α} {Q : α → Hp → Prop} {cont : VK} (go : GoT K W M F0 H0 σ ts τ (r.bind k) Q) (e1 : ts' = ts ++ us) (e2 : τ' = τ ++ cs) (hl : us.length = cs.length)
    (step : ∀ b ρ1 F1 H1 x, ρ1.length = σ.length → Fit K M F0 H0 σ.length F1 H1 (σ ++ (ts' ++ [some x])) (ρ1 ++ (τ' ++ [b])) → GoT K W M F0 H0 σ ts τ (k b ρ1) Q → cont x H1) : Go K W M F0 H0 σ ts' τ' r cont := by
  cases r with
  | ok b ρ1 => exact fun F' H' v l f => step b ρ1 F' H' v l f go
  | er C fs ρ1 => exact GoX.back (show GoX K W M F0 H0 σ ts τ C fs ρ1 from go) hl e1 e2
  | no => exact go.elim
theorem Go.bindA {r : R B} {k : B → Ev → R (List B)} {Q : List V → Hp → Prop} {cont : VK} (go : GoA K W M F0 H0 σ ts τ (r.bind k) Q) (e1 : ts' = ts ++ us) (e2 : τ' = τ ++ cs) (hl : us.length = cs.length)
    (step : ∀ b ρ1 F1 H1 x, ρ1.length = σ.length → Fit K M F0 H0 σ.length F1 H1 (σ ++ (ts' ++ [some x])) (ρ1 ++ (τ' ++ [b])) → GoA K W M F0 H0 σ ts τ (k b ρ1) Q → cont x H1) : Go K W M F0 H0 σ ts' τ' r cont := by
  cases r with
  | ok b ρ1 => exact fun F' H' v l f => step b ρ1 F' H' v l f go
  | er C fs ρ1 => exact GoX.back (show GoX K W M F0 H0 σ ts τ C fs ρ1 from go) hl e1 e2
  | no => exact go.elim
theorem GoT.bind {α : Type} {r : R α} {k : α → Ev → R B} {Q : VK} {cont : α → Hp → Prop} (go : Go K W M F0 H0 σ ts τ (r.bind k) Q) (e1 : ts' = ts ++ us) (e2 : τ' = τ ++ cs) (hl : us.length = cs.length)
    (step : ∀ b ρ1 F1 H1, ρ1.length = σ.length → Fit K M F0 H0 σ.length F1 H1 (σ ++ ts') (ρ1 ++ τ') → Go K W M F0 H0 σ ts τ (k b ρ1) Q → cont b H1) : GoT K W M F0 H0 σ ts' τ' r cont := by
  cases r with
  | ok b ρ1 => exact fun F' H' l f => step b ρ1 F' H' l f go
  | er C fs ρ1 => exact GoX.back (show GoX K W M F0 H0 σ ts τ C fs ρ1 from go) hl e1 e2
  | no => exact go.elim
theorem GoT.bindT {α β : Type} {r : R α} {k : α → Ev → R β} {Q : β → Hp → Prop} {cont : α → Hp → Prop} (go : GoT K W M F0 H0 σ ts τ (r.bind k) Q) (e1 : ts' = ts ++ us) (e2 : τ' = τ ++ cs) (hl : us.length = cs.length)
    (step : ∀ b ρ1 F1 H1, ρ1.length = σ.length → Fit K M F0 H0 σ.length F1 H1 (σ ++ ts') (ρ1 ++ τ') → GoT K W M F0 H0 σ ts τ (k b ρ1) Q → cont b H1) : GoT K W M F0 H0 σ ts' τ' r cont := by
  cases r with
  | ok b ρ1 => exact fun F' H' l f => step b ρ1 F' H' l f go
  | er C fs ρ1 => exact GoX.back (show GoX K W M F0 H0 σ ts τ C fs ρ1 from go) hl e1 e2
  | no => exact go.elim
theorem GoA.bind {r : R (List B)} {k : List B → Ev → R B} {Q : VK} {cont : List V → Hp → Prop} (go : Go K W M F0 H0 σ ts τ (r.bind k) Q) (e1 : ts' = ts ++ us) (e2 : τ' = τ ++ cs) (hl : us.length = cs.length)
    (step : ∀ bs ρ1 F1 H1 xs, ρ1.length = σ.length → bs.length = xs.length → Fit K M F0 H0 σ.length F1 H1 (σ ++ (ts' ++ xs.map some)) (ρ1 ++ (τ' ++ bs)) → Go K W M F0 H0 σ ts τ (k bs ρ1) Q → cont xs H1) : GoA K W M F0 H0 σ ts' τ' r cont := by
  cases r with
  | ok b ρ1 => exact fun F' H' v l l2 f => step b ρ1 F' H' v l l2 f go
  | er C fs ρ1 => exact GoX.back (show GoX K W M F0 H0 σ ts τ C fs ρ1 from go) hl e1 e2
  | no => exact go.elim
theorem GoA.bindA {r : R (List B)} {k : List B → Ev → R (List B)} {Q : List V → Hp → Prop} {cont : List V → Hp → Prop} (go : GoA K W M F0 H0 σ ts τ (r.bind k) Q) (e1 : ts' = ts ++ us) (e2 : τ' = τ ++ cs) (hl : us.length = cs.length)
    (step : ∀ bs ρ1 F1 H1 xs, ρ1.length = σ.length → bs.length = xs.length → Fit K M F0 H0 σ.length F1 H1 (σ ++ (ts' ++ xs.map some)) (ρ1 ++ (τ' ++ bs)) → GoA K W M F0 H0 σ ts τ (k bs ρ1) Q → cont xs H1) : GoA K W M F0 H0 σ ts' τ' r cont := by
  cases r with
  | ok b ρ1 => exact fun F' H' v l l2 f => step b ρ1 F' H' v l l2 f go
  | er C fs ρ1 => exact GoX.back (show GoX K W M F0 H0 σ ts τ C fs ρ1 from go) hl e1 e2
  | no => exact go.elim

/-- what is read at the top off H, within off F -/
def Rep1 (K : PySem.W.Frag) (F H : Hp) : D → V → Prop
  | .non, v => v = .non
  | .bl b, v => v = .bl b
  | .int i, v => v = .int i
  | .str x, v => v = .str x
  | .lst ds, v => ∃ a vs, v = .ref a ∧ H a = some (.lst vs) ∧ Reps K F ds vs
  | .tup ds, v => ∃ a vs, v = .ref a ∧ F a = some (.tup vs) ∧ Reps K F ds vs
  | .kt ds, v => ∃ a vs, v = .ref a ∧ KT K F a vs ∧ Reps K F ds vs
  | .kl ds, v => ∃ a vs, v = .ref a ∧ SqL K H a vs ∧ Reps K F ds vs
  | .dk kvs, v => ∃ a us, v = .ref a ∧ H a = some (.dK us) ∧ RepK K F kvs us
  | .dt kvs, v => ∃ a us, v = .ref a ∧ H a = some (.dT us) ∧ RepT K F kvs us
  | .ins C fs, v => ∃ a dx us, v = .ref a ∧ H a = some (.ins (ca K C) dx us) ∧ H dx = some (.own a) ∧ RepF K F fs us
theorem Rep.one (s : Same F H) : ∀ {d : D} {v : V}, Rep K F d v → Rep1 K F H d v := by
  intro d v h
  cases d with
  | non => simpa only [Rep, Rep1] using h
  | bl b => simpa only [Rep, Rep1] using h
  | int i => simpa only [Rep, Rep1] using h
  | str x => simpa only [Rep, Rep1] using h
  | lst ds => simp only [Rep] at h; obtain ⟨a, vs, e, h1, h2⟩ := h; exact ⟨a, vs, e, s _ _ h1, h2⟩
  | tup ds => simp only [Rep] at h; obtain ⟨a, vs, e, h1, h2⟩ := h; exact ⟨a, vs, e, h1, h2⟩
  | kt ds => simp only [Rep] at h; obtain ⟨a, vs, e, h1, h2⟩ := h; exact ⟨a, vs, e, h1, h2⟩
  | kl ds => simp only [Rep] at h; obtain ⟨a, vs, e, h1, h2⟩ := h; exact ⟨a, vs, e, sqL_mono s h1, h2⟩
  | dk ds => simp only [Rep] at h; obtain ⟨a, vs, e, h1, h2⟩ := h; exact ⟨a, vs, e, s _ _ h1, h2⟩
  | dt ds => simp only [Rep] at h; obtain ⟨a, vs, e, h1, h2⟩ := h; exact ⟨a, vs, e, s _ _ h1, h2⟩
  | ins C ds => simp only [Rep] at h; obtain ⟨a, dx, vs, e, h1, h3, h2⟩ := h; exact ⟨a, dx, vs, e, s _ _ h1, s _ _ h3, h2⟩
/-- the items of a tuple -/
def tupOf : D → Option (List D)
  | .tup ds => some ds
  | .kt ds => some ds
  | _ => none
theorem Rep.tupOf {d : D} {v : V} {ds : List D} (h : Rep K F d v) (e : Dl.tupOf d = some ds) : ∃ a vs, v = .ref a ∧ SqT K F a vs ∧ Reps K F ds vs := by
  cases d with
  | tup xs => cases e; simp only [Rep] at h; obtain ⟨a, vs, e, h1, h2⟩ := h; exact ⟨a, vs, e, .inl (.inl h1), h2⟩
  | kt xs => cases e; simp only [Rep] at h; obtain ⟨a, vs, e, h1, h2⟩ := h; exact ⟨a, vs, e, h1.sqT, h2⟩
  | _ => cases e
theorem Rep1.tupOf {d : D} {v : V} {ds : List D} (h : Rep1 K F H d v) (e : Dl.tupOf d = some ds) : ∃ a vs, v = .ref a ∧ SqT K F a vs ∧ Reps K F ds vs := by
  cases d with
  | tup xs => cases e; obtain ⟨a, vs, e, h1, h2⟩ := h; exact ⟨a, vs, e, .inl (.inl h1), h2⟩
  | kt xs => cases e; obtain ⟨a, vs, e, h1, h2⟩ := h; exact ⟨a, vs, e, h1.sqT, h2⟩
  | _ => cases e
/-- what is known at the top, of a tuple, is known within the frozen part -/
theorem Rep1.tupRep {d : D} {v : V} {ds : List D} (h : Rep1 K F H d v) (e : Dl.tupOf d = some ds) : Rep K F d v := by
  cases d with
  | tup xs => simp only [Rep]; exact h
  | kt xs => simp only [Rep]; exact h
  | _ => cases e
theorem OwnAt.one {N : Addr → Prop} {p : Addr} : ∀ {o : O} {d : D}, o.toD = some d → OwnAt K N F H p o → Rep1 K F H d (.ref p)
  | .lst ds, d, e, ⟨vs, h1, h2⟩ => by cases e; exact ⟨p, vs, rfl, h1, h2⟩
  | .dk ds, d, e, ⟨vs, h1, h2⟩ => by cases e; exact ⟨p, vs, rfl, h1, h2⟩
  | .dt ds, d, e, ⟨vs, h1, h2⟩ => by cases e; exact ⟨p, vs, rfl, h1, h2⟩
  | .ins C dx ds, d, e, ⟨vs, h1, h2, h3, _⟩ => by cases e; exact ⟨p, dx, vs, rfl, h1, h3, h2⟩
/-- what is known of an entry -/
theorem Fit.looks {m : Nat} {vs : List (Option V)} {bs : List B} {n : Nat} {b : B} {d : D} {v : V} (f : Fit K M F0 H0 m F H vs (ρ ++ bs)) (hb : (ρ ++ bs)[n]? = some b) (hv : vs[n]? = some (some v)) (h : look ρ b = some d) : Rep1 K F H d v := by
  have own : ∀ {n : Nat} {g : Bool} {o : O}, (ρ ++ bs)[n]? = some (.own g o) → vs[n]? = some (some v) → o.toD = some d → Rep1 K F H d v := fun {n g o} e e2 h => by
    obtain ⟨p, h1, _, _, h4⟩ := f.own n g o e
    rw [e2] at h1; cases h1
    exact h4.one h
  have val : ∀ {n : Nat} {d' : D}, (ρ ++ bs)[n]? = some (.val d') → vs[n]? = some (some v) → some d' = some d → Rep1 K F H d v := fun {n d'} e e2 h => by
    cases h
    obtain ⟨w, h1, h2⟩ := f.val n _ e
    rw [e2] at h1; cases h1
    exact h2.one f.sub
  cases b with
  | un => cases h
  | val d' => exact val hb hv h
  | own g o => exact own hb hv h
  | al i =>
    obtain ⟨_, h2⟩ := f.al n i hb
    rw [hv] at h2
    cases e : gb ρ i with
    | un => simp only [look, e] at h; cases h
    | al j => simp only [look, e] at h; cases h
    | val d' => simp only [look, e] at h; exact val (get_app (gb_get e (by intro z; cases z))) h2.symm h
    | own g o => simp only [look, e] at h; exact own (get_app (gb_get e (by intro z; cases z))) h2.symm h
end
end Dl
namespace Dl
open PySem PySem.Spec PyProof.Rows L2

section
variable {K : PySem.W.Frag} {W : WX} {M : Addr → Prop} {F0 H0 F H : Hp} {σ ts us ts' : L2.St} {τ cs τ' : List B} {ρ : Ev}
theorem Fit.lenT (f : Fit K M F0 H0 σ.length F H (σ ++ ts) (ρ ++ τ)) (l : ρ.length = σ.length) : ts.length = τ.length := by
  have := f.len
  simp only [List.length_append] at this
  omega
/-- the operands forgotten, the result added -/
theorem Fit.res {js : L2.St} {jb : List B} {F' H' : Hp} {v : V} {b : B} (f : Fit K M F0 H0 σ.length F H (σ ++ (ts ++ js)) (ρ ++ (τ ++ jb))) (l : ρ.length = σ.length) (hl : ts.length = τ.length) (a : Adds K none0 F H F' H' v b) :
    Fit K M F0 H0 σ.length F' H' (σ ++ (ts ++ [some v])) (ρ ++ (τ ++ [b])) := by
  rw [← List.append_assoc, ← List.append_assoc] at f ⊢
  exact (f.drop (by simp only [List.length_append]; omega)).add a
theorem Fit.less {js : L2.St} {jb : List B} (f : Fit K M F0 H0 σ.length F H (σ ++ (ts ++ js)) (ρ ++ (τ ++ jb))) (l : ρ.length = σ.length) (hl : ts.length = τ.length) : Fit K M F0 H0 σ.length F H (σ ++ ts) (ρ ++ τ) := by
  rw [← List.append_assoc, ← List.append_assoc] at f
  exact f.drop (by simp only [List.length_append]; omega)
def Rep1s (K : PySem.W.Frag) (F H : Hp) : List D → List V → Prop
  | [], vs => vs = []
  | d :: ds, vs => ∃ v r, vs = v :: r ∧ Rep1 K F H d v ∧ Rep1s K F H ds r
def lookAll (ρ : Ev) : List B → Option (List D)
  | [] => some []
  | b :: bs => match look ρ b, lookAll ρ bs with
    | some d, some ds => some (d :: ds)
    | _, _ => none
theorem get_mid {α : Type} (a b : List α) (x : α) (c : List α) : (a ++ (b ++ (x :: c)))[a.length + b.length]? = some x := by
  rw [← List.append_assoc, List.getElem?_append_right (by simp), List.length_append]
  simp
/-- what is known of the entries behind n -/
theorem Fit.lookAll {n : Nat} (bs0 : List B) (vs0 : L2.St) (hv : vs0.length = bs0.length) : ∀ (bs : List B) (xs : List V) (ds : List D), Fit K M F0 H0 n F H (vs0 ++ xs.map some) (bs0 ++ bs) → (∃ r, bs0 = ρ ++ r) → bs.length = xs.length → Dl.lookAll ρ bs = some ds → Rep1s K F H ds xs := by
  intro bs
  induction bs generalizing bs0 vs0 with
  | nil =>
    intro xs ds f _ hl e
    cases e
    cases xs with
    | nil => exact rfl
    | cons x r => cases hl
  | cons b bs ih =>
    intro xs ds f hr hl e
    cases xs with
    | nil => cases hl
    | cons x xs =>
      unfold Dl.lookAll at e
      cases e1 : look ρ b with
      | none => rw [e1] at e; cases e
      | some d =>
        cases e2 : Dl.lookAll ρ bs with
        | none => rw [e1, e2] at e; cases e
        | some dr =>
          rw [e1, e2] at e; cases e
          obtain ⟨r, rfl⟩ := hr
          refine ⟨x, xs, rfl, ?_, ?_⟩
          · have f2 : Fit K M F0 H0 n F H (vs0 ++ (x :: xs).map some) (ρ ++ (r ++ (b :: bs))) := by rw [← List.append_assoc]; exact f
            refine f2.looks (n := (ρ ++ r).length) ?_ ?_ e1
            · rw [← List.append_assoc]; simp
            · rw [← hv]; simp
          · refine ih ((ρ ++ r) ++ [b]) (vs0 ++ [some x]) (by simp at hv ⊢; omega) xs dr ?_ ⟨r ++ [b], by simp⟩ (by simpa using hl) e2
            have e3 : (ρ ++ r) ++ [b] ++ bs = (ρ ++ r) ++ (b :: bs) := by simp
            have e4 : vs0 ++ [some x] ++ xs.map some = vs0 ++ (x :: xs).map some := by simp
            rw [e3, e4]; exact f
end

/-! ### names, constants -/
def dVar (i : Nat) : Ev → R B := fun ρ => match gb ρ i with
  | .val _ => .ok (.al i) ρ
  | .own _ _ => .ok (.al i) ρ
  | _ => .no
def dC (d : D) : Ev → R B := fun ρ => .ok (.val d) ρ
section
variable {X : Cx} {W : WX} {x : Str} {pos : Pos} {e : Expr} {K : PySem.W.Frag}
theorem PD.of {e : Expr} {t : TE} {f : Ev → R B} (h : PE X e t) (i : ∀ σ H Q, tE X.K W f σ H Q → t σ H Q) : PD X W e f := PE.imp h i
theorem tE_const {d : D} {v : V} (hd : ∀ F, Rep K F d v) (σ : L2.St) (H : Hp) (Q : VK) (h : tE K W (dC d) σ H Q) : tC v σ H Q := by
  obtain ⟨M, F0, H0, F, ρ, ts, τ, l, f, g⟩ := h
  refine (show ∀ F' H' v, ρ.length = σ.length → Fit K M F0 H0 σ.length F' H' (σ ++ (ts ++ [some v])) (ρ ++ (τ ++ [.val d])) → Q v H' from g) F H v l ?_
  exact Fit.res (js := []) (jb := []) (by simpa using f) l (f.lenT l) (Adds.val0 f.sub (hd F))
theorem pd_int {i : Int} {j pos} : PD X W (.Constant (.int i) j pos) (dC (.int i)) := PD.of pe_int (tE_const fun _ => by simp only [Rep])
theorem pd_bl {b : Bool} {j pos} : PD X W (.Constant (.bool b) j pos) (dC (.bl b)) := PD.of pe_bl (tE_const fun _ => by simp only [Rep])
theorem pd_non {j pos} : PD X W (.Constant .none j pos) (dC .non) := PD.of pe_non (tE_const fun _ => by simp only [Rep])
theorem pd_str {z : Str} {j pos} : PD X W (.Constant (.str z) j pos) (dC (.str z)) := PD.of pe_str (tE_const fun _ => by simp only [Rep])
theorem pd_glob {d : D} {v : V} {u : Value} (hg : Gl X x) (hm : X.mg x = some u) (r : RelV v u) (hd : ∀ F, Rep X.K F d v) (hdb : (x == ("__debug__" : Str)) = false := by decide) : PD X W (.Name x pos) (dC d) :=
  PD.of (pe_glob hg hm r hdb) (tE_const hd)
theorem pd_var (i : Nat) (hN : X.N[i]? = some x) (hv : Vis X.env.scope x) (hd : (x == ("__debug__" : Str)) = false := by decide) (hcd : (x == ("__classdict__" : Str)) = false := by decide) : PD X W (.Name x pos) (dVar i) := by
  refine PD.of (pe_var hN hv hd hcd) fun σ H Q h => ?_
  obtain ⟨M, F0, H0, F, ρ, ts, τ, l, f, g⟩ := h
  have key : ∀ b, ρ[i]? = some b → (∃ v, (σ ++ ts)[i]? = some (some v)) → ∃ v, σ[i]? = some (some v) ∧ (σ ++ ts)[i]? = some (some v) := fun b hb ⟨v, hv⟩ => by
    have hi := lt_of_get hb
    refine ⟨v, ?_, hv⟩
    rw [List.getElem?_append_left (by omega)] at hv; exact hv
  have fin : ∀ b, ρ[i]? = some b → (∃ v, (σ ++ ts)[i]? = some (some v)) → (∀ F' H' v, ρ.length = σ.length → Fit X.K M F0 H0 σ.length F' H' (σ ++ (ts ++ [some v])) (ρ ++ (τ ++ [.al i])) → Q v H') → tVar i σ H Q := fun b hb hv q => by
    obtain ⟨v, h1, h2⟩ := key b hb hv
    refine ⟨v, h1, q F H v l ?_⟩
    rw [← List.append_assoc, ← List.append_assoc]
    exact f.alias h2 (by have := lt_of_get hb; omega) (by simp)
  unfold dVar at g
  cases e : gb ρ i with
  | un => rw [e] at g; exact g.elim
  | al j => rw [e] at g; exact g.elim
  | val d =>
    rw [e] at g
    have hb := gb_get e (by intro z; cases z)
    obtain ⟨v, h1, _⟩ := f.val i d (get_app hb)
    exact fin _ hb ⟨v, h1⟩ g
  | own b o =>
    rw [e] at g
    have hb := gb_get e (by intro z; cases z)
    obtain ⟨p, h1, _⟩ := f.own i b o (get_app hb)
    exact fin _ hb ⟨_, h1⟩ g
end

/-! ### operations on one, two values, on a list of them -/
def fin1 (op : D → Option B) (b : B) (ρ : Ev) : R B := match look ρ b with
  | some x => match op x with
    | some c => .ok c ρ
    | none => .no
  | none => .no
def fin2 (op : D → D → Option B) (a b : B) (ρ : Ev) : R B := match look ρ a with
  | some x => match look ρ b with
    | some y => match op x y with
      | some c => .ok c ρ
      | none => .no
    | none => .no
  | none => .no
def finN (op : List D → Option B) (bs : List B) (ρ : Ev) : R B := match lookAll ρ bs with
  | some xs => match op xs with
    | some c => .ok c ρ
    | none => .no
  | none => .no
def op1 (f : Ev → R B) (op : D → Option B) : Ev → R B := fun ρ => (f ρ).bind fun b ρ1 => fin1 op b ρ1
def op2 (f g : Ev → R B) (op : D → D → Option B) : Ev → R B := fun ρ => (f ρ).bind fun a ρ1 => (g ρ1).bind fun b ρ2 => fin2 op a b ρ2
def opN (f : Ev → R (List B)) (op : List D → Option B) : Ev → R B := fun ρ => (f ρ).bind fun bs ρ1 => finN op bs ρ1
/-- a rule of values does what op says -/
def Op1 (K : PySem.W.Frag) (r : V → Hp → VK → Prop) (op : D → Option B) : Prop := ∀ (F H : Hp) (x : V) (d : D) (b : B) (Q : VK), Same F H → Rep1 K F H d x → op d = some b → (∀ F' H' v, Adds K none0 F H F' H' v b → Q v H') → r x H Q
def Op2 (K : PySem.W.Frag) (r : R2) (op : D → D → Option B) : Prop := ∀ (F H : Hp) (x y : V) (d e : D) (b : B) (Q : VK), Same F H → Rep1 K F H d x → Rep1 K F H e y → op d e = some b → (∀ F' H' v, Adds K none0 F H F' H' v b → Q v H') → r x y H Q
def OpN (K : PySem.W.Frag) (r : List V → Hp → VK → Prop) (op : List D → Option B) : Prop := ∀ (F H : Hp) (xs : List V) (ds : List D) (b : B) (Q : VK), Same F H → Rep1s K F H ds xs → op ds = some b → (∀ F' H' v, Adds K none0 F H F' H' v b → Q v H') → r xs H Q

section
variable {K : PySem.W.Frag} {W : WX} {f g : Ev → R B} {fa : Ev → R (List B)} {σ : L2.St} {H : Hp} {Q : VK}
theorem get_last2 (a b : L2.St) (x : Option V) : (a ++ (b ++ [x]))[a.length + b.length]? = some x := get_mid a b x []
theorem tE_op1 {r : V → Hp → VK → Prop} {op : D → Option B} (o : Op1 K r op) (h : tE K W (op1 f op) σ H Q) : tE K W f σ H fun x H1 => r x H1 Q := by
  obtain ⟨M, F0, H0, F, ρ, ts, τ, l, ft, go⟩ := h
  refine ⟨M, F0, H0, F, ρ, ts, τ, l, ft, go.bind (us := []) (cs := []) (by simp) (by simp) rfl fun b ρ1 F1 H1 x l1 f1 go1 => ?_⟩
  have hl := ft.lenT l
  unfold fin1 at go1
  cases e1 : look ρ1 b with
  | none => rw [e1] at go1; exact go1.elim
  | some d =>
    rw [e1] at go1
    simp only at go1
    cases e2 : op d with
    | none => rw [e2] at go1; exact go1.elim
    | some c =>
      rw [e2] at go1
      refine o F1 H1 x d c Q f1.sub (f1.looks (n := σ.length + ts.length) ?_ (get_last2 _ _ _) e1) e2 fun F' H' v a => ?_
      · rw [← l1, hl]; exact get_mid _ _ _ []
      · exact go1 F' H' v l1 (f1.res l1 hl a)
theorem tE_op2 {r : R2} {op : D → D → Option B} (o : Op2 K r op) (h : tE K W (op2 f g op) σ H Q) : tOp r (tE K W f) (tE K W g) σ H Q := by
  obtain ⟨M, F0, H0, F, ρ, ts, τ, l, ft, go⟩ := h
  have hl := ft.lenT l
  refine ⟨M, F0, H0, F, ρ, ts, τ, l, ft, go.bind (us := []) (cs := []) (by simp) (by simp) rfl fun b ρ1 F1 H1 x l1 f1 go1 => ?_⟩
  refine ⟨M, F0, H0, F1, ρ1, ts ++ [some x], τ ++ [b], l1, f1, go1.bind (us := [some x]) (cs := [b]) rfl rfl rfl fun c ρ2 F2 H2 y l2 f2 go2 => ?_⟩
  unfold fin2 at go2
  cases e1 : look ρ2 b with
  | none => rw [e1] at go2; exact go2.elim
  | some d =>
    rw [e1] at go2
    simp only at go2
    cases e2 : look ρ2 c with
    | none => rw [e2] at go2; exact go2.elim
    | some d2 =>
      rw [e2] at go2
      simp only at go2
      cases e3 : op d d2 with
      | none => rw [e3] at go2; exact go2.elim
      | some z =>
        rw [e3] at go2
        have f2' : Fit K M F0 H0 σ.length F2 H2 (σ ++ (ts ++ [some x, some y])) (ρ2 ++ (τ ++ [b, c])) := by simpa using f2
        refine o F2 H2 x y d d2 z Q f2.sub (f2'.looks (n := σ.length + ts.length) ?_ (get_mid _ _ _ _) e1) (f2.looks (n := σ.length + (ts ++ [some x]).length) ?_ (get_last2 _ _ _) e2) e3 fun F' H' v a => go2 F' H' v l2 (f2'.res l2 hl a)
        · rw [← l2, hl]; exact get_mid _ _ _ _
        · have : (ts ++ [some x]).length = (τ ++ [b]).length := by simp [hl]
          rw [← l2, this]; exact get_mid _ _ _ []
theorem tE_opN {r : List V → Hp → VK → Prop} {op : List D → Option B} (o : OpN K r op) (h : tE K W (opN fa op) σ H Q) : tA K W fa σ H fun xs H1 => r xs H1 Q := by
  obtain ⟨M, F0, H0, F, ρ, ts, τ, l, ft, go⟩ := h
  have hl := ft.lenT l
  refine ⟨M, F0, H0, F, ρ, ts, τ, l, ft, GoA.bind go (us := []) (cs := []) (by simp) (by simp) rfl fun bs ρ1 F1 H1 xs l1 l2 f1 go1 => ?_⟩
  unfold finN at go1
  cases e1 : lookAll ρ1 bs with
  | none => rw [e1] at go1; exact go1.elim
  | some ds =>
    rw [e1] at go1
    simp only at go1
    cases e2 : op ds with
    | none => rw [e2] at go1; exact go1.elim
    | some c =>
      rw [e2] at go1
      refine o F1 H1 xs ds c Q f1.sub ?_ e2 fun F' H' v a => go1 F' H' v l1 (f1.res l1 hl a)
      have f2 : Fit K M F0 H0 σ.length F1 H1 ((σ ++ ts) ++ xs.map some) ((ρ1 ++ τ) ++ bs) := by
        rw [List.append_assoc, List.append_assoc]; exact f1
      exact Fit.lookAll (ρ := ρ1) (ρ1 ++ τ) (σ ++ ts) (by simp [l1, hl]) bs xs ds f2 ⟨τ, rfl⟩ l2 e1
end
end Dl
namespace Dl
open PySem PySem.Spec PyProof.Rows L2

/-! ### values handed away are frozen -/
def frz1 (ρ : Ev) : B → Option (D × Ev)
  | .val d => some (d, ρ)
  | .own true o => match o.toD with
    | some d => some (d, ρ)
    | none => none
  | .al i => match gb ρ i with
    | .val d => some (d, ρ)
    | .own true o => match o.toD with
      | some d => some (d, ρ.set i (.val d))
      | none => none
    | _ => none
  | _ => none
def frzs (ρ : Ev) : List B → Option (List D × Ev)
  | [] => some ([], ρ)
  | b :: bs => match frz1 ρ b with
    | some (d, ρ1) => match frzs ρ1 bs with
      | some (ds, ρ2) => some (d :: ds, ρ2)
      | none => none
    | none => none
section
variable {K : PySem.W.Frag} {W : WX} {M : Addr → Prop} {F0 H0 F H : Hp} {σ ts us ts' : L2.St} {τ cs τ' : List B} {ρ : Ev}
theorem set_app {α : Type} {a b : List α} {i : Nat} {x : α} (h : i < a.length) : (a ++ b).set i x = a.set i x ++ b := List.set_append_left i x h
theorem set_mid {α : Type} (a b : List α) (x y : α) (c : List α) : (a ++ (b ++ (x :: c))).set (a.length + b.length) y = a ++ (b ++ (y :: c)) := by
  rw [← List.append_assoc, List.set_append_right _ _ (by simp), List.length_append]
  simp
theorem Fit.frz1 {b : B} {x : V} {bs : List B} {xs : List V} {d : D} {ρ' : Ev} (f : Fit K M F0 H0 σ.length F H (σ ++ (ts ++ (some x :: xs.map some))) (ρ ++ (τ ++ (b :: bs)))) (l : ρ.length = σ.length) (hl : ts.length = τ.length)
    (h : Dl.frz1 ρ b = some (d, ρ')) : ∃ F' b', Same F F' ∧ ρ'.length = σ.length ∧ Fit K M F0 H0 σ.length F' H (σ ++ (ts ++ (some x :: xs.map some))) (ρ' ++ (τ ++ (b' :: bs))) ∧ Rep K F' d x := by
  have hb : (ρ ++ (τ ++ (b :: bs)))[ρ.length + τ.length]? = some b := get_mid _ _ _ _
  have hx : (σ ++ (ts ++ (some x :: xs.map some)))[ρ.length + τ.length]? = some (some x) := by rw [l, ← hl]; exact get_mid _ _ _ _
  cases b with
  | un => cases h
  | val d' =>
    cases h
    obtain ⟨w, h1, h2⟩ := f.val _ _ hb
    rw [hx] at h1; cases h1
    exact ⟨F, _, Same.refl F, l, f, h2⟩
  | own g o =>
    cases g with
    | false => cases h
    | true =>
      simp only [Dl.frz1] at h
      cases e : o.toD with
      | none => rw [e] at h; cases h
      | some d' =>
        rw [e] at h; cases h
        obtain ⟨F', s, f'⟩ := f.freeze hb e
        rw [set_mid] at f'
        obtain ⟨w, h1, h2⟩ := f'.val _ _ (get_mid _ _ _ _)
        rw [hx] at h1; cases h1
        exact ⟨F', _, s, l, f', h2⟩
  | al i =>
    obtain ⟨⟨hi, _⟩, h2⟩ := f.al _ i hb
    rw [hx] at h2
    simp only [Dl.frz1] at h
    cases e : gb ρ i with
    | un => rw [e] at h; cases h
    | al j => rw [e] at h; cases h
    | val d' =>
      rw [e] at h; cases h
      have h3 := gb_get e (by intro z; cases z)
      obtain ⟨w, h4, h5⟩ := f.val i _ (get_app h3)
      rw [← h2] at h4; cases h4
      exact ⟨F, _, Same.refl F, l, f, h5⟩
    | own g o =>
      rw [e] at h
      cases g with
      | false => cases h
      | true =>
        simp only at h
        cases e2 : o.toD with
        | none => rw [e2] at h; cases h
        | some d' =>
          rw [e2] at h; cases h
          have h3 := gb_get e (by intro z; cases z)
          obtain ⟨F', s, f'⟩ := f.freeze (get_app h3) e2
          rw [set_app (by omega)] at f'
          have h6 : (ρ.set i (.val d))[i]? = some (.val d) := by rw [List.getElem?_set]; simp; omega
          obtain ⟨w, h4, h5⟩ := f'.val i _ (get_app h6)
          rw [← h2] at h4; cases h4
          exact ⟨F', _, s, by simpa using l, f', h5⟩
theorem Fit.frzs : ∀ (bs : List B) (xs : List V) (F : Hp) (ts : L2.St) (τ : List B) (ρ ρ' : Ev) (ds : List D), Fit K M F0 H0 σ.length F H (σ ++ (ts ++ xs.map some)) (ρ ++ (τ ++ bs)) → ρ.length = σ.length → ts.length = τ.length → Dl.frzs ρ bs = some (ds, ρ') →
    ∃ F', Same F F' ∧ ρ'.length = σ.length ∧ Fit K M F0 H0 σ.length F' H (σ ++ ts) (ρ' ++ τ) ∧ Reps K F' ds xs := by
  intro bs
  induction bs with
  | nil =>
    intro xs F ts τ ρ ρ' ds f l hl h
    cases h
    cases xs with
    | nil => exact ⟨F, Same.refl F, l, by simpa using f, by simp only [Reps]⟩
    | cons x r =>
      have := f.len
      simp at this; omega
  | cons b bs ih =>
    intro xs F ts τ ρ ρ' ds f l hl h
    cases xs with
    | nil =>
      have := f.len
      simp at this; omega
    | cons x xs =>
      unfold Dl.frzs at h
      cases e1 : Dl.frz1 ρ b with
      | none => rw [e1] at h; cases h
      | some q =>
        obtain ⟨d, ρ1⟩ := q
        rw [e1] at h
        simp only at h
        cases e2 : Dl.frzs ρ1 bs with
        | none => rw [e2] at h; cases h
        | some q =>
          obtain ⟨dr, ρ2⟩ := q
          rw [e2] at h; cases h
          obtain ⟨F1, b', s1, l1, f1, r1⟩ := f.frz1 l hl e1
          have f2 : Fit K M F0 H0 σ.length F1 H (σ ++ ((ts ++ [some x]) ++ xs.map some)) (ρ1 ++ ((τ ++ [b']) ++ bs)) := by simpa using f1
          obtain ⟨F2, s2, l2, f3, r2⟩ := ih xs F1 _ _ ρ1 ρ' dr f2 l1 (by simp [hl]) e2
          refine ⟨F2, s1.trans s2, l2, ?_, ?_⟩
          · exact f3.less l2 hl
          · simp only [Reps]; exact ⟨x, xs, rfl, Rep.mono s2 _ _ r1, r2⟩
theorem Reps.length {F : Hp} : ∀ {ds : List D} {xs : List V}, Reps K F ds xs → ds.length = xs.length
  | [], xs, h => by simp only [Reps] at h; subst h; rfl
  | d :: ds, xs, h => by
    simp only [Reps] at h
    obtain ⟨v, r, rfl, _, h2⟩ := h
    simp [Reps.length h2]
end

/-! ### arguments -/
def dNil : Ev → R (List B) := fun ρ => .ok [] ρ
def dCons (f : Ev → R B) (fa : Ev → R (List B)) : Ev → R (List B) := fun ρ => (f ρ).bind fun b ρ1 => (fa ρ1).bind fun bs ρ2 => .ok (b :: bs) ρ2
section
variable {X : Cx} {W : WX} {K : PySem.W.Frag}
theorem pda_nil : PDA X W [] dNil := PA.imp pa_nil fun σ H Q h => by
  obtain ⟨M, F0, H0, F, ρ, ts, τ, l, ft, go⟩ := h
  exact (show ∀ F' H' (vs : List V), ρ.length = σ.length → ([] : List B).length = vs.length → Fit X.K M F0 H0 σ.length F' H' (σ ++ (ts ++ vs.map some)) (ρ ++ (τ ++ [])) → Q vs H' from go) F H [] l rfl (by simpa using ft)
theorem tA_cons {f : Ev → R B} {fa : Ev → R (List B)} (σ : L2.St) (H : Hp) (Q : List V → Hp → Prop) (h : tA K W (dCons f fa) σ H Q) : tCons (tE K W f) (tA K W fa) σ H Q := by
  obtain ⟨M, F0, H0, F, ρ, ts, τ, l, ft, go⟩ := h
  refine ⟨M, F0, H0, F, ρ, ts, τ, l, ft, Go.bindA go (us := []) (cs := []) (by simp) (by simp) rfl fun b ρ1 F1 H1 x l1 f1 go1 => ?_⟩
  refine ⟨M, F0, H0, F1, ρ1, ts ++ [some x], τ ++ [b], l1, f1, GoA.bindA go1 (us := [some x]) (cs := [b]) rfl rfl rfl fun bs ρ2 F2 H2 xs l2 l3 f2 go2 => ?_⟩
  exact go2 F2 H2 (x :: xs) l2 (by simp [l3]) (by simpa using f2)
theorem pda_cons {e : Expr} {es : List Expr} {f : Ev → R B} {fa : Ev → R (List B)} (ha : PD X W e f) (hr : PDA X W es fa) (hs : starEach (e :: es) X.env = (false, eval e X.env) :: starEach es X.env := by rfl) : PDA X W (e :: es) (dCons f fa) :=
  PA.imp (pa_cons ha hr hs) tA_cons
end

/-! ### tuples, lists -/
def dTup (fa : Ev → R (List B)) : Ev → R B := fun ρ => (fa ρ).bind fun bs ρ1 => match frzs ρ1 bs with
  | some (ds, ρ2) => if ds.length ≤ sizeLine then .ok (.val (.tup ds)) ρ2 else .no
  | none => .no
def dLst (fa : Ev → R (List B)) : Ev → R B := fun ρ => (fa ρ).bind fun bs ρ1 => match frzs ρ1 bs with
  | some (ds, ρ2) => if ds.length ≤ sizeLine then .ok (.own true (.lst ds)) ρ2 else .no
  | none => .no
section
variable {X : Cx} {W : WX} {K : PySem.W.Frag} {fa : Ev → R (List B)} {es : List Expr} {pos : Pos}
theorem same_upd {H : Hp} {p : Addr} {o : HO} (h : H p = none) : Same H (upd H p o) := fun b x e => by rw [upd_ne (ne_of_none e h)]; exact e
theorem Adds.lst {F H : Hp} {ds : List D} {xs : List V} {p : Addr} (s : Same F H) (h : H p = none) (r : Reps K F ds xs) : Adds K none0 F H F (upd H p (.lst xs)) (.ref p) (.own true (.lst ds)) :=
  ⟨fun a o _ e => same_upd h a o e, Same.refl F, s.trans (same_upd h), fun _ e _ => e, rfl, p, rfl, s.free h, h, xs, upd_same, r⟩
theorem Adds.tup {F H : Hp} {ds : List D} {xs : List V} {p : Addr} (s : Same F H) (h : H p = none) (r : Reps K F ds xs) : Adds K none0 F H (upd F p (.tup xs)) (upd H p (.tup xs)) (.ref p) (.val (.tup ds)) := by
  refine ⟨fun a o _ e => same_upd h a o e, same_upd (s.free h), fun a o e => ?_, fun a e e2 => ?_, ?_⟩
  · by_cases ha : a = p
    · subst ha; rw [upd_same] at e ⊢; exact e
    · rw [upd_ne ha] at e ⊢; exact s _ _ e
  · rw [upd_ne (fun z => by subst z; exact e2 h)]; exact e
  · show Rep K (upd F p (.tup xs)) (.tup ds) (.ref p)
    simp only [Rep]
    exact ⟨p, xs, rfl, upd_same, Reps.mono (same_upd (s.free h)) _ _ r⟩
theorem pd_tup {x1 : Nat} (h : PDA X W es fa) : PD X W (.Tuple es x1 pos) (dTup fa) := by
  refine PD.of (pe_tup h) fun σ H Q h => ?_
  obtain ⟨M, F0, H0, F, ρ, ts, τ, l, ft, go⟩ := h
  have hl := ft.lenT l
  refine ⟨M, F0, H0, F, ρ, ts, τ, l, ft, GoA.bind go (us := []) (cs := []) (by simp) (by simp) rfl fun bs ρ1 F1 H1 xs l1 l2 f1 go1 => ?_⟩
  cases e : frzs ρ1 bs with
  | none => rw [e] at go1; exact go1.elim
  | some q =>
    obtain ⟨ds, ρ2⟩ := q
    rw [e] at go1
    simp only at go1
    by_cases hz : ds.length ≤ sizeLine
    · rw [if_pos hz] at go1
      obtain ⟨F2, s2, l3, f2, r2⟩ := f1.frzs bs xs _ _ _ _ _ _ l1 hl e
      refine ⟨by rw [← r2.length]; exact hz, fun p hp => ?_⟩
      exact go1 _ _ _ l3 (Fit.res (js := []) (jb := []) (by simpa using f2) l3 hl (Adds.tup f2.sub hp r2))
    · rw [if_neg hz] at go1; exact go1.elim
theorem pd_lst (h : PDA X W es fa) : PD X W (.List es pos) (dLst fa) := by
  refine PD.of (pe_lst h) fun σ H Q h => ?_
  obtain ⟨M, F0, H0, F, ρ, ts, τ, l, ft, go⟩ := h
  have hl := ft.lenT l
  refine ⟨M, F0, H0, F, ρ, ts, τ, l, ft, GoA.bind go (us := []) (cs := []) (by simp) (by simp) rfl fun bs ρ1 F1 H1 xs l1 l2 f1 go1 => ?_⟩
  cases e : frzs ρ1 bs with
  | none => rw [e] at go1; exact go1.elim
  | some q =>
    obtain ⟨ds, ρ2⟩ := q
    rw [e] at go1
    simp only at go1
    by_cases hz : ds.length ≤ sizeLine
    · rw [if_pos hz] at go1
      obtain ⟨F2, s2, l3, f2, r2⟩ := f1.frzs bs xs _ _ _ _ _ _ l1 hl e
      refine ⟨by rw [← r2.length]; exact hz, fun p hp => ?_⟩
      exact go1 _ _ _ l3 (Fit.res (js := []) (jb := []) (by simpa using f2) l3 hl (Adds.lst f2.sub hp r2))
    · rw [if_neg hz] at go1; exact go1.elim
end

/-! ### tests, and, or, not, a if t else b -/
def toB (b : B) (ρ : Ev) : R Bool := match look ρ b with
  | some (.bl k) => .ok k ρ
  | _ => .no
def truth : D → Option Bool
  | .non => some false
  | .bl b => some b
  | .int i => some (i != 0)
  | .str x => if x.length ≤ sizeLine then some ((x.length : Int) != 0) else none
  | .lst ds => some (!ds.isEmpty)
  | .tup ds => some (!ds.isEmpty)
  | .kt ds => some (!ds.isEmpty)
  | .kl _ => none
  | .dk kvs => some (!kvs.isEmpty)
  | .dt _ => none
  | .ins _ _ => none
def toTr (b : B) (ρ : Ev) : R Bool := match look ρ b with
  | some d => match truth d with
    | some k => .ok k ρ
    | none => .no
  | none => .no
def dB (f : Ev → R B) : Ev → R Bool := fun ρ => (f ρ).bind toB
def dTr (f : Ev → R B) : Ev → R Bool := fun ρ => (f ρ).bind toTr
def tAndD (f g : Ev → R Bool) : Ev → R Bool := fun ρ => (f ρ).bind fun k ρ1 => if k = true then g ρ1 else .ok false ρ1
def tOrD (f g : Ev → R Bool) : Ev → R Bool := fun ρ => (f ρ).bind fun k ρ1 => if k = true then .ok true ρ1 else g ρ1
def tNotD (f : Ev → R Bool) : Ev → R Bool := fun ρ => (f ρ).bind fun k ρ1 => .ok (!k) ρ1
def dOfT (f : Ev → R Bool) : Ev → R B := fun ρ => (f ρ).bind fun k ρ1 => .ok (.val (.bl k)) ρ1
def dIf (t : Ev → R Bool) (f g : Ev → R B) : Ev → R B := fun ρ => (t ρ).bind fun k ρ1 => if k = true then f ρ1 else g ρ1
def dAnd (f g : Ev → R B) : Ev → R B := fun ρ => (f ρ).bind fun b ρ1 => (toTr b ρ1).bind fun k ρ2 => if k = true then g ρ2 else .ok b ρ2
def dOr (f g : Ev → R B) : Ev → R B := fun ρ => (f ρ).bind fun b ρ1 => (toTr b ρ1).bind fun k ρ2 => if k = true then .ok b ρ2 else g ρ2
def dNot (f : Ev → R B) : Ev → R B := fun ρ => (f ρ).bind fun b ρ1 => (toTr b ρ1).bind fun k ρ2 => .ok (.val (.bl (!k))) ρ2
section
variable {X : Cx} {W : WX} {K : PySem.W.Frag} {f g : Ev → R B} {p q : Ev → R Bool} {a b c e : Expr} {rest : List Expr} {pos : Pos} {σ : L2.St} {H : Hp}
theorem Rep1s.len {F : Hp} : ∀ {ds : List D} {xs : List V}, Reps K F ds xs → xs.isEmpty = ds.isEmpty
  | [], xs, h => by simp only [Reps] at h; subst h; rfl
  | d :: ds, xs, h => by simp only [Reps] at h; obtain ⟨v, r, rfl, _⟩ := h; rfl
theorem RepK.len {F : Hp} : ∀ {ds : List (Key × D)} {xs : List (Key × V)}, RepK K F ds xs → xs.isEmpty = ds.isEmpty
  | [], xs, h => by simp only [RepK] at h; subst h; rfl
  | (k, d) :: ds, xs, h => by simp only [RepK] at h; obtain ⟨v, r, rfl, _⟩ := h; rfl
theorem truth_ok {F H : Hp} {d : D} {x : V} {k : Bool} (s : Same F H) (r : Rep1 K F H d x) (h : truth d = some k) : TruV K x H k := by
  cases d with
  | non => cases r; cases h; exact rfl
  | bl b => cases r; cases h; exact rfl
  | int i => cases r; cases h; exact rfl
  | str z =>
    cases r
    simp only [truth] at h
    split at h
    · cases h; rename_i hz; exact ⟨hz, rfl⟩
    · cases h
  | lst ds => obtain ⟨a, vs, rfl, h1, h2⟩ := r; cases h; exact .inl ⟨vs, .inl (.inl h1), by rw [Rep1s.len h2]⟩
  | tup ds => obtain ⟨a, vs, rfl, h1, h2⟩ := r; cases h; exact .inr (.inl ⟨vs, Same.sqT s h1, by rw [Rep1s.len h2]⟩)
  | kt ds => obtain ⟨a, vs, rfl, h1, h2⟩ := r; cases h; exact .inr (.inl ⟨vs, sqT_mono s h1.sqT, by rw [Rep1s.len h2]⟩)
  | kl ds => cases h
  | dk ds => obtain ⟨a, vs, rfl, h1, h2⟩ := r; cases h; exact .inr (.inr ⟨vs, h1, by rw [RepK.len h2]⟩)
  | dt fs => cases h
  | ins C fs => cases h
theorem tT_B {t : TE} (dom : ∀ Q, tE K W f σ H Q → t σ H Q) {Q : Bool → Hp → Prop} (h : tT K W (dB f) σ H Q) : t σ H fun x H1 => ∃ k, x = .bl k ∧ Q k H1 := by
  obtain ⟨M, F0, H0, F, ρ, ts, τ, l, ft, go⟩ := h
  have hl := ft.lenT l
  refine dom _ ⟨M, F0, H0, F, ρ, ts, τ, l, ft, Go.bindT go (us := []) (cs := []) (by simp) (by simp) rfl fun b ρ1 F1 H1 x l1 f1 go1 => ?_⟩
  unfold toB at go1
  cases e1 : look ρ1 b with
  | none => rw [e1] at go1; exact go1.elim
  | some d =>
    rw [e1] at go1
    cases d with
    | bl k =>
      have r := f1.looks (n := σ.length + ts.length) (by rw [← l1, hl]; exact get_mid _ _ _ []) (get_last2 _ _ _) e1
      exact ⟨k, r, go1 F1 H1 l1 (f1.less l1 hl)⟩
    | _ => exact go1.elim
theorem tT_Tr {Q : Bool → Hp → Prop} (h : tT K W (dTr f) σ H Q) : tE K W f σ H fun x H1 => ∃ k, TruV K x H1 k ∧ Q k H1 := by
  obtain ⟨M, F0, H0, F, ρ, ts, τ, l, ft, go⟩ := h
  have hl := ft.lenT l
  refine ⟨M, F0, H0, F, ρ, ts, τ, l, ft, Go.bindT go (us := []) (cs := []) (by simp) (by simp) rfl fun b ρ1 F1 H1 x l1 f1 go1 => ?_⟩
  unfold toTr at go1
  cases e1 : look ρ1 b with
  | none => rw [e1] at go1; exact go1.elim
  | some d =>
    rw [e1] at go1
    simp only at go1
    cases e2 : truth d with
    | none => rw [e2] at go1; exact go1.elim
    | some k =>
      rw [e2] at go1
      have r := f1.looks (n := σ.length + ts.length) (by rw [← l1, hl]; exact get_mid _ _ _ []) (get_last2 _ _ _) e1
      exact ⟨k, truth_ok f1.sub r e2, go1 F1 H1 l1 (f1.less l1 hl)⟩
/-- an expression of any kind as a test -/
theorem pdt_val (h : PD X W e f) (he : ∀ whole, isTrue e X.env whole = (do let v ← whole; standAt e.pos; holding [v] (truthy v)) := by intro _; rfl) : PDT X W e (dTr f) := PT.imp (pt_truth h he) fun _ _ _ h => tT_Tr h
/-- a comparison by its rule -/
theorem pd_cmp {op : CmpOp} {r : R2} {o : D → D → Option B} (ho : OpR X (compareOp op) r) (hd : Op2 X.K r o) (ha : PD X W a f) (hb : PD X W b g) (hm : behindInMarks op b = false) : PD X W (.Compare a [op] [b] pos) (op2 f g o) :=
  PD.of (pe_cmpR ho ha hb hm) fun _ _ _ h => tE_op2 hd h
theorem pdt_cmp {op : CmpOp} {r : R2} {o : D → D → Option B} (ho : OpR X (compareOp op) r) (hd : Op2 X.K r o) (ha : PD X W a f) (hb : PD X W b g) (hm : behindInMarks op b = false) : PDT X W (.Compare a [op] [b] pos) (dB (op2 f g o)) :=
  PT.imp (pt_cmpR ho ha hb hm) fun _ _ _ h => tT_B (fun _ h => tE_op2 hd h) h
def PDW (X : Cx) (W : WX) (e : Expr) (f : Ev → R Bool) : Prop := PW X e (tT X.K W f)
theorem PW.imp {e : Expr} {t t' : TT} (h : PW X e t) (i : ∀ σ H Q, t' σ H Q → t σ H Q) : PW X e t' := ⟨fun wh pins s σ H Q I hq => h.run wh pins s σ H Q I (i σ H Q hq)⟩
theorem PDW.pt (h : PDW X W e p) : PDT X W e p := PW.pt h
theorem pdw_and1 (h : PDT X W a p) : PDW X W (.BoolOp .And [a] pos) p := pw_and1 h
theorem pdw_or1 (h : PDT X W a p) : PDW X W (.BoolOp .Or [a] pos) p := pw_or1 h
theorem pdw_and (h1 : PDT X W a p) (h2 : PDW X W (.BoolOp .And (b :: rest) pos) q) : PDW X W (.BoolOp .And (a :: b :: rest) pos) (tAndD p q) := PW.imp (pw_and h1 h2) fun σ H Q h => by
  obtain ⟨M, F0, H0, F, ρ, ts, τ, l, ft, go⟩ := h
  refine ⟨M, F0, H0, F, ρ, ts, τ, l, ft, GoT.bindT go (us := []) (cs := []) (by simp) (by simp) rfl fun k ρ1 F1 H1 l1 f1 go1 => ?_⟩
  cases k with
  | true => rw [if_pos rfl] at go1 ⊢; exact ⟨M, F0, H0, F1, ρ1, ts, τ, l1, f1, go1⟩
  | false => rw [if_neg (by decide)] at go1 ⊢; exact go1 F1 H1 l1 f1
theorem pdw_or (h1 : PDT X W a p) (h2 : PDW X W (.BoolOp .Or (b :: rest) pos) q) : PDW X W (.BoolOp .Or (a :: b :: rest) pos) (tOrD p q) := PW.imp (pw_or h1 h2) fun σ H Q h => by
  obtain ⟨M, F0, H0, F, ρ, ts, τ, l, ft, go⟩ := h
  refine ⟨M, F0, H0, F, ρ, ts, τ, l, ft, GoT.bindT go (us := []) (cs := []) (by simp) (by simp) rfl fun k ρ1 F1 H1 l1 f1 go1 => ?_⟩
  cases k with
  | true => rw [if_pos rfl] at go1 ⊢; exact go1 F1 H1 l1 f1
  | false => rw [if_neg (by decide)] at go1 ⊢; exact ⟨M, F0, H0, F1, ρ1, ts, τ, l1, f1, go1⟩
theorem pdt_not (h1 : PDT X W a p) : PDT X W (.UnaryOp .Not a pos) (tNotD p) := PT.imp (pt_not h1) fun σ H Q h => by
  obtain ⟨M, F0, H0, F, ρ, ts, τ, l, ft, go⟩ := h
  exact ⟨M, F0, H0, F, ρ, ts, τ, l, ft, GoT.bindT go (us := []) (cs := []) (by simp) (by simp) rfl fun k ρ1 F1 H1 l1 f1 go1 => go1 F1 H1 l1 f1⟩
theorem pd_if (h1 : PDT X W c p) (ha : PD X W a f) (hb : PD X W b g) : PD X W (.IfExp c a b pos) (dIf p f g) := PD.of (pe_ifExp h1 ha hb) fun σ H Q h => by
  obtain ⟨M, F0, H0, F, ρ, ts, τ, l, ft, go⟩ := h
  refine ⟨M, F0, H0, F, ρ, ts, τ, l, ft, GoT.bind go (us := []) (cs := []) (by simp) (by simp) rfl fun k ρ1 F1 H1 l1 f1 go1 => ?_⟩
  cases k with
  | true => rw [if_pos rfl] at go1 ⊢; exact ⟨M, F0, H0, F1, ρ1, ts, τ, l1, f1, go1⟩
  | false => rw [if_neg (by decide)] at go1 ⊢; exact ⟨M, F0, H0, F1, ρ1, ts, τ, l1, f1, go1⟩
theorem toTr_ok {M : Addr → Prop} {F0 H0 F1 H1 : Hp} {ρ1 : Ev} {ts : L2.St} {τ : List B} {b : B} {x : V} {P : R Bool → Prop} (f1 : Fit K M F0 H0 σ.length F1 H1 (σ ++ (ts ++ [some x])) (ρ1 ++ (τ ++ [b]))) (l1 : ρ1.length = σ.length) (hl : ts.length = τ.length)
    (hn : ¬ P .no) (h : P (toTr b ρ1)) : ∃ k, TruV K x H1 k ∧ P (.ok k ρ1) := by
  unfold toTr at h
  cases e1 : look ρ1 b with
  | none => rw [e1] at h; exact absurd h hn
  | some d =>
    rw [e1] at h
    simp only at h
    cases e2 : truth d with
    | none => rw [e2] at h; exact absurd h hn
    | some k =>
      rw [e2] at h
      have r := f1.looks (n := σ.length + ts.length) (by rw [← l1, hl]; exact get_mid _ _ _ []) (get_last2 _ _ _) e1
      exact ⟨k, truth_ok f1.sub r e2, h⟩
theorem pd_one {op : BoolOp} (h : PD X W a f) : PD X W (.BoolOp op [a] pos) f := pe_one h
theorem pd_and (ha : PD X W a f) (hb : PD X W (.BoolOp .And (b :: rest) pos) g) : PD X W (.BoolOp .And (a :: b :: rest) pos) (dAnd f g) := PD.of (pe_andT ha hb) fun σ H Q h => by
  obtain ⟨M, F0, H0, F, ρ, ts, τ, l, ft, go⟩ := h
  have hl := ft.lenT l
  refine ⟨M, F0, H0, F, ρ, ts, τ, l, ft, Go.bind go (us := []) (cs := []) (by simp) (by simp) rfl fun b ρ1 F1 H1 x l1 f1 go1 => ?_⟩
  obtain ⟨k, hk, go2⟩ := toTr_ok (P := fun r => Go X.K W M F0 H0 σ ts τ (r.bind fun k ρ2 => if k = true then g ρ2 else .ok b ρ2) Q) f1 l1 hl (fun z => z) go1
  refine ⟨k, hk, ?_⟩
  cases k with
  | true => rw [if_pos rfl]; exact ⟨M, F0, H0, F1, ρ1, ts, τ, l1, f1.less l1 hl, go2⟩
  | false => rw [if_neg (by decide)]; exact go2 F1 H1 x l1 f1
theorem pd_or (ha : PD X W a f) (hb : PD X W (.BoolOp .Or (b :: rest) pos) g) : PD X W (.BoolOp .Or (a :: b :: rest) pos) (dOr f g) := PD.of (pe_orT ha hb) fun σ H Q h => by
  obtain ⟨M, F0, H0, F, ρ, ts, τ, l, ft, go⟩ := h
  have hl := ft.lenT l
  refine ⟨M, F0, H0, F, ρ, ts, τ, l, ft, Go.bind go (us := []) (cs := []) (by simp) (by simp) rfl fun b ρ1 F1 H1 x l1 f1 go1 => ?_⟩
  obtain ⟨k, hk, go2⟩ := toTr_ok (P := fun r => Go X.K W M F0 H0 σ ts τ (r.bind fun k ρ2 => if k = true then .ok b ρ2 else g ρ2) Q) f1 l1 hl (fun z => z) go1
  refine ⟨k, hk, ?_⟩
  cases k with
  | true => rw [if_pos rfl]; exact go2 F1 H1 x l1 f1
  | false => rw [if_neg (by decide)]; exact ⟨M, F0, H0, F1, ρ1, ts, τ, l1, f1.less l1 hl, go2⟩
theorem pd_not (ha : PD X W a f) : PD X W (.UnaryOp .Not a pos) (dNot f) := PD.of (pe_notT ha) fun σ H Q h => by
  obtain ⟨M, F0, H0, F, ρ, ts, τ, l, ft, go⟩ := h
  have hl := ft.lenT l
  refine ⟨M, F0, H0, F, ρ, ts, τ, l, ft, Go.bind go (us := []) (cs := []) (by simp) (by simp) rfl fun b ρ1 F1 H1 x l1 f1 go1 => ?_⟩
  obtain ⟨k, hk, go2⟩ := toTr_ok (P := fun r => Go X.K W M F0 H0 σ ts τ (r.bind fun k ρ2 => .ok (.val (.bl (!k))) ρ2) Q) f1 l1 hl (fun z => z) go1
  exact ⟨k, hk, go2 F1 H1 _ l1 (f1.res l1 hl (Adds.val0 f1.sub (by simp only [Rep])))⟩
end
end Dl
namespace Dl
open PySem PySem.Spec PyProof.Rows L2

/-! ### whole numbers -/
def vI (i : Int) : B := .val (.int i)
def vB (k : Bool) : B := .val (.bl k)
def iiD (g : Int → Int → Int) (d e : D) : Option B := match d, e with
  | .int i, .int j => some (vI (g i j))
  | _, _ => none
def iiC (c : Int → Int → Bool) (g : Int → Int → Int) (d e : D) : Option B := match d, e with
  | .int i, .int j => if c i j = true then some (vI (g i j)) else none
  | _, _ => none
def ibD (g : Int → Int → Bool) (d e : D) : Option B := match d, e with
  | .int i, .int j => some (vB (g i j))
  | _, _ => none
section
variable {K : PySem.W.Frag}
theorem rep_int {F : Hp} {i : Int} : Rep K F (.int i) (.int i) := by simp only [Rep]
theorem rep_bl {F : Hp} {i : Bool} : Rep K F (.bl i) (.bl i) := by simp only [Rep]
theorem rep_str {F : Hp} {i : Str} : Rep K F (.str i) (.str i) := by simp only [Rep]
theorem rep_non {F : Hp} : Rep K F .non .non := by simp only [Rep]
theorem Op2.ii {g : Int → Int → Int} : Op2 K (rI0 fun i j => .int (g i j)) (iiD g) := fun F H x y d e b Q s h1 h2 ho hq => by
  unfold iiD at ho
  split at ho
  · cases h1; cases h2; cases ho
    exact ⟨_, _, rfl, rfl, hq F H _ (Adds.val0 s rep_int)⟩
  · cases ho
theorem Op2.iiC {C : Int → Int → Prop} {c : Int → Int → Bool} {g : Int → Int → Int} (hc : ∀ i j, c i j = true → C i j) : Op2 K (rI C fun i j => .int (g i j)) (iiC c g) := fun F H x y d e b Q s h1 h2 ho hq => by
  unfold Dl.iiC at ho
  split at ho
  · cases h1; cases h2
    split at ho
    · cases ho; rename_i h
      exact ⟨_, _, rfl, rfl, hc _ _ h, hq F H _ (Adds.val0 s rep_int)⟩
    · cases ho
  · cases ho
theorem Op2.ib {g : Int → Int → Bool} : Op2 K (rI0 fun i j => .bl (g i j)) (ibD g) := fun F H x y d e b Q s h1 h2 ho hq => by
  unfold ibD at ho
  split at ho
  · cases h1; cases h2; cases ho
    exact ⟨_, _, rfl, rfl, hq F H _ (Adds.val0 s rep_bl)⟩
  · cases ho
/-- one rule or the other -/
def orD (o o' : D → D → Option B) (d e : D) : Option B := match o d e with
  | some b => some b
  | none => o' d e
theorem Op2.or {r r' : R2} {o o' : D → D → Option B} (h : Op2 K r o) (h' : Op2 K r' o') : Op2 K (fun x y H Q => r x y H Q ∨ r' x y H Q) (orD o o') := fun F H x y d e b Q s h1 h2 ho hq => by
  unfold orD at ho
  split at ho
  · rename_i c hc
    cases ho
    exact .inl (h F H x y d e _ Q s h1 h2 hc hq)
  · exact .inr (h' F H x y d e b Q s h1 h2 ho hq)
/-! sequences put together -/
theorem Reps.app {F : Hp} : ∀ {ds es : List D} {xs ys : List V}, Reps K F ds xs → Reps K F es ys → Reps K F (ds ++ es) (xs ++ ys)
  | [], es, xs, ys, h1, h2 => by simp only [Reps] at h1; subst h1; exact h2
  | d :: ds, es, xs, ys, h1, h2 => by
    simp only [Reps] at h1
    obtain ⟨v, r, rfl, h3, h4⟩ := h1
    show Reps K F (d :: (ds ++ es)) (v :: (r ++ ys))
    simp only [Reps]; exact ⟨v, _, rfl, h3, Reps.app h4 h2⟩
def strAdd (d e : D) : Option B := match d, e with
  | .str x, .str y => if x.length + y.length ≤ sizeLine then some (.val (.str (x ++ y))) else none
  | _, _ => none
def lstAdd (d e : D) : Option B := match d, e with
  | .lst xs, .lst ys => if xs.length + ys.length ≤ sizeLine then some (.own true (.lst (xs ++ ys))) else none
  | _, _ => none
/-- t + u: an empty one gives the other itself -/
def tupAdd (d e : D) : Option B := match tupOf d, tupOf e with
  | some xs, some ys => if xs.length + ys.length ≤ sizeLine then some (.val (if xs.isEmpty = true then e else if ys.isEmpty = true then d else .tup (xs ++ ys))) else none
  | _, _ => none
theorem Op2.strAdd : Op2 K (fun x y H Q => ∃ i j, x = .str i ∧ y = .str j ∧ i.length + j.length ≤ sizeLine ∧ Q (.str (i ++ j)) H) strAdd := fun F H x y d e b Q s h1 h2 ho hq => by
  unfold Dl.strAdd at ho
  split at ho
  · cases h1; cases h2
    split at ho
    · cases ho; rename_i h
      exact ⟨_, _, rfl, rfl, h, hq F H _ (Adds.val0 s rep_str)⟩
    · cases ho
  · cases ho
theorem Op2.lstAdd : Op2 K rCat lstAdd := fun F H x y d e b Q s h1 h2 ho hq => by
  unfold Dl.lstAdd at ho
  split at ho
  · obtain ⟨a, vs, rfl, ha, ra⟩ := h1
    obtain ⟨a2, vs2, rfl, ha2, ra2⟩ := h2
    split at ho
    · cases ho; rename_i h
      rw [ra.length, ra2.length] at h
      exact ⟨a, a2, vs, vs2, rfl, rfl, ha, ha2, h, fun p hp => hq _ _ _ (Adds.lst s hp (ra.app ra2))⟩
    · cases ho
  · cases ho
theorem nil_of {F : Hp} {ds : List D} {xs : List V} (h : Reps K F ds xs) : xs = [] ↔ ds.isEmpty = true := by
  cases ds with
  | nil => simp only [Reps] at h; subst h; simp
  | cons d ds => simp only [Reps] at h; obtain ⟨v, r, rfl, _⟩ := h; simp
theorem Op2.tupAdd : Op2 K (rCatA K) tupAdd := fun F H x y d e b Q s h1 h2 ho hq => by
  unfold Dl.tupAdd at ho
  cases e1 : tupOf d with
  | none => rw [e1] at ho; cases ho
  | some xs =>
    cases e2 : tupOf e with
    | none => rw [e1, e2] at ho; cases ho
    | some ys =>
      rw [e1, e2] at ho
      simp only at ho
      obtain ⟨a, vs, rfl, ha, ra⟩ := h1.tupOf e1
      obtain ⟨a2, vs2, rfl, ha2, ra2⟩ := h2.tupOf e2
      split at ho
      · rename_i h
        cases ho
        rw [ra.length, ra2.length] at h
        refine ⟨a, a2, vs, vs2, rfl, rfl, sqT_mono s ha, sqT_mono s ha2, h, fun e => ?_, fun n e => ?_, fun n n2 p hp => ?_⟩
        · rw [if_pos ((nil_of ra).mp e)] at hq
          exact hq F H _ (Adds.val0 s (h2.tupRep e2))
        · rw [if_neg (fun z => n ((nil_of ra).mpr z)), if_pos ((nil_of ra2).mp e)] at hq
          exact hq F H _ (Adds.val0 s (h1.tupRep e1))
        · rw [if_neg (fun z => n ((nil_of ra).mpr z)), if_neg (fun z => n2 ((nil_of ra2).mpr z))] at hq
          exact hq _ _ _ (Adds.tup s hp (ra.app ra2))
      · cases ho

/-! times -/
def lstMul (d e : D) : Option B := match d, e with
  | .lst xs, .int k => if -(2 ^ 63) ≤ k ∧ k < 2 ^ 63 ∧ xs.length * k.toNat ≤ sizeLine then some (.own true (.lst (List.replicate k.toNat xs).flatten)) else none
  | _, _ => none
theorem Reps.rep {F : Hp} {ds : List D} {xs : List V} (h : Reps K F ds xs) : ∀ n : Nat, Reps K F (List.replicate n ds).flatten (List.replicate n xs).flatten
  | 0 => by simp only [List.replicate_zero, List.flatten_nil, Reps]
  | n + 1 => by rw [List.replicate_succ, List.replicate_succ, List.flatten_cons, List.flatten_cons]; exact h.app (Reps.rep h n)
theorem Op2.lstMul : Op2 K rRep lstMul := fun F H x y d e b Q s h1 h2 ho hq => by
  unfold Dl.lstMul at ho
  split at ho
  · obtain ⟨a, vs, rfl, ha, ra⟩ := h1
    cases h2
    split at ho
    · cases ho; rename_i h
      rw [ra.length] at h
      exact ⟨a, _, vs, rfl, rfl, ha, h.1, h.2.1, h.2.2, fun p hp => hq _ _ _ (Adds.lst s hp (ra.rep _))⟩
    · cases ho
  · cases ho

/-! ### comparisons of data -/
mutual
def toPy : D → Option PyData
  | .non => some .none
  | .bl b => some (.bool b)
  | .int i => some (.int i)
  | .str x => some (.str x)
  | .lst ds => match toPys ds with
    | some ps => some (.list ps)
    | none => none
  | .tup ds => match toPys ds with
    | some ps => some (.tuple ps)
    | none => none
  | .kt ds => match toPys ds with
    | some ps => some (.tuple ps)
    | none => none
  | .kl _ => none
  | .dk _ => none
  | .dt _ => none
  | .ins _ _ => none
def toPys : List D → Option (List PyData)
  | [] => some []
  | d :: ds => match toPy d, toPys ds with
    | some p, some ps => some (p :: ps)
    | _, _ => none
end
mutual
theorem Rep.dp {F H : Hp} (s : Same F H) : ∀ (d : D) (v : V) (p : PyData), Rep K F d v → toPy d = some p → Dp K H v p
  | .non, v, p, h, e => by simp only [Rep] at h; simp only [toPy] at e; cases h; cases e; exact .non
  | .bl b, v, p, h, e => by simp only [Rep] at h; simp only [toPy] at e; cases h; cases e; exact .bl _
  | .int i, v, p, h, e => by simp only [Rep] at h; simp only [toPy] at e; cases h; cases e; exact .int _
  | .str x, v, p, h, e => by simp only [Rep] at h; simp only [toPy] at e; cases h; cases e; exact .str _
  | .lst ds, v, p, h, e => by
    simp only [Rep] at h; simp only [toPy] at e
    obtain ⟨a, vs, rfl, h1, h2⟩ := h
    cases e2 : toPys ds with
    | none => rw [e2] at e; cases e
    | some ps => rw [e2] at e; cases e; exact .lst (.inl (.inl (s _ _ h1))) (Reps.dp s ds vs ps h2 e2)
  | .tup ds, v, p, h, e => by
    simp only [Rep] at h; simp only [toPy] at e
    obtain ⟨a, vs, rfl, h1, h2⟩ := h
    cases e2 : toPys ds with
    | none => rw [e2] at e; cases e
    | some ps => rw [e2] at e; cases e; exact .tup (Same.sqT s h1) (Reps.dp s ds vs ps h2 e2)
  | .kt ds, v, p, h, e => by
    simp only [Rep] at h; simp only [toPy] at e
    obtain ⟨a, vs, rfl, h1, h2⟩ := h
    cases e2 : toPys ds with
    | none => rw [e2] at e; cases e
    | some ps => rw [e2] at e; cases e; exact .tup (sqT_mono s h1.sqT) (Reps.dp s ds vs ps h2 e2)
  | .kl _, v, p, h, e => by simp only [toPy] at e; cases e
  | .dk _, v, p, h, e => by simp only [toPy] at e; cases e
  | .dt _, v, p, h, e => by simp only [toPy] at e; cases e
  | .ins _ _, v, p, h, e => by simp only [toPy] at e; cases e
theorem Reps.dp {F H : Hp} (s : Same F H) : ∀ (ds : List D) (vs : List V) (ps : List PyData), Reps K F ds vs → toPys ds = some ps → DpAll K H vs ps
  | [], vs, ps, h, e => by simp only [Reps] at h; simp only [toPys] at e; cases h; cases e; exact .nil
  | d :: ds, vs, ps, h, e => by
    simp only [Reps] at h; simp only [toPys] at e
    obtain ⟨v, r, rfl, h1, h2⟩ := h
    cases e1 : toPy d with
    | none => rw [e1] at e; cases e
    | some p =>
      cases e2 : toPys ds with
      | none => rw [e1, e2] at e; cases e
      | some q => rw [e1, e2] at e; cases e; exact .cons (Rep.dp s d v p h1 e1) (Reps.dp s ds r q h2 e2)
end
theorem Rep1.dp {F H : Hp} (s : Same F H) {d : D} {v : V} {p : PyData} (h : Rep1 K F H d v) (e : toPy d = some p) : Dp K H v p := by
  cases d with
  | lst ds =>
    simp only [toPy] at e
    obtain ⟨a, vs, rfl, h1, h2⟩ := h
    cases e2 : toPys ds with
    | none => rw [e2] at e; cases e
    | some ps => rw [e2] at e; cases e; exact .lst (.inl (.inl h1)) (Reps.dp s ds vs ps h2 e2)
  | tup ds =>
    simp only [toPy] at e
    obtain ⟨a, vs, rfl, h1, h2⟩ := h
    cases e2 : toPys ds with
    | none => rw [e2] at e; cases e
    | some ps => rw [e2] at e; cases e; exact .tup (Same.sqT s h1) (Reps.dp s ds vs ps h2 e2)
  | kt ds =>
    simp only [toPy] at e
    obtain ⟨a, vs, rfl, h1, h2⟩ := h
    cases e2 : toPys ds with
    | none => rw [e2] at e; cases e
    | some ps => rw [e2] at e; cases e; exact .tup (sqT_mono s h1.sqT) (Reps.dp s ds vs ps h2 e2)
  | kl _ => simp only [toPy] at e; cases e
  | dk _ => simp only [toPy] at e; cases e
  | dt _ => simp only [toPy] at e; cases e
  | ins _ _ => simp only [toPy] at e; cases e
  | non => cases h; simp only [toPy] at e; cases e; exact .non
  | bl b => cases h; simp only [toPy] at e; cases e; exact .bl _
  | int i => cases h; simp only [toPy] at e; cases e; exact .int _
  | str x => cases h; simp only [toPy] at e; cases e; exact .str _
/-- == as Python tells it, of scalars at once -/
def eqS (d e : D) : Option Bool := match d, e with
  | .non, .non => some true
  | .int i, .int j => some (i == j)
  | .bl i, .bl j => some (i == j)
  | .str i, .str j => some (i == j)
  | .int _, .non => some false
  | .non, .int _ => some false
  | .bl _, .non => some false
  | .non, .bl _ => some false
  | .str _, .non => some false
  | .non, .str _ => some false
  | .int _, .str _ => some false
  | .str _, .int _ => some false
  | .bl _, .str _ => some false
  | .str _, .bl _ => some false
  | _, _ => none
def eqP (d e : D) : Option Bool := match toPy d, toPy e with
  | some p, some q => if SeqAt.shaped p = true ∧ SeqAt.shaped q = true then some (PyData.eqv p q) else none
  | _, _ => none
def eqB (d e : D) : Option Bool := match eqS d e with
  | some k => some k
  | none => eqP d e
def eqD (d e : D) : Option B := match eqB d e with
  | some k => some (vB k)
  | none => none
def neD (d e : D) : Option B := match eqB d e with
  | some k => some (vB (!k))
  | none => none
theorem eqS_ok {F H : Hp} {d e : D} {x y : V} {k : Bool} (h1 : Rep1 K F H d x) (h2 : Rep1 K F H e y) (h : eqS d e = some k) : scal x y = true ∧ decide (x = y) = k := by
  unfold eqS at h
  split at h <;> first
    | (cases h; done)
    | (cases h1; cases h2; cases h; refine ⟨rfl, ?_⟩; first | rfl | exact dec_int | exact dec_bl | exact dec_str | (exact decide_eq_false (by intro z; cases z)))
theorem Op2.eqD : Op2 K (fun x y H Q => rEq x y H Q ∨ rEqD K x y H Q) eqD := fun F H x y d e b Q s h1 h2 ho hq => by
  unfold Dl.eqD eqB at ho
  cases e1 : eqS d e with
  | some k =>
    rw [e1] at ho; cases ho
    obtain ⟨h3, h4⟩ := eqS_ok h1 h2 e1
    exact .inl ⟨h3, by rw [h4]; exact hq F H _ (Adds.val0 s rep_bl)⟩
  | none =>
    rw [e1] at ho
    simp only [eqP] at ho
    cases e2 : toPy d with
    | none => rw [e2] at ho; cases ho
    | some p =>
      cases e3 : toPy e with
      | none => rw [e2, e3] at ho; cases ho
      | some q =>
        rw [e2, e3] at ho
        simp only at ho
        by_cases hc : SeqAt.shaped p = true ∧ SeqAt.shaped q = true
        · rw [if_pos hc] at ho; cases ho
          exact .inr ⟨p, q, h1.dp s e2, h2.dp s e3, hc.1, hc.2, hq F H _ (Adds.val0 s rep_bl)⟩
        · rw [if_neg hc] at ho; cases ho
theorem Op2.neD : Op2 K (fun x y H Q => rNe x y H Q ∨ rNeD K x y H Q) neD := fun F H x y d e b Q s h1 h2 ho hq => by
  unfold Dl.neD eqB at ho
  cases e1 : eqS d e with
  | some k =>
    rw [e1] at ho; cases ho
    obtain ⟨h3, h4⟩ := eqS_ok h1 h2 e1
    exact .inl ⟨h3, by rw [h4]; exact hq F H _ (Adds.val0 s rep_bl)⟩
  | none =>
    rw [e1] at ho
    simp only [eqP] at ho
    cases e2 : toPy d with
    | none => rw [e2] at ho; cases ho
    | some p =>
      cases e3 : toPy e with
      | none => rw [e2, e3] at ho; cases ho
      | some q =>
        rw [e2, e3] at ho
        simp only at ho
        by_cases hc : SeqAt.shaped p = true ∧ SeqAt.shaped q = true
        · rw [if_pos hc] at ho; cases ho
          exact .inr ⟨p, q, h1.dp s e2, h2.dp s e3, hc.1, hc.2, hq F H _ (Adds.val0 s rep_bl)⟩
        · rw [if_neg hc] at ho; cases ho
/-- is None, is True -/
def nonD : D → Bool
  | .non => true
  | _ => false
def isD (d e : D) : Option B := match e with
  | .non => some (vB (nonD d))
  | .bl j => match d with
    | .bl i => some (vB (i == j))
    | _ => none
  | _ => none
def isntD (d e : D) : Option B := match e with
  | .non => some (vB (!nonD d))
  | .bl j => match d with
    | .bl i => some (vB (!(i == j)))
    | _ => none
  | _ => none
theorem Rep1.isn {F H : Hp} {d : D} {x : V} (h : Rep1 K F H d x) : decide (x = .non) = nonD d := by
  cases d with
  | non => cases h; rfl
  | lst ds => obtain ⟨a, vs, rfl, _⟩ := h; rfl
  | tup ds => obtain ⟨a, vs, rfl, _⟩ := h; rfl
  | kt ds => obtain ⟨a, vs, rfl, _⟩ := h; rfl
  | kl ds => obtain ⟨a, vs, rfl, _⟩ := h; rfl
  | dk ds => obtain ⟨a, vs, rfl, _⟩ := h; rfl
  | dt ds => obtain ⟨a, vs, rfl, _⟩ := h; rfl
  | ins C ds => obtain ⟨a, dx, vs, rfl, _⟩ := h; rfl
  | _ => cases h; rfl
theorem Op2.isD : Op2 K (fun x y H Q => (y = .non ∧ Q (.bl (decide (x = .non))) H) ∨ rIsB x y H Q) isD := fun F H x y d e b Q s h1 h2 ho hq => by
  unfold Dl.isD at ho
  split at ho
  · cases ho; cases h2
    exact .inl ⟨rfl, by rw [h1.isn]; exact hq F H _ (Adds.val0 s rep_bl)⟩
  · split at ho
    · cases ho; cases h1; cases h2
      exact .inr ⟨_, _, rfl, rfl, hq F H _ (Adds.val0 s (by simp only [Rep]; rw [Bool.beq_eq_decide_eq]))⟩
    · cases ho
  · cases ho
theorem Op2.isntD : Op2 K (fun x y H Q => (y = .non ∧ Q (.bl (!decide (x = .non))) H) ∨ rNotB x y H Q) isntD := fun F H x y d e b Q s h1 h2 ho hq => by
  unfold Dl.isntD at ho
  split at ho
  · cases ho; cases h2
    refine .inl ⟨rfl, hq F H _ (Adds.val0 s ?_)⟩
    rw [h1.isn]; exact rep_bl
  · split at ho
    · cases ho; cases h1; cases h2
      exact .inr ⟨_, _, rfl, rfl, hq F H _ (Adds.val0 s (by simp only [Rep]; rw [Bool.beq_eq_decide_eq]))⟩
    · cases ho
  · cases ho
end
end Dl
namespace Dl
open PySem PySem.Spec PyProof.Rows L2

/-! ### operators by name -/
def Bn (X : Cx) (op : Operator) (o : D → D → Option B) : Prop := ∃ r, OpR X (binaryOp op) r ∧ Op2 X.K r o
def Cm (X : Cx) (op : CmpOp) (o : D → D → Option B) : Prop := ∃ r, OpR X (compareOp op) r ∧ Op2 X.K r o
def Un (X : Cx) (op : UnaryOp) (o : D → Option B) : Prop := ∃ r, UnR X (unaryOp op) r ∧ Op1 X.K r o
section
variable {X : Cx} {W : WX} {f g h : Ev → R B} {a b c : Expr} {pos : Pos}
theorem pd_bin {op : Operator} {o : D → D → Option B} (n : Bn X op o) (ha : PD X W a f) (hb : PD X W b g) : PD X W (.BinOp a op b pos) (op2 f g o) := by
  obtain ⟨r, h1, h2⟩ := n
  exact PD.of (pe_op h1 ha hb) fun _ _ _ h => tE_op2 h2 h
theorem pd_un {op : UnaryOp} {o : D → Option B} (n : Un X op o) (ha : PD X W a f) : PD X W (.UnaryOp op a pos) (op1 f o) := by
  obtain ⟨r, h1, h2⟩ := n
  exact PD.of (pe_un h1 ha) fun _ _ _ h => tE_op1 h2 h
theorem pd_cm {op : CmpOp} {o : D → D → Option B} (n : Cm X op o) (ha : PD X W a f) (hb : PD X W b g) (hm : behindInMarks op b = false) : PD X W (.Compare a [op] [b] pos) (op2 f g o) := by
  obtain ⟨r, h1, h2⟩ := n
  exact pd_cmp h1 h2 ha hb hm
theorem pdt_cm {op : CmpOp} {o : D → D → Option B} (n : Cm X op o) (ha : PD X W a f) (hb : PD X W b g) (hm : behindInMarks op b = false) : PDT X W (.Compare a [op] [b] pos) (dB (op2 f g o)) := by
  obtain ⟨r, h1, h2⟩ := n
  exact pdt_cmp h1 h2 ha hb hm
def addD : D → D → Option B := orD (iiD (· + ·)) (orD strAdd (orD lstAdd tupAdd))
def subD : D → D → Option B := iiD (· - ·)
/-- what * of whole numbers asks: none but two great ones -/
def mulOk (i j : Int) : Bool := !(decide (Builtin.Int.intBits i > shortFactorBits) && decide (Builtin.Int.intBits j > shortFactorBits) && Builtin.Int.intTooBig (Builtin.Int.intBits i + Builtin.Int.intBits j))
def mulD : D → D → Option B := orD (iiC mulOk (· * ·)) lstMul
def fdivD : D → D → Option B := iiC (fun _ j => decide (0 < j ∧ j.natAbs.log2 < 9000)) (· / ·)
def modD : D → D → Option B := iiC (fun _ j => decide (0 < j)) (· % ·)
def powD : D → D → Option B := iiC (fun i j => decide (0 ≤ j ∧ (Builtin.Int.intBits i : Int) * j ≤ 2 ^ 27)) (fun i j => i ^ j.toNat)
def negD : D → Option B
  | .int i => some (vI (-i))
  | _ => none
theorem bn_add : Bn X .Add addD := ⟨_, op_add.or (op_add_str.or (op_cat.or op_catA)), Op2.ii.or (Op2.strAdd.or (Op2.lstAdd.or Op2.tupAdd))⟩
theorem bn_sub : Bn X .Sub subD := ⟨_, op_sub, Op2.ii⟩
theorem op_mulA : OpR X (binaryOp .Mult) (rI IntMulOk fun i j => .int (i * j)) := opI fun _ _ _ _ _ _ _ hc q => mul_int q hc
theorem bn_mul : Bn X .Mult mulD := ⟨_, op_mulA.or op_rep, (Op2.iiC fun i j h => (show IntMulOk i j from fun z => by
  unfold mulOk at h
  rw [z] at h
  cases h)).or Op2.lstMul⟩
theorem bn_fdiv : Bn X .FloorDiv fdivD := ⟨_, op_fdivW, Op2.iiC fun i j h => (show 0 < j ∧ j.natAbs.log2 < 9000 from of_decide_eq_true h)⟩
theorem bn_mod : Bn X .Mod modD := ⟨_, op_mod, Op2.iiC fun _ _ h => of_decide_eq_true h⟩
theorem op_powW : OpR X (binaryOp .Pow) (rI (fun i j => 0 ≤ j ∧ (Builtin.Int.intBits i : Int) * j ≤ 2 ^ 27) fun i j => .int (i ^ j.toNat)) := opI fun _ _ _ _ _ _ _ hc q => pow_int hc.1 hc.2 q
theorem bn_pow : Bn X .Pow powD := ⟨_, op_powW, Op2.iiC fun _ _ h => of_decide_eq_true h⟩
theorem un_negD : Un X .USub negD := ⟨_, un_neg, fun F H x d b Q s h1 ho hq => by
  unfold negD at ho
  split at ho
  · cases h1; cases ho
    exact ⟨_, rfl, hq F H _ (Adds.val0 s rep_int)⟩
  · cases ho⟩
def ltStr (d e : D) : Option B := match d, e with
  | .str x, .str y => some (vB (decide (x.cps.toList < y.cps.toList)))
  | _, _ => none
theorem Op2.ltStr : Op2 X.K (fun x y H Q => ∃ i j, x = .str i ∧ y = .str j ∧ Q (.bl (decide (i.cps.toList < j.cps.toList))) H) ltStr := fun F H x y d e b Q s h1 h2 ho hq => by
  unfold Dl.ltStr at ho
  split at ho
  · cases h1; cases h2; cases ho
    exact ⟨_, _, rfl, rfl, hq F H _ (Adds.val0 s rep_bl)⟩
  · cases ho
def ltD : D → D → Option B := orD (ibD fun i j => decide (i < j)) ltStr
def cmpStr (g : List Nat → List Nat → Bool) (d e : D) : Option B := match d, e with
  | .str x, .str y => some (vB (g x.cps.toList y.cps.toList))
  | _, _ => none
theorem Op2.cmpStr {g : List Nat → List Nat → Bool} : Op2 X.K (fun x y H Q => ∃ i j, x = .str i ∧ y = .str j ∧ Q (.bl (g i.cps.toList j.cps.toList)) H) (cmpStr g) := fun F H x y d e b Q s h1 h2 ho hq => by
  unfold Dl.cmpStr at ho
  split at ho
  · cases h1; cases h2; cases ho
    exact ⟨_, _, rfl, rfl, hq F H _ (Adds.val0 s rep_bl)⟩
  · cases ho
def leD : D → D → Option B := orD (ibD fun i j => decide (i ≤ j)) (cmpStr fun i j => !decide (j < i))
def gtD : D → D → Option B := orD (ibD fun i j => decide (j < i)) (cmpStr fun i j => decide (j < i))
def geD : D → D → Option B := orD (ibD fun i j => decide (j ≤ i)) (cmpStr fun i j => !decide (i < j))
theorem cm_lt : Cm X .Lt ltD := ⟨_, op_lt.or op_lt_str, Op2.ib.or Op2.ltStr⟩
theorem cm_le : Cm X .LtE leD := ⟨_, op_le.or op_le_str, Op2.ib.or Op2.cmpStr⟩
theorem cm_gt : Cm X .Gt gtD := ⟨_, op_gt.or op_gt_str, Op2.ib.or Op2.cmpStr⟩
theorem cm_ge : Cm X .GtE geD := ⟨_, op_ge.or op_ge_str, Op2.ib.or Op2.cmpStr⟩
theorem cm_eq (hu : X.A.units + 64 < cLine) : Cm X .Eq eqD := ⟨_, op_eq.or (op_eqD hu), Op2.eqD⟩
theorem cm_ne (hu : X.A.units + 64 < cLine) : Cm X .NotEq neD := ⟨_, op_ne.or (op_neD hu), Op2.neD⟩
theorem cm_is : Cm X .Is isD := ⟨_, op_isN.or op_isBl, Op2.isD⟩
theorem cm_isnt : Cm X .IsNot isntD := ⟨_, op_notN.or op_notBl, Op2.isntD⟩

/-! ### in -/
def flatD : D → Bool
  | .non => true
  | .bl _ => true
  | .int _ => true
  | .str _ => true
  | _ => false
def eqF : D → D → Bool
  | .non, .non => true
  | .bl a, .bl b => a == b
  | .bl a, .int b => (if a then 1 else 0) == b
  | .int a, .bl b => a == (if b then 1 else 0)
  | .int a, .int b => a == b
  | .str a, .str b => a == b
  | _, _ => false
theorem flat_v {K : PySem.W.Frag} {F : Hp} {d : D} {v : V} (h : Rep K F d v) (f : flatD d = true) : flatV v = true := by
  cases d <;> first | (simp only [Rep] at h; subst h; rfl) | cases f
theorem eqF_v {K : PySem.W.Frag} {F : Hp} {d e : D} {v u : V} (h : Rep K F d v) (f : flatD d = true) (h' : Rep K F e u) (f' : flatD e = true) : eqV v u = eqF d e := by
  cases d <;> first | (simp only [Rep] at h; subst h; cases e <;> first | (simp only [Rep] at h'; subst h'; rfl) | cases f') | cases f
theorem flat_vs {K : PySem.W.Frag} {F : Hp} : ∀ {ds : List D} {vs : List V}, Reps K F ds vs → ds.all flatD = true → vs.all flatV = true
  | [], vs, h, _ => by simp only [Reps] at h; subst h; rfl
  | d :: ds, vs, h, f => by
    simp only [Reps] at h
    obtain ⟨v, r, rfl, h1, h2⟩ := h
    simp only [List.all_cons, Bool.and_eq_true] at f ⊢
    exact ⟨flat_v h1 f.1, flat_vs h2 f.2⟩
theorem any_v {K : PySem.W.Frag} {F : Hp} {e : D} {u : V} (h' : Rep K F e u) (f' : flatD e = true) : ∀ {ds : List D} {vs : List V}, Reps K F ds vs → ds.all flatD = true → inV u vs = ds.any fun d => eqF d e
  | [], vs, h, _ => by simp only [Reps] at h; subst h; rfl
  | d :: ds, vs, h, f => by
    simp only [Reps] at h
    obtain ⟨v, r, rfl, h1, h2⟩ := h
    simp only [List.all_cons, Bool.and_eq_true] at f
    show (eqV v u || inV u r) = _
    rw [eqF_v h1 f.1 h' f', any_v h' f' h2 f.2]; rfl
theorem rep_flat {K : PySem.W.Frag} {F H : Hp} {d : D} {v : V} (h : Rep1 K F H d v) (f : flatD d = true) : Rep K F d v := by
  cases d <;> first | (simp only [Rep]; exact h) | cases f
def inSeq (neg : Bool) (d e : D) : Option B := match e with
  | .lst ds => if flatD d = true ∧ ds.all flatD = true then some (vB (if neg then !(ds.any fun z => eqF z d) else ds.any fun z => eqF z d)) else none
  | e => match tupOf e with
    | some ds => if flatD d = true ∧ ds.all flatD = true then some (vB (if neg then !(ds.any fun z => eqF z d) else ds.any fun z => eqF z d)) else none
    | none => none
theorem Op2.inSeq {neg : Bool} : Op2 X.K (rIn X.K neg) (Dl.inSeq neg) := fun F H x y d e b Q s h1 h2 ho hq => by
  unfold Dl.inSeq at ho
  split at ho
  · split at ho
    · rename_i hf
      cases ho
      obtain ⟨a, vs, rfl, h3, h4⟩ := h2
      refine ⟨a, vs, rfl, .inl (.inl (.inl h3)), flat_v (rep_flat h1 hf.1) hf.1, flat_vs h4 hf.2, hq F H _ (Adds.val0 s ?_)⟩
      rw [any_v (rep_flat h1 hf.1) hf.1 h4 hf.2]
      simp only [Rep]
    · cases ho
  · split at ho
    · rename_i ds ht
      split at ho
      · rename_i hf
        cases ho
        obtain ⟨a, vs, rfl, h3, h4⟩ := h2.tupOf ht
        refine ⟨a, vs, rfl, .inr (sqT_mono s h3), flat_v (rep_flat h1 hf.1) hf.1, flat_vs h4 hf.2, hq F H _ (Adds.val0 s ?_)⟩
        rw [any_v (rep_flat h1 hf.1) hf.1 h4 hf.2]
        simp only [Rep]
      · cases ho
    · cases ho
/-- deep items, in a list -/
def inDeep (neg : Bool) (d e : D) : Option B := match e with
  | .lst ds => match toPy d, toPys ds with
    | some p, some ps => if SeqAt.shaped p = true ∧ SeqAt.shaped (.list ps) = true then some (vB (if neg then !(ps.any fun z => PyData.eqv z p) else ps.any fun z => PyData.eqv z p)) else none
    | _, _ => none
  | _ => none
theorem Op2.inDeep : Op2 X.K (rInD X.K) (Dl.inDeep false) := fun F H x y d e b Q s h1 h2 ho hq => by
  unfold Dl.inDeep at ho
  split at ho
  · rename_i ds
    cases e1 : toPy d with
    | none => rw [e1] at ho; cases ho
    | some p =>
      cases e2 : toPys ds with
      | none => rw [e1, e2] at ho; cases ho
      | some ps =>
        rw [e1, e2] at ho
        simp only at ho
        split at ho
        · rename_i hc; cases ho
          exact ⟨p, ps, h1.dp s e1, h2.dp s (by simp only [toPy, e2]), hc.1, hc.2, hq F H _ (Adds.val0 s rep_bl)⟩
        · cases ho
  · cases ho
theorem Op2.notInDeep : Op2 X.K (rNotInD X.K) (Dl.inDeep true) := fun F H x y d e b Q s h1 h2 ho hq => by
  unfold Dl.inDeep at ho
  split at ho
  · rename_i ds
    cases e1 : toPy d with
    | none => rw [e1] at ho; cases ho
    | some p =>
      cases e2 : toPys ds with
      | none => rw [e1, e2] at ho; cases ho
      | some ps =>
        rw [e1, e2] at ho
        simp only at ho
        split at ho
        · rename_i hc; cases ho
          exact ⟨p, ps, h1.dp s e1, h2.dp s (by simp only [toPy, e2]), hc.1, hc.2, hq F H _ (Adds.val0 s rep_bl)⟩
        · cases ho
  · cases ho
def inStr (neg : Bool) (d e : D) : Option B := match d, e with
  | .str x, .str z => match x.cps.toList with
    | [c] => some (vB (if neg then !decide (c ∈ z.cps.toList) else decide (c ∈ z.cps.toList)))
    | _ => none
  | _, _ => none
theorem sign_of {x : Str} {c : Nat} (h : x.cps.toList = [c]) : x = ⟨#[c]⟩ := by
  obtain ⟨⟨l⟩⟩ := x
  simp only at h
  subst h; rfl
theorem Op2.inStr : Op2 X.K (fun x y H Q => ∃ (c : Nat) (z : Str), x = .str ⟨#[c]⟩ ∧ y = .str z ∧ Q (.bl (decide (c ∈ z.cps.toList))) H) (Dl.inStr false) := fun F H x y d e b Q s h1 h2 ho hq => by
  unfold Dl.inStr at ho
  split at ho
  · cases h1; cases h2
    split at ho
    · rename_i c hc
      cases ho
      exact ⟨c, _, by rw [sign_of hc], rfl, hq F H _ (Adds.val0 s rep_bl)⟩
    · cases ho
  · cases ho
theorem Op2.notInStr : Op2 X.K (fun x y H Q => ∃ (c : Nat) (z : Str), x = .str ⟨#[c]⟩ ∧ y = .str z ∧ Q (.bl (!decide (c ∈ z.cps.toList))) H) (Dl.inStr true) := fun F H x y d e b Q s h1 h2 ho hq => by
  unfold Dl.inStr at ho
  split at ho
  · cases h1; cases h2
    split at ho
    · rename_i c hc
      cases ho
      exact ⟨c, _, by rw [sign_of hc], rfl, hq F H _ (Adds.val0 s rep_bl)⟩
    · cases ho
  · cases ho
def inD (neg : Bool) : D → D → Option B := orD (inSeq neg) (orD (inStr neg) (inDeep neg))
theorem cm_in (hu : X.A.units + 65 < cLine) : Cm X .In (inD false) := ⟨_, op_in_seq.or (op_in_sign.or (op_inD hu)), Op2.inSeq.or (Op2.inStr.or Op2.inDeep)⟩
theorem cm_notIn (hu : X.A.units + 65 < cLine) : Cm X .NotIn (inD true) := ⟨_, op_notIn_seq.or (op_notIn_sign.or (op_notInD hu)), Op2.inSeq.or (Op2.notInStr.or Op2.notInDeep)⟩

/-! ### items, slices -/
theorem Reps.at {K : PySem.W.Frag} {F : Hp} : ∀ {ds : List D} {vs : List V} {i : Nat} {d : D}, Reps K F ds vs → ds[i]? = some d → ∃ v, vs[i]? = some v ∧ Rep K F d v
  | [], vs, i, d, h, e => by simp at e
  | d0 :: ds, vs, 0, d, h, e => by
    simp only [Reps] at h
    obtain ⟨v, r, rfl, h1, h2⟩ := h
    cases e
    exact ⟨v, rfl, h1⟩
  | d0 :: ds, vs, i + 1, d, h, e => by
    simp only [Reps] at h
    obtain ⟨v, r, rfl, h1, h2⟩ := h
    exact Reps.at (i := i) h2 (by simpa using e)
theorem Reps.atI {K : PySem.W.Frag} {F : Hp} {ds : List D} {vs : List V} {i : Int} {d : D} (h : Reps K F ds vs) (e : atI ds i = some d) : ∃ v, L2.atI vs i = some v ∧ Rep K F d v := by
  unfold L2.atI at e ⊢
  rw [← h.length]
  cases e1 : ixN ds.length i with
  | none => rw [e1] at e; cases e
  | some j =>
    rw [e1] at e
    exact h.at e
def idxD (d e : D) : Option B := match d, e with
  | .lst ds, .int i => match atI ds i with
    | some x => some (.val x)
    | none => none
  | .tup ds, .int i => match atI ds i with
    | some x => some (.val x)
    | none => none
  | .kt ds, .int i => match atI ds i with
    | some x => some (.val x)
    | none => none
  | .str z, .int i => if z.length ≤ sizeLine then match atI z.cps.toList i with
    | some c => some (.val (.str ⟨#[c]⟩))
    | none => none else none
  | _, _ => none
theorem Op2.idxD : Op2 X.K (rIx X.K) idxD := fun F H x y d e b Q s h1 h2 ho hq => by
  unfold Dl.idxD at ho
  split at ho
  · obtain ⟨a, vs, rfl, h3, h4⟩ := h1
    cases h2
    split at ho
    · rename_i z hz; cases ho
      obtain ⟨v, h5, h6⟩ := h4.atI hz
      exact .inl ⟨a, vs, _, v, rfl, rfl, .inl (.inl h3), h5, hq F H _ (Adds.val0 s h6)⟩
    · cases ho
  · obtain ⟨a, vs, rfl, h3, h4⟩ := h1
    cases h2
    split at ho
    · rename_i z hz; cases ho
      obtain ⟨v, h5, h6⟩ := h4.atI hz
      exact .inr (.inl ⟨a, vs, _, v, rfl, rfl, Same.sqT s h3, h5, hq F H _ (Adds.val0 s h6)⟩)
    · cases ho
  · obtain ⟨a, vs, rfl, h3, h4⟩ := h1
    cases h2
    split at ho
    · rename_i z hz; cases ho
      obtain ⟨v, h5, h6⟩ := h4.atI hz
      exact .inr (.inl ⟨a, vs, _, v, rfl, rfl, sqT_mono s h3.sqT, h5, hq F H _ (Adds.val0 s h6)⟩)
    · cases ho
  · cases h1; cases h2
    split at ho
    · rename_i hz
      split at ho
      · rename_i c hc; cases ho
        exact .inr (.inr ⟨_, _, c, rfl, rfl, hz, hc, hq F H _ (Adds.val0 s rep_str)⟩)
      · cases ho
    · cases ho
  · cases ho
theorem pd_ix (ha : PD X W a f) (hb : PD X W b g) (hs : PlainIx b) : PD X W (.Subscript a b pos) (op2 f g idxD) := PD.of (pe_ix ix_seq ha hb hs) fun _ _ _ h => tE_op2 Op2.idxD h
end
end Dl
namespace Dl
open PySem PySem.Spec PyProof.Rows L2

/-! ### slices -/
def tO (K : PySem.W.Frag) (W : WX) (f : Ev → R (Option Int)) : TO := fun σ H Q => ∃ (M : Addr → Prop) (F0 H0 F : Hp) (ρ : Ev) (ts : L2.St) (τ : List B), ρ.length = σ.length ∧ Fit K M F0 H0 σ.length F H (σ ++ ts) (ρ ++ τ) ∧ GoT K W M F0 H0 σ ts τ (f ρ) Q
def PDO (X : Cx) (W : WX) (e : Option Expr) (f : Ev → R (Option Int)) : Prop := PO X e (tO X.K W f)
def oNone : Ev → R (Option Int) := fun ρ => .ok none ρ
def toI (b : B) (ρ : Ev) : R (Option Int) := match look ρ b with
  | some (.int i) => .ok (some i) ρ
  | _ => .no
def oSome (f : Ev → R B) : Ev → R (Option Int) := fun ρ => (f ρ).bind toI
def cutD (ds : List D) (lo hi : Option Int) : List D := (ds.drop (HT.sIx ds.length 0 lo)).take (HT.sIx ds.length ds.length hi - HT.sIx ds.length 0 lo)
def slD (d : D) (lo hi : Option Int) : Option B := match d with
  | .lst ds => some (.own true (.lst (cutD ds lo hi)))
  | .kl ds => some (.own true (.lst (cutD ds lo hi)))
  | .tup ds => some (.val (.tup (cutD ds lo hi)))
  | .kt ds => some (.val (if HT.sIx ds.length 0 lo = 0 ∧ HT.sIx ds.length ds.length hi = ds.length then .kt ds else .tup (cutD ds lo hi)))
  | .str z => if z.length ≤ sizeLine then some (.val (.str (cutS z lo hi))) else none
  | _ => none
def dSl (f : Ev → R B) (lo hi : Ev → R (Option Int)) : Ev → R B := fun ρ => (f ρ).bind fun b ρ1 => (lo ρ1).bind fun l ρ2 => (hi ρ2).bind fun h ρ3 => match look ρ3 b with
  | some d => match slD d l h with
    | some c => .ok c ρ3
    | none => .no
  | none => .no
section
variable {X : Cx} {W : WX} {K : PySem.W.Frag} {f g h : Ev → R B} {a b c : Expr} {pos p2 : Pos} {lo hi : Option Expr} {fl fh : Ev → R (Option Int)}
theorem PO.imp {e : Option Expr} {t t' : TO} (h : PO X e t) (i : ∀ σ H Q, t' σ H Q → t σ H Q) : PO X e t' := ⟨fun pins s σ H Q I hq => h.run pins s σ H Q I (i σ H Q hq)⟩
theorem pdo_none : PDO X W none oNone := PO.imp po_none fun σ H Q h => by
  obtain ⟨M, F0, H0, F, ρ, ts, τ, l, ft, go⟩ := h
  exact (show ∀ F' H', ρ.length = σ.length → Fit X.K M F0 H0 σ.length F' H' (σ ++ ts) (ρ ++ τ) → Q none H' from go) F H l ft
theorem pdo_some (ha : PD X W a f) : PDO X W (some a) (oSome f) := PO.imp (po_some ha) fun σ H Q h => by
  obtain ⟨M, F0, H0, F, ρ, ts, τ, l, ft, go⟩ := h
  have hl := ft.lenT l
  refine ⟨M, F0, H0, F, ρ, ts, τ, l, ft, Go.bindT go (us := []) (cs := []) (by simp) (by simp) rfl fun b ρ1 F1 H1 x l1 f1 go1 => ?_⟩
  unfold toI at go1
  cases e1 : look ρ1 b with
  | none => rw [e1] at go1; exact go1.elim
  | some d =>
    rw [e1] at go1
    cases d with
    | int i =>
      have r := f1.looks (n := σ.length + ts.length) (by rw [← l1, hl]; exact get_mid _ _ _ []) (get_last2 _ _ _) e1
      exact ⟨i, r, go1 F1 H1 l1 (f1.less l1 hl)⟩
    | _ => exact go1.elim
theorem Reps.drop {F : Hp} : ∀ {ds : List D} {xs : List V} (n : Nat), Reps K F ds xs → Reps K F (ds.drop n) (xs.drop n)
  | ds, xs, 0, h => h
  | [], xs, n + 1, h => by simp only [Reps] at h; subst h; simp only [List.drop_nil, Reps]
  | d :: ds, xs, n + 1, h => by
    simp only [Reps] at h
    obtain ⟨v, r, rfl, h1, h2⟩ := h
    exact Reps.drop n h2
theorem Reps.take {F : Hp} : ∀ {ds : List D} {xs : List V} (n : Nat), Reps K F ds xs → Reps K F (ds.take n) (xs.take n)
  | ds, xs, 0, h => by simp only [List.take_zero, Reps]
  | [], xs, n + 1, h => by simp only [Reps] at h; subst h; simp only [List.take_nil, Reps]
  | d :: ds, xs, n + 1, h => by
    simp only [Reps] at h
    obtain ⟨v, r, rfl, h1, h2⟩ := h
    show Reps K F (d :: ds.take n) (v :: r.take n)
    simp only [Reps]; exact ⟨v, _, rfl, h1, Reps.take n h2⟩
theorem Reps.cut {F : Hp} {ds : List D} {xs : List V} {lo hi : Option Int} (h : Reps K F ds xs) : Reps K F (cutD ds lo hi) (cutV xs lo hi) := by
  unfold cutD cutV
  rw [← h.length]
  exact Reps.take _ (Reps.drop _ h)
theorem cutD_whole {ds : List D} {lo hi : Option Int} (h : HT.sIx ds.length 0 lo = 0 ∧ HT.sIx ds.length ds.length hi = ds.length) : cutD ds lo hi = ds := by
  unfold cutD
  rw [h.1, h.2]; simp
theorem sl_ok {F H : Hp} {d : D} {x : V} {l u : Option Int} {b : B} {Q : VK} (s : Same F H) (h1 : Rep1 K F H d x) (ho : slD d l u = some b) (hq : ∀ F' H' v, Adds K none0 F H F' H' v b → Q v H') : (rSlL K x l u H Q ∨ rSlA K x l u H Q ∨ rSlS x l u H Q) := by
  unfold slD at ho
  split at ho
  · obtain ⟨a, vs, rfl, h3, h4⟩ := h1
    cases ho
    exact .inl ⟨a, vs, rfl, .inl (.inl h3), fun p hp => hq _ _ _ (Adds.lst s hp h4.cut)⟩
  · obtain ⟨a, vs, rfl, h3, h4⟩ := h1
    cases ho
    exact .inl ⟨a, vs, rfl, h3, fun p hp => hq _ _ _ (Adds.lst s hp h4.cut)⟩
  · obtain ⟨a, vs, rfl, h3, h4⟩ := h1
    cases ho
    refine .inr (.inl ⟨a, vs, rfl, Same.sqT s h3, fun e => hq F H _ (Adds.val0 s ?_), fun _ p hp => hq _ _ _ (Adds.tup s hp h4.cut)⟩)
    rw [← h4.length] at e
    rw [cutD_whole e]; simp only [Rep]; exact ⟨a, vs, rfl, h3, h4⟩
  · obtain ⟨a, vs, rfl, h3, h4⟩ := h1
    cases ho
    refine .inr (.inl ⟨a, vs, rfl, sqT_mono s h3.sqT, fun e => hq F H _ (Adds.val0 s ?_), fun e p hp => ?_⟩)
    · rw [← h4.length] at e
      rw [if_pos e]; simp only [Rep]; exact ⟨a, vs, rfl, h3, h4⟩
    · rw [← h4.length] at e
      rw [if_neg e] at hq
      exact hq _ _ _ (Adds.tup s hp h4.cut)
  · cases h1
    split at ho
    · rename_i hz; cases ho
      exact .inr (.inr ⟨_, rfl, hz, hq F H _ (Adds.val0 s rep_str)⟩)
    · cases ho
  · cases ho
theorem pd_slice (ha : PD X W a f) (hl : PDO X W lo fl) (hh : PDO X W hi fh) : PD X W (.Subscript a (.Slice lo hi none p2) pos) (dSl f fl fh) := PD.of (pe_slice (sl_list.or (sl_tupA.or sl_str)) ha hl hh) fun σ H Q h => by
  obtain ⟨M, F0, H0, F, ρ, ts, τ, l, ft, go⟩ := h
  have hl := ft.lenT l
  refine ⟨M, F0, H0, F, ρ, ts, τ, l, ft, Go.bind go (us := []) (cs := []) (by simp) (by simp) rfl fun b ρ1 F1 H1 x l1 f1 go1 => ?_⟩
  refine ⟨M, F0, H0, F1, ρ1, ts ++ [some x], τ ++ [b], l1, f1, GoT.bind go1 (us := [some x]) (cs := [b]) rfl rfl rfl fun o ρ2 F2 H2 l2 f2 go2 => ?_⟩
  refine ⟨M, F0, H0, F2, ρ2, ts ++ [some x], τ ++ [b], l2, f2, GoT.bind go2 (us := [some x]) (cs := [b]) rfl rfl rfl fun u ρ3 F3 H3 l3 f3 go3 => ?_⟩
  cases e1 : look ρ3 b with
  | none => rw [e1] at go3; exact go3.elim
  | some d =>
    rw [e1] at go3
    simp only at go3
    cases e2 : slD d o u with
    | none => rw [e2] at go3; exact go3.elim
    | some c =>
      rw [e2] at go3
      have r := f3.looks (n := σ.length + ts.length) (by rw [← l3, hl]; exact get_mid _ _ _ []) (get_last2 _ _ _) e1
      exact sl_ok f3.sub r e2 fun F' H' v a => go3 F' H' v l3 (f3.res l3 hl a)

/-! ### a < b < c -/
def chk (o : D → D → Option B) (a b : B) (ρ : Ev) : Option Bool := match look ρ a with
  | some x => match look ρ b with
    | some y => match o x y with
      | some (.val (.bl k)) => some k
      | _ => none
    | none => none
  | none => none
def dChain (f g h : Ev → R B) (o o' : D → D → Option B) : Ev → R B := fun ρ => (f ρ).bind fun a ρ1 => (g ρ1).bind fun b ρ2 => match chk o a b ρ2 with
  | some k => if k = true then (h ρ2).bind fun c ρ3 => fin2 o' b c ρ3 else .ok (vB false) ρ2
  | none => .no
theorem tE_chain {r r' : R2} {o o' : D → D → Option B} (h2 : Op2 K r o) (h2' : Op2 K r' o') (σ : L2.St) (H : Hp) (Q : VK) (hh : tE K W (dChain f g h o o') σ H Q) : tChain r r' (tE K W f) (tE K W g) (tE K W h) σ H Q := by
  obtain ⟨M, F0, H0, F, ρ, ts, τ, l, ft, go⟩ := hh
  have hl := ft.lenT l
  refine ⟨M, F0, H0, F, ρ, ts, τ, l, ft, Go.bind go (us := []) (cs := []) (by simp) (by simp) rfl fun b ρ1 F1 H1 x l1 f1 go1 => ?_⟩
  refine ⟨M, F0, H0, F1, ρ1, ts ++ [some x], τ ++ [b], l1, f1, Go.bind go1 (us := [some x]) (cs := [b]) rfl rfl rfl fun c ρ2 F2 H2 y l2 f2 go2 => ?_⟩
  have hl2 : (ts ++ [some x]).length = (τ ++ [b]).length := by simp [hl]
  have looks : ∀ {ρ3 F3 H3}, ρ3.length = σ.length → Fit K M F0 H0 σ.length F3 H3 (σ ++ (ts ++ [some x] ++ [some y])) (ρ3 ++ (τ ++ [b] ++ [c])) → (∀ d, look ρ3 b = some d → Rep1 K F3 H3 d x) ∧ ∀ d, look ρ3 c = some d → Rep1 K F3 H3 d y := by
    intro ρ3 F3 H3 l3 f3
    have f3' : Fit K M F0 H0 σ.length F3 H3 (σ ++ (ts ++ [some x, some y])) (ρ3 ++ (τ ++ [b, c])) := by simpa using f3
    exact ⟨fun d e => f3'.looks (n := σ.length + ts.length) (by rw [← l3, hl]; exact get_mid _ _ _ _) (get_mid _ _ _ _) e, fun d e => f3.looks (n := σ.length + (ts ++ [some x]).length) (by rw [← l3, hl2]; exact get_mid _ _ _ []) (get_last2 _ _ _) e⟩
  obtain ⟨hx, hy⟩ := looks l2 f2
  unfold chk at go2
  cases e1 : look ρ2 b with
  | none => rw [e1] at go2; exact go2.elim
  | some d =>
    rw [e1] at go2
    simp only at go2
    cases e2 : look ρ2 c with
    | none => rw [e2] at go2; exact go2.elim
    | some d2 =>
      rw [e2] at go2
      simp only at go2
      cases e3 : o d d2 with
      | none => rw [e3] at go2; exact go2.elim
      | some z =>
        rw [e3] at go2
        refine h2 F2 H2 x y d d2 z _ f2.sub (hx _ e1) (hy _ e2) e3 fun F' H' v a => ?_
        have f3 : Fit K M F0 H0 σ.length F' H' (σ ++ (ts ++ [some x] ++ [some y])) (ρ2 ++ (τ ++ [b] ++ [c])) := by
          have f4 := f2.add a
          refine f4.drop ?_
          have := f2.len
          exact this
        cases z with
        | val dz =>
          cases dz with
          | bl k =>
            simp only at go2
            have hv : v = .bl k := by
              have := a.res
              simp only [Rep] at this; exact this
            refine ⟨k, hv, ?_⟩
            cases k with
            | true =>
              rw [if_pos rfl] at go2 ⊢
              refine ⟨M, F0, H0, F', ρ2, ts ++ [some x] ++ [some y], τ ++ [b] ++ [c], l2, f3, Go.bind go2 (us := [some x, some y]) (cs := [b, c]) (by simp) (by simp) rfl fun c2 ρ3 F3 H3 w l3 f5 go3 => ?_⟩
              have hl3 : (ts ++ [some x] ++ [some y]).length = (τ ++ [b] ++ [c]).length := by simp [hl]
              have f6 : Fit K M F0 H0 σ.length F3 H3 (σ ++ (ts ++ [some x] ++ [some y])) (ρ3 ++ (τ ++ [b] ++ [c])) := f5.less l3 hl3
              have hw : ∀ d, look ρ3 c2 = some d → Rep1 K F3 H3 d w := fun d e => f5.looks (n := σ.length + (ts ++ [some x] ++ [some y]).length) (by rw [← l3, hl3]; exact get_mid _ _ _ []) (get_last2 _ _ _) e
              unfold fin2 at go3
              cases e4 : look ρ3 c with
              | none => rw [e4] at go3; exact go3.elim
              | some d3 =>
                rw [e4] at go3
                simp only at go3
                cases e5 : look ρ3 c2 with
                | none => rw [e5] at go3; exact go3.elim
                | some d4 =>
                  rw [e5] at go3
                  simp only at go3
                  cases e6 : o' d3 d4 with
                  | none => rw [e6] at go3; exact go3.elim
                  | some z2 =>
                    rw [e6] at go3
                    refine h2' F3 H3 y w d3 d4 z2 Q f5.sub ((looks l3 f6).2 _ e4) (hw d4 e5) e6 fun F'' H'' v'' a'' => go3 F'' H'' v'' l3 ?_
                    have f7 : Fit K M F0 H0 σ.length F3 H3 (σ ++ (ts ++ [some x, some y, some w])) (ρ3 ++ (τ ++ [b, c, c2])) := by simpa using f5
                    exact f7.res l3 hl a''
            | false =>
              rw [if_neg (by decide)] at go2 ⊢
              have f7 : Fit K M F0 H0 σ.length F' H' (σ ++ (ts ++ [some x, some y])) (ρ2 ++ (τ ++ [b, c])) := by simpa using f3
              exact go2 F' H' _ l2 (f7.res l2 hl (Adds.val0 f3.sub rep_bl))
          | _ => exact go2.elim
        | _ => exact go2.elim
theorem pd_chain {op op' : CmpOp} {o o' : D → D → Option B} (n : Cm X op o) (n' : Cm X op' o') (ha : PD X W a f) (hb : PD X W b g) (hc : PD X W c h) (hm : lastMarks [op, op'] [b, c] = false := by with_unfolding_all rfl) : PD X W (.Compare a [op, op'] [b, c] pos) (dChain f g h o o') := by
  obtain ⟨r, h1, h2⟩ := n
  obtain ⟨r', h1', h2'⟩ := n'
  exact PD.of (pe_chain h1 h1' ha hb hc hm) (tE_chain h2 h2')
theorem pdt_chain {op op' : CmpOp} {o o' : D → D → Option B} (n : Cm X op o) (n' : Cm X op' o') (ha : PD X W a f) (hb : PD X W b g) (hc : PD X W c h) (hm : lastMarks [op, op'] [b, c] = false := by with_unfolding_all rfl) : PDT X W (.Compare a [op, op'] [b, c] pos) (dB (dChain f g h o o')) := by
  obtain ⟨r, h1, h2⟩ := n
  obtain ⟨r', h1', h2'⟩ := n'
  exact PT.imp (pt_chain h1 h1' ha hb hc hm) fun σ H _ h => tT_B (fun _ h => tE_chain h2 h2' σ H _ h) h
end
end Dl
namespace Dl
open PySem PySem.Spec PyProof.Rows L2

/-! ### built-in functions and types, called -/
def Cb (X : Cx) (id : String) (o : List D → Option B) : Prop := ∃ r, CallR X (.builtin id) r ∧ OpN X.K r o
def Ct (X : Cx) (T : String) (o : List D → Option B) : Prop := ∃ r, CallR X (.type T) r ∧ OpN X.K r o
def orN (o o' : List D → Option B) (ds : List D) : Option B := match o ds with
  | some b => some b
  | none => o' ds
section
variable {X : Cx} {W : WX} {K : PySem.W.Frag} {f g h : Ev → R B} {fa : Ev → R (List B)} {a b c e : Expr} {es : List Expr} {pos p : Pos} {x : Str}
theorem pd_callB {id : String} {o : List D → Option B} (n : Cb X id o) (hg : Gl X x) (hm : X.mg x = none) (hv : bootBuiltins x = some (.builtin id)) (ha : PDA X W (e :: es) fa) (hn : x ≠ "__name__" := by decide) (hdb : (x == ("__debug__" : Str)) = false := by decide)
    (he : starEach (e :: es) X.env = (false, eval e X.env) :: starEach es X.env := by rfl) (hpl : (backTo pos (starEach es X.env)).any (·.1) = false := by rfl) : PD X W (.Call (.Name x p) (e :: es) [] pos) (opN fa o) := by
  obtain ⟨r, h1, h2⟩ := n
  exact PD.of (pe_callB h1 hg hm hv ha hn hdb he hpl) fun _ _ _ h => tE_opN h2 h
theorem pd_callTy {T : String} {o : List D → Option B} (n : Ct X T o) (hg : Gl X x) (hm : X.mg x = none) (hv : bootBuiltins x = some (.type T)) (ha : PDA X W (e :: es) fa) (hn : x ≠ "__name__" := by decide) (hdb : (x == ("__debug__" : Str)) = false := by decide)
    (he : starEach (e :: es) X.env = (false, eval e X.env) :: starEach es X.env := by rfl) (hpl : (backTo pos (starEach es X.env)).any (·.1) = false := by rfl) : PD X W (.Call (.Name x p) (e :: es) [] pos) (opN fa o) := by
  obtain ⟨r, h1, h2⟩ := n
  exact PD.of (pe_callTy h1 hg hm hv ha hn hdb he hpl) fun _ _ _ h => tE_opN h2 h
theorem CallR.or {f : Value} {r r' : List V → Hp → VK → Prop} (h : CallR X f r) (h' : CallR X f r') : CallR X f (fun xs H Q => r xs H Q ∨ r' xs H Q) := by
  intro pins s σ H xs us Q I rr hh
  rcases hh with hh | hh
  · exact h pins s σ H xs us Q I rr hh
  · exact h' pins s σ H xs us Q I rr hh
theorem OpN.or {r r' : List V → Hp → VK → Prop} {o o' : List D → Option B} (h : OpN K r o) (h' : OpN K r' o') : OpN K (fun xs H Q => r xs H Q ∨ r' xs H Q) (orN o o') := fun F H xs ds b Q s h1 ho hq => by
  unfold orN at ho
  split at ho
  · rename_i c hc
    cases ho
    exact .inl (h F H xs ds _ Q s h1 hc hq)
  · exact .inr (h' F H xs ds b Q s h1 ho hq)
def on1 (o : D → Option B) : List D → Option B
  | [d] => o d
  | _ => none
def on2 (o : D → D → Option B) : List D → Option B
  | [d, e] => o d e
  | _ => none
/-- one argument -/
theorem OpN.one {r : List V → Hp → VK → Prop} {o : D → Option B} (h : ∀ (F H : Hp) (x : V) (d : D) (b : B) (Q : VK), Same F H → Rep1 K F H d x → o d = some b → (∀ F' H' v, Adds K none0 F H F' H' v b → Q v H') → r [x] H Q) : OpN K r (on1 o) := fun F H xs ds b Q s h1 ho hq => by
  unfold on1 at ho
  split at ho
  · obtain ⟨x, r', rfl, h2, h3⟩ := h1
    cases h3
    exact h F H x _ b Q s h2 ho hq
  · cases ho
theorem OpN.two {r : List V → Hp → VK → Prop} {o : D → D → Option B} (h : ∀ (F H : Hp) (x y : V) (d e : D) (b : B) (Q : VK), Same F H → Rep1 K F H d x → Rep1 K F H e y → o d e = some b → (∀ F' H' v, Adds K none0 F H F' H' v b → Q v H') → r [x, y] H Q) : OpN K r (on2 o) := fun F H xs ds b Q s h1 ho hq => by
  unfold on2 at ho
  split at ho
  · obtain ⟨x, r', rfl, h2, h3⟩ := h1
    obtain ⟨y, r2, rfl, h4, h5⟩ := h3
    cases h5
    exact h F H x y _ _ b Q s h2 h4 ho hq
  · cases ho
theorem RepT.lenT {F : Hp} : ∀ {ds : List (List Key × D)} {xs : List (List Key × V)}, RepT K F ds xs → xs.length = ds.length
  | [], xs, h => by simp only [RepT] at h; subst h; rfl
  | (k, d) :: ds, xs, h => by simp only [RepT] at h; obtain ⟨v, r, rfl, _, h2⟩ := h; simp [RepT.lenT h2]
theorem RepK.lenK {F : Hp} : ∀ {ds : List (Key × D)} {xs : List (Key × V)}, RepK K F ds xs → xs.length = ds.length
  | [], xs, h => by simp only [RepK] at h; subst h; rfl
  | (k, d) :: ds, xs, h => by simp only [RepK] at h; obtain ⟨v, r, rfl, _, h2⟩ := h; simp [RepK.lenK h2]
def lenD : D → Option B
  | .str z => if z.length ≤ sizeLine then some (vI z.length) else none
  | .lst ds => some (vI ds.length)
  | .tup ds => some (vI ds.length)
  | .kt ds => some (vI ds.length)
  | .dk ds => some (vI ds.length)
  | .dt ds => some (vI ds.length)
  | _ => none
theorem cb_len : Cb X "len" (on1 lenD) := by
  refine ⟨_, CallR.or call_len (CallR.or call_lenD call_len_dT), OpN.one fun F H x d b Q s h1 ho hq => ?_⟩
  unfold lenD at ho
  split at ho
  · cases h1
    split at ho
    · rename_i hz; cases ho
      exact .inl ⟨_, _, rfl, ⟨hz, rfl⟩, hq F H _ (Adds.val0 s rep_int)⟩
    · cases ho
  · obtain ⟨a, vs, rfl, h3, h4⟩ := h1
    cases ho
    exact .inl ⟨_, _, rfl, .inl ⟨vs, .inl (.inl h3), h4.length⟩, hq F H _ (Adds.val0 s rep_int)⟩
  · obtain ⟨a, vs, rfl, h3, h4⟩ := h1
    cases ho
    exact .inl ⟨_, _, rfl, .inr ⟨vs, Same.sqT s h3, h4.length⟩, hq F H _ (Adds.val0 s rep_int)⟩
  · obtain ⟨a, vs, rfl, h3, h4⟩ := h1
    cases ho
    exact .inl ⟨_, _, rfl, .inr ⟨vs, sqT_mono s h3.sqT, h4.length⟩, hq F H _ (Adds.val0 s rep_int)⟩
  · obtain ⟨a, vs, rfl, h3, h4⟩ := h1
    cases ho
    exact .inr (.inl ⟨a, vs, rfl, h3, hq F H _ (Adds.val0 s (by simp only [Rep, h4.lenK]))⟩)
  · obtain ⟨a, vs, rfl, h3, h4⟩ := h1
    cases ho
    exact .inr (.inr ⟨a, vs, rfl, h3, hq F H _ (Adds.val0 s (by simp only [Rep, h4.lenT]))⟩)
  · cases ho
/-- a list of truth values -/
def blsD : List D → Option (List Bool)
  | [] => some []
  | .bl k :: r => match blsD r with
    | some ks => some (k :: ks)
    | none => none
  | _ :: _ => none
theorem bls_ok {F : Hp} : ∀ {ds : List D} {vs : List V} {ks : List Bool}, Reps K F ds vs → blsD ds = some ks → vs = ks.map V.bl
  | [], vs, ks, h, e => by simp only [Reps] at h; cases e; subst h; rfl
  | d :: ds, vs, ks, h, e => by
    simp only [Reps] at h
    obtain ⟨v, r, rfl, h1, h2⟩ := h
    cases d with
    | bl k =>
      simp only [blsD] at e
      cases e2 : blsD ds with
      | none => rw [e2] at e; cases e
      | some q => rw [e2] at e; cases e; simp only [Rep] at h1; subst h1; rw [bls_ok h2 e2]; rfl
    | _ => cases e
def allD : D → Option B
  | .lst ds => match blsD ds with
    | some ks => some (vB (ks.all id))
    | none => none
  | _ => none
def anyD : D → Option B
  | .lst ds => match blsD ds with
    | some ks => some (vB (ks.any id))
    | none => none
  | _ => none
theorem cb_all (hc : X.calm = true) : Cb X "all" (on1 allD) := by
  refine ⟨_, cr_all hc, OpN.one fun F H x d b Q s h1 ho hq => ?_⟩
  unfold allD at ho
  split at ho
  · obtain ⟨a, vs, rfl, h3, h4⟩ := h1
    split at ho
    · rename_i ks hk; cases ho
      have := bls_ok h4 hk
      subst this
      exact ⟨a, ks, rfl, .inl (.inl h3), hq F H _ (Adds.val0 s rep_bl)⟩
    · cases ho
  · cases ho
theorem cb_any (hc : X.calm = true) : Cb X "any" (on1 anyD) := by
  refine ⟨_, cr_any hc, OpN.one fun F H x d b Q s h1 ho hq => ?_⟩
  unfold anyD at ho
  split at ho
  · obtain ⟨a, vs, rfl, h3, h4⟩ := h1
    split at ho
    · rename_i ks hk; cases ho
      have := bls_ok h4 hk
      subst this
      exact ⟨a, ks, rfl, .inl (.inl h3), hq F H _ (Adds.val0 s rep_bl)⟩
    · cases ho
  · cases ho
def intD : D → Option B
  | .int i => some (vI i)
  | .bl k => some (vI (if k then 1 else 0))
  | _ => none
theorem ct_int : Ct X "int" (on1 intD) := by
  refine ⟨_, call_int1, OpN.one fun F H x d b Q s h1 ho hq => ?_⟩
  unfold intD at ho
  split at ho
  · cases h1; cases ho; exact .inl ⟨_, rfl, hq F H _ (Adds.val0 s rep_int)⟩
  · cases h1; cases ho; exact .inr ⟨_, rfl, hq F H _ (Adds.val0 s rep_int)⟩
  · cases ho
def boolD (d : D) : Option B := match truth d with
  | some k => match d with
    | .int _ => some (vB k)
    | .bl _ => some (vB k)
    | _ => none
  | none => none
theorem ct_bool : Ct X "bool" (on1 boolD) := by
  refine ⟨_, call_bool1, OpN.one fun F H x d b Q s h1 ho hq => ?_⟩
  unfold boolD at ho
  cases d with
  | int i => cases h1; cases ho; exact .inl ⟨_, rfl, hq F H _ (Adds.val0 s rep_bl)⟩
  | bl k => cases h1; cases ho; exact .inr ⟨_, rfl, hq F H _ (Adds.val0 s rep_bl)⟩
  | non => cases ho
  | str z => simp only [truth] at ho; split at ho <;> cases ho
  | lst ds => cases ho
  | tup ds => cases ho
  | kt ds => cases ho
  | kl ds => cases ho
  | dk ds => cases ho
  | dt ds => cases ho
  | ins C fs => cases ho
def absD : D → Option B
  | .int i => some (vI (if i < 0 then -i else i))
  | _ => none
theorem cb_abs : Cb X "abs" (on1 absD) := by
  refine ⟨_, call_abs, OpN.one fun F H x d b Q s h1 ho hq => ?_⟩
  unfold absD at ho
  split at ho
  · cases h1; cases ho; exact ⟨_, rfl, hq F H _ (Adds.val0 s rep_int)⟩
  · cases ho
def max2D : D → D → Option B := iiD fun i j => if j > i then j else i
def min2D : D → D → Option B := iiD fun i j => if j < i then j else i
theorem cb_max2 (hc : X.calm = true) : Cb X "max" (on2 max2D) := by
  refine ⟨_, call_max2 hc, OpN.two fun F H x y d e b Q s h1 h2 ho hq => ?_⟩
  unfold max2D iiD at ho
  split at ho
  · cases h1; cases h2; cases ho; exact ⟨_, _, rfl, hq F H _ (Adds.val0 s rep_int)⟩
  · cases ho
theorem cb_min2 (hc : X.calm = true) : Cb X "min" (on2 min2D) := by
  refine ⟨_, call_min2 hc, OpN.two fun F H x y d e b Q s h1 h2 ho hq => ?_⟩
  unfold min2D iiD at ho
  split at ho
  · cases h1; cases h2; cases ho; exact ⟨_, _, rfl, hq F H _ (Adds.val0 s rep_int)⟩
  · cases ho
theorem call_repr_bool : CallR X (.builtin "repr") (fun xs H Q => ∃ k, xs = [.bl k] ∧ Q (.str (if k then "True" else "False")) H) := by
  intro pins s σ H xs us Q I r h
  obtain ⟨k, rfl, q⟩ := h
  obtain ⟨u, rfl, e⟩ := vals1 r
  cases e
  exact PySem.P.repr_of_bool ⟨.str _, H, I.tok _, ⟨_, rfl⟩, q⟩
def reprD : D → Option B
  | .bl k => some (.val (.str (if k then "True" else "False")))
  | _ => none
theorem cb_repr : Cb X "repr" (on1 reprD) := by
  refine ⟨_, call_repr_bool, OpN.one fun F H x d b Q s h1 ho hq => ?_⟩
  unfold reprD at ho
  split at ho
  · cases h1; cases ho; exact ⟨_, rfl, hq F H _ (Adds.val0 s rep_str)⟩
  · cases ho
def listD : D → Option B
  | .lst ds => some (.own true (.lst ds))
  | .tup ds => some (.own true (.lst ds))
  | .kt ds => some (.own true (.lst ds))
  | _ => none
theorem ct_list : Ct X "list" (on1 listD) := by
  refine ⟨_, call_list_of, OpN.one fun F H x d b Q s h1 ho hq => ?_⟩
  unfold listD at ho
  split at ho
  · obtain ⟨a, vs, rfl, h3, h4⟩ := h1
    cases ho
    exact ⟨a, vs, rfl, .inl (.inl (.inl h3)), fun l hl => hq _ _ _ (Adds.lst s hl h4)⟩
  · obtain ⟨a, vs, rfl, h3, h4⟩ := h1
    cases ho
    exact ⟨a, vs, rfl, .inr (Same.sqT s h3), fun l hl => hq _ _ _ (Adds.lst s hl h4)⟩
  · obtain ⟨a, vs, rfl, h3, h4⟩ := h1
    cases ho
    exact ⟨a, vs, rfl, .inr (sqT_mono s h3.sqT), fun l hl => hq _ _ _ (Adds.lst s hl h4)⟩
  · cases ho
/-- tuple(x): of a list a new one, known -/
def tupleD : D → Option B
  | .lst ds => some (.val (.kt ds))
  | .tup ds => some (.val (.tup ds))
  | .kt ds => some (.val (.kt ds))
  | _ => none
theorem call_tuple_known : CallR X (.type "tuple") (fun xs H Q => ∃ p ys, xs = [.ref p] ∧ ((SqL X.K H p ys ∧ ∀ l o, o.cls = .type "tuple" → o.dict = none → H l = none → Q (.ref l) (upd H l (.frz o (.tup ys)))) ∨ (SqT X.K H p ys ∧ Q (.ref p) H))) := by
  intro pins s σ H xs us Q I r h
  obtain ⟨p, ys, rfl, h⟩ := h
  obtain ⟨u, rfl, rx⟩ := vals1 r
  cases rx
  rcases h with ⟨hq, q⟩ | ⟨hq, q⟩
  · obtain ⟨its, r', pl, hz⟩ := I.list hq
    have hlen := r'.length
    refine call_tuple_list pl.isList (fun h' kp => ?_) (by simp only [List.size_toArray] <;> omega)
    have I1 : Inv X pins σ H { s with heap := h' } := I.kept (t' := s.toks) kp
    have I2 : Inv X pins σ (upd H h'.objs.size (.frz { cls := .type "tuple", data := .seq its.toArray } (.tup ys))) { s with heap := h'.push { cls := .type "tuple", data := .seq its.toArray } } :=
      I1.laid (t' := s.toks) (fun b o e => Heap.get?_push_of_some _ e) (Nat.le_refl _) (show ObjOk X.prog X.w _ _ _ (.frz _ (.tup ys)) from ⟨Heap.get?_push_size _ rfl, hz, its, r', IsTup.new _ _⟩)
    exact ⟨.ref h'.objs.size, _, I2, rfl, q _ _ rfl rfl (I1.hok.fresh (Nat.le_refl _))⟩
  · obtain ⟨its, r', pl, hz⟩ := I.tuple hq
    exact call_tuple_same pl ⟨.ref p, H, I, rfl, q⟩
theorem Adds.kt {F H : Hp} {ds : List D} {xs : List V} {p : Addr} {o : Obj} (s : Same F H) (h : H p = none) (h1 : o.cls = .type "tuple") (h2 : o.dict = none) (r : Reps K F ds xs) : Adds K none0 F H (upd F p (.frz o (.tup xs))) (upd H p (.frz o (.tup xs))) (.ref p) (.val (.kt ds)) := by
  refine ⟨fun a o _ e => same_upd h a o e, same_upd (s.free h), fun a o e => ?_, fun a e e2 => ?_, ?_⟩
  · by_cases ha : a = p
    · subst ha; rw [upd_same] at e ⊢; exact e
    · rw [upd_ne ha] at e ⊢; exact s _ _ e
  · rw [upd_ne (fun z => by subst z; exact e2 h)]; exact e
  · show Rep K (upd F p (.frz o (.tup xs))) (.kt ds) (.ref p)
    simp only [Rep]
    exact ⟨p, xs, rfl, .inl ⟨o, upd_same, h1, h2⟩, Reps.mono (same_upd (s.free h)) _ _ r⟩
theorem ct_tuple : Ct X "tuple" (on1 tupleD) := by
  refine ⟨_, call_tuple_known, OpN.one fun F H x d b Q s h1 ho hq => ?_⟩
  unfold tupleD at ho
  split at ho
  · obtain ⟨a, vs, rfl, h3, h4⟩ := h1
    cases ho
    exact ⟨a, vs, rfl, .inl ⟨.inl (.inl h3), fun l o e1 e2 hl => hq _ _ _ (Adds.kt s hl e1 e2 h4)⟩⟩
  · obtain ⟨a, vs, rfl, h3, h4⟩ := h1
    cases ho
    refine ⟨a, vs, rfl, .inr ⟨Same.sqT s h3, hq F H _ (Adds.val0 s ?_)⟩⟩
    simp only [Rep]; exact ⟨a, vs, rfl, h3, h4⟩
  · obtain ⟨a, vs, rfl, h3, h4⟩ := h1
    cases ho
    refine ⟨a, vs, rfl, .inr ⟨sqT_mono s h3.sqT, hq F H _ (Adds.val0 s ?_)⟩⟩
    simp only [Rep]; exact ⟨a, vs, rfl, h3, h4⟩
  · cases ho
/-- a list of ints -/
def intsD : List D → Option (List Int)
  | [] => some []
  | .int k :: r => match intsD r with
    | some ks => some (k :: ks)
    | none => none
  | _ :: _ => none
theorem ints_ok {F : Hp} : ∀ {ds : List D} {vs : List V} {ks : List Int}, Reps K F ds vs → intsD ds = some ks → vs = ks.map V.int
  | [], vs, ks, h, e => by simp only [Reps] at h; cases e; subst h; rfl
  | d :: ds, vs, ks, h, e => by
    simp only [Reps] at h
    obtain ⟨v, r, rfl, h1, h2⟩ := h
    cases d with
    | int k =>
      simp only [intsD] at e
      cases e2 : intsD ds with
      | none => rw [e2] at e; cases e
      | some q => rw [e2] at e; cases e; simp only [Rep] at h1; subst h1; rw [ints_ok h2 e2]; rfl
    | _ => cases e
def sumD : D → Option B
  | .lst ds => match intsD ds with
    | some ks => some (vI ks.sum)
    | none => none
  | _ => none
theorem cb_sum (hc : X.calm = true) : Cb X "sum" (on1 sumD) := by
  refine ⟨_, cr_sum hc, OpN.one fun F H x d b Q s h1 ho hq => ?_⟩
  unfold sumD at ho
  split at ho
  · obtain ⟨a, vs, rfl, h3, h4⟩ := h1
    split at ho
    · rename_i ks hk; cases ho
      have := ints_ok h4 hk
      subst this
      exact ⟨a, ks, rfl, .inl (.inl h3), hq F H _ (Adds.val0 s rep_int)⟩
    · cases ho
  · cases ho

/-! ### isinstance -/
def tyN : D → Option String
  | .non => some "NoneType"
  | .bl _ => some "bool"
  | .int _ => some "int"
  | .str _ => some "str"
  | .lst _ => some "list"
  | .tup _ => some "tuple"
  | .kt _ => some "tuple"
  | .kl _ => none
  | .dk _ => some "dict"
  | .dt _ => some "dict"
  | .ins _ _ => none
def isA (n T : String) : Bool := n == T || (n == "bool" && T == "int")
/-- T: the built-in types; cls: what the answer is for instances of the text's classes -/
def isiD (Ts : List String) (cls : List (Nat × Bool)) (d : D) : Option B := match d with
  | .ins C _ => match cls.lookup C with
    | some k => some (vB k)
    | none => none
  | d => match tyN d with
    | some n => some (vB (Ts.any (isA n)))
    | none => none
def tyNames : List String := ["NoneType", "bool", "int", "str", "list", "tuple", "dict"]
theorem kit_all : ∀ n ∈ tyNames, ∀ T ∈ tyNames, kitB n T = some (isA n T) := by decide +kernel
theorem tyN_mem {d : D} {n : String} (h : tyN d = some n) : n ∈ tyNames := by
  cases d <;> simp only [tyN, Option.some.injEq, reduceCtorEq] at h <;> subst h <;> decide
theorem kit_any {n : String} (hn : n ∈ tyNames) : ∀ {Ts : List String}, (∀ T ∈ Ts, T ∈ tyNames) → PySem.W.kitAny K (.type n) (Ts.map Value.type) = some (Ts.any (isA n))
  | [], _ => rfl
  | T :: r, h => by
    have h1 : PySem.W.kitOne K (.type n) (.type T) = some (isA n T) := kit_ty (kit_all n hn T (h T (by simp)))
    have ih := kit_any hn (Ts := r) fun T h' => h T (by simp [h'])
    rw [List.map_cons, List.any_cons]
    unfold PySem.W.kitAny
    rw [h1]
    cases isA n T with
    | true => rfl
    | false => exact ih
/-- what of a class must be known for its instances to be looked at -/
structure Inst (K : PySem.W.Frag) (C : Addr) : Prop where
  cl : Cls K C
  ha : PySem.W.findIn K (.ref C) "__class__" = some (some (.builtin "object.__class__"))
  hn : PySem.W.specialIn K (.builtin "object.__class__") "__get__" = some (some (.builtin "getset_descriptor.__get__"))
  htk : PySem.W.takesIn K (.builtin "object.__class__") = some true
  hm : PySem.W.mroIn K C (.type "object") = some true
theorem Rep1.ty {F H : Hp} {d : D} {x : V} {n : String} (s : Same F H) (h : Rep1 K F H d x) (e : tyN d = some n) : TyX K H x (.type n) := by
  cases d with
  | non => cases h; cases e; exact .base .non
  | bl b => cases h; cases e; exact .base (.bl _)
  | int b => cases h; cases e; exact .base (.int _)
  | str b => cases h; cases e; exact .base (.str _)
  | lst ds => obtain ⟨a, vs, rfl, h3, h4⟩ := h; cases e; exact .base (.lst h3)
  | tup ds =>
    obtain ⟨a, vs, rfl, h3, h4⟩ := h; cases e
    exact .base (.tup (s _ _ h3))
  | kl ds => cases e
  | kt ds =>
    obtain ⟨a, vs, rfl, h3, h4⟩ := h; cases e
    rcases h3 with ⟨o, h3, _⟩ | ⟨o, its, n, h3, h5, _⟩
    · exact .fTuple (s _ _ h3)
    · exact .kTuple h3 h5
  | dk ds => obtain ⟨a, vs, rfl, h3, h4⟩ := h; cases e; exact .base (.dK h3)
  | dt ds => obtain ⟨a, vs, rfl, h3, h4⟩ := h; cases e; exact .base (.dT h3)
  | ins C fs => cases e
/-- the facts of an isinstance against the classes us -/
def IsF (K : PySem.W.Frag) (us : List Value) (o : D → Option B) : Prop := ∀ (F H : Hp) (x : V) (d : D) (b : B), Same F H → Rep1 K F H d x → o d = some b → ∃ t k, TyX K H x t ∧ PySem.W.kitAny K t us = some k ∧ b = vB k
theorem isF_ty {Ts : List String} {cls : List (Nat × Bool)} (hT : ∀ T ∈ Ts, T ∈ tyNames) (hc : ∀ C k, cls.lookup C = some k → Inst K (ca K C) ∧ PySem.W.kitAny K (.ref (ca K C)) (Ts.map Value.type) = some k) : IsF K (Ts.map Value.type) (isiD Ts cls) := fun F H x d b s h ho => by
  have gen : ∀ {n : String}, tyN d = some n → b = vB (Ts.any (isA n)) → ∃ t k, TyX K H x t ∧ PySem.W.kitAny K t (Ts.map Value.type) = some k ∧ b = vB k := fun {n} e eb => ⟨_, _, h.ty s e, kit_any (tyN_mem e) hT, eb⟩
  cases d with
  | ins C fs =>
    obtain ⟨a, dx, vs, rfl, h3, h4, h5⟩ := h
    simp only [isiD] at ho
    split at ho
    · rename_i k hk; cases ho
      obtain ⟨i, j⟩ := hc C k hk
      exact ⟨_, k, .base (.ins h3 i.cl i.ha i.hn i.htk i.hm), j, rfl⟩
    · cases ho
  | kl ds => cases ho
  | _ => exact gen rfl (by simpa only [isiD, tyN, Option.some.injEq, eq_comm] using ho)
/-- an own class, and the types -/
def isiC (cls : List (Nat × Bool)) (d : D) : Option B := match d with
  | .ins C _ => match cls.lookup C with
    | some k => some (vB k)
    | none => none
  | .kl _ => none
  | _ => some (vB false)
theorem isF_own {C0 : Addr} {cls : List (Nat × Bool)} (hT : ∀ n ∈ tyNames, PySem.W.kitOne K (.type n) (.ref C0) = some false) (hc : ∀ C k, cls.lookup C = some k → Inst K (ca K C) ∧ PySem.W.kitOne K (.ref (ca K C)) (.ref C0) = some k) : IsF K [.ref C0] (isiC cls) := fun F H x d b s h ho => by
  have one : ∀ {t : Value} {k : Bool}, PySem.W.kitOne K t (.ref C0) = some k → PySem.W.kitAny K t [.ref C0] = some k := fun {t k} e => by
    unfold PySem.W.kitAny; rw [e]; cases k <;> rfl
  have gen : ∀ {n : String}, tyN d = some n → b = vB false → ∃ t k, TyX K H x t ∧ PySem.W.kitAny K t [.ref C0] = some k ∧ b = vB k := fun {n} e eb => ⟨_, _, h.ty s e, one (hT n (tyN_mem e)), eb⟩
  cases d with
  | ins C fs =>
    obtain ⟨a, dx, vs, rfl, h3, h4, h5⟩ := h
    simp only [isiC] at ho
    split at ho
    · rename_i k hk; cases ho
      obtain ⟨i, j⟩ := hc C k hk
      exact ⟨_, k, .base (.ins h3 i.cl i.ha i.hn i.htk i.hm), one j, rfl⟩
    · cases ho
  | kl ds => cases ho
  | _ => exact gen rfl (by simpa only [isiC, Option.some.injEq, eq_comm] using ho)
/-- isinstance(e, C), one class -/
theorem pd_isi1 {o : D → Option B} {c : V} {u : Value} (k : ClsV c u) (i : IsF X.K [u] o) (hg : Gl X "isinstance") (hm : X.mg "isinstance" = none) (ha : PD X W a f) (hb : PE X b (tC c)) (hs : starEach (a :: [b]) X.env = (false, eval a X.env) :: starEach [b] X.env := by rfl) (hs2 : starEach (b :: []) X.env = (false, eval b X.env) :: starEach [] X.env := by rfl) (hpl : (backTo pos (starEach [b] X.env)).any (·.1) = false := by rfl) :
    PD X W (.Call (.Name "isinstance" p) [a, b] [] pos) (op1 f o) := by
  refine PD.of (pe_callB call_isi hg hm (by decide +kernel) (pa_cons ha (pa_cons hb pa_nil hs2) hs) (by decide) (by decide) hs hpl) fun σ H Q h => ?_
  have h2 := tE_op1 (r := fun x H Q => rIsi X.K [x, c] H Q) (op := o) (fun F H x d b Q s h1 ho hq => by
    obtain ⟨t, k', h3, h4, rfl⟩ := i F H x d b s h1 ho
    refine ⟨x, c, t, u, k', rfl, k, h3, ?_, hq F H _ (Adds.val0 s rep_bl)⟩
    unfold PySem.W.kitAny at h4
    split at h4
    · rename_i e; cases h4; exact e
    · rename_i e; cases h4; exact e
    · cases h4) h
  exact h2
/-- isinstance(e, (C, ..)) -/
theorem pd_isiT {o : D → Option B} {cs : List V} {us : List Value} {tt : TE} (k : Paired ClsV cs us) (hz : cs.length ≤ sizeLine) (i : IsF X.K us o) (hg : Gl X "isinstance") (hm : X.mg "isinstance" = none) (ha : PD X W a f) {ta : TA} (hb : PA X es ta) (hta : ∀ σ H Q, Q cs H → ta σ H Q) {x1 : Nat} {p2 : Pos}
    (hs : starEach (a :: [.Tuple es x1 p2]) X.env = (false, eval a X.env) :: starEach [.Tuple es x1 p2] X.env := by rfl) (hs2 : starEach (.Tuple es x1 p2 :: []) X.env = (false, eval (.Tuple es x1 p2) X.env) :: starEach [] X.env := by rfl) (hpl : (backTo pos (starEach [.Tuple es x1 p2] X.env)).any (·.1) = false := by rfl) :
    PD X W (.Call (.Name "isinstance" p) [a, .Tuple es x1 p2] [] pos) (op1 f o) := by
  refine PD.of (pe_callB call_isiT hg hm (by decide +kernel) (pa_cons ha (pa_cons (pe_tup hb) pa_nil hs2) hs) (by decide) (by decide) hs hpl) fun σ H Q h => ?_
  have h2 := tE_op1 (r := fun x H Q => ∀ tp, H tp = none → rIsiT X.K [x, .ref tp] (upd H tp (.tup cs)) Q) (op := o) (fun F H x d b Q s h1 ho hq tp hp => by
    have s1 := same_upd (o := .tup cs) hp
    have h1' : Rep1 X.K F (upd H tp (.tup cs)) d x := by
      cases d with
      | lst ds => obtain ⟨a, vs, e, h3, h4⟩ := h1; exact ⟨a, vs, e, s1 _ _ h3, h4⟩
      | tup ds => exact h1
      | kt ds => exact h1
      | kl ds => obtain ⟨a, vs, e, h3, h4⟩ := h1; exact ⟨a, vs, e, sqL_mono s1 h3, h4⟩
      | dk ds => obtain ⟨a, vs, e, h3, h4⟩ := h1; exact ⟨a, vs, e, s1 _ _ h3, h4⟩
      | dt ds => obtain ⟨a, vs, e, h3, h4⟩ := h1; exact ⟨a, vs, e, s1 _ _ h3, h4⟩
      | ins C ds => obtain ⟨a, dx, vs, e, h3, h4, h5⟩ := h1; exact ⟨a, dx, vs, e, s1 _ _ h3, s1 _ _ h4, h5⟩
      | _ => exact h1
    obtain ⟨t, k', h3, h4, rfl⟩ := i F _ x d b (s.trans s1) h1' ho
    exact ⟨x, tp, cs, t, us, k', rfl, upd_same, k, h3, h4, hq F _ _ ⟨fun a o _ e => s1 a o e, Same.refl F, s.trans s1, fun _ e _ => e, rep_bl⟩⟩) h
  obtain ⟨M, F0, H0, F, ρ, ts, τ, l, ft, go⟩ := h2
  refine ⟨M, F0, H0, F, ρ, ts, τ, l, ft, ?_⟩
  cases e : f ρ with
  | no => rw [e] at go; exact go.elim
  | er C fs ρ' => rw [e] at go; exact go
  | ok bb ρ' =>
    rw [e] at go
    exact fun F' H' v l2 f2 => hta _ _ _ ⟨hz, fun tp hp => go F' H' v l2 f2 tp hp⟩
end
end Dl
namespace Dl
open PySem PySem.Spec PyProof.Rows L2

inductive Fl where
  | nx | bk | ct | rt (b : B)
def NoAl (τ : List B) : Prop := ∀ (j k : Nat), τ[j]? ≠ some (B.al k)
section
variable (K : PySem.W.Frag) (W : WX) (M : Addr → Prop) (F0 H0 : Hp) (n : Nat) (ts : L2.St) (τ : List B)
def GoS (r : R Fl) (D : Ends) : Prop := match r with
  | .ok .nx ρ => ∀ (F' H' : Hp) (σ' : L2.St), σ'.length = n → ρ.length = n → Fit K M F0 H0 n F' H' (σ' ++ ts) (ρ ++ τ) → D.nx σ' H'
  | .ok .bk ρ => ∀ (F' H' : Hp) (σ' : L2.St), σ'.length = n → ρ.length = n → Fit K M F0 H0 n F' H' (σ' ++ ts) (ρ ++ τ) → D.bk σ' H'
  | .ok .ct ρ => ∀ (F' H' : Hp) (σ' : L2.St), σ'.length = n → ρ.length = n → Fit K M F0 H0 n F' H' (σ' ++ ts) (ρ ++ τ) → D.ct σ' H'
  | .ok (.rt b) ρ => ∀ (F' H' : Hp) (σ' : L2.St) (v : V), σ'.length = n → ρ.length = n → Fit K M F0 H0 n F' H' (σ' ++ (ts ++ [some v])) (ρ ++ (τ ++ [b])) → D.rt v H'
  | .er C fs ρ => ∀ (F' H' : Hp) (σ' : L2.St) (dd : Addr), σ'.length = n → ρ.length = n → Fit K M F0 H0 n F' H' (σ' ++ ts) (ρ ++ τ) → ExcAt K F' dd fs → W (.ref (ca K C)) (some dd) σ' H'
  | .no => False
end
def tS (K : PySem.W.Frag) (W : WX) (g : Ev → R Fl) : TS := fun D σ H => ∃ (M : Addr → Prop) (F0 H0 F : Hp) (ρ : Ev) (ts : L2.St) (τ : List B), ρ.length = σ.length ∧ NoAl τ ∧ Fit K M F0 H0 σ.length F H (σ ++ ts) (ρ ++ τ) ∧ GoS K W M F0 H0 σ.length ts τ (g ρ) D
def PDS (X : Cx) (W : WX) (st : Stmt) (g : Ev → R Fl) : Prop := PS X st (tS X.K W g)
def PDSs (X : Cx) (W : WX) (st : List Stmt) (g : Ev → R Fl) : Prop := PSs X st (tS X.K W g)
theorem PS.imp {X : Cx} {e : Stmt} {t t' : TS} (h : PS X e t) (i : ∀ D σ H, t' D σ H → t D σ H) : PS X e t' := ⟨fun pins s σ H D I hq => h.run pins s σ H D I (i D σ H hq)⟩
theorem PSs.imp {X : Cx} {e : List Stmt} {t t' : TS} (h : PSs X e t) (i : ∀ D σ H, t' D σ H → t D σ H) : PSs X e t' := ⟨fun pins s σ H D I hq => h.run pins s σ H D I (i D σ H hq)⟩

section
variable {K : PySem.W.Frag} {W : WX} {M : Addr → Prop} {F0 H0 F H : Hp} {n : Nat} {ts : L2.St} {τ : List B} {σ : L2.St} {D : Ends}
/-- an expression ahead of a statement's end -/
theorem Go.bindS {r : R B} {k : B → Ev → R Fl} {cont : VK} (go : GoS K W M F0 H0 σ.length ts τ (r.bind k) D)
    (step : ∀ b ρ1 F1 H1 x, ρ1.length = σ.length → Fit K M F0 H0 σ.length F1 H1 (σ ++ (ts ++ [some x])) (ρ1 ++ (τ ++ [b])) → GoS K W M F0 H0 σ.length ts τ (k b ρ1) D → cont x H1) : Go K W M F0 H0 σ ts τ r cont := by
  cases r with
  | ok b ρ1 => exact fun F' H' v l f => step b ρ1 F' H' v l f go
  | er C fs ρ1 => exact fun F' H' dd l f x => go F' H' σ dd rfl l f x
  | no => exact go.elim
theorem GoT.bindS {α : Type} {r : R α} {k : α → Ev → R Fl} {cont : α → Hp → Prop} (go : GoS K W M F0 H0 σ.length ts τ (r.bind k) D)
    (step : ∀ b ρ1 F1 H1, ρ1.length = σ.length → Fit K M F0 H0 σ.length F1 H1 (σ ++ ts) (ρ1 ++ τ) → GoS K W M F0 H0 σ.length ts τ (k b ρ1) D → cont b H1) : GoT K W M F0 H0 σ ts τ r cont := by
  cases r with
  | ok b ρ1 => exact fun F' H' l f => step b ρ1 F' H' l f go
  | er C fs ρ1 => exact fun F' H' dd l f x => go F' H' σ dd rfl l f x
  | no => exact go.elim
theorem GoA.bindS {r : R (List B)} {k : List B → Ev → R Fl} {cont : List V → Hp → Prop} (go : GoS K W M F0 H0 σ.length ts τ (r.bind k) D)
    (step : ∀ bs ρ1 F1 H1 xs, ρ1.length = σ.length → bs.length = xs.length → Fit K M F0 H0 σ.length F1 H1 (σ ++ (ts ++ xs.map some)) (ρ1 ++ (τ ++ bs)) → GoS K W M F0 H0 σ.length ts τ (k bs ρ1) D → cont xs H1) : GoA K W M F0 H0 σ ts τ r cont := by
  cases r with
  | ok b ρ1 => exact fun F' H' v l l2 f => step b ρ1 F' H' v l l2 f go
  | er C fs ρ1 => exact fun F' H' dd l f x => go F' H' σ dd rfl l f x
  | no => exact go.elim
end

/-! ### blocks -/
def sNil : Ev → R Fl := fun ρ => .ok .nx ρ
def sSeq (g h : Ev → R Fl) : Ev → R Fl := fun ρ => match g ρ with
  | .ok .nx ρ1 => h ρ1
  | r => r
section
variable {X : Cx} {W : WX} {K : PySem.W.Frag} {g h : Ev → R Fl} {f : Ev → R B} {st : Stmt} {rest : List Stmt} {pos pos' : Pos} {e : Expr}
theorem pss_nilD : PDSs X W [] sNil := PSs.imp pss_nil fun D σ H h => by
  obtain ⟨M, F0, H0, F, ρ, ts, τ, l, na, ft, go⟩ := h
  exact (show ∀ (F' H' : Hp) (σ' : L2.St), σ'.length = σ.length → ρ.length = σ.length → Fit X.K M F0 H0 σ.length F' H' (σ' ++ ts) (ρ ++ τ) → D.nx σ' H' from go) F H σ rfl l ft
theorem tS_seq (D : Ends) (σ : L2.St) (H : Hp) (hh : tS K W (sSeq g h) D σ H) : tSeq (tS K W g) (tS K W h) D σ H := by
  obtain ⟨M, F0, H0, F, ρ, ts, τ, l, na, ft, go⟩ := hh
  refine ⟨M, F0, H0, F, ρ, ts, τ, l, na, ft, ?_⟩
  unfold sSeq at go
  cases e : g ρ with
  | no => rw [e] at go; exact go.elim
  | er C fs ρ1 => rw [e] at go; exact go
  | ok fl ρ1 =>
    rw [e] at go
    cases fl with
    | nx => exact fun F' H' σ' l1 l2 f => ⟨M, F0, H0, F', ρ1, ts, τ, by omega, na, by rw [l1]; exact f, by rw [l1]; exact go⟩
    | bk => exact go
    | ct => exact go
    | rt b => exact go
theorem pss_consD (h1 : PDS X W st g) (h2 : PDSs X W rest h) : PDSs X W (st :: rest) (sSeq g h) := PSs.imp (pss_cons h1 h2) tS_seq
theorem pss_oneD (h1 : PDS X W st g) : PDSs X W [st] g := pss_one h1

/-! ### simple statements -/
def sExpr (f : Ev → R B) : Ev → R Fl := fun ρ => (f ρ).bind fun _ ρ1 => .ok .nx ρ1
theorem ps_exprD (he : PD X W e f) (hs : swapsWith e none pos.line X.env = pure false := by rfl) : PDS X W (.Expr e pos) (sExpr f) := PS.imp (ps_expr he hs) fun D σ H h => by
  obtain ⟨M, F0, H0, F, ρ, ts, τ, l, na, ft, go⟩ := h
  have hl := ft.lenT l
  exact ⟨M, F0, H0, F, ρ, ts, τ, l, ft, Go.bindS go fun b ρ1 F1 H1 x l1 f1 go1 => go1 F1 H1 σ rfl l1 (f1.less l1 hl)⟩
def sPass : Ev → R Fl := sNil
theorem ps_passD : PDS X W (.Pass pos) sNil := PS.imp ps_pass fun D σ H h => by
  obtain ⟨M, F0, H0, F, ρ, ts, τ, l, na, ft, go⟩ := h
  exact (show ∀ (F' H' : Hp) (σ' : L2.St), σ'.length = σ.length → ρ.length = σ.length → Fit X.K M F0 H0 σ.length F' H' (σ' ++ ts) (ρ ++ τ) → D.nx σ' H' from go) F H σ rfl l ft
theorem ps_docD {x : Str} {j : Nat} : PDS X W (.Expr (.Constant (.str x) j pos) pos') sNil := PS.imp ps_doc fun D σ H h => by
  obtain ⟨M, F0, H0, F, ρ, ts, τ, l, na, ft, go⟩ := h
  exact (show ∀ (F' H' : Hp) (σ' : L2.St), σ'.length = σ.length → ρ.length = σ.length → Fit X.K M F0 H0 σ.length F' H' (σ' ++ ts) (ρ ++ τ) → D.nx σ' H' from go) F H σ rfl l ft
def sBreak : Ev → R Fl := fun ρ => .ok .bk ρ
def sCont : Ev → R Fl := fun ρ => .ok .ct ρ
theorem ps_breakD : PDS X W (.Break pos) sBreak := PS.imp ps_break fun D σ H h => by
  obtain ⟨M, F0, H0, F, ρ, ts, τ, l, na, ft, go⟩ := h
  exact (show ∀ (F' H' : Hp) (σ' : L2.St), σ'.length = σ.length → ρ.length = σ.length → Fit X.K M F0 H0 σ.length F' H' (σ' ++ ts) (ρ ++ τ) → D.bk σ' H' from go) F H σ rfl l ft
theorem ps_contD : PDS X W (.Continue pos) sCont := PS.imp ps_continue fun D σ H h => by
  obtain ⟨M, F0, H0, F, ρ, ts, τ, l, na, ft, go⟩ := h
  exact (show ∀ (F' H' : Hp) (σ' : L2.St), σ'.length = σ.length → ρ.length = σ.length → Fit X.K M F0 H0 σ.length F' H' (σ' ++ ts) (ρ ++ τ) → D.ct σ' H' from go) F H σ rfl l ft
/-- what a return hands out: a frozen value, or an object of its own -/
def ret1 (b : B) (ρ : Ev) : R Fl := match b with
  | .val d => .ok (.rt (.val d)) ρ
  | .own true o => .ok (.rt (.own true o)) ρ
  | .al i => match gb ρ i with
    | .val d => .ok (.rt (.val d)) ρ
    | .own true o => .ok (.rt (.own true o)) (ρ.set i .un)
    | _ => .no
  | _ => .no
def sRet (f : Ev → R B) : Ev → R Fl := fun ρ => (f ρ).bind ret1
def sRetN : Ev → R Fl := fun ρ => .ok (.rt (.val .non)) ρ
end
section
variable {K : PySem.W.Frag} {M : Addr → Prop} {F0 H0 F H : Hp} {n : Nat} {vs : List (Option V)} {bs : List B}
/-- a name's object is taken over -/
theorem Fit.steal (f : Fit K M F0 H0 n F H vs bs) {m j : Nat} {g : Bool} {o : O} (h1 : bs[m]? = some (.al j)) (h2 : bs[j]? = some (.own g o)) : Fit K M F0 H0 n F H vs ((bs.set j .un).set m (.own g o)) := by
  obtain ⟨⟨hj, hm⟩, hv⟩ := f.al m j h1
  obtain ⟨p, q1, q2, q3, q4⟩ := f.own j g o h2
  have inv : ∀ {k : Nat} {b : B}, ((bs.set j .un).set m (.own g o))[k]? = some b → (k = m ∧ b = .own g o) ∨ (k = j ∧ b = .un) ∨ (k ≠ m ∧ k ≠ j ∧ bs[k]? = some b) := fun {k b} e => by
    rcases getElem?_set_cases e with ⟨h, h', _⟩ | ⟨h, e⟩
    · exact .inl ⟨h, h'⟩
    · rcases getElem?_set_cases e with ⟨h3, h', _⟩ | ⟨h3, e⟩
      · exact .inr (.inl ⟨h3, h'⟩)
      · exact .inr (.inr ⟨h, h3, e⟩)
  refine ⟨f.sub0, f.subF0, f.sub, f.new, by simp [f.len], fun k d e => ?_, fun k g' o' e => ?_, fun k l g1 g2 o1 o2 q e1 e2 e3 e4 => ?_, fun k l e => ?_, f.mem0⟩
  · rcases inv e with ⟨_, h⟩ | ⟨_, h⟩ | ⟨_, _, h⟩
    · cases h
    · cases h
    · exact f.val k d h
  · rcases inv e with ⟨rfl, h⟩ | ⟨_, h⟩ | ⟨_, _, h⟩
    · cases h; exact ⟨p, by rw [hv]; exact q1, q2, q3, q4⟩
    · cases h
    · exact f.own k g' o' h
  · have key : ∀ {k : Nat} {g1 : Bool} {o1 : O}, ((bs.set j .un).set m (.own g o))[k]? = some (B.own g1 o1) → vs[k]? = some (some (V.ref q)) → ∃ k' g2 o2, bs[k']? = some (B.own g2 o2) ∧ vs[k']? = some (some (V.ref q)) ∧ ((k = m ∧ k' = j) ∨ (k ≠ m ∧ k' = k ∧ k ≠ j)) := fun {k g1 o1} e e' => by
      rcases inv e with ⟨rfl, _⟩ | ⟨_, h⟩ | ⟨h3, h4, h⟩
      · exact ⟨j, g, o, h2, by rw [← hv]; exact e', .inl ⟨rfl, rfl⟩⟩
      · cases h
      · exact ⟨k, _, _, h, e', .inr ⟨h3, rfl, h4⟩⟩
    obtain ⟨k', a1, b1, c1, c2, c3⟩ := key e1 e3
    obtain ⟨l', a2, b2, d1, d2, d3⟩ := key e2 e4
    have := f.dis k' l' a1 a2 b1 b2 q c1 d1 c2 d2
    omega
  · rcases inv e with ⟨_, h⟩ | ⟨_, h⟩ | ⟨_, _, h⟩
    · cases h
    · cases h
    · exact f.al k l h
/-- a name's frozen value -/
theorem Fit.unal (f : Fit K M F0 H0 n F H vs bs) {m j : Nat} {d : D} (h1 : bs[m]? = some (.al j)) (h2 : bs[j]? = some (.val d)) : Fit K M F0 H0 n F H vs (bs.set m (.val d)) := by
  obtain ⟨⟨hj, hm⟩, hv⟩ := f.al m j h1
  obtain ⟨p, q1, q2⟩ := f.val j d h2
  refine ⟨f.sub0, f.subF0, f.sub, f.new, by simp [f.len], fun k d' e => ?_, fun k g' o' e => ?_, fun k l g1 g2 o1 o2 q e1 e2 e3 e4 => ?_, fun k l e => ?_, f.mem0⟩
  · rcases getElem?_set_cases e with ⟨rfl, h, _⟩ | ⟨_, e⟩
    · cases h; exact ⟨p, by rw [hv]; exact q1, q2⟩
    · exact f.val k d' e
  · rcases getElem?_set_cases e with ⟨rfl, h, _⟩ | ⟨_, e⟩
    · cases h
    · exact f.own k g' o' e
  · rcases getElem?_set_cases e1 with ⟨rfl, h, _⟩ | ⟨_, e1⟩
    · cases h
    · rcases getElem?_set_cases e2 with ⟨rfl, h, _⟩ | ⟨_, e2⟩
      · cases h
      · exact f.dis k l g1 g2 o1 o2 q e1 e2 e3 e4
  · rcases getElem?_set_cases e with ⟨rfl, h, _⟩ | ⟨_, e⟩
    · cases h
    · exact f.al k l e
variable {σ ts : L2.St} {τ : List B} {ρ : Ev} {v : V} {b : B}
theorem mid_get (ρ : Ev) (τ : List B) (b : B) (c : List B) : (ρ ++ (τ ++ (b :: c)))[ρ.length + τ.length]? = some b := get_mid _ _ _ _
/-- the last entry, a name, made a value or taken over -/
theorem Fit.own1 (f : Fit K M F0 H0 σ.length F H (σ ++ (ts ++ [some v])) (ρ ++ (τ ++ [.al n]))) {g : Bool} {o : O} (h : gb ρ n = .own g o) : Fit K M F0 H0 σ.length F H (σ ++ (ts ++ [some v])) (ρ.set n .un ++ (τ ++ [.own g o])) := by
  have h2 := gb_get h (by intro z; cases z)
  have f2 := f.steal (mid_get ρ τ (.al n) []) (get_app h2)
  rw [set_app (lt_of_get h2)] at f2
  have e : ρ.length = (ρ.set n .un).length := by simp
  rw [e, set_mid] at f2
  exact f2
theorem Fit.val1 (f : Fit K M F0 H0 σ.length F H (σ ++ (ts ++ [some v])) (ρ ++ (τ ++ [.al n]))) {d : D} (h : gb ρ n = .val d) : Fit K M F0 H0 σ.length F H (σ ++ (ts ++ [some v])) (ρ ++ (τ ++ [.val d])) := by
  have h2 := gb_get h (by intro z; cases z)
  have f2 := f.unal (mid_get ρ τ (.al n) []) (get_app h2)
  rw [set_mid] at f2
  exact f2
end
section
variable {X : Cx} {W : WX} {K : PySem.W.Frag} {g h : Ev → R Fl} {f : Ev → R B} {st : Stmt} {rest : List Stmt} {pos pos' : Pos} {e : Expr}
theorem ps_retD (he : PD X W e f) : PDS X W (.Return (some e) pos) (sRet f) := PS.imp (ps_ret he) fun D σ H h => by
  obtain ⟨M, F0, H0, F, ρ, ts, τ, l, na, ft, go⟩ := h
  refine ⟨M, F0, H0, F, ρ, ts, τ, l, ft, Go.bindS go fun b ρ1 F1 H1 x l1 f1 go1 => ?_⟩
  cases b with
  | un => exact go1.elim
  | val d => exact go1 F1 H1 σ x rfl l1 f1
  | own g o =>
    cases g with
    | false => exact go1.elim
    | true => exact go1 F1 H1 σ x rfl l1 f1
  | al i =>
    simp only [ret1] at go1
    cases e2 : gb ρ1 i with
    | un => rw [e2] at go1; exact go1.elim
    | al j => rw [e2] at go1; exact go1.elim
    | val d => rw [e2] at go1; exact go1 F1 H1 σ x rfl l1 (f1.val1 e2)
    | own g o =>
      rw [e2] at go1
      cases g with
      | false => exact go1.elim
      | true => exact go1 F1 H1 σ x rfl (by simpa using l1) (f1.own1 e2)
theorem ps_retND : PDS X W (.Return none pos) sRetN := PS.imp ps_retN fun D σ H h => by
  obtain ⟨M, F0, H0, F, ρ, ts, τ, l, na, ft, go⟩ := h
  refine (show ∀ (F' H' : Hp) (σ' : L2.St) (v : V), σ'.length = σ.length → ρ.length = σ.length → Fit X.K M F0 H0 σ.length F' H' (σ' ++ (ts ++ [some v])) (ρ ++ (τ ++ [.val .non])) → D.rt v H' from go) F H σ _ rfl l ?_
  exact Fit.res (js := []) (jb := []) (by simpa using ft) l (ft.lenT l) (Adds.val0 ft.sub rep_non)

/-! ### name = e -/
def asg1 (i : Nat) (b : B) (ρ : Ev) : R Fl := match b with
  | .val d => .ok .nx (ρ.set i (.val d))
  | .own true o => .ok .nx (ρ.set i (.own true o))
  | .al j => match frz1 ρ (.al j) with
    | some (d, ρ1) => .ok .nx (ρ1.set i (.val d))
    | none => .no
  | _ => .no
def sSet (i : Nat) (f : Ev → R B) : Ev → R Fl := fun ρ => (f ρ).bind (asg1 i)
end
section
variable {K : PySem.W.Frag} {W : WX} {M : Addr → Prop} {F0 H0 F H : Hp} {σ ts : L2.St} {τ : List B} {ρ : Ev} {v : V} {b : B}
/-- the last entry goes to slot i -/
theorem Fit.put (f : Fit K M F0 H0 σ.length F H (σ ++ (ts ++ [some v])) (ρ ++ (τ ++ [b]))) (l : ρ.length = σ.length) (na : NoAl τ) (hb : ∀ j, b ≠ .al j) {i : Nat} (hi : i < σ.length) : Fit K M F0 H0 σ.length F H (σ.set i (some v) ++ ts) (ρ.set i b ++ τ) := by
  rw [← List.append_assoc, ← List.append_assoc] at f
  have hl := f.len
  simp only [List.length_append, List.length_cons, List.length_nil] at hl
  have f2 := f.asg hb (i := i) (by simp; omega) (by simp; omega) fun j k hj => ?_
  · rw [set_app hi, set_app (by omega)] at f2; exact f2
  · rw [List.getElem?_append_right (by omega)]
    exact na _ _
theorem asg1_ok {i : Nat} {D : Ends} (f : Fit K M F0 H0 σ.length F H (σ ++ (ts ++ [some v])) (ρ ++ (τ ++ [b]))) (l : ρ.length = σ.length) (hl : ts.length = τ.length) (na : NoAl τ) (hi : i < σ.length) (go : GoS K W M F0 H0 σ.length ts τ (asg1 i b ρ) D) : D.nx (σ.set i (some v)) H := by
  cases b with
  | un => exact go.elim
  | val d => exact go F H _ (by simp) (by simpa using l) (f.put l na (fun j z => by cases z) hi)
  | own g o =>
    cases g with
    | false => exact go.elim
    | true => exact go F H _ (by simp) (by simpa using l) (f.put l na (fun j z => by cases z) hi)
  | al j =>
    simp only [asg1] at go
    cases e : Dl.frz1 ρ (.al j) with
    | none => rw [e] at go; exact go.elim
    | some q =>
      obtain ⟨d, ρ1⟩ := q
      rw [e] at go
      obtain ⟨F', b', s, l1, f1, r⟩ := Fit.frz1 (xs := []) (bs := []) f l hl e
      have f2 : Fit K M F0 H0 σ.length F' H (σ ++ (ts ++ [some v])) (ρ1 ++ (τ ++ [.val d])) := Fit.res f1 l1 hl (Adds.val0 f1.sub r)
      exact go F' H _ (by simp) (by simpa using l1) (f2.put l1 na (fun j z => by cases z) hi)
end
section
variable {X : Cx} {W : WX} {K : PySem.W.Frag} {g h : Ev → R Fl} {f : Ev → R B} {st : Stmt} {rest a b : List Stmt} {pos pos' : Pos} {e c : Expr} {p : Ev → R Bool} {x : Str}
theorem ps_setD (i : Nat) (hN : X.N.Nodup) (hi : X.N[i]? = some x) (hx : Loc X.env.scope x) (he : PD X W e f) (hs : swapsWith e (some (.Name x pos')) pos.line X.env = pure false := by rfl) (hf : X.fn x = true ∨ X.env.scope.names.lookup x = some .local := by first | exact .inl rfl | exact .inr rfl | assumption) :
    PDS X W (.Assign [.Name x pos'] e pos) (sSet i f) := ⟨fun pins s σ H D I hq => (ps_set (i := i) hN hi hx he hs hf).run pins s σ H D I (by
  obtain ⟨M, F0, H0, F, ρ, ts, τ, l, na, ft, go⟩ := hq
  have hl := ft.lenT l
  have hi' : i < σ.length := by rw [I.len]; exact lt_of_get hi
  exact ⟨M, F0, H0, F, ρ, ts, τ, l, ft, Go.bindS go fun b ρ1 F1 H1 x l1 f1 go1 => asg1_ok f1 l1 hl na hi' go1⟩)⟩

/-! ### if -/
def sIf (t : Ev → R Bool) (g h : Ev → R Fl) : Ev → R Fl := fun ρ => (t ρ).bind fun k ρ1 => if k = true then g ρ1 else h ρ1
theorem ps_ifD (hc : PDT X W c p) (ha : PDSs X W a g) (hb : PDSs X W b h) : PDS X W (.If c a b pos) (sIf p g h) := PS.imp (ps_if hc ha hb) fun D σ H hq => by
  obtain ⟨M, F0, H0, F, ρ, ts, τ, l, na, ft, go⟩ := hq
  refine ⟨M, F0, H0, F, ρ, ts, τ, l, ft, GoT.bindS go fun k ρ1 F1 H1 l1 f1 go1 => ?_⟩
  cases k with
  | true => rw [if_pos rfl] at go1 ⊢; exact ⟨M, F0, H0, F1, ρ1, ts, τ, l1, na, f1, go1⟩
  | false => rw [if_neg (by decide)] at go1 ⊢; exact ⟨M, F0, H0, F1, ρ1, ts, τ, l1, na, f1, go1⟩

/-! ### while, with a number of turns -/
def whileGo (t : Ev → R Bool) (g : Ev → R Fl) : Nat → Ev → R Fl
  | 0, _ => .no
  | m + 1, ρ => (t ρ).bind fun k ρ1 => if k = true then (match g ρ1 with
      | .ok .nx ρ2 => whileGo t g m ρ2
      | .ok .ct ρ2 => whileGo t g m ρ2
      | .ok .bk ρ2 => .ok .nx ρ2
      | .ok (.rt b) ρ2 => .ok (.rt b) ρ2
      | .er C fs ρ2 => .er C fs ρ2
      | .no => .no) else .ok .nx ρ1
def sWhile (μ : Ev → Nat) (t : Ev → R Bool) (g : Ev → R Fl) : Ev → R Fl := fun ρ => whileGo t g (μ ρ) ρ
theorem ps_whileD (μ : Ev → Nat) (hp : PassesOwn (model X.prog X.w) X.A X.env X.xe) (hc : PDT X W c p) (hb : PDSs X W a g) : PDS X W (.While c a [] pos) (sWhile μ p g) := PS.imp (ps_while hp hc hb) fun D σ H hq => by
  obtain ⟨M, F0, H0, F, ρ, ts, τ, l, na, ft, go⟩ := hq
  refine ⟨fun m σ' H' => σ'.length = σ.length ∧ ∃ F' ρ', ρ'.length = σ.length ∧ Fit X.K M F0 H0 σ.length F' H' (σ' ++ ts) (ρ' ++ τ) ∧ GoS X.K W M F0 H0 σ.length ts τ (whileGo p g m ρ') D, ⟨μ ρ, rfl, F, ρ, l, ft, go⟩, ?_⟩
  rintro m σ1 H1 ⟨l1, F1, ρ1, l2, f1, go1⟩
  cases m with
  | zero => exact go1.elim
  | succ m =>
    unfold whileGo at go1
    rw [← l1] at f1 go1 l2
    refine ⟨M, F0, H0, F1, ρ1, ts, τ, l2, f1, GoT.bindS go1 fun k ρ2 F2 H2 l3 f2 go2 => ?_⟩
    cases k with
    | false =>
      rw [if_neg (by decide)] at go2 ⊢
      exact go2 F2 H2 σ1 rfl l3 f2
    | true =>
      rw [if_pos rfl] at go2 ⊢
      refine ⟨fun σ' H' => σ'.length = σ.length ∧ ∃ F' ρ', ρ'.length = σ.length ∧ Fit X.K M F0 H0 σ.length F' H' (σ' ++ ts) (ρ' ++ τ) ∧ GoS X.K W M F0 H0 σ.length ts τ (whileGo p g m ρ') D, fun σ' H' h => ⟨m, Nat.lt_succ_self _, h⟩, ?_⟩
      refine ⟨M, F0, H0, F2, ρ2, ts, τ, l3, na, f2, ?_⟩
      rw [l1] at go2 ⊢
      cases e : g ρ2 with
      | no => rw [e] at go2; exact go2.elim
      | er C fs ρ3 => rw [e] at go2; exact go2
      | ok fl ρ3 =>
        rw [e] at go2
        cases fl with
        | nx => exact fun F' H' σ' h1 h2 h3 => ⟨h1, F', ρ3, h2, h3, go2⟩
        | ct => exact fun F' H' σ' h1 h2 h3 => ⟨h1, F', ρ3, h2, h3, go2⟩
        | bk => exact go2
        | rt b => exact go2
end
end Dl
namespace Dl
open PySem PySem.Spec PyProof.Rows L2

/-! ### what is walked -/
structure Drw (K : PySem.W.Frag) (F : Hp) (J : It) (ds : List D) : Prop where
  go : ∀ (i : Nat) (H : Hp), i < ds.length → Same F H → J.go i H
  stop : ∀ (H : Hp), Same F H → J.stop ds.length H
  give : ∀ (i : Nat) (F1 H : Hp) (x : V) (H' : Hp) (d : D), Same F F1 → Same F1 H → ds[i]? = some d → J.yld i H x H' → ∃ F', Adds K none0 F1 H F' H' x (.val d)
def GoI (K : PySem.W.Frag) (W : WX) (M : Addr → Prop) (F0 H0 : Hp) (σ ts : L2.St) (τ : List B) (r : R (List D)) (Q : It → Hp → Prop) : Prop := match r with
  | .ok ds ρ' => ∀ (F' H' : Hp) (J : It) (us : List V) (es : List D), ρ'.length = σ.length → es.length = us.length → Fit K M F0 H0 σ.length F' H' (σ ++ (ts ++ us.map some)) (ρ' ++ (τ ++ es.map B.val)) → (∀ F, Reps K F es us → Drw K F J ds) → Q J H'
  | .er C fs ρ' => GoX K W M F0 H0 σ ts τ C fs ρ'
  | .no => False
def tI (K : PySem.W.Frag) (W : WX) (f : Ev → R (List D)) : TI := fun σ H R => ∃ (M : Addr → Prop) (F0 H0 F : Hp) (ρ : Ev) (ts : L2.St) (τ : List B), ρ.length = σ.length ∧ Fit K M F0 H0 σ.length F H (σ ++ ts) (ρ ++ τ) ∧ GoI K W M F0 H0 σ ts τ (f ρ) R
def PDI (X : Cx) (W : WX) (tg it : Expr) (f : Ev → R (List D)) : Prop := PI X tg it (tI X.K W f)
theorem PI.imp {X : Cx} {tg e : Expr} {t t' : TI} (h : PI X tg e t) (i : ∀ σ H R, t' σ H R → t σ H R) : PI X tg e t' := ⟨fun pins s σ H Q I hq => h.run pins s σ H Q I (i σ H Q hq)⟩

section
variable {K : PySem.W.Frag} {F : Hp}
theorem Reps.get {ds : List D} {vs : List V} {i : Nat} {d : D} (h : Reps K F ds vs) (e : ds[i]? = some d) : ∃ v, vs[i]? = some v ∧ Rep K F d v := Reps.at h e
theorem drw_list {a : Addr} {vs : List V} {ds : List D} (h : F a = some (.lst vs)) (r : Reps K F ds vs) : Drw K F (Itl K a) ds where
  go := fun i H hi s => by
    obtain ⟨v, e, _⟩ := r.get (List.getElem?_eq_getElem hi)
    exact ⟨vs, v, .inl (.inl (s _ _ h)), e⟩
  stop := fun H s => ⟨vs, .inl (.inl (s _ _ h)), by rw [r.length]; exact Nat.le_refl _⟩
  give := fun i F1 H x H' d s s1 e y => by
    obtain ⟨v, e2, r2⟩ := r.get e
    obtain ⟨rfl, y⟩ := y
    have := (y vs (.inl (.inl (s1 _ _ (s _ _ h))))).symm.trans e2
    cases this
    exact ⟨F1, Adds.val0 s1 (Rep.mono s _ _ r2)⟩
theorem drw_tup {a : Addr} {vs : List V} {ds : List D} (h : SqT K F a vs) (r : Reps K F ds vs) : Drw K F (Itt K a) ds where
  go := fun i H hi s => by
    obtain ⟨v, e, _⟩ := r.get (List.getElem?_eq_getElem hi)
    exact ⟨vs, v, sqT_mono s h, e⟩
  stop := fun H s => ⟨vs, sqT_mono s h, by rw [r.length]; exact Nat.le_refl _⟩
  give := fun i F1 H x H' d s s1 e y => by
    obtain ⟨v, e2, r2⟩ := r.get e
    obtain ⟨rfl, y⟩ := y
    have := (y vs (sqT_mono (s.trans s1) h)).symm.trans e2
    cases this
    exact ⟨F1, Adds.val0 s1 (Rep.mono s _ _ r2)⟩
def rngD (lo : Int) (n : Nat) : List D := (List.range n).map fun i => .int (lo + (i : Nat))
theorem drw_rng {lo : Int} {n : Nat} : Drw K F (Itr lo n) (rngD lo n) where
  go := fun i H hi s => by unfold rngD at hi; show i < n; simpa using hi
  stop := fun H s => by show n ≤ _; unfold rngD; simp
  give := fun i F1 H x H' d s s1 e y => by
    obtain ⟨rfl, rfl⟩ := y
    unfold rngD at e
    rw [List.getElem?_map] at e
    cases e2 : (List.range n)[i]? with
    | none => rw [e2] at e; cases e
    | some j =>
      rw [e2] at e
      obtain ⟨h1, h2⟩ := List.getElem?_eq_some_iff.mp e2
      rw [List.getElem_range] at h2
      subst h2; cases e
      exact ⟨F1, Adds.val0 s1 rep_int⟩
def strD (x : Str) : List D := x.cps.toList.map fun c => .str ⟨#[c]⟩
theorem drw_str {x : Str} : Drw K F (Its x) (strD x) where
  go := fun i H hi s => by unfold strD at hi; show i < x.cps.size; simpa using hi
  stop := fun H s => by show x.cps.size ≤ _; unfold strD; simp
  give := fun i F1 H v H' d s s1 e y => by
    obtain ⟨rfl, c, h1, rfl⟩ := y
    unfold strD at e
    rw [List.getElem?_map] at e
    have : x.cps.toList[i]? = some c := by simpa using h1
    rw [this] at e; cases e
    exact ⟨F1, Adds.val0 s1 rep_str⟩
/-- the items of two in pairs -/
def zipD : List D → List D → List D
  | x :: xs, y :: ys => .tup [x, y] :: zipD xs ys
  | _, _ => []
theorem zipD_get : ∀ {xs ys : List D} {i : Nat} {d : D}, (zipD xs ys)[i]? = some d → ∃ x y, xs[i]? = some x ∧ ys[i]? = some y ∧ d = .tup [x, y]
  | [], ys, i, d, h => by simp [zipD] at h
  | x :: xs, [], i, d, h => by simp [zipD] at h
  | x :: xs, y :: ys, 0, d, h => by simp [zipD] at h; exact ⟨x, y, rfl, rfl, h.symm⟩
  | x :: xs, y :: ys, i + 1, d, h => by
    simp only [zipD, List.getElem?_cons_succ] at h ⊢
    exact zipD_get h
theorem zipD_len : ∀ {xs ys : List D}, (zipD xs ys).length = min xs.length ys.length
  | [], ys => by simp [zipD]
  | x :: xs, [] => by simp [zipD]
  | x :: xs, y :: ys => by simp [zipD, zipD_len]
theorem adds_pair {F1 H : Hp} {T : Addr} {x y : V} {d e : D} (s : Same F1 H) (h : H T = none) (h1 : Rep K F1 d x) (h2 : Rep K F1 e y) : ∃ F', Adds K none0 F1 H F' (upd H T (.tup [x, y])) (.ref T) (.val (.tup [d, e])) :=
  ⟨_, Adds.tup s h (by simp only [Reps]; exact ⟨x, [y], rfl, h1, y, [], rfl, h2, rfl⟩)⟩
theorem drw_zip {a b : Addr} {vs us : List V} {ds es : List D} (h : F a = some (.lst vs)) (r : Reps K F ds vs) (h' : F b = some (.lst us)) (r' : Reps K F es us) : Drw K F (Itz K a b) (zipD ds es) where
  go := fun i H hi s => by
    rw [zipD_len] at hi
    obtain ⟨v, e, _⟩ := r.get (List.getElem?_eq_getElem (show i < ds.length by omega))
    obtain ⟨u, e', _⟩ := r'.get (List.getElem?_eq_getElem (show i < es.length by omega))
    exact ⟨vs, us, v, u, .inl (.inl (s _ _ h)), .inl (.inl (s _ _ h')), e, e'⟩
  stop := fun H s => ⟨vs, us, .inl (.inl (s _ _ h)), .inl (.inl (s _ _ h')), by rw [zipD_len, ← r.length, ← r'.length]; omega⟩
  give := fun i F1 H x H' d s s1 e y => by
    obtain ⟨d1, d2, e1, e2, rfl⟩ := zipD_get e
    obtain ⟨v1, q1, r1⟩ := r.get e1
    obtain ⟨v2, q2, r2⟩ := r'.get e2
    obtain ⟨T, x1, x2, rfl, hT, rfl, y1, y2⟩ := y
    have := (y1 vs (.inl (.inl (s1 _ _ (s _ _ h))))).symm.trans q1
    cases this
    have := (y2 us (.inl (.inl (s1 _ _ (s _ _ h'))))).symm.trans q2
    cases this
    exact adds_pair s1 hT (Rep.mono s _ _ r1) (Rep.mono s _ _ r2)
theorem drw_zipT {a b : Addr} {vs us : List V} {ds es : List D} (h : SqT K F a vs) (r : Reps K F ds vs) (h' : SqT K F b us) (r' : Reps K F es us) : Drw K F (RZ.ItzT K a b) (zipD ds es) where
  go := fun i H hi s => by
    rw [zipD_len] at hi
    obtain ⟨v, e, _⟩ := r.get (List.getElem?_eq_getElem (show i < ds.length by omega))
    obtain ⟨u, e', _⟩ := r'.get (List.getElem?_eq_getElem (show i < es.length by omega))
    exact ⟨vs, us, v, u, sqT_mono s h, sqT_mono s h', e, e'⟩
  stop := fun H s => ⟨vs, us, sqT_mono s h, sqT_mono s h', by rw [zipD_len, ← r.length, ← r'.length]; omega⟩
  give := fun i F1 H x H' d s s1 e y => by
    obtain ⟨d1, d2, e1, e2, rfl⟩ := zipD_get e
    obtain ⟨v1, q1, r1⟩ := r.get e1
    obtain ⟨v2, q2, r2⟩ := r'.get e2
    obtain ⟨T, x1, x2, rfl, hT, rfl, y1, y2⟩ := y
    have := (y1 vs (sqT_mono (s.trans s1) h)).symm.trans q1
    cases this
    have := (y2 us (sqT_mono (s.trans s1) h')).symm.trans q2
    cases this
    exact adds_pair s1 hT (Rep.mono s _ _ r1) (Rep.mono s _ _ r2)
def enumD : Nat → List D → List D
  | _, [] => []
  | i, d :: ds => .tup [.int (i : Nat), d] :: enumD (i + 1) ds
theorem enumD_get : ∀ {ds : List D} {k i : Nat} {d : D}, (enumD k ds)[i]? = some d → ∃ x, ds[i]? = some x ∧ d = .tup [.int ((k + i : Nat) : Int), x]
  | [], k, i, d, h => by simp [enumD] at h
  | x :: xs, k, 0, d, h => by simp [enumD] at h; exact ⟨x, rfl, h.symm⟩
  | x :: xs, k, i + 1, d, h => by
    simp only [enumD, List.getElem?_cons_succ] at h ⊢
    obtain ⟨y, h1, h2⟩ := enumD_get h
    exact ⟨y, h1, by rw [h2]; congr 4; omega⟩
theorem enumD_len : ∀ {ds : List D} {k : Nat}, (enumD k ds).length = ds.length
  | [], k => rfl
  | x :: xs, k => by simp [enumD, enumD_len]
theorem drw_enum {a : Addr} {vs : List V} {ds : List D} (h : F a = some (.lst vs)) (r : Reps K F ds vs) : Drw K F (Ite K a) (enumD 0 ds) where
  go := fun i H hi s => by
    rw [enumD_len] at hi
    obtain ⟨v, e, _⟩ := r.get (List.getElem?_eq_getElem hi)
    exact ⟨vs, v, .inl (.inl (s _ _ h)), e⟩
  stop := fun H s => ⟨vs, .inl (.inl (s _ _ h)), by rw [enumD_len, r.length]; exact Nat.le_refl _⟩
  give := fun i F1 H x H' d s s1 e y => by
    obtain ⟨d1, e1, rfl⟩ := enumD_get e
    obtain ⟨v1, q1, r1⟩ := r.get e1
    obtain ⟨T, x1, rfl, hT, rfl, y1⟩ := y
    have := (y1 vs (.inl (.inl (s1 _ _ (s _ _ h))))).symm.trans q1
    cases this
    exact adds_pair s1 hT (by rw [Nat.zero_add]; exact rep_int) (Rep.mono s _ _ r1)
end

section
variable {K : PySem.W.Frag} {M : Addr → Prop} {F0 H0 F H : Hp} {σ ts : L2.St} {τ : List B} {ρ : Ev} {v : V} {d : D}
theorem Fit.pushV (f : Fit K M F0 H0 σ.length F H (σ ++ ts) (ρ ++ τ)) (l : ρ.length = σ.length) (r : Rep K F d v) : Fit K M F0 H0 σ.length F H (σ ++ (ts ++ [some v])) (ρ ++ (τ ++ [.val d])) :=
  Fit.res (js := []) (jb := []) (by simpa using f) l (f.lenT l) (Adds.val0 f.sub r)
theorem Fit.pushVs (f : Fit K M F0 H0 σ.length F H (σ ++ ts) (ρ ++ τ)) (l : ρ.length = σ.length) : ∀ {ds : List D} {us : List V}, Reps K F ds us → Fit K M F0 H0 σ.length F H (σ ++ (ts ++ us.map some)) (ρ ++ (τ ++ ds.map B.val)) := by
  intro ds us h
  induction ds generalizing us ts τ with
  | nil => simp only [Reps] at h; subst h; simpa using f
  | cons d ds ih =>
    simp only [Reps] at h
    obtain ⟨v, r, rfl, h1, h2⟩ := h
    have := ih (f.pushV l h1) h2
    simpa using this
end

section
variable {K : PySem.W.Frag} {F : Hp} {a b : Addr} {ds es : List D}
theorem reps1 {d : D} {v : V} (h : Reps K F [d] [v]) : Rep K F d v := by
  simp only [Reps] at h; obtain ⟨x, r, e, h1, rfl⟩ := h; cases e; exact h1
theorem reps2 {d e : D} {v u : V} (h : Reps K F [d, e] [v, u]) : Rep K F d v ∧ Rep K F e u := by
  simp only [Reps] at h; obtain ⟨x, r, e, h1, y, r', e', h2, rfl⟩ := h; cases e; cases e'; exact ⟨h1, h2⟩
theorem rep_lst {v : V} (h : Rep K F (.lst ds) v) : ∃ a vs, v = .ref a ∧ F a = some (.lst vs) ∧ Reps K F ds vs := by simpa only [Rep] using h
theorem drw_list' (h : Reps K F [.lst ds] [.ref a]) : Drw K F (Itl K a) ds := by
  obtain ⟨a', vs, e, h1, h2⟩ := rep_lst (reps1 h); cases e; exact drw_list h1 h2
theorem drw_tup' {d : D} (ht : tupOf d = some ds) (h : Reps K F [d] [.ref a]) : Drw K F (Itt K a) ds := by
  obtain ⟨a', vs, e, h1, h2⟩ := (reps1 h).tupOf ht; cases e; exact drw_tup h1 h2
theorem drw_enum' (h : Reps K F [.lst ds] [.ref a]) : Drw K F (Ite K a) (enumD 0 ds) := by
  obtain ⟨a', vs, e, h1, h2⟩ := rep_lst (reps1 h); cases e; exact drw_enum h1 h2
theorem drw_zip' (h : Reps K F [.lst ds, .lst es] [.ref a, .ref b]) : Drw K F (Itz K a b) (zipD ds es) := by
  obtain ⟨g1, g2⟩ := reps2 h
  obtain ⟨a', vs, e, h1, h2⟩ := rep_lst g1; cases e
  obtain ⟨b', us, e, h3, h4⟩ := rep_lst g2; cases e
  exact drw_zip h1 h2 h3 h4
theorem drw_zipT' {d d' : D} (ht : tupOf d = some ds) (ht' : tupOf d' = some es) (h : Reps K F [d, d'] [.ref a, .ref b]) : Drw K F (RZ.ItzT K a b) (zipD ds es) := by
  obtain ⟨g1, g2⟩ := reps2 h
  obtain ⟨a', vs, e, h1, h2⟩ := g1.tupOf ht; cases e
  obtain ⟨b', us, e, h3, h4⟩ := g2.tupOf ht'; cases e
  exact drw_zipT h1 h2 h3 h4
end

/-! ### the walked things -/
def iSeq (f : Ev → R B) : Ev → R (List D) := fun ρ => (f ρ).bind fun b ρ1 => match frz1 ρ1 b with
  | some (.lst ds, ρ2) => .ok ds ρ2
  | _ => .no
def iTupD (f : Ev → R B) : Ev → R (List D) := fun ρ => (f ρ).bind fun b ρ1 => match frz1 ρ1 b with
  | some (d, ρ2) => match tupOf d with
    | some ds => .ok ds ρ2
    | none => .no
  | none => .no
def iStrD (f : Ev → R B) : Ev → R (List D) := fun ρ => (f ρ).bind fun b ρ1 => match look ρ1 b with
  | some (.str x) => .ok (strD x) ρ1
  | _ => .no
def int1 : List D → Option Int
  | [.int j] => some j
  | _ => none
def int2 : List D → Option (Int × Int)
  | [.int i, .int j] => some (i, j)
  | _ => none
def iRng1 (fa : Ev → R (List B)) : Ev → R (List D) := fun ρ => (fa ρ).bind fun bs ρ1 => match (lookAll ρ1 bs).bind int1 with
  | some j => if -(2 ^ 62) ≤ j ∧ j < 2 ^ 62 then .ok (rngD 0 j.toNat) ρ1 else .no
  | _ => .no
def iRng2 (fa : Ev → R (List B)) : Ev → R (List D) := fun ρ => (fa ρ).bind fun bs ρ1 => match (lookAll ρ1 bs).bind int2 with
  | some (i, j) => if -(2 ^ 62) ≤ i ∧ i < 2 ^ 62 ∧ -(2 ^ 62) ≤ j ∧ j < 2 ^ 62 then .ok (rngD i (j - i).toNat) ρ1 else .no
  | _ => .no
theorem int1_eq {ds : List D} {j : Int} (h : int1 ds = some j) : ds = [.int j] := by
  unfold int1 at h; split at h
  · cases h; rfl
  · cases h
theorem int2_eq {ds : List D} {i j : Int} (h : int2 ds = some (i, j)) : ds = [.int i, .int j] := by
  unfold int2 at h; split at h
  · cases h; rfl
  · cases h
def iZipD (fa : Ev → R (List B)) : Ev → R (List D) := fun ρ => (fa ρ).bind fun bs ρ1 => match frzs ρ1 bs with
  | some ([.lst xs, .lst ys], ρ2) => .ok (zipD xs ys) ρ2
  | some ([d, e], ρ2) => match tupOf d with
    | some xs => match tupOf e with
      | some ys => .ok (zipD xs ys) ρ2
      | none => .no
    | none => .no
  | _ => .no
def iEnumD (fa : Ev → R (List B)) : Ev → R (List D) := fun ρ => (fa ρ).bind fun bs ρ1 => match frzs ρ1 bs with
  | some ([.lst xs], ρ2) => .ok (enumD 0 xs) ρ2
  | _ => .no
section
variable {X : Cx} {W : WX} {K : PySem.W.Frag} {M : Addr → Prop} {F0 H0 F H : Hp} {σ ts : L2.St} {τ : List B} {f : Ev → R B} {fa : Ev → R (List B)} {e e2 tg : Expr} {es : List Expr} {pos p : Pos}
theorem Go.bindI {r : R B} {k : B → Ev → R (List D)} {Q : It → Hp → Prop} {cont : VK} (go : GoI K W M F0 H0 σ ts τ (r.bind k) Q)
    (step : ∀ b ρ1 F1 H1 x, ρ1.length = σ.length → Fit K M F0 H0 σ.length F1 H1 (σ ++ (ts ++ [some x])) (ρ1 ++ (τ ++ [b])) → GoI K W M F0 H0 σ ts τ (k b ρ1) Q → cont x H1) : Go K W M F0 H0 σ ts τ r cont := by
  cases r with
  | ok b ρ1 => exact fun F' H' v l f => step b ρ1 F' H' v l f go
  | er C fs ρ1 => exact go
  | no => exact go.elim
theorem GoA.bindI {r : R (List B)} {k : List B → Ev → R (List D)} {Q : It → Hp → Prop} {cont : List V → Hp → Prop} (go : GoI K W M F0 H0 σ ts τ (r.bind k) Q)
    (step : ∀ bs ρ1 F1 H1 xs, ρ1.length = σ.length → bs.length = xs.length → Fit K M F0 H0 σ.length F1 H1 (σ ++ (ts ++ xs.map some)) (ρ1 ++ (τ ++ bs)) → GoI K W M F0 H0 σ ts τ (k bs ρ1) Q → cont xs H1) : GoA K W M F0 H0 σ ts τ r cont := by
  cases r with
  | ok b ρ1 => exact fun F' H' v l l2 f => step b ρ1 F' H' v l l2 f go
  | er C fs ρ1 => exact go
  | no => exact go.elim
theorem tI_go {g : Ev → R (List D)} {R' : It → Hp → Prop} (h : tI K W g σ H R') : ∃ (M : Addr → Prop) (F0 H0 F : Hp) (ρ : Ev) (ts : L2.St) (τ : List B), ρ.length = σ.length ∧ Fit K M F0 H0 σ.length F H (σ ++ ts) (ρ ++ τ) ∧ GoI K W M F0 H0 σ ts τ (g ρ) R' := h
theorem pdi_list (he : PD X W e f) : PDI X W tg e (iSeq f) := PI.imp (pi_list he) fun σ H R h => by
  obtain ⟨M, F0, H0, F, ρ, ts, τ, l, ft, go⟩ := tI_go h
  have hl := ft.lenT l
  refine ⟨M, F0, H0, F, ρ, ts, τ, l, ft, Go.bindI go fun b ρ1 F1 H1 x l1 f1 go1 => ?_⟩
  cases e1 : frz1 ρ1 b with
  | none => rw [e1] at go1; exact go1.elim
  | some q =>
    obtain ⟨d, ρ2⟩ := q
    rw [e1] at go1
    cases d with
    | lst ds =>
      obtain ⟨F2, b', s, l2, f2, r⟩ := Fit.frz1 (xs := []) (bs := []) f1 l1 hl e1
      simp only [Rep] at r
      obtain ⟨a, vs, rfl, h1, h2⟩ := r
      exact ⟨a, rfl, ⟨vs, .inl (.inl (f2.sub _ _ h1))⟩, go1 F2 H1 _ [.ref a] [.lst ds] l2 rfl ((f2.less l2 hl).pushVs l2 (by simp only [Reps, Rep]; exact ⟨_, [], rfl, ⟨a, vs, rfl, h1, h2⟩, rfl⟩)) fun F h => drw_list' h⟩
    | _ => exact go1.elim
theorem pdi_tup (he : PD X W e f) : PDI X W tg e (iTupD f) := PI.imp (pi_tup he) fun σ H R h => by
  obtain ⟨M, F0, H0, F, ρ, ts, τ, l, ft, go⟩ := tI_go h
  have hl := ft.lenT l
  refine ⟨M, F0, H0, F, ρ, ts, τ, l, ft, Go.bindI go fun b ρ1 F1 H1 x l1 f1 go1 => ?_⟩
  cases e1 : frz1 ρ1 b with
  | none => rw [e1] at go1; exact go1.elim
  | some q =>
    obtain ⟨d, ρ2⟩ := q
    rw [e1] at go1
    simp only at go1
    cases et : tupOf d with
    | none => rw [et] at go1; exact go1.elim
    | some ds =>
      rw [et] at go1
      obtain ⟨F2, b', s, l2, f2, r⟩ := Fit.frz1 (xs := []) (bs := []) f1 l1 hl e1
      obtain ⟨a, vs, rfl, h1, h2⟩ := r.tupOf et
      exact ⟨a, rfl, ⟨vs, sqT_mono f2.sub h1⟩, go1 F2 H1 _ [.ref a] [d] l2 rfl ((f2.less l2 hl).pushVs l2 (by simp only [Reps]; exact ⟨_, [], rfl, r, rfl⟩)) fun F h => drw_tup' et h⟩
theorem pdi_str (he : PD X W e f) : PDI X W tg e (iStrD f) := PI.imp (pi_str he) fun σ H R h => by
  obtain ⟨M, F0, H0, F, ρ, ts, τ, l, ft, go⟩ := tI_go h
  have hl := ft.lenT l
  refine ⟨M, F0, H0, F, ρ, ts, τ, l, ft, Go.bindI go fun b ρ1 F1 H1 x l1 f1 go1 => ?_⟩
  cases e1 : look ρ1 b with
  | none => rw [e1] at go1; exact go1.elim
  | some d =>
    rw [e1] at go1
    cases d with
    | str z =>
      have r := f1.looks (n := σ.length + ts.length) (by rw [← l1, hl]; exact get_mid _ _ _ []) (get_last2 _ _ _) e1
      exact ⟨z, r, go1 F1 H1 _ [] [] l1 rfl (by simpa using f1.less l1 hl) fun F _ => drw_str⟩
    | _ => exact go1.elim
/-- either of two ways to walk it -/
def orI (g h : Ev → R (List D)) : Ev → R (List D) := fun ρ => match g ρ with
  | .no => h ρ
  | r => r
theorem pi_or {w1 w2 : TI} (h1 : PI X tg e w1) (h2 : PI X tg e w2) : PI X tg e (fun σ H R => w1 σ H R ∨ w2 σ H R) := ⟨fun pins s σ H Q I hq => hq.elim (h1.run pins s σ H Q I) (h2.run pins s σ H Q I)⟩
theorem pdi_or {g h : Ev → R (List D)} (h1 : PDI X W tg e g) (h2 : PDI X W tg e h) : PDI X W tg e (orI g h) := PI.imp (pi_or h1 h2) fun σ H R hh => by
  obtain ⟨M, F0, H0, F, ρ, ts, τ, l, ft, go⟩ := tI_go hh
  unfold orI at go
  cases eg : g ρ with
  | no => rw [eg] at go; exact .inr ⟨M, F0, H0, F, ρ, ts, τ, l, ft, go⟩
  | ok ds ρ' => rw [eg] at go; exact .inl ⟨M, F0, H0, F, ρ, ts, τ, l, ft, by rw [eg]; exact go⟩
  | er C fs ρ' => rw [eg] at go; exact .inl ⟨M, F0, H0, F, ρ, ts, τ, l, ft, by rw [eg]; exact go⟩
theorem rng_look {xs : List V} {bs : List B} {ρ1 : Ev} {ds : List D} {F1 H1 : Hp} (f1 : Fit K M F0 H0 σ.length F1 H1 (σ ++ (ts ++ xs.map some)) (ρ1 ++ (τ ++ bs))) (l1 : ρ1.length = σ.length) (hl : ts.length = τ.length) (l2 : bs.length = xs.length) (e1 : lookAll ρ1 bs = some ds) : Rep1s K F1 H1 ds xs := by
  have f2 : Fit K M F0 H0 σ.length F1 H1 ((σ ++ ts) ++ xs.map some) ((ρ1 ++ τ) ++ bs) := by
    rw [List.append_assoc, List.append_assoc]; exact f1
  exact Fit.lookAll (ρ := ρ1) (ρ1 ++ τ) (σ ++ ts) (by simp [l1, hl]) bs xs ds f2 ⟨τ, rfl⟩ l2 e1
theorem pdi_range1 (hg : Gl X "range") (hm : X.mg "range" = none) (ha : PDA X W [e] fa) (hs : starEach [e] X.env = [(false, eval e X.env)] := by rfl) : PDI X W tg (.Call (.Name "range" p) [e] [] pos) (Dl.iRng1 fa) := PI.imp (pi_range1 hg hm ha hs) fun σ H R h => by
  obtain ⟨M, F0, H0, F, ρ, ts, τ, l, ft, go⟩ := tI_go h
  have hl := ft.lenT l
  refine ⟨M, F0, H0, F, ρ, ts, τ, l, ft, GoA.bindI go fun bs ρ1 F1 H1 xs l1 l2 f1 go1 => ?_⟩
  cases e1 : lookAll ρ1 bs with
  | none => rw [e1] at go1; exact go1.elim
  | some ds =>
    rw [e1] at go1
    simp only [Option.bind_some] at go1
    have r := rng_look f1 l1 hl l2 e1
    cases e2 : int1 ds with
    | none => rw [e2] at go1; exact go1.elim
    | some j =>
      rw [e2] at go1
      simp only at go1
      rw [int1_eq e2] at r
      split at go1
      · rename_i hj
        obtain ⟨x, r', rfl, h2, h3⟩ := r
        cases h3
        exact ⟨j, by rw [show x = V.int j from h2], hj.1, hj.2, go1 F1 H1 _ [] [] l1 rfl (by simpa using f1.less l1 hl) fun F _ => drw_rng⟩
      · exact go1.elim
theorem pdi_range2 (hg : Gl X "range") (hm : X.mg "range" = none) (ha : PDA X W [e, e2] fa) (hs : starEach [e, e2] X.env = [(false, eval e X.env), (false, eval e2 X.env)] := by rfl) (hs2 : starEach [e2] X.env = [(false, eval e2 X.env)] := by rfl) : PDI X W tg (.Call (.Name "range" p) [e, e2] [] pos) (Dl.iRng2 fa) := PI.imp (pi_range2 hg hm ha hs hs2) fun σ H R h => by
  obtain ⟨M, F0, H0, F, ρ, ts, τ, l, ft, go⟩ := tI_go h
  have hl := ft.lenT l
  refine ⟨M, F0, H0, F, ρ, ts, τ, l, ft, GoA.bindI go fun bs ρ1 F1 H1 xs l1 l2 f1 go1 => ?_⟩
  cases e1 : lookAll ρ1 bs with
  | none => rw [e1] at go1; exact go1.elim
  | some ds =>
    rw [e1] at go1
    simp only [Option.bind_some] at go1
    have r := rng_look f1 l1 hl l2 e1
    cases e2 : int2 ds with
    | none => rw [e2] at go1; exact go1.elim
    | some q =>
      obtain ⟨i, j⟩ := q
      rw [e2] at go1
      simp only at go1
      rw [int2_eq e2] at r
      split at go1
      · rename_i hj
        obtain ⟨x, r', rfl, h2, h3⟩ := r
        obtain ⟨y, r2, rfl, h4, h5⟩ := h3
        cases h5
        exact ⟨i, j, by rw [show x = V.int i from h2, show y = V.int j from h4], hj, go1 F1 H1 _ [] [] l1 rfl (by simpa using f1.less l1 hl) fun F _ => drw_rng⟩
      · exact go1.elim
theorem frzs_two {ρ1 ρ2 : Ev} {bs : List B} {d1 d2 : D} {xs : List V} {F1 H1 : Hp} (f1 : Fit K M F0 H0 σ.length F1 H1 (σ ++ (ts ++ xs.map some)) (ρ1 ++ (τ ++ bs))) (l1 : ρ1.length = σ.length) (hl : ts.length = τ.length) (e1 : frzs ρ1 bs = some ([d1, d2], ρ2)) :
    ∃ F2 x y, Same F1 F2 ∧ ρ2.length = σ.length ∧ Fit K M F0 H0 σ.length F2 H1 (σ ++ ts) (ρ2 ++ τ) ∧ xs = [x, y] ∧ Rep K F2 d1 x ∧ Rep K F2 d2 y := by
  obtain ⟨F2, s2, l3, f2, r2⟩ := f1.frzs bs xs _ _ _ _ _ _ l1 hl e1
  simp only [Reps] at r2
  obtain ⟨x, r, rfl, h1, y, r', rfl, h2, rfl⟩ := r2
  exact ⟨F2, x, y, s2, l3, f2, rfl, h1, h2⟩
theorem pdi_zip (hg : Gl X "zip") (hm : X.mg "zip" = none) (ha : PDA X W [e, e2] fa) {elts : List Expr} {kk : Nat} {tpos : Pos}
    (hs : starEach [e, e2] X.env = (false, eval e X.env) :: starEach [e2] X.env := by rfl) (hpl : (backTo pos (starEach [e2] X.env)).any (·.1) = false := by rfl) : PDI X W (.Tuple elts kk tpos) (.Call (.Name "zip" p) [e, e2] [] pos) (iZipD fa) := PI.imp (RZ.pi_zipA hg hm ha hs hpl) fun σ H R h => by
  obtain ⟨M, F0, H0, F, ρ, ts, τ, l, ft, go⟩ := tI_go h
  have hl := ft.lenT l
  refine ⟨M, F0, H0, F, ρ, ts, τ, l, ft, GoA.bindI go fun bs ρ1 F1 H1 xs l1 l2 f1 go1 => ?_⟩
  cases e1 : frzs ρ1 bs with
  | none => rw [e1] at go1; exact go1.elim
  | some q =>
    obtain ⟨ds, ρ2⟩ := q
    rw [e1] at go1
    have fin : ∀ {d1 d2 : D} {zs : List D}, ds = [d1, d2] → GoI X.K W M F0 H0 σ ts τ (.ok zs ρ2) R → ((∃ a b, d1 = .lst a ∧ d2 = .lst b ∧ zs = zipD a b) ∨ ∃ a b, tupOf d1 = some a ∧ tupOf d2 = some b ∧ zs = zipD a b) → RZ.iZipA X.K (fun _ H Q => Q xs H) σ H1 R := by
      intro d1 d2 zs e go2 hz
      subst e
      obtain ⟨F2, x, y, s, l3, f2, rfl, h1, h2⟩ := frzs_two f1 l1 hl e1
      rcases hz with ⟨a, b, rfl, rfl, rfl⟩ | ⟨a, b, t1, t2, rfl⟩
      · simp only [Rep] at h1 h2
        obtain ⟨p1, vs1, rfl, q1, q2⟩ := h1
        obtain ⟨p2, vs2, rfl, q3, q4⟩ := h2
        exact ⟨p1, p2, vs1, vs2, rfl, .inl ⟨.inl (.inl (f2.sub _ _ q1)), .inl (.inl (f2.sub _ _ q3)), go2 F2 H1 _ [.ref p1, .ref p2] [.lst a, .lst b] l3 rfl (f2.pushVs l3 (by simp only [Reps, Rep]; exact ⟨_, _, rfl, ⟨p1, vs1, rfl, q1, q2⟩, _, [], rfl, ⟨p2, vs2, rfl, q3, q4⟩, rfl⟩)) fun F h => drw_zip' h⟩⟩
      · have h1' := h1
        have h2' := h2
        obtain ⟨p1, vs1, rfl, q1, q2⟩ := h1.tupOf t1
        obtain ⟨p2, vs2, rfl, q3, q4⟩ := h2.tupOf t2
        exact ⟨p1, p2, vs1, vs2, rfl, .inr ⟨sqT_mono f2.sub q1, sqT_mono f2.sub q3, go2 F2 H1 _ [.ref p1, .ref p2] [d1, d2] l3 rfl (f2.pushVs l3 (by simp only [Reps]; exact ⟨_, _, rfl, h1', _, [], rfl, h2', rfl⟩)) fun F h => drw_zipT' t1 t2 h⟩⟩
    show RZ.iZipA X.K (fun _ H Q => Q xs H) σ H1 R
    split at go1
    · rename_i h; cases h; exact fin rfl go1 (.inl ⟨_, _, rfl, rfl, rfl⟩)
    · rename_i h
      cases h
      split at go1
      · rename_i t1
        split at go1
        · rename_i t2; exact fin rfl go1 (.inr ⟨_, _, t1, t2, rfl⟩)
        · exact go1.elim
      · exact go1.elim
    · exact go1.elim
theorem pdi_enum (hg : Gl X "enumerate") (hm : X.mg "enumerate" = none) (ha : PDA X W [e] fa) {elts : List Expr} {kk : Nat} {tpos : Pos} (hs : starEach [e] X.env = [(false, eval e X.env)] := by rfl) : PDI X W (.Tuple elts kk tpos) (.Call (.Name "enumerate" p) [e] [] pos) (iEnumD fa) := PI.imp (pi_enum hg hm ha hs) fun σ H R h => by
  obtain ⟨M, F0, H0, F, ρ, ts, τ, l, ft, go⟩ := tI_go h
  have hl := ft.lenT l
  refine ⟨M, F0, H0, F, ρ, ts, τ, l, ft, GoA.bindI go fun bs ρ1 F1 H1 xs l1 l2 f1 go1 => ?_⟩
  cases e1 : frzs ρ1 bs with
  | none => rw [e1] at go1; exact go1.elim
  | some q =>
    obtain ⟨ds, ρ2⟩ := q
    rw [e1] at go1
    split at go1
    · rename_i h; cases h
      obtain ⟨F2, s2, l3, f2, r2⟩ := f1.frzs bs xs _ _ _ _ _ _ l1 hl e1
      simp only [Reps] at r2
      obtain ⟨x, r, rfl, h1, rfl⟩ := r2
      simp only [Rep] at h1
      obtain ⟨a, vs, rfl, q1, q2⟩ := h1
      exact ⟨a, vs, rfl, .inl (.inl (f2.sub _ _ q1)), go1 F2 H1 _ [.ref a] [.lst _] l3 rfl (f2.pushVs l3 (by simp only [Reps, Rep]; exact ⟨_, [], rfl, ⟨a, vs, rfl, q1, q2⟩, rfl⟩)) fun F h => drw_enum' h⟩
    · exact go1.elim
end

/-! ### targets: a name, or names in a tuple -/
inductive Tg where
  | one (i : Nat) | tup (is : List Nat)
def setAll : Ev → List Nat → List D → Option Ev
  | ρ, [], [] => some ρ
  | ρ, i :: is, d :: ds => setAll (ρ.set i (.val d)) is ds
  | _, _, _ => none
def Tg.set (t : Tg) (d : D) (ρ : Ev) : Option Ev := match t with
  | .one i => some (ρ.set i (.val d))
  | .tup is => match tupOf d with
    | some ds => setAll ρ is ds
    | none => none
def Tg.slots : Tg → List Nat
  | .one i => [i]
  | .tup is => is
/-- σ' is σ but for the slots -/
def But (is : List Nat) (σ σ' : L2.St) : Prop := σ'.length = σ.length ∧ ∀ k, k ∉ is → σ'[k]? = σ[k]?
def TgOk (K : PySem.W.Frag) (n : Nat) (g : TG) (t : Tg) : Prop := ∀ (M : Addr → Prop) (F0 H0 F H : Hp) (σ ts : L2.St) (ρ ρ1 : Ev) (τ : List B) (v : V) (d : D) (Q : L2.St → Hp → Prop), σ.length = n → ρ.length = n → NoAl τ → Fit K M F0 H0 n F H (σ ++ ts) (ρ ++ τ) → Rep K F d v →
  t.set d ρ = some ρ1 → (∀ σ', But t.slots σ σ' → ρ1.length = n → Fit K M F0 H0 n F H (σ' ++ ts) (ρ1 ++ τ) → Q σ' H) → g v σ H Q
def gNames : List Nat → TGs
  | [] => gNil
  | i :: is => gCons (gName i) (gNames is)
def tgG (K : PySem.W.Frag) : Tg → TG
  | .one i => gName i
  | .tup is => gTup K is.length (gNames is)
def PDG (X : Cx) (tg : Expr) (t : Tg) : Prop := PG X tg (tgG X.K t) ∧ ∀ i ∈ t.slots, i < X.N.length
section
variable {K : PySem.W.Frag} {M : Addr → Prop} {F0 H0 F H : Hp} {σ ts : L2.St} {τ : List B} {ρ : Ev} {v : V} {d : D} {n : Nat}
theorem Fit.setVal (f : Fit K M F0 H0 σ.length F H (σ ++ ts) (ρ ++ τ)) (l : ρ.length = σ.length) (na : NoAl τ) {i : Nat} (hi : i < σ.length) (r : Rep K F d v) : Fit K M F0 H0 σ.length F H (σ.set i (some v) ++ ts) (ρ.set i (.val d) ++ τ) :=
  (f.pushV l r).put l na (fun _ z => by cases z) hi
theorem tgOk_one {i : Nat} (hi : i < n) : TgOk K n (gName i) (.one i) := fun M F0 H0 F H σ ts ρ ρ1 τ v d Q l1 l2 na f r e q => by
  cases e
  subst l1
  refine q _ ⟨by simp, fun k hk => ?_⟩ (by simpa using l2) (by have := f.setVal l2 na hi r; simpa using this)
  exact get_set_ne (by simpa [Tg.slots] using hk)
theorem gNames_ok : ∀ (is : List Nat) (ds : List D) (vs : List V) (σ : L2.St) (ρ ρ1 : Ev) (Q : L2.St → Hp → Prop), (∀ i ∈ is, i < n) → σ.length = n → ρ.length = n → NoAl τ → Fit K M F0 H0 n F H (σ ++ ts) (ρ ++ τ) → Reps K F ds vs → setAll ρ is ds = some ρ1 →
    (∀ σ', But is σ σ' → ρ1.length = n → Fit K M F0 H0 n F H (σ' ++ ts) (ρ1 ++ τ) → Q σ' H) → gNames is vs σ H Q := by
  intro is
  induction is with
  | nil =>
    intro ds vs σ ρ ρ1 Q hi l1 l2 na f r e q
    cases ds with
    | nil => cases e; simp only [Reps] at r; subst r; exact ⟨rfl, q σ ⟨rfl, fun _ _ => rfl⟩ l2 f⟩
    | cons d ds => cases e
  | cons i is ih =>
    intro ds vs σ ρ ρ1 Q hi l1 l2 na f r e q
    cases ds with
    | nil => cases e
    | cons d ds =>
      simp only [Reps] at r
      obtain ⟨v, vr, rfl, r1, r2⟩ := r
      refine ⟨v, vr, rfl, ?_⟩
      have hin : i < σ.length := by rw [l1]; exact hi i (by simp)
      have f2 : Fit K M F0 H0 n F H (σ.set i (some v) ++ ts) (ρ.set i (.val d) ++ τ) := by
        rw [← l1] at f l2 ⊢; exact f.setVal l2 na hin r1
      refine ih ds vr _ _ ρ1 Q (fun j hj => hi j (by simp [hj])) (by simpa using l1) (by simpa using l2) na f2 r2 e fun σ' b l3 f3 => q σ' ⟨by rw [b.1]; simp, fun k hk => ?_⟩ l3 f3
      rw [b.2 k (fun z => hk (by simp [z]))]
      exact get_set_ne (fun z => hk (by simp [z]))
theorem tgOk_tup {is : List Nat} (hi : ∀ i ∈ is, i < n) : TgOk K n (gTup K is.length (gNames is)) (.tup is) := fun M F0 H0 F H σ ts ρ ρ1 τ v d Q l1 l2 na f r e q => by
  simp only [Tg.set] at e
  cases et : tupOf d with
  | none => rw [et] at e; cases e
  | some ds =>
    rw [et] at e
    obtain ⟨a, vs, rfl, h1, h2⟩ := r.tupOf et
    simp only at e
    refine ⟨a, vs, rfl, sqT_mono f.sub h1, ?_, gNames_ok is ds vs σ ρ ρ1 Q hi l1 l2 na f h2 e q⟩
    rw [← h2.length]
    clear h1 h2 f q et
    induction is generalizing ds ρ with
    | nil => cases ds with
      | nil => rfl
      | cons d ds => cases e
    | cons i is ih => cases ds with
      | nil => cases e
      | cons d ds => simp only [setAll] at e; simp [ih (ρ := ρ.set i (.val d)) (fun j hj => hi j (by simp [hj])) (by simpa using l2) ds e]
end

section
variable {K : PySem.W.Frag} {M : Addr → Prop} {F0 H0 F H : Hp} {n : Nat}
/-- what is known of frozen entries at the end -/
theorem Fit.repsV {vs : L2.St} {bs : List B} : ∀ {es : List D} {us : List V}, Fit K M F0 H0 n F H (vs ++ us.map some) (bs ++ es.map B.val) → bs.length = vs.length → es.length = us.length → Reps K F es us := by
  intro es
  induction es generalizing vs bs with
  | nil => intro us f hl l; cases us with
    | nil => simp only [Reps]
    | cons u us => cases l
  | cons d es ih => intro us f hl l; cases us with
    | nil => cases l
    | cons u us =>
      have f2 : Fit K M F0 H0 n F H ((vs ++ [some u]) ++ us.map some) ((bs ++ [.val d]) ++ es.map B.val) := by simpa using f
      have h2 := ih f2 (by simp [hl]) (by simpa using l)
      obtain ⟨w, h3, h4⟩ := f.val bs.length d (by simp)
      rw [hl] at h3
      simp at h3
      subst h3
      simp only [Reps]; exact ⟨_, us, rfl, h4, h2⟩
theorem Fit.perm {vs vs' : L2.St} {bs bs' : List B} (f : Fit K M F0 H0 n F H vs bs) (p : Nat → Nat) (hl : bs'.length = vs'.length) (hp : ∀ i b, bs'[i]? = some b → bs[p i]? = some b ∧ vs'[i]? = vs[p i]?) (hi : ∀ i j b b', bs'[i]? = some b → bs'[j]? = some b' → p i = p j → i = j)
    (ha : ∀ i j, bs'[i]? = some (.al j) → n ≤ i ∧ vs'[j]? = vs[j]?) : Fit K M F0 H0 n F H vs' bs' := by
  refine ⟨f.sub0, f.subF0, f.sub, f.new, hl, fun i d e => ?_, fun i g o e => ?_, fun i j g g' o o' q e1 e2 e3 e4 => ?_, fun i j e => ?_, f.mem0⟩
  · obtain ⟨h1, h2⟩ := hp i _ e
    rw [h2]; exact f.val _ d h1
  · obtain ⟨h1, h2⟩ := hp i _ e
    rw [h2]; exact f.own _ g o h1
  · obtain ⟨h1, h2⟩ := hp i _ e1
    obtain ⟨h3, h4⟩ := hp j _ e2
    rw [h2] at e3; rw [h4] at e4
    exact hi i j _ _ e1 e2 (f.dis _ _ g g' o o' q h1 h3 e3 e4)
  · obtain ⟨h1, h2⟩ := hp i _ e
    obtain ⟨h3, h4⟩ := f.al _ j h1
    obtain ⟨h5, h6⟩ := ha i j e
    exact ⟨⟨h3.1, h5⟩, by rw [h2, h4, h6]⟩
/-- entries in the middle forgotten -/
theorem Fit.midV {σ ts us : L2.St} {τ cs : List B} {ρ : Ev} {v : V} {b : B} (f : Fit K M F0 H0 n F H (σ ++ (ts ++ us ++ [some v])) (ρ ++ (τ ++ cs ++ [b]))) (h1 : σ.length = n) (h2 : ρ.length = n) (hl : ts.length = τ.length) (l : cs.length = us.length) : Fit K M F0 H0 n F H (σ ++ (ts ++ [some v])) (ρ ++ (τ ++ [b])) := by
  have low : ∀ {α : Type} (x y z w : List α) (i : Nat), i < x.length + y.length → (x ++ (y ++ z))[i]? = (x ++ (y ++ w))[i]? := fun x y z w i h => by
    have e1 : (x ++ (y ++ z))[i]? = (x ++ y)[i]? := by rw [← List.append_assoc]; exact List.getElem?_append_left (by simpa using h)
    have e2 : (x ++ (y ++ w))[i]? = (x ++ y)[i]? := by rw [← List.append_assoc]; exact List.getElem?_append_left (by simpa using h)
    rw [e1, e2]
  have top : ∀ {α : Type} (x y z : List α) (c : α), (x ++ (y ++ z ++ [c]))[x.length + y.length + z.length]? = some c := fun x y z c => by
    have : x ++ (y ++ z ++ [c]) = (x ++ y ++ z) ++ [c] := by simp
    have e : x.length + y.length + z.length = (x ++ y ++ z).length := by simp; omega
    rw [this, e]
    exact get_last _ _
  refine f.perm (fun i => if i < n + τ.length then i else i + cs.length) (by simp [h1, h2, hl]) (fun i c e => ?_) (fun i j c c' e e' q => ?_) (fun i j e => ?_)
  · by_cases hi : i < n + τ.length
    · rw [if_pos hi]
      rw [List.append_assoc τ cs, List.append_assoc ts us]
      refine ⟨?_, low σ ts _ _ i (by omega)⟩
      rw [← low ρ τ [b] (cs ++ [b]) i (by omega)]; exact e
    · have hi2 := lt_of_get e
      simp at hi2
      have e3 : i = n + τ.length := by omega
      subst e3
      rw [if_neg hi]
      have t1 := top ρ τ cs b
      have t2 := top σ ts us (some v)
      rw [h2] at t1
      rw [h1, hl, ← l] at t2
      rw [show n + τ.length = ρ.length + τ.length by omega, get_mid] at e
      cases e
      refine ⟨t1, ?_⟩
      rw [t2, show n + τ.length = σ.length + ts.length by omega, get_mid]
  · have := lt_of_get e; have := lt_of_get e'
    simp at *
    split at q <;> split at q <;> omega
  · by_cases hi : i < n + τ.length
    · have e2 : (ρ ++ (τ ++ cs ++ [b]))[i]? = some (.al j) := by
        rw [List.append_assoc τ cs, ← low ρ τ [b] (cs ++ [b]) i (by omega)]; exact e
      obtain ⟨h3, h4⟩ := f.al i j e2
      refine ⟨h3.2, ?_⟩
      rw [List.append_assoc ts us]
      exact low σ ts _ _ j (by omega)
    · have hi2 := lt_of_get e
      simp at hi2
      have e3 : i = n + τ.length := by omega
      subst e3
      refine ⟨by omega, ?_⟩
      rw [show n + τ.length = ρ.length + τ.length by omega, get_mid] at e
      cases e
      have t1 := top ρ τ cs (.al j)
      obtain ⟨h3, h4⟩ := f.al _ j t1
      rw [List.append_assoc ts us]
      exact low σ ts _ _ j (by omega)
end

theorem tgOk {K : PySem.W.Frag} {n : Nat} : ∀ {t : Tg}, (∀ i ∈ t.slots, i < n) → TgOk K n (tgG K t) t
  | .one i, h => tgOk_one (h i (by simp [Tg.slots]))
  | .tup is, h => tgOk_tup h

/-! ### for -/
def forGo (t : Tg) (g : Ev → R Fl) : List D → Ev → R Fl
  | [], ρ => .ok .nx ρ
  | d :: ds, ρ => match t.set d ρ with
    | none => .no
    | some ρ1 => match g ρ1 with
      | .ok .nx ρ2 => forGo t g ds ρ2
      | .ok .ct ρ2 => forGo t g ds ρ2
      | .ok .bk ρ2 => .ok .nx ρ2
      | .ok (.rt b) ρ2 => .ok (.rt b) ρ2
      | .er C fs ρ2 => .er C fs ρ2
      | .no => .no
def sFor (it : Ev → R (List D)) (t : Tg) (g : Ev → R Fl) : Ev → R Fl := fun ρ => (it ρ).bind (forGo t g)
section
variable {X : Cx} {W : WX} {g : Ev → R Fl} {a : List Stmt} {pos : Pos} {tg e : Expr} {it : Ev → R (List D)} {t : Tg}
theorem ps_forD (hp : PassesOwn (model X.prog X.w) X.A X.env X.xe) (hc : X.calm = true) (hi : PDI X W tg e it) (hg : PDG X tg t) (hb : PDSs X W a g) (hs : ∀ x, foldedSetIterable e X.env x = pure x := by intro _; rfl) : PDS X W (.For tg e a [] pos) (sFor it t g) := by
  obtain ⟨h1, h2'⟩ := hg
  have h2 := tgOk (K := X.K) h2'
  refine ⟨fun pins s σ H D I hq => (ps_for hp hc hi h1 hb hs).run pins s σ H D I ?_⟩
  have hn : X.N.length = σ.length := I.len.symm
  rw [hn] at h2
  obtain ⟨M, F0, H0, F, ρ, ts, τ, l, na, ft, go⟩ := hq
  refine ⟨M, F0, H0, F, ρ, ts, τ, l, ft, ?_⟩
  unfold sFor at go
  cases ei : it ρ with
  | no => rw [ei] at go; exact go.elim
  | er C fs ρ1 => rw [ei] at go; exact fun F' H' dd l f x => go F' H' σ dd rfl l f x
  | ok ds ρ1 =>
    rw [ei] at go
    intro F1 H1 J us es l1 l4 f1 dw
    have go : GoS X.K W M F0 H0 σ.length ts τ (forGo t g ds ρ1) D := go
    have hl := ft.lenT l
    have na' : NoAl (τ ++ es.map B.val) := fun j k e => by
      rw [List.getElem?_append] at e
      split at e
      · exact na _ _ e
      · rw [List.getElem?_map] at e
        cases e2 : es[j - τ.length]? with
        | none => rw [e2] at e; cases e
        | some d => rw [e2] at e; cases e
    have hl' : (ts ++ us.map some).length = (τ ++ es.map B.val).length := by simp [hl, l4]
    -- what the walk stands on
    have drw : ∀ {F' H' : Hp} {σ' : L2.St} {ρ' : Ev}, σ'.length = σ.length → ρ'.length = σ.length → Fit X.K M F0 H0 σ.length F' H' (σ' ++ (ts ++ us.map some)) (ρ' ++ (τ ++ es.map B.val)) → Drw X.K F' J ds := fun {F' H' σ' ρ'} h1 h2 f => by
      refine dw F' ?_
      have f2 : Fit X.K M F0 H0 σ.length F' H' ((σ' ++ ts) ++ us.map some) ((ρ' ++ τ) ++ es.map B.val) := by simpa using f
      exact f2.repsV (by simp [h1, h2, hl]) l4
    have back : ∀ {F' H' : Hp} {σ' : L2.St} {ρ' : Ev}, σ'.length = σ.length → ρ'.length = σ.length → Fit X.K M F0 H0 σ.length F' H' (σ' ++ (ts ++ us.map some)) (ρ' ++ (τ ++ es.map B.val)) → Fit X.K M F0 H0 σ.length F' H' (σ' ++ ts) (ρ' ++ τ) := fun {F' H' σ' ρ'} h1 h2 f => by
      rw [← h1] at f ⊢; exact f.less (by omega) hl
    refine ⟨fun i m σ' H' => m = ds.length - i ∧ i ≤ ds.length ∧ σ'.length = σ.length ∧ ∃ F' ρ', ρ'.length = σ.length ∧ Fit X.K M F0 H0 σ.length F' H' (σ' ++ (ts ++ us.map some)) (ρ' ++ (τ ++ es.map B.val)) ∧ GoS X.K W M F0 H0 σ.length ts τ (forGo t g (ds.drop i) ρ') D, ⟨ds.length, by simp, Nat.zero_le _, rfl, F1, ρ1, l1, f1, by simpa using go⟩, ?_⟩
    rintro i m σ2 H2 ⟨rfl, hi, l5, F2, ρ2, l6, f2, go2⟩
    by_cases hlt : i < ds.length
    · refine .inr ⟨(drw l5 l6 f2).go i H2 hlt f2.sub, fun σ' H' => σ'.length = σ.length ∧ ∃ F' ρ', ρ'.length = σ.length ∧ Fit X.K M F0 H0 σ.length F' H' (σ' ++ (ts ++ us.map some)) (ρ' ++ (τ ++ es.map B.val)) ∧ GoS X.K W M F0 H0 σ.length ts τ (forGo t g (ds.drop (i + 1)) ρ') D, fun σ' H' ⟨h1, h2⟩ => ⟨ds.length - (i + 1), by omega, rfl, hlt, h1, h2⟩, fun x H3 y => ?_⟩
      obtain ⟨F3, a3⟩ := (drw l5 l6 f2).give i F2 H2 x H3 ds[i] (Same.refl _) f2.sub (List.getElem?_eq_getElem hlt) y
      have f3 : Fit X.K M F0 H0 σ.length F3 H3 (σ2 ++ (ts ++ us.map some)) (ρ2 ++ (τ ++ es.map B.val)) := by
        have := f2.add a3
        exact this.drop f2.len
      rw [List.drop_eq_getElem_cons hlt] at go2
      simp only [forGo] at go2
      cases e1 : t.set ds[i] ρ2 with
      | none => rw [e1] at go2; exact go2.elim
      | some ρ3 =>
        rw [e1] at go2
        refine h2 M F0 H0 F3 H3 σ2 _ ρ2 ρ3 _ x ds[i] _ l5 l6 na' f3 a3.res e1 fun σ3 b3 l7 f4 => ?_
        have l8 : σ3.length = σ.length := by rw [b3.1, l5]
        rw [← l8] at f4 l7
        refine ⟨M, F0, H0, F3, ρ3, _, _, l7, na', f4, ?_⟩
        rw [l8]
        simp only at go2
        cases e2 : g ρ3 with
        | no => rw [e2] at go2; exact go2.elim
        | er C fs ρ4 => rw [e2] at go2; exact fun F' H' σ' dd h1 h2 h3 h4 => go2 F' H' σ' dd h1 h2 (back h1 h2 h3) h4
        | ok fl ρ4 =>
          rw [e2] at go2
          cases fl with
          | nx => exact fun F' H' σ' h1 h2 h3 => ⟨h1, F', ρ4, h2, h3, go2⟩
          | ct => exact fun F' H' σ' h1 h2 h3 => ⟨h1, F', ρ4, h2, h3, go2⟩
          | bk => exact fun F' H' σ' h1 h2 h3 => go2 F' H' σ' h1 h2 (back h1 h2 h3)
          | rt b =>
            intro F' H' σ' v h1 h2 h3
            refine go2 F' H' σ' v h1 h2 ?_
            exact h3.midV h1 h2 hl (by simp [l4])
    · have e : i = ds.length := by omega
      subst e
      rw [List.drop_length] at go2
      exact .inl ⟨(drw l5 l6 f2).stop H2 f2.sub, go2 F2 H2 σ2 l5 l6 (back l5 l6 f2)⟩
end
end Dl
namespace Dl
open PySem PySem.Spec PyProof.Rows L2

section
variable {X : Cx} {tg e : Expr} {x : Str} {pos : Pos} {es : List Expr}
theorem pdg_name (i : Nat) (hN : X.N.Nodup) (hi : X.N[i]? = some x) (hx : Loc X.env.scope x) (hf : X.fn x = true ∨ X.env.scope.names.lookup x = some .local := by first | exact .inl rfl | exact .inr rfl | assumption) : PDG X (.Name x pos) (.one i) := ⟨pg_name hN hi hx hf, fun j hj => by simp [Tg.slots] at hj; subst hj; exact lt_of_get hi⟩
def PDGs (X : Cx) (es : List Expr) (is : List Nat) : Prop := PGs X es (gNames is) ∧ ∀ i ∈ is, i < X.N.length
theorem pdgs_nil : PDGs X [] [] := ⟨pgs_nil, fun _ h => nomatch h⟩
theorem pdgs_cons {is : List Nat} (i : Nat) (hN : X.N.Nodup) (hi : X.N[i]? = some x) (hx : Loc X.env.scope x) (r : PDGs X es is) (hs : (assignEach (.Name x pos :: es) X.env).map (·.2) = assign (.Name x pos) X.env :: (assignEach es X.env).map (·.2) := by rfl) (hf : X.fn x = true ∨ X.env.scope.names.lookup x = some .local := by first | exact .inl rfl | exact .inr rfl | assumption) : PDGs X (.Name x pos :: es) (i :: is) :=
  ⟨pgs_cons (pg_name hN hi hx hf) r.1 hs, fun j hj => by
    rcases List.mem_cons.mp hj with rfl | h
    · exact lt_of_get hi
    · exact r.2 j h⟩
theorem pdg_tup {is : List Nat} {k : Nat} (hc : X.calm = true) (r : PDGs X es is) (hn : (assignEach es X.env).length = is.length := by rfl) (hst : (assignEach es X.env).findIdx? (·.1) = none := by rfl) : PDG X (.Tuple es k pos) (.tup is) := ⟨pg_tup hc r.1 hn hst, r.2⟩
end

section
variable {K : PySem.W.Frag} {M : Addr → Prop} {F0 H0 F H : Hp} {n : Nat} {vs vs' : L2.St} {bs bs' : List B}
/-- entries laid anew -/
theorem Fit.lay (f : Fit K M F0 H0 n F H vs bs) (p : Nat → Nat) (hl : bs'.length = vs'.length) (hp : ∀ i b, bs'[i]? = some b → b = .un ∨ (∃ j, b = .al j ∧ j < n ∧ n ≤ i ∧ vs'[i]? = vs'[j]?) ∨ (bs[p i]? = some b ∧ vs'[i]? = vs[p i]? ∧ ∀ j, b ≠ .al j))
    (hi : ∀ i j g g' o o', bs'[i]? = some (.own g o) → bs'[j]? = some (.own g' o') → p i = p j → i = j) : Fit K M F0 H0 n F H vs' bs' := by
  have key : ∀ {i b}, bs'[i]? = some b → b ≠ .un → (∀ j, b ≠ .al j) → bs[p i]? = some b ∧ vs'[i]? = vs[p i]? := fun {i b} e h1 h2 => by
    rcases hp i b e with h | ⟨j, h, _⟩ | ⟨h3, h4, _⟩
    · exact absurd h h1
    · exact absurd h (h2 j)
    · exact ⟨h3, h4⟩
  refine ⟨f.sub0, f.subF0, f.sub, f.new, hl, fun i d e => ?_, fun i g o e => ?_, fun i j g g' o o' q e1 e2 e3 e4 => ?_, fun i j e => ?_, f.mem0⟩
  · obtain ⟨h1, h2⟩ := key e (by intro z; cases z) (by intro j z; cases z)
    rw [h2]; exact f.val _ d h1
  · obtain ⟨h1, h2⟩ := key e (by intro z; cases z) (by intro j z; cases z)
    rw [h2]; exact f.own _ g o h1
  · obtain ⟨h1, h2⟩ := key e1 (by intro z; cases z) (by intro j z; cases z)
    obtain ⟨h3, h4⟩ := key e2 (by intro z; cases z) (by intro j z; cases z)
    rw [h2] at e3; rw [h4] at e4
    exact hi i j g g' o o' e1 e2 (f.dis _ _ g g' o o' q h1 h3 e3 e4)
  · rcases hp i _ e with h | ⟨k, h, h1, h2, h3⟩ | ⟨_, _, h⟩
    · cases h
    · cases h; exact ⟨⟨h1, h2⟩, h3⟩
    · exact absurd rfl (h j)
end

/-- the slots of a comprehension's own names forgotten; put back -/
def sav : B → B
  | .val d => .val d
  | _ => .un
def una (vs : List Nat) : Nat → Ev → Ev
  | _, [] => []
  | k, b :: r => (if vs.contains k = true then .un else b) :: una vs (k + 1) r
def rst (vs : List Nat) : Nat → Ev → Ev → Ev
  | k, b2 :: r2, b1 :: r1 => (if vs.contains k = true then sav b1 else b2) :: rst vs (k + 1) r2 r1
  | _, r2, _ => r2
theorem una_len (vs : List Nat) : ∀ (k : Nat) (ρ : Ev), (una vs k ρ).length = ρ.length
  | _, [] => rfl
  | k, b :: r => by simp [una, una_len vs (k + 1) r]
theorem rst_len (vs : List Nat) : ∀ (k : Nat) (r2 r1 : Ev), (rst vs k r2 r1).length = r2.length
  | _, [], _ => by simp [rst]
  | k, b :: r, [] => by simp [rst]
  | k, b :: r, c :: s => by simp [rst, rst_len vs (k + 1) r s]
theorem una_get (vs : List Nat) : ∀ (k : Nat) (ρ : Ev) (i : Nat), (una vs k ρ)[i]? = if vs.contains (k + i) = true then (ρ[i]?).map (fun _ => B.un) else ρ[i]?
  | k, [], i => by simp [una]
  | k, b :: r, 0 => by simp only [una, Nat.add_zero, List.getElem?_cons_zero]; split <;> rfl
  | k, b :: r, i + 1 => by
    simp only [una, List.getElem?_cons_succ]
    rw [una_get vs (k + 1) r i, show k + 1 + i = k + (i + 1) by omega]
theorem rst_get (vs : List Nat) : ∀ (k : Nat) (r2 r1 : Ev) (i : Nat), r1.length = r2.length → (rst vs k r2 r1)[i]? = if vs.contains (k + i) = true then (r1[i]?).map sav else r2[i]?
  | k, [], r1, i, h => by
    have : r1 = [] := List.eq_nil_of_length_eq_zero h
    subst this; simp [rst]
  | k, b :: r, [], i, h => by cases h
  | k, b :: r, c :: s, 0, h => by simp only [rst, Nat.add_zero, List.getElem?_cons_zero]; split <;> rfl
  | k, b :: r, c :: s, i + 1, h => by
    simp only [rst, List.getElem?_cons_succ]
    rw [rst_get vs (k + 1) r s i (by simpa using h), show k + 1 + i = k + (i + 1) by omega]
theorem wipe_get {σ : L2.St} {i : Nat} : ∀ {vs : List Nat}, i ∉ vs → (wipe σ vs)[i]? = σ[i]?
  | [], _ => rfl
  | v :: vs, h => by
    unfold wipe
    rw [get_set_ne (fun z => h (by simp [z])), wipe_get fun z => h (by simp [z])]
def noAl : B → B
  | .al _ => .un
  | b => b

/-- [elt for t in .. if test] -/
def compGo (t : Tg) (vs : List Nat) (test : Ev → R Bool) (elt : Ev → R B) : List D → List D → Ev → R (List D)
  | [], acc, ρ => .ok acc ρ
  | d :: ds, acc, ρ => match t.set d ρ with
    | none => .no
    | some ρ1 => match test ρ1 with
      | .ok true ρ2 => match elt ρ2 with
        | .ok b ρ3 => match frz1 ρ3 b with
          | some (x, ρ4) => if acc.length < sizeLine then compGo t vs test elt ds (acc ++ [x]) (una vs 0 ρ4) else .no
          | none => .no
        | _ => .no
      | .ok false ρ2 => compGo t vs test elt ds acc (una vs 0 ρ2)
      | _ => .no
def dComp (it : Ev → R (List D)) (t : Tg) (vs : List Nat) (test : Ev → R Bool) (elt : Ev → R B) : Ev → R B := fun ρ => (it ρ).bind fun ds ρ1 => match compGo t vs test elt ds [] (una vs 0 ρ1) with
  | .ok acc ρ2 => .ok (.own true (.lst acc)) (rst vs 0 ρ2 ρ1)
  | _ => .no
def tTrue : Ev → R Bool := fun ρ => .ok true ρ
abbrev W0 : WX := fun _ _ _ _ => False
def PDTs (X : Cx) (ifs : List Expr) (f : Ev → R Bool) : Prop := PTs X ifs (tT X.K W0 f)
theorem PTs.imp {X : Cx} {ifs : List Expr} {t t' : TT} (h : PTs X ifs t) (i : ∀ σ H Q, t' σ H Q → t σ H Q) : PTs X ifs t' := ⟨fun pins s σ H Q I hq => h.run pins s σ H Q I (i σ H Q hq)⟩
theorem pdts_nil {X : Cx} : PDTs X [] tTrue := PTs.imp pts_nil fun σ H Q h => by
  obtain ⟨M, F0, H0, F, ρ, ts, τ, l, ft, go⟩ := h
  exact (show ∀ F' H', ρ.length = σ.length → Fit X.K M F0 H0 σ.length F' H' (σ ++ ts) (ρ ++ τ) → Q true H' from go) F H l ft
theorem pdts_one {X : Cx} {c : Expr} {f : Ev → R Bool} (h : PDT X W0 c f) : PDTs X [c] f := pts_one h

section
variable {K : PySem.W.Frag} {W : WX} {M : Addr → Prop} {F0 H0 F H : Hp} {σ ts us : L2.St} {τ cs : List B} {ρ ρ1 ρ2 : Ev} {vs : List Nat}
theorem contains_iff {k : Nat} : vs.contains k = true ↔ k ∈ vs := by simp
/-- at the block's start -/
theorem Fit.enter (f : Fit K M F0 H0 σ.length F H (σ ++ ts) (ρ ++ τ)) (l : ρ.length = σ.length) :
    Fit K M F0 H0 σ.length F H (wipe σ vs ++ (ts ++ σ)) (una vs 0 ρ ++ (τ.map noAl ++ ρ.map sav)) := by
  have hl := f.lenT l
  have low : ∀ {α : Type} (x y z : List α) (i : Nat), i < x.length + y.length → (x ++ (y ++ z))[i]? = (x ++ y)[i]? := fun x y z i h => by
    rw [← List.append_assoc]; exact List.getElem?_append_left (by simpa using h)
  have hw := wipe_length σ vs
  refine f.lay (fun i => if i < σ.length + τ.length then i else i - (σ.length + τ.length)) (by simp [una_len, hw, l, hl]) (fun i b e => ?_) (fun i j g g' o o' e1 e2 q => ?_)
  · by_cases h1 : i < σ.length
    · -- a slot
      rw [List.getElem?_append_left (by rw [una_len]; omega), una_get, Nat.zero_add] at e
      by_cases h2 : vs.contains i = true
      · rw [if_pos h2] at e
        cases e3 : ρ[i]? with
        | none => rw [e3] at e; cases e
        | some c => rw [e3] at e; cases e; exact .inl rfl
      · rw [if_neg h2] at e
        have e4 : (ρ ++ τ)[i]? = some b := get_app e
        refine .inr (.inr ⟨?_, ?_, fun j z => ?_⟩)
        · rw [if_pos (by omega)]; exact e4
        · rw [if_pos (by omega), List.getElem?_append_left (by omega), List.getElem?_append_left h1]
          exact wipe_get fun z => h2 (contains_iff.mpr z)
        · subst z
          have := (f.al i j e4).1.2
          omega
    · by_cases h2 : i < σ.length + τ.length
      · rw [low _ _ _ i (by rw [una_len, List.length_map]; omega), List.getElem?_append_right (by rw [una_len]; omega), una_len, List.getElem?_map] at e
        cases e3 : τ[i - ρ.length]? with
        | none => rw [e3] at e; cases e
        | some c =>
          rw [e3] at e
          have e4 : (ρ ++ τ)[i]? = some c := by rw [List.getElem?_append_right (by omega)]; exact e3
          have hv : (wipe σ vs ++ (ts ++ σ))[i]? = (σ ++ ts)[i]? := by
            rw [low _ _ _ i (by rw [hw, hl]; omega), List.getElem?_append_right (by rw [hw]; omega), List.getElem?_append_right (by omega), hw]
          cases c with
          | al j => cases e; exact .inl rfl
          | un => cases e; exact .inl rfl
          | val d => cases e; exact .inr (.inr ⟨by rw [if_pos h2]; exact e4, by rw [if_pos h2]; exact hv, fun j z => by cases z⟩)
          | own g o => cases e; exact .inr (.inr ⟨by rw [if_pos h2]; exact e4, by rw [if_pos h2]; exact hv, fun j z => by cases z⟩)
      · have hx : (una vs 0 ρ ++ (τ.map noAl ++ ρ.map sav))[i]? = (ρ.map sav)[i - (σ.length + τ.length)]? := by
          rw [← List.append_assoc, List.getElem?_append_right (by simp [una_len]; omega)]
          simp [una_len, l]
        rw [hx, List.getElem?_map] at e
        cases e3 : ρ[i - (σ.length + τ.length)]? with
        | none => rw [e3] at e; cases e
        | some c =>
          rw [e3] at e
          have hv : (wipe σ vs ++ (ts ++ σ))[i]? = σ[i - (σ.length + τ.length)]? := by
            rw [← List.append_assoc, List.getElem?_append_right (by simp [hw]; omega)]
            simp [hw, hl]
          have hk := lt_of_get e3
          cases c with
          | val d => cases e; exact .inr (.inr ⟨by rw [if_neg h2]; exact get_app e3, by rw [if_neg h2, hv, List.getElem?_append_left (by omega)], fun j z => by cases z⟩)
          | un => cases e; exact .inl rfl
          | al j => cases e; exact .inl rfl
          | own g o => cases e; exact .inl rfl
  · have no : ∀ {i g o}, (una vs 0 ρ ++ (τ.map noAl ++ ρ.map sav))[i]? = some (B.own g o) → i < σ.length + τ.length := fun {i g o} e => by
      refine Classical.byContradiction fun h2 => ?_
      have hx : (una vs 0 ρ ++ (τ.map noAl ++ ρ.map sav))[i]? = (ρ.map sav)[i - (σ.length + τ.length)]? := by
        rw [← List.append_assoc, List.getElem?_append_right (by simp [una_len]; omega)]
        simp [una_len, l]
      rw [hx, List.getElem?_map] at e
      cases e3 : ρ[i - (σ.length + τ.length)]? with
      | none => rw [e3] at e; cases e
      | some c => rw [e3] at e; cases c <;> cases e
    rw [if_pos (no e1), if_pos (no e2)] at q
    exact q
/-- at its end -/
theorem Fit.leave {σ2 : L2.St} {v : V} {g : Bool} {o : O} (f : Fit K M F0 H0 σ.length F H (σ2 ++ (ts ++ us ++ σ ++ [some v])) (ρ2 ++ (τ.map noAl ++ cs ++ ρ1.map sav ++ [.own g o]))) (f0 : ∀ (i j : Nat), τ[i]? = some (B.al j) → j < σ.length ∧ ts[i]? = σ[j]?) (l1 : ρ1.length = σ.length) (l2 : ρ2.length = σ.length) (l3 : σ2.length = σ.length) (hl : ts.length = τ.length) (hc : us.length = cs.length)
    (hb : ∀ k, k ∉ vs → σ2[k]? = σ[k]?) : Fit K M F0 H0 σ.length F H (σ ++ (ts ++ [some v])) (rst vs 0 ρ2 ρ1 ++ (τ ++ [.own g o])) := by
  -- the places
  have A : ∀ {i : Nat}, i < σ.length → (ρ2 ++ (τ.map noAl ++ cs ++ ρ1.map sav ++ [B.own g o]))[i]? = ρ2[i]? := fun {i} h => List.getElem?_append_left (by omega)
  have A' : ∀ {i : Nat}, i < σ.length → (σ2 ++ (ts ++ us ++ σ ++ [some v]))[i]? = σ2[i]? := fun {i} h => List.getElem?_append_left (by omega)
  have Bq : ∀ {i : Nat}, i < τ.length → (ρ2 ++ (τ.map noAl ++ cs ++ ρ1.map sav ++ [B.own g o]))[σ.length + i]? = (τ.map noAl)[i]? := fun {i} h => by
    rw [List.getElem?_append_right (by omega), List.append_assoc, List.append_assoc, List.getElem?_append_left (by simp; omega)]
    congr 1; omega
  have B' : ∀ {i : Nat}, i < τ.length → (σ2 ++ (ts ++ us ++ σ ++ [some v]))[σ.length + i]? = ts[i]? := fun {i} h => by
    rw [List.getElem?_append_right (by omega), List.append_assoc, List.append_assoc, List.getElem?_append_left (by omega)]
    congr 1; omega
  have C : ∀ {i : Nat}, i < σ.length → (ρ2 ++ (τ.map noAl ++ cs ++ ρ1.map sav ++ [B.own g o]))[σ.length + τ.length + cs.length + i]? = (ρ1.map sav)[i]? := fun {i} h => by
    rw [List.getElem?_append_right (by omega), List.append_assoc, List.getElem?_append_right (by simp; omega), List.getElem?_append_left (by simp; omega)]
    congr 1; simp; omega
  have C' : ∀ {i : Nat}, i < σ.length → (σ2 ++ (ts ++ us ++ σ ++ [some v]))[σ.length + τ.length + cs.length + i]? = σ[i]? := fun {i} h => by
    rw [List.getElem?_append_right (by omega), List.append_assoc, List.getElem?_append_right (by simp; omega), List.getElem?_append_left (by simp; omega)]
    congr 1; simp; omega
  have Dq : (ρ2 ++ (τ.map noAl ++ cs ++ ρ1.map sav ++ [B.own g o]))[σ.length + τ.length + cs.length + σ.length]? = some (B.own g o) := by
    have : σ.length + τ.length + cs.length + σ.length = ρ2.length + (τ.map noAl ++ cs ++ ρ1.map sav).length := by simp; omega
    rw [this]; exact get_mid _ _ _ []
  have D' : (σ2 ++ (ts ++ us ++ σ ++ [some v]))[σ.length + τ.length + cs.length + σ.length]? = some (some v) := by
    have : σ.length + τ.length + cs.length + σ.length = σ2.length + (ts ++ us ++ σ).length := by simp; omega
    rw [this]; exact get_mid _ _ _ []
  have E : ∀ {i : Nat}, i < τ.length → (σ ++ (ts ++ [some v]))[σ.length + i]? = ts[i]? := fun {i} h => by
    rw [List.getElem?_append_right (by omega), List.getElem?_append_left (by omega)]
    congr 1; omega
  have G : (σ ++ (ts ++ [some v]))[σ.length + τ.length]? = some (some v) := by rw [← hl]; exact get_mid _ _ _ []
  let p : Nat → Nat := fun i => if i < σ.length then (if vs.contains i = true then σ.length + τ.length + cs.length + i else i) else if i < σ.length + τ.length then i else σ.length + τ.length + cs.length + σ.length
  refine f.lay p (by simp [rst_len, l2, hl]) (fun i b e => ?_) (fun i j g1 g2 o1 o2 e1 e2 q => ?_)
  · by_cases h1 : i < σ.length
    · rw [List.getElem?_append_left (by rw [rst_len]; omega), rst_get _ _ _ _ _ (by omega), Nat.zero_add] at e
      by_cases h2 : vs.contains i = true
      · rw [if_pos h2] at e
        have hp : p i = σ.length + τ.length + cs.length + i := by simp only [p]; rw [if_pos h1, if_pos h2]
        have e5 : (ρ1.map sav)[i]? = some b := by rw [List.getElem?_map]; exact e
        have hal : ∀ j, b ≠ .al j := fun j z => by
          cases e3 : ρ1[i]? with
          | none => rw [e3] at e; cases e
          | some c => rw [e3] at e; subst z; cases c <;> cases e
        exact .inr (.inr ⟨by rw [hp, C h1]; exact e5, by rw [hp, C' h1, List.getElem?_append_left h1], hal⟩)
      · rw [if_neg h2] at e
        have hp : p i = i := by simp only [p]; rw [if_pos h1, if_neg h2]
        have e4 := (A h1).trans e
        refine .inr (.inr ⟨by rw [hp]; exact e4, ?_, fun j z => ?_⟩)
        · rw [hp, A' h1, List.getElem?_append_left h1]
          exact (hb i fun z => h2 (contains_iff.mpr z)).symm
        · subst z
          have := (f.al i j e4).1.2
          omega
    · obtain ⟨k, rfl⟩ : ∃ k, i = σ.length + k := ⟨i - σ.length, by omega⟩
      by_cases h2 : k < τ.length
      · have e3 : τ[k]? = some b := by
          rw [List.getElem?_append_right (by rw [rst_len]; omega), rst_len, List.getElem?_append_left (by omega)] at e
          rw [← e]; congr 1; omega
        have hp : p (σ.length + k) = σ.length + k := by simp only [p]; rw [if_neg h1, if_pos (by omega)]
        cases b with
        | un => exact .inl rfl
        | al j =>
          obtain ⟨h5, h6⟩ := f0 k j e3
          exact .inr (.inl ⟨j, rfl, h5, by omega, by rw [E h2, h6, List.getElem?_append_left h5]⟩)
        | val d => exact .inr (.inr ⟨by rw [hp, Bq h2, List.getElem?_map, e3]; rfl, by rw [hp, E h2, B' h2], fun j z => by cases z⟩)
        | own g o => exact .inr (.inr ⟨by rw [hp, Bq h2, List.getElem?_map, e3]; rfl, by rw [hp, E h2, B' h2], fun j z => by cases z⟩)
      · have hk := lt_of_get e
        simp [rst_len] at hk
        have : k = τ.length := by omega
        subst this
        have hp : p (σ.length + τ.length) = σ.length + τ.length + cs.length + σ.length := by simp only [p]; rw [if_neg h1, if_neg (by omega)]
        have e3 : b = .own g o := by
          have : σ.length + τ.length = (rst vs 0 ρ2 ρ1).length + τ.length := by rw [rst_len, l2]
          rw [this, get_mid] at e
          exact (Option.some.inj e).symm
        subst e3
        exact .inr (.inr ⟨by rw [hp]; exact Dq, by rw [hp, D']; exact G, fun j z => by cases z⟩)
  · have no : ∀ {i g1 o1}, (rst vs 0 ρ2 ρ1 ++ (τ ++ [B.own g o]))[i]? = some (B.own g1 o1) → i < σ.length → ¬ vs.contains i = true := fun {i g1 o1} e h1 h2 => by
      rw [List.getElem?_append_left (by rw [rst_len]; omega), rst_get _ _ _ _ _ (by omega), Nat.zero_add, if_pos h2] at e
      cases e3 : ρ1[i]? with
      | none => rw [e3] at e; cases e
      | some c => rw [e3] at e; cases c <;> cases e
    have hi := lt_of_get e1
    have hj := lt_of_get e2
    simp [rst_len] at hi hj
    simp only [p] at q
    by_cases h1 : i < σ.length <;> by_cases h2 : j < σ.length
    · rw [if_pos h1, if_pos h2, if_neg (no e1 h1), if_neg (no e2 h2)] at q; exact q
    · rw [if_pos h1, if_neg h2, if_neg (no e1 h1)] at q; split at q <;> omega
    · rw [if_neg h1, if_pos h2, if_neg (no e2 h2)] at q; split at q <;> omega
    · rw [if_neg h1, if_neg h2] at q; split at q <;> split at q <;> omega

theorem wipe_eq {σ1 σ2 : L2.St} (hl : σ1.length = σ2.length) : ∀ {vs : List Nat}, (∀ k, k ∉ vs → σ1[k]? = σ2[k]?) → wipe σ1 vs = wipe σ2 vs := fun {vs} h => by
  have len : ∀ vs, (wipe σ1 vs).length = σ1.length ∧ (wipe σ2 vs).length = σ2.length := fun vs => ⟨wipe_length _ _, wipe_length _ _⟩
  have inn : ∀ (σ : L2.St) (vs : List Nat) (k : Nat), k ∈ vs → k < σ.length → (wipe σ vs)[k]? = some none := fun σ vs => by
    induction vs with
    | nil => intro k h; cases h
    | cons v vs ih =>
      intro k h hk
      unfold wipe
      by_cases e : k = v
      · subst e; rw [List.getElem?_set]; simp [wipe_length, hk]
      · rw [get_set_ne e]
        exact ih k (by simpa [e] using h) hk
  apply List.ext_getElem?
  intro k
  by_cases hk : k ∈ vs
  · by_cases h2 : k < σ1.length
    · rw [inn σ1 vs k hk h2, inn σ2 vs k hk (by omega)]
    · rw [List.getElem?_eq_none (by rw [(len vs).1]; omega), List.getElem?_eq_none (by rw [(len vs).2]; omega)]
  · rw [wipe_get hk, wipe_get hk]; exact h k hk
theorem wipe_wipe {σ : L2.St} {vs : List Nat} : wipe (wipe σ vs) vs = wipe σ vs := wipe_eq (wipe_length _ _) fun _ h => wipe_get h
theorem noAl_ok {es : List D} {ρ : Ev} : NoAl (τ.map noAl ++ es.map B.val ++ ρ.map sav) := fun j k e => by
  rw [List.getElem?_append] at e
  split at e
  · rw [List.getElem?_append] at e
    split at e
    · rw [List.getElem?_map] at e
      cases e3 : τ[j]? with
      | none => rw [e3] at e; cases e
      | some c => rw [e3] at e; cases c <;> cases e
    · rw [List.getElem?_map] at e
      cases e3 : es[j - (τ.map noAl).length]? with
      | none => rw [e3] at e; cases e
      | some c => rw [e3] at e; cases e
  · rw [List.getElem?_map] at e
    cases e3 : ρ[j - (τ.map noAl ++ es.map B.val).length]? with
    | none => rw [e3] at e; cases e
    | some c => rw [e3] at e; cases c <;> cases e
theorem noAl_snoc {g : Bool} {o : O} (h : NoAl τ) : NoAl (τ ++ [.own g o]) := fun j k e => by
  rcases getElem?_snoc e with e | ⟨_, e⟩
  · exact h j k e
  · cases e
theorem map_noAl_val {es : List D} : (es.map B.val).map noAl = es.map B.val := by
  rw [List.map_map]; rfl
end
section
variable {X : Cx} {W : WX} {elt tg iter : Expr} {ifs : List Expr} {scope : Scope} {own : List (Str × Nat)} {pos : Pos} {it : Ev → R (List D)} {t : Tg} {test : Ev → R Bool} {fe : Ev → R B}
theorem pd_comp (hc : X.calm = true) (hN : X.N.Nodup) (hi : PDI X W tg iter it) (ok : BlkOk X.N X.env.scope scope own)
    (hg : ∀ (s : Shared) (H : Hp) (C : Addr) (cl : List (Str × Addr)) (fp : List Addr), PDG (X.blk s H scope (compEnvC scope cl C X.env) fp) tg t)
    (ht : ∀ (s : Shared) (H : Hp) (C : Addr) (cl : List (Str × Addr)) (fp : List Addr), PDTs (X.blk s H scope (compEnvC scope cl C X.env) fp) ifs test)
    (he : ∀ (s : Shared) (H : Hp) (C : Addr) (cl : List (Str × Addr)) (fp : List Addr), PD (X.blk s H scope (compEnvC scope cl C X.env) fp) W0 elt fe)
    (hsl : ∀ k ∈ t.slots, k ∈ own.map (·.2)) (hs : ∀ x, foldedSetIterable iter X.env x = pure x := by intro _; rfl) :
    PD X W (.ListComp elt [⟨tg, iter, ifs, 0⟩] scope pos) (dComp it t (own.map (·.2)) test fe) := by
  have ht' : ∀ (s : Shared) (H : Hp) (C : Addr) (cl : List (Str × Addr)) (fp : List Addr), PTs (X.blk s H scope (compEnvC scope cl C X.env) fp) ifs (tT X.K W0 test) := ht
  have he' : ∀ (s : Shared) (H : Hp) (C : Addr) (cl : List (Str × Addr)) (fp : List Addr), PE (X.blk s H scope (compEnvC scope cl C X.env) fp) elt (tE X.K W0 fe) := he
  have hg' : ∀ (s : Shared) (H : Hp) (C : Addr) (cl : List (Str × Addr)) (fp : List Addr), PG (X.blk s H scope (compEnvC scope cl C X.env) fp) tg (tgG X.K t) := fun s H C cl fp => (hg s H C cl fp).1
  refine ⟨fun pins s σ H Q I hq => (pe_lc (own := own) hc hN hi ok hg' ht' he' hs).run pins s σ H Q I ?_⟩
  have hn : X.N.length = σ.length := I.len.symm
  have hg3 := tgOk (K := X.K) (hg s H 0 [] []).2
  have hg4 : TgOk X.K σ.length (tgG X.K t) t := by rw [← hn]; exact hg3
  obtain ⟨M, F0, H0, F, ρ, ts, τ, l, ft, go⟩ := hq
  have hl := ft.lenT l
  generalize hvs : own.map (·.2) = vs at *
  refine ⟨M, F0, H0, F, ρ, ts, τ, l, ft, ?_⟩
  unfold dComp at go
  cases ei : it ρ with
  | no => rw [ei] at go; exact go.elim
  | er C fs ρ1 => rw [ei] at go; exact go
  | ok ds ρ1 =>
    rw [ei] at go
    intro F1 H1 J us es l1 l4 f1 dw Dq hD
    have go : Go X.K W M F0 H0 σ ts τ (match compGo t vs test fe ds [] (una vs 0 ρ1) with
      | .ok acc ρ2 => .ok (.own true (.lst acc)) (rst vs 0 ρ2 ρ1)
      | _ => .no) Q := go
    -- the block's start
    have fe1 := (f1.enter (vs := vs) l1)
    rw [List.map_append, map_noAl_val] at fe1
    have hA : Adds X.K none0 F1 H1 F1 (upd H1 Dq (.lst [])) (.ref Dq) (.own true (.lst [])) := Adds.lst f1.sub hD (by simp only [Reps])
    have f2 : Fit X.K M F0 H0 σ.length F1 (upd H1 Dq (.lst [])) (wipe σ vs ++ ((ts ++ us.map some ++ σ) ++ [some (.ref Dq)])) (una vs 0 ρ1 ++ ((τ.map noAl ++ es.map B.val ++ ρ1.map sav) ++ [.own true (.lst [])])) := by
      have := fe1.add hA
      simpa only [List.append_assoc] using this
    -- the invariant
    let Ok : List D → List D → Hp → Prop := fun rest acc H' => ∃ (F' : Hp) (ρ' : Ev), ρ'.length = σ.length ∧ Fit X.K M F0 H0 σ.length F' H' (wipe σ vs ++ ((ts ++ us.map some ++ σ) ++ [some (.ref Dq)])) (ρ' ++ ((τ.map noAl ++ es.map B.val ++ ρ1.map sav) ++ [.own true (.lst acc)])) ∧
      Go X.K W M F0 H0 σ ts τ (match compGo t vs test fe rest acc ρ' with
        | .ok acc ρ2 => .ok (.own true (.lst acc)) (rst vs 0 ρ2 ρ1)
        | _ => .no) Q
    have hw := wipe_length σ vs
    have na : NoAl ((τ.map noAl ++ es.map B.val ++ ρ1.map sav)) := noAl_ok
    have hlt0 : (ts ++ us.map some ++ σ).length = (τ.map noAl ++ es.map B.val ++ ρ1.map sav).length := by simp [hl, l4, l1]
    have drw : ∀ {F' H' : Hp} {σ' : L2.St} {ρ' : Ev} {b : B}, σ'.length = σ.length → ρ'.length = σ.length → Fit X.K M F0 H0 σ.length F' H' (σ' ++ ((ts ++ us.map some ++ σ) ++ [some (.ref Dq)])) (ρ' ++ ((τ.map noAl ++ es.map B.val ++ ρ1.map sav) ++ [b])) → Drw X.K F' J ds := fun {F' H' σ' ρ' b} h1 h2 f => by
      refine dw F' ?_
      have f3 : Fit X.K M F0 H0 σ.length F' H' (((σ' ++ ts) ++ us.map some) ++ (σ ++ [some (.ref Dq)])) (((ρ' ++ τ.map noAl) ++ es.map B.val) ++ (ρ1.map sav ++ [b])) := by simpa only [List.append_assoc] using f
      exact (f3.drop (by simp [h1, h2, hl, l4])).repsV (by simp [h1, h2, hl]) l4
    refine ⟨fun i m H' => m = ds.length - i ∧ i ≤ ds.length ∧ ∃ acc, Ok (ds.drop i) acc H', ⟨ds.length, by simp, Nat.zero_le _, [], F1, una vs 0 ρ1, by rw [una_len]; exact l1, f2, by simpa using go⟩, ?_⟩
    rintro i m H2 ⟨rfl, hi, acc, F2, ρ2, l6, f3, go2⟩
    by_cases hlt : i < ds.length
    · refine .inr ⟨(drw hw l6 f3).go i H2 hlt f3.sub, fun H' => ∃ acc, Ok (ds.drop (i + 1)) acc H', fun H' h => ⟨ds.length - (i + 1), by omega, rfl, hlt, h⟩, fun x H3 y => ?_⟩
      obtain ⟨F3, a3⟩ := (drw hw l6 f3).give i F2 H2 x H3 ds[i] (Same.refl _) f3.sub (List.getElem?_eq_getElem hlt) y
      have f4 : Fit X.K M F0 H0 σ.length F3 H3 (wipe σ vs ++ ((ts ++ us.map some ++ σ) ++ [some (.ref Dq)])) (ρ2 ++ ((τ.map noAl ++ es.map B.val ++ ρ1.map sav) ++ [.own true (.lst acc)])) := (f3.add a3).drop f3.len
      rw [List.drop_eq_getElem_cons hlt] at go2
      simp only [compGo] at go2
      cases e1 : t.set ds[i] ρ2 with
      | none => rw [e1] at go2; exact go2.elim
      | some ρ3 =>
        rw [e1] at go2
        refine hg4 M F0 H0 F3 H3 (wipe σ vs) _ ρ2 ρ3 _ x ds[i] _ hw l6 (noAl_snoc na) f4 a3.res e1 fun σ3 b3 l7 f5 => ?_
        have l8 : σ3.length = σ.length := by rw [b3.1, hw]
        have wp : wipe σ3 vs = wipe σ vs := by
          rw [← wipe_wipe (σ := σ)]
          refine wipe_eq (by rw [l8, hw]) fun k hk => b3.2 k fun z => hk (hsl k z)
        refine ⟨wp, ?_⟩
        have f5' := f5
        rw [← l8] at f5' l7
        refine ⟨M, F0, H0, F3, ρ3, _, _, l7, f5', ?_⟩
        simp only at go2
        cases e2 : test ρ3 with
        | no => rw [e2] at go2; exact go2.elim
        | er C fs ρ4 => rw [e2] at go2; exact go2.elim
        | ok k ρ4 =>
          rw [e2] at go2
          intro F5 H5 l9 f6
          -- what a turn leaves
          have turn : ∀ {acc' : List D} {ρ' : Ev} {F' H' : Hp}, ρ'.length = σ.length → Fit X.K M F0 H0 σ.length F' H' (σ3 ++ ((ts ++ us.map some ++ σ) ++ [some (.ref Dq)])) (ρ' ++ ((τ.map noAl ++ es.map B.val ++ ρ1.map sav) ++ [.own true (.lst acc')])) →
              Fit X.K M F0 H0 σ.length F' H' (wipe σ vs ++ ((ts ++ us.map some ++ σ) ++ [some (.ref Dq)])) (una vs 0 ρ' ++ ((τ.map noAl ++ es.map B.val ++ ρ1.map sav) ++ [.own true (.lst acc')])) := by
            intro acc' ρ' F' H' h1 f
            refine f.lay id (by simp [una_len, h1, hw, hl, l4, l1]) (fun j b e => ?_) (fun j k _ _ _ _ _ _ q => q)
            have hal : ∀ k, b ≠ .al k := fun k z => by
              subst z
              by_cases h2 : j < σ.length
              · rw [List.getElem?_append_left (by rw [una_len]; omega), una_get] at e
                split at e
                · cases e3 : ρ'[j]? with
                  | none => rw [e3] at e; cases e
                  | some c => rw [e3] at e; cases e
                · have := (f.al j k (get_app e)).1.2; omega
              · rw [List.getElem?_append_right (by rw [una_len]; omega)] at e
                exact noAl_snoc na _ _ e
            by_cases h2 : j < σ.length
            · rw [List.getElem?_append_left (by rw [una_len]; omega), una_get, Nat.zero_add] at e
              by_cases h3 : vs.contains j = true
              · rw [if_pos h3] at e
                cases e3 : ρ'[j]? with
                | none => rw [e3] at e; cases e
                | some c => rw [e3] at e; cases e; exact .inl rfl
              · rw [if_neg h3] at e
                refine .inr (.inr ⟨get_app e, ?_, hal⟩)
                have hj : j ∉ vs := fun z => h3 (contains_iff.mpr z)
                show (wipe σ vs ++ _)[j]? = (σ3 ++ _)[j]?
                rw [List.getElem?_append_left (by omega), List.getElem?_append_left (by omega), ← wp, wipe_get hj]
            · refine .inr (.inr ⟨?_, ?_, hal⟩)
              · rw [List.getElem?_append_right (by rw [una_len]; omega), una_len] at e
                show (ρ' ++ _)[j]? = _
                rw [List.getElem?_append_right (by omega)]; exact e
              · show (wipe σ vs ++ _)[j]? = (σ3 ++ _)[j]?
                have r1 := List.getElem?_append_right (l₁ := wipe σ vs) (l₂ := (ts ++ us.map some ++ σ) ++ [some (V.ref Dq)]) (i := j) (by omega)
                have r2 := List.getElem?_append_right (l₁ := σ3) (l₂ := (ts ++ us.map some ++ σ) ++ [some (V.ref Dq)]) (i := j) (by omega)
                rw [r1, r2, hw, l8]
          rw [l8] at f6 l9
          cases k with
          | false =>
            rw [if_neg (by decide)]
            simp only at go2
            exact ⟨acc, F5, una vs 0 ρ4, by rw [una_len]; exact l9, turn l9 f6, go2⟩
          | true =>
            rw [if_pos rfl]
            simp only at go2
            have f6' := f6
            rw [← l8] at f6' l9
            refine ⟨M, F0, H0, F5, ρ4, _, _, l9, f6', ?_⟩
            cases e3 : fe ρ4 with
            | no => rw [e3] at go2; exact go2.elim
            | er C fs ρ5 => rw [e3] at go2; exact go2.elim
            | ok b ρ5 =>
              rw [e3] at go2
              simp only at go2
              intro F6 H6 yv l10 f7
              cases e4 : frz1 ρ5 b with
              | none => rw [e4] at go2; exact go2.elim
              | some q =>
                obtain ⟨xd, ρ6⟩ := q
                rw [e4] at go2
                simp only at go2
                by_cases hz : acc.length < sizeLine
                · rw [if_pos hz] at go2
                  have hlt1 : ((ts ++ us.map some ++ σ) ++ [some (V.ref Dq)]).length = ((τ.map noAl ++ es.map B.val ++ ρ1.map sav) ++ [B.own true (.lst acc)]).length := by simp [hl, l4, l1]
                  obtain ⟨F7, b', s7, l11, f8, r8⟩ := Fit.frz1 (xs := []) (bs := []) f7 l10 hlt1 e4
                  have f9 : Fit X.K M F0 H0 σ3.length F7 H6 (σ3 ++ ((ts ++ us.map some ++ σ) ++ [some (V.ref Dq)])) (ρ6 ++ ((τ.map noAl ++ es.map B.val ++ ρ1.map sav) ++ [B.own true (.lst acc)])) := f8.less l11 hlt1
                  -- the new item
                  have gb9 : (ρ6 ++ ((τ.map noAl ++ es.map B.val ++ ρ1.map sav) ++ [B.own true (.lst acc)]))[σ3.length + (ts ++ us.map some ++ σ).length]? = some (B.own true (.lst acc)) := by
                    rw [hlt0, ← l11]; exact get_mid _ _ _ []
                  have gv9 : (σ3 ++ ((ts ++ us.map some ++ σ) ++ [some (V.ref Dq)]))[σ3.length + (ts ++ us.map some ++ σ).length]? = some (some (V.ref Dq)) := get_mid _ _ _ []
                  obtain ⟨p, q1, q2, q3, q4⟩ := f9.own _ _ _ gb9
                  rw [gv9] at q1; cases q1
                  obtain ⟨vacc, q5, q6⟩ := q4
                  have f10 := f9.write (o' := .lst (acc ++ [xd])) (u := .lst (vacc ++ [yv])) gb9 gv9 ⟨_, upd_same, q6.app (by simp only [Reps]; exact ⟨yv, [], rfl, r8, rfl⟩)⟩ (fun _ z => nomatch z)
                  rw [hlt0, ← l11, set_mid] at f10
                  rw [l8] at l11
                  rw [l11] at f10
                  refine ⟨vacc, q5, by rw [← q6.length]; exact hz, acc ++ [xd], F7, una vs 0 ρ6, by rw [una_len]; exact l11, turn l11 f10, go2⟩
                · rw [if_neg hz] at go2; exact go2.elim
    · have e : i = ds.length := by omega
      subst e
      rw [List.drop_length] at go2
      refine .inl ⟨(drw hw l6 f3).stop H2 f3.sub, ?_⟩
      simp only [compGo] at go2
      refine go2 F2 H2 _ (by rw [rst_len]; exact l6) ?_
      refine Fit.leave (us := us.map some) (cs := es.map B.val) f3 (fun i j e => ?_) l1 l6 hw hl (by simp [l4]) fun k hk => wipe_get hk
      have h2 : (ρ1 ++ (τ ++ es.map B.val))[σ.length + i]? = some (.al j) := by
        rw [List.getElem?_append_right (by omega), show σ.length + i - ρ1.length = i by omega]; exact get_app e
      obtain ⟨h3, h4⟩ := f1.al _ _ h2
      refine ⟨h3.1, ?_⟩
      have hti : i < ts.length := by rw [hl]; exact lt_of_get e
      rw [List.getElem?_append_right (by omega), show σ.length + i - σ.length = i by omega, List.getElem?_append_left hti, List.getElem?_append_left h3.1] at h4
      exact h4
end
end Dl
namespace Dl
open PySem PySem.Spec PyProof.Rows L2

/-! ### defs as functions of data -/
inductive RD where
  | ok (b : B) | er (C : Nat) (fs : List (Str × D)) | no
abbrev SD := List D → RD
/-- all that stood stands (but what may be changed), the frozen part has grown by new things alone -/
structure Grw (M : Addr → Prop) (F H F' H' : Hp) : Prop where
  same : ∀ a o, ¬ M a → H a = some o → H' a = some o
  sameF : Same F F'
  sub : Same F' H'
  new : ∀ a, F a = none → H a ≠ none → F' a = none
theorem Grw.adds {K : PySem.W.Frag} {M : Addr → Prop} {F H F' H' : Hp} {v : V} {d : D} (g : Grw M F H F' H') (r : Rep K F' d v) : Adds K M F H F' H' v (.val d) := ⟨g.same, g.sameF, g.sub, g.new, r⟩
def spD (K : PySem.W.Frag) (n : Nat) (S : SD) : Sp := fun vs H Q E => vs.length = n ∧ ∃ F ds, Same F H ∧ Reps K F ds vs ∧ match S ds with
  | .ok b => ∀ F' H' v, Adds K none0 F H F' H' v b → Q v H'
  | .er C fs => ∀ F' H' dd, Grw none0 F H F' H' → ExcAt K F' dd fs → E (.ref (ca K C)) (some dd) H'
  | .no => False
/-- a def that changes its first argument's object -/
inductive RI where
  | ok (b : B) (o : O) | er (C : Nat) (fs : List (Str × D)) (o : O) | no
abbrev SI := O → List D → RI
def triv : Addr → Prop := fun _ => True
def dxOf : O → Option Addr
  | .ins _ dx _ => some dx
  | _ => none
def spI (K : PySem.W.Frag) (n : Nat) (S : SI) : Sp := fun vs H Q E => ∃ p ws F o ds, vs = .ref p :: ws ∧ vs.length = n ∧ Same F H ∧ F p = none ∧ OwnAt K triv F H p o ∧ Reps K F ds ws ∧ match S o ds with
  | .ok b o' => ∀ F' H' v, Adds K (· = p) F H F' H' v b → F' p = none → OwnAt K triv F' H' p o' → Q v H'
  | .er C fs o' => ∀ F' H' dd, Grw (· = p) F H F' H' → F' p = none → OwnAt K triv F' H' p o' → ExcAt K F' dd fs → E (.ref (ca K C)) (some dd) H'
  | .no => False

section
variable {K : PySem.W.Frag} {W : WX} {M : Addr → Prop} {F0 H0 F H F' H' : Hp} {n : Nat} {vs ws : L2.St} {bs cs : List B} {v : V} {b : B}
theorem Fit.grw (f : Fit K M F0 H0 n F H vs bs) (g : Grw none0 F H F' H') : Fit K M F0 H0 n F' H' vs bs := by
  have := f.add (v := .non) (g.adds rep_non)
  exact this.drop f.len
/-- what a body has done, from its entry on -/
theorem Fit.done (f : Fit K M F0 H0 n F H vs bs) : Grw M F0 H0 F H := ⟨f.sub0, f.subF0, f.sub, f.new⟩
theorem Fit.gives (f : Fit K M F0 H0 n F H (vs ++ [some v]) (bs ++ [b])) (hl : bs.length = vs.length) (hb : match b with | .val _ => True | .own g _ => g = true | _ => False) : Adds K M F0 H0 F H v b := by
  refine ⟨f.sub0, f.subF0, f.sub, f.new, ?_⟩
  have e1 : (bs ++ [b])[bs.length]? = some b := get_last _ _
  have e2 : (vs ++ [some v])[bs.length]? = some (some v) := by rw [hl]; exact get_last _ _
  cases b with
  | un => exact hb.elim
  | al j => exact hb.elim
  | val d =>
    obtain ⟨w, h1, h2⟩ := f.val _ d e1
    rw [e2] at h1; cases h1; exact h2
  | own g o =>
    cases hb
    obtain ⟨p, h1, h2, h3, h4⟩ := f.own _ true o e1
    rw [e2] at h1; cases h1
    rw [if_pos rfl] at h3
    exact ⟨rfl, p, rfl, h2, h3, h4.weak fun a h => h rfl⟩
end

def fnD (N : Nat) (g : Ev → R Fl) : SD := fun ds => match g (ds.map B.val ++ List.replicate (N - ds.length) .un) with
  | .ok .nx _ => .ok (.val .non)
  | .ok (.rt (.val d)) _ => .ok (.val d)
  | .ok (.rt (.own true o)) _ => .ok (.own true o)
  | .er C fs _ => .er C fs
  | _ => .no
def fnI (N : Nat) (g : Ev → R Fl) : SI := fun o ds => match g (.own false o :: (ds.map B.val ++ List.replicate (N - (ds.length + 1)) .un)) with
  | .ok .nx ρ => match gb ρ 0 with
    | .own false o' => .ok (.val .non) o'
    | _ => .no
  | .ok (.rt (.val d)) ρ => match gb ρ 0 with
    | .own false o' => .ok (.val d) o'
    | _ => .no
  | .ok (.rt (.own true u)) ρ => match gb ρ 0 with
    | .own false o' => .ok (.own true u) o'
    | _ => .no
  | .er C fs ρ => match gb ρ 0 with
    | .own false o' => .er C fs o'
    | _ => .no
  | _ => .no
abbrev wE (E : XK) : WX := fun cls d _ H => E cls d H
section
variable {P : Program} {w : World} {K : PySem.W.Frag} {mg : Str → Option Value} {base : Heap}
theorem noAl_nil : NoAl [] := fun j k e => by simp at e
theorem rep0 (n : Nat) {i : Nat} {b : B} (h : (List.replicate n B.un)[i]? = some b) : b = .un := by
  rw [List.getElem?_replicate] at h; split at h
  · cases h; rfl
  · cases h
theorem fit_start {F H : Hp} {N : Nat} {ds : List D} {vs : List V} (s : Same F H) (r : Reps K F ds vs) (hn : vs.length ≤ N) : Fit K none0 F H N F H (vs.map some ++ List.replicate (N - vs.length) none) (ds.map B.val ++ List.replicate (N - ds.length) .un) := by
  have hl := r.length
  have vals : ∀ {i : Nat} {b : B}, (ds.map B.val ++ List.replicate (N - ds.length) B.un)[i]? = some b → b = .un ∨ ∃ d, b = .val d ∧ ds[i]? = some d := fun {i b} e => by
    rw [List.getElem?_append] at e
    split at e
    · rw [List.getElem?_map] at e
      cases e2 : ds[i]? with
      | none => rw [e2] at e; cases e
      | some d => rw [e2] at e; cases e; exact .inr ⟨d, rfl, rfl⟩
    · exact .inl (rep0 _ e)
  refine ⟨fun _ _ _ h => h, Same.refl F, s, fun _ h _ => h, by simp; omega, fun i d e => ?_, fun i g o e => ?_, fun i j g g' o o' p e _ _ _ => ?_, fun i j e => ?_, fun _ h => h.elim⟩
  · rcases vals e with h | ⟨d', h, h2⟩
    · cases h
    · cases h
      obtain ⟨v, h3, h4⟩ := r.get h2
      exact ⟨v, by rw [List.getElem?_append_left (by rw [List.length_map]; exact lt_of_get h3), List.getElem?_map, h3]; rfl, h4⟩
  · rcases vals e with h | ⟨d', h, _⟩ <;> cases h
  · rcases vals e with h | ⟨d', h, _⟩ <;> cases h
  · rcases vals e with h | ⟨d', h, _⟩ <;> cases h
theorem start_eq {N : List Str} {vs : List V} : L2.start N vs = vs.map some ++ List.replicate (N.length - vs.length) none := rfl
/-- THE RULE for a def -/
theorem ok_D {x qual : Str} {st : Stmt} {dvs : List V} {kws : List (Str × V)} {f : Addr} {fd : FuncData} {N ps : List Str} {k : Nat} {g : Ev → R Fl} (Fn : FunD K x qual (defArgs st) (defBody st) (defScope st) dvs kws f fd) (S : FnScope N ps (defScope st)) (hn : ps.length ≤ N.length)
    (hbody : ∀ (cdv : Value) (A : Around) (outer : List Env) (s : Shared) (H : Hp) (E : XK), Room k (A.deeper (envOfC qual (defScope st) s.heap.objs.size f cdv)) → Takes (cxOf (L2.CX P w) P w K mg base N qual (defScope st) f cdv A outer s H E) (wE E) →
      PDSs (cxOf (L2.CX P w) P w K mg base N qual (defScope st) f cdv A outer s H E) (wE E) (defBody st) g) : FnOk P w K mg base (L2.CX P w) (k + 1) f fd ps (spD K ps.length (fnD N.length g)) := by
  refine Fn.ok S (fun vs H Q E h => h.1) (fun cdv A outer s H vs Q E hr h => ?_)
  refine ⟨_, hbody cdv A outer s H E hr (takes_of rfl rfl rfl rfl), ?_⟩
  obtain ⟨hv, F, ds, sF, r, h⟩ := h
  have hl := r.length
  have hsl : (L2.start N vs).length = N.length := by rw [start_eq]; simp; omega
  refine ⟨none0, F, H, F, ds.map B.val ++ List.replicate (N.length - ds.length) .un, [], [], by rw [hsl]; simp; omega, noAl_nil, ?_, ?_⟩
  · rw [hsl, List.append_nil, List.append_nil, start_eq]; exact fit_start sF r (by omega)
  · rw [hsl]
    unfold fnD at h
    cases e : g (ds.map B.val ++ List.replicate (N.length - ds.length) .un) with
    | no => rw [e] at h; exact h.elim
    | er C fs ρ =>
      rw [e] at h
      exact fun F' H' σ' dd _ _ f x => h F' H' dd f.done x
    | ok fl ρ =>
      rw [e] at h
      cases fl with
      | nx => exact fun F' H' σ' _ _ f => h F' H' .non (f.done.adds rep_non)
      | bk => exact h.elim
      | ct => exact h.elim
      | rt b =>
        intro F' H' σ' v l1 l2 f
        have f2 : Fit K none0 F H N.length F' H' (σ' ++ [some v]) (ρ ++ [b]) := f
        cases b with
        | un => exact h.elim
        | al j => exact h.elim
        | val d => exact h F' H' v (f2.gives (by omega) True.intro)
        | own gg o =>
          cases gg with
          | false => exact h.elim
          | true => exact h F' H' v (f2.gives (by omega) rfl)
theorem fit_startI {F H : Hp} {N : Nat} {ds : List D} {vs : List V} {p : Addr} {o : O} (s : Same F H) (hF : F p = none) (ho : OwnAt K triv F H p o) (r : Reps K F ds vs) (hn : vs.length + 1 ≤ N) :
    Fit K (· = p) F H N F H ((.ref p :: vs).map some ++ List.replicate (N - (vs.length + 1)) none) (.own false o :: (ds.map B.val ++ List.replicate (N - (ds.length + 1)) .un)) := by
  have hl := r.length
  obtain ⟨x, hx, _⟩ := ho.there
  have vals : ∀ {i : Nat} {b : B}, (B.own false o :: (ds.map B.val ++ List.replicate (N - (ds.length + 1)) B.un))[i]? = some b → (i = 0 ∧ b = .own false o) ∨ b = .un ∨ ∃ d j, i = j + 1 ∧ b = .val d ∧ ds[j]? = some d := fun {i b} e => by
    cases i with
    | zero => cases e; exact .inl ⟨rfl, rfl⟩
    | succ i =>
      rw [List.getElem?_cons_succ, List.getElem?_append] at e
      split at e
      · rw [List.getElem?_map] at e
        cases e2 : ds[i]? with
        | none => rw [e2] at e; cases e
        | some d => rw [e2] at e; cases e; exact .inr (.inr ⟨d, i, rfl, rfl, e2⟩)
      · exact .inr (.inl (rep0 _ e))
  refine ⟨fun _ _ _ h => h, Same.refl F, s, fun _ h _ => h, by simp; omega, fun i d e => ?_, fun i g o e => ?_, fun i j g g' o o' q e e2 _ _ => ?_, fun i j e => ?_, fun a h => by cases h; exact ⟨by rw [hx]; simp, by rw [hx]; simp⟩⟩
  · rcases vals e with ⟨_, h⟩ | h | ⟨d', j, rfl, h, h2⟩
    · cases h
    · cases h
    · cases h
      obtain ⟨v, h3, h4⟩ := r.get h2
      refine ⟨v, ?_, h4⟩
      rw [List.getElem?_append_left (by simp; exact lt_of_get h3), List.map_cons, List.getElem?_cons_succ, List.getElem?_map, h3]; rfl
  · rcases vals e with ⟨rfl, h⟩ | h | ⟨d', j, _, h, _⟩
    · cases h
      exact ⟨p, rfl, hF, by rw [if_neg (by decide)], ho.weak fun a _ h => by cases h⟩
    · cases h
    · cases h
  · rcases vals e with ⟨rfl, h⟩ | h | ⟨d', k, _, h, _⟩
    · rcases vals e2 with ⟨rfl, _⟩ | h' | ⟨d', k, _, h', _⟩
      · rfl
      · cases h'
      · cases h'
    · cases h
    · cases h
  · rcases vals e with ⟨_, h⟩ | h | ⟨d', k, _, h, _⟩ <;> cases h
theorem OwnAt.triv {N : Addr → Prop} {F H : Hp} {p : Addr} {o : O} (h : OwnAt K N F H p o) : OwnAt K Dl.triv F H p o := h.weak fun _ _ => True.intro
theorem ok_I {x qual : Str} {st : Stmt} {dvs : List V} {kws : List (Str × V)} {f : Addr} {fd : FuncData} {N ps : List Str} {k : Nat} {g : Ev → R Fl} (Fn : FunD K x qual (defArgs st) (defBody st) (defScope st) dvs kws f fd) (S : FnScope N ps (defScope st)) (hn : ps.length ≤ N.length)
    (hbody : ∀ (cdv : Value) (A : Around) (outer : List Env) (s : Shared) (H : Hp) (E : XK), Room k (A.deeper (envOfC qual (defScope st) s.heap.objs.size f cdv)) → Takes (cxOf (L2.CX P w) P w K mg base N qual (defScope st) f cdv A outer s H E) (wE E) →
      PDSs (cxOf (L2.CX P w) P w K mg base N qual (defScope st) f cdv A outer s H E) (wE E) (defBody st) g) :
    FnOk P w K mg base (L2.CX P w) (k + 1) f fd ps (spI K ps.length (fnI N.length g)) := by
  refine Fn.ok S (fun vs H Q E h => by obtain ⟨_, _, _, _, _, _, h, _⟩ := h; exact h) (fun cdv A outer s H vs Q E hr h => ?_)
  refine ⟨_, hbody cdv A outer s H E hr (takes_of rfl rfl rfl rfl), ?_⟩
  obtain ⟨p, ws, F, o, ds, rfl, hv, sF, hF, ho, r, h⟩ := h
  have hl := r.length
  simp only [List.length_cons] at hv
  have hsl : (L2.start N (.ref p :: ws)).length = N.length := by rw [start_eq]; simp; omega
  have slot0 : ∀ {F' H' : Hp} {σ' ts : L2.St} {ρ : Ev} {cs : List B} {o' : O}, σ'.length = N.length → Fit K (· = p) F H N.length F' H' (σ' ++ ts) (ρ ++ cs) → gb ρ 0 = .own false o' → F' p = none ∧ OwnAt K triv F' H' p o' := fun {F' H' σ' ts ρ cs o'} l1 f e => by
    obtain ⟨q, _, h2, h3, h4⟩ := f.own 0 false o' (get_app (gb_get e (by intro z; cases z)))
    rw [if_neg (by decide)] at h3
    cases h3
    exact ⟨h2, h4.triv⟩
  refine ⟨(· = p), F, H, F, .own false o :: (ds.map B.val ++ List.replicate (N.length - (ds.length + 1)) .un), [], [], by rw [hsl]; simp; omega, noAl_nil, ?_, ?_⟩
  · rw [hsl, List.append_nil, List.append_nil, start_eq]; exact fit_startI sF hF ho r (by omega)
  · rw [hsl]
    unfold fnI at h
    cases e : g (.own false o :: (ds.map B.val ++ List.replicate (N.length - (ds.length + 1)) .un)) with
    | no => rw [e] at h; exact h.elim
    | er C fs ρ =>
      rw [e] at h
      simp only at h
      intro F' H' σ' dd l1 _ f x
      cases e2 : gb ρ 0 with
      | own gg o' =>
        cases gg with
        | false =>
          rw [e2] at h
          obtain ⟨h1, h2⟩ := slot0 l1 f e2
          exact h F' H' dd f.done h1 h2 x
        | true => rw [e2] at h; exact h.elim
      | _ => rw [e2] at h; exact h.elim
    | ok fl ρ =>
      rw [e] at h
      cases fl with
      | nx =>
        simp only at h
        intro F' H' σ' l1 _ f
        cases e2 : gb ρ 0 with
        | own gg o' =>
          cases gg with
          | false =>
            rw [e2] at h
            obtain ⟨h1, h2⟩ := slot0 l1 f e2
            exact h F' H' .non (f.done.adds rep_non) h1 h2
          | true => rw [e2] at h; exact h.elim
        | _ => rw [e2] at h; exact h.elim
      | bk => exact h.elim
      | ct => exact h.elim
      | rt b =>
        intro F' H' σ' v l1 l2 f
        have f2 : Fit K (· = p) F H N.length F' H' (σ' ++ [some v]) (ρ ++ [b]) := f
        cases b with
        | un => exact h.elim
        | al j => exact h.elim
        | val d =>
          simp only at h
          cases e2 : gb ρ 0 with
          | own gg o' =>
            cases gg with
            | false =>
              rw [e2] at h
              obtain ⟨h1, h2⟩ := slot0 l1 f2 e2
              exact h F' H' v (f2.gives (by omega) True.intro) h1 h2
            | true => rw [e2] at h; exact h.elim
          | _ => rw [e2] at h; exact h.elim
        | own gg u =>
          cases gg with
          | false => exact h.elim
          | true =>
            simp only at h
            cases e2 : gb ρ 0 with
            | own gg o' =>
              cases gg with
              | false =>
                rw [e2] at h
                obtain ⟨h1, h2⟩ := slot0 l1 f2 e2
                exact h F' H' v (f2.gives (by omega) rfl) h1 h2
              | true => rw [e2] at h; exact h.elim
            | _ => rw [e2] at h; exact h.elim
end
end Dl
namespace Dl
open PySem PySem.Spec PyProof.Rows L2

/-! ### calls of the text's own defs -/
def outD (r : RD) (ρ : Ev) : R B := match r with
  | .ok b => .ok b ρ
  | .er C fs => .er C fs ρ
  | .no => .no
/-- f(a, ..): n parameters, dd what the defaults are -/
def dCall (n : Nat) (S : SD) (dd : List D) (fa : Ev → R (List B)) : Ev → R B := fun ρ => (fa ρ).bind fun bs ρ1 => match frzs ρ1 bs with
  | some (ds, ρ2) => if (ds ++ dd).length = n then outD (S (ds ++ dd)) ρ2 else .no
  | none => .no
/-- the def x of the text keeps its promise -/
structure FnF (P : Program) (w : World) (K : PySem.W.Frag) (mg : Str → Option Value) (base : Heap) (x : Str) (k n : Nat) (S : SD) (f : Addr) (fd : FuncData) (ps : List Str) : Prop where
  gl : mg x = some (.ref f)
  kp : PySem.W.keepIn K (.ref f) = true
  ok : FnOk P w K mg base (L2.CX P w) k f fd ps (spD K n S)
structure FnG (P : Program) (w : World) (K : PySem.W.Frag) (mg : Str → Option Value) (base : Heap) (x : Str) (k n : Nat) (S : SI) (f : Addr) (fd : FuncData) (ps : List Str) : Prop where
  gl : mg x = some (.ref f)
  kp : PySem.W.keepIn K (.ref f) = true
  ok : FnOk P w K mg base (L2.CX P w) k f fd ps (spI K n S)
section
variable {X : Cx} {W : WX} {K : PySem.W.Frag} {fa fk : Ev → R (List B)} {e : Expr} {es : List Expr} {x : Str} {p pos : Pos} {k n : Nat} {S : SD} {f : Addr} {fd : FuncData} {ps : List Str} {ds : List Value} {dvs : List V} {dd : List D}
theorem sp_call {M : Addr → Prop} {F0 H0 F1 H1 : Hp} {σ ts : L2.St} {τ : List B} {ρ2 : Ev} {zs : List V} {as : List D} {Q : VK} {E : XK} (hE : E = fun cls d H => W cls d σ H) (l3 : ρ2.length = σ.length) (hl : ts.length = τ.length) (f2 : Fit K M F0 H0 σ.length F1 H1 (σ ++ ts) (ρ2 ++ τ)) (r : Reps K F1 as zs) (hn : as.length = n)
    (go : Go K W M F0 H0 σ ts τ (outD (S as) ρ2) Q) : spD K n S zs H1 Q E := by
  subst hE
  refine ⟨by rw [← r.length]; exact hn, F1, as, f2.sub, r, ?_⟩
  cases e : S as with
  | no => rw [e] at go; exact go.elim
  | ok b => rw [e] at go; exact fun F' H' v a => go F' H' v l3 (Fit.res (js := []) (jb := []) (by simpa using f2) l3 hl a)
  | er C fs => rw [e] at go; exact fun F' H' dd g x => go F' H' dd l3 (f2.grw g) x
theorem Reps.appD {F : Hp} {as dd : List D} {zs dvs : List V} (r : Reps K F as zs) (hd : ∀ F, Reps K F dd dvs) : Reps K F (as ++ dd) (zs ++ dvs) := r.app (hd F)
theorem pd_call (h : FnF X.prog X.w X.K X.mg X.base x k n S f fd ps) (hb : Binds X.K fd ps ds) (hv : Vals dvs ds) (hd : ∀ F, Reps X.K F dd dvs) (hr : Room k X.A) (tk : Takes X W) (hg : Gl X x) (ha : PDA X W (e :: es) fa)
    (hdb : (x == ("__debug__" : Str)) = false := by decide) (he : starEach (e :: es) X.env = (false, eval e X.env) :: starEach es X.env := by rfl) (hpl : (backTo pos (starEach es X.env)).any (·.1) = false := by rfl) :
    PD X W (.Call (.Name x p) (e :: es) [] pos) (dCall n S dd fa) := by
  refine PD.of (pe_callSD h.ok hr hg h.gl h.kp hb hv (fun σ => passAt tk σ) ha hdb he hpl) fun σ H Q hh => ?_
  obtain ⟨M, F0, H0, F, ρ, ts, τ, l, ft, go⟩ := hh
  have hl := ft.lenT l
  refine ⟨M, F0, H0, F, ρ, ts, τ, l, ft, GoA.bind go (us := []) (cs := []) (by simp) (by simp) rfl fun bs ρ1 F1 H1 xs l1 l2 f1 go1 => ?_⟩
  cases e1 : frzs ρ1 bs with
  | none => rw [e1] at go1; exact go1.elim
  | some q =>
    obtain ⟨as, ρ2⟩ := q
    rw [e1] at go1
    simp only at go1
    obtain ⟨F2, s2, l3, f2, r2⟩ := f1.frzs bs xs _ _ _ _ _ _ l1 hl e1
    by_cases hn : (as ++ dd).length = n
    · rw [if_pos hn] at go1
      exact sp_call rfl l3 hl f2 (r2.appD hd) hn go1
    · rw [if_neg hn] at go1; exact go1.elim
/-- f() -/
def dCall0 (S : SD) (dd : List D) : Ev → R B := fun ρ => outD (S dd) ρ

/-! with an object that the callee changes: the first argument is the name of slot i -/
def sameDx (o o' : O) : Bool := match o with
  | .ins _ dx _ => match o' with
    | .ins _ dx' _ => dx == dx'
    | _ => false
  | _ => match o' with
    | .ins _ _ _ => false
    | _ => true
/-- f(x, a, ..), x's object changed -/
def dCallI (i : Nat) (n : Nat) (S : SI) (dd : List D) (fa : Ev → R (List B)) : Ev → R B := fun ρ => (fa ρ).bind fun bs ρ1 => match bs with
  | .al j :: bs => if j = i then match frzs ρ1 bs with
    | some (ds, ρ2) => if (ds ++ dd).length + 1 = n then match gb ρ2 i with
      | .own g o => match S o (ds ++ dd) with
        | .ok b o' => if sameDx o o' = true then .ok b (ρ2.set i (.own g o')) else .no
        | .er C fs o' => if sameDx o o' = true then .er C fs (ρ2.set i (.own g o')) else .no
        | .no => .no
      | _ => .no
      else .no
    | none => .no
    else .no
  | _ => .no
end
section
variable {K : PySem.W.Frag} {W : WX} {M : Addr → Prop} {F0 H0 F H F' H' : Hp} {n : Nat} {vs ws : L2.St} {bs cs : List B} {v : V} {b : B}
/-- behind a callee that changed the object of entry i -/
theorem Fit.turn (f : Fit K M F0 H0 n F H vs bs) {i : Nat} {g : Bool} {o o' : O} {p : Addr} (h : bs[i]? = some (.own g o)) (hv : vs[i]? = some (some (.ref p))) (gr : Grw (· = p) F H F' H') (hp : F' p = none) (ho : OwnAt K triv F' H' p o') (hs : sameDx o o' = true) : Fit K M F0 H0 n F' H' vs (bs.set i (.own g o')) := by
  obtain ⟨q, h1, h2, h3, h4⟩ := f.own i g o h
  rw [hv] at h1; cases h1
  have hi := lt_of_get h
  obtain ⟨x, hx, hno⟩ := h4.there
  obtain ⟨x', hx', hno'⟩ := ho.there
  have hn : OwnAt K (fun a => g = true → H0 a = none) F' H' p o' := by
    cases o' with
    | lst ds => exact ho
    | dk ds => exact ho
    | dt ds => exact ho
    | ins C dx fs =>
      cases o with
      | ins C' dx' fs' =>
        simp only [sameDx, beq_iff_eq] at hs
        subst hs
        obtain ⟨us, a1, a2, a3, a4, _⟩ := ho
        obtain ⟨_, _, _, _, _, a5⟩ := h4
        exact ⟨us, a1, a2, a3, a4, a5⟩
      | _ => cases hs
  have other : ∀ {j : Nat} {g' : Bool} {o1 : O}, j ≠ i → bs[j]? = some (B.own g' o1) → ∃ q, vs[j]? = some (some (V.ref q)) ∧ F' q = none ∧ (if g' = true then H0 q = none else M q) ∧ OwnAt K (fun a => g' = true → H0 a = none) F' H' q o1 := fun {j g' o1} hj e => by
    obtain ⟨q, q1, q2, q3, q4⟩ := f.own j g' o1 e
    have hqp : q ≠ p := fun z => by subst z; exact hj (f.dis j i g' g o1 o q e h q1 hv)
    obtain ⟨y, hy, _⟩ := q4.there
    exact ⟨q, q1, gr.new q q2 (by rw [hy]; simp), q3, q4.grow gr.sameF (fun w e => gr.same q w hqp e) (fun b e => gr.same b _ (fun z => by subst z; rw [e] at hx; cases hx; exact hno _ rfl) e) (fun _ z => z) fun b e1 e2 => gr.new b e2 (by rw [e1]; simp)⟩
  refine ⟨fun a w m e => ?_, f.subF0.trans gr.sameF, gr.sub, fun a e1 e2 => ?_, by simp [f.len], fun j d e => ?_, fun j g' o1 e => ?_, fun j k g1 g2 o1 o2 q e1 e2 e3 e4 => ?_, fun j k e => ?_, fun a m => ⟨(f.mem0 a m).1, ?_⟩⟩
  · refine gr.same a w (fun z => ?_) (f.sub0 a w m e)
    subst z
    cases g with
    | true => rw [if_pos rfl] at h3; rw [h3] at e; cases e
    | false => rw [if_neg (by decide)] at h3; exact m h3
  · refine gr.new a (f.new a e1 e2) fun z => ?_
    cases e3 : H0 a with
    | none => exact e2 e3
    | some w =>
      by_cases m : M a
      · exact (f.mem0 a m).2 z
      · rw [f.sub0 a w m e3] at z; cases z
  · rcases getElem?_set_cases e with ⟨rfl, e, _⟩ | ⟨hj, e1⟩
    · cases e
    · obtain ⟨w, q1, q2⟩ := f.val j d e1
      exact ⟨w, q1, Rep.mono gr.sameF _ _ q2⟩
  · rcases getElem?_set_cases e with ⟨rfl, e, _⟩ | ⟨hj, e1⟩
    · cases e; exact ⟨p, hv, hp, h3, hn⟩
    · exact other hj e1
  · have key : ∀ {j : Nat} {g1 : Bool} {o1 : O}, (bs.set i (.own g o'))[j]? = some (B.own g1 o1) → ∃ g2 o2, bs[j]? = some (B.own g2 o2) := fun {j g1 o1} e => by
      rcases getElem?_set_cases e with ⟨rfl, _, _⟩ | ⟨_, e1⟩
      · exact ⟨_, _, h⟩
      · exact ⟨_, _, e1⟩
    obtain ⟨a1, b1, k1⟩ := key e1
    obtain ⟨a2, b2, k2⟩ := key e2
    exact f.dis j k a1 a2 b1 b2 q k1 k2 e3 e4
  · rcases getElem?_set_cases e with ⟨rfl, e, _⟩ | ⟨_, e1⟩
    · cases e
    · exact f.al j k e1
  · by_cases z : a = p
    · subst z; rw [hx']; simp
    · cases e : H a with
      | none => exact absurd e (f.mem0 a m).2
      | some w => rw [gr.same a w z e]; simp
/-- .. and what it hands back -/
theorem Fit.turnV (f : Fit K M F0 H0 n F H vs bs) {i : Nat} {g : Bool} {o o' : O} {p : Addr} (h : bs[i]? = some (.own g o)) (hv : vs[i]? = some (some (.ref p))) (a : Adds K (· = p) F H F' H' v b) (hp : F' p = none) (ho : OwnAt K triv F' H' p o') (hs : sameDx o o' = true) : Fit K M F0 H0 n F' H' (vs ++ [some v]) (bs.set i (.own g o') ++ [b]) := by
  have f2 := f.turn h hv ⟨a.same, a.sameF, a.sub, a.new⟩ hp ho hs
  cases b with
  | un => exact a.res.elim
  | al j => exact a.res.elim
  | val d => exact f2.add ⟨fun _ _ _ h => h, Same.refl _, a.sub, fun _ h _ => h, a.res⟩
  | own gg u =>
    obtain ⟨hg, q, rfl, q1, q2, q3⟩ := a.res
    subst hg
    -- a new object: it is none of those that stood
    have hq0 : H0 q = none := f.out q2
    have hold : ∀ {k : Nat} {g1 : Bool} {o1 : O} {r : Addr}, (bs.set i (.own g o'))[k]? = some (B.own g1 o1) → vs[k]? = some (some (V.ref r)) → r ≠ q := fun {k g1 o1 r} e e' z => by
      subst z
      have : ∃ g2 o2, bs[k]? = some (B.own g2 o2) := by
        rcases getElem?_set_cases e with ⟨rfl, _, _⟩ | ⟨_, e1⟩
        · exact ⟨_, _, h⟩
        · exact ⟨_, _, e1⟩
      obtain ⟨g2, o2, e2⟩ := this
      obtain ⟨r', h1, _, _, h4⟩ := f.own k g2 o2 e2
      rw [e'] at h1; cases h1
      obtain ⟨y, hy, _⟩ := h4.there
      rw [q2] at hy; cases hy
    refine ⟨f2.sub0, f2.subF0, f2.sub, f2.new, by simp [f.len], fun k d e => ?_, fun k g1 o1 e => ?_, fun k l g1 g2 o1 o2 r e1 e2 e3 e4 => ?_, fun k l e => ?_, f2.mem0⟩
    · rcases getElem?_snoc e with e | ⟨_, e⟩
      · obtain ⟨w, h1, h2⟩ := f2.val k d e
        exact ⟨w, get_snoc h1, h2⟩
      · cases e
    · rcases getElem?_snoc e with e | ⟨rfl, e2⟩
      · obtain ⟨w, h1, h2⟩ := f2.own k g1 o1 e
        exact ⟨w, get_snoc h1, h2⟩
      · cases e2
        exact ⟨q, by rw [f2.len]; exact get_last _ _, q1, by rw [if_pos rfl]; exact hq0, q3.weak fun a h _ => f.out h⟩
    · have l2 := f2.len
      rcases getElem?_snoc e1 with e1 | ⟨rfl, c1⟩ <;> rcases getElem?_snoc e2 with e2 | ⟨rfl, c2⟩
      · rw [List.getElem?_append_left (by rw [← l2]; exact lt_of_get e1)] at e3
        rw [List.getElem?_append_left (by rw [← l2]; exact lt_of_get e2)] at e4
        exact f2.dis k l g1 g2 o1 o2 r e1 e2 e3 e4
      · rw [List.getElem?_append_left (by rw [← l2]; exact lt_of_get e1)] at e3
        rw [l2, get_last] at e4; cases e4
        exact absurd rfl (hold e1 e3)
      · rw [List.getElem?_append_left (by rw [← l2]; exact lt_of_get e2)] at e4
        rw [l2, get_last] at e3; cases e3
        exact absurd rfl (hold e2 e4)
      · rfl
    · rcases getElem?_snoc e with e | ⟨_, e⟩
      · obtain ⟨h1, h2⟩ := f2.al k l e
        have := lt_of_get e
        refine ⟨h1, ?_⟩
        have l2 := f2.len
        rw [List.getElem?_append_left (by omega), List.getElem?_append_left (by omega)]; exact h2
      · cases e
end
section
variable {X : Cx} {W : WX} {K : PySem.W.Frag} {fa fk : Ev → R (List B)} {e : Expr} {es : List Expr} {x : Str} {p pos : Pos} {k n : Nat} {S : SI} {f : Addr} {fd : FuncData} {ps : List Str} {ds : List Value} {dvs : List V} {dd : List D}
theorem sp_callI {M : Addr → Prop} {F0 H0 F1 H1 : Hp} {σ ts : L2.St} {τ : List B} {ρ2 : Ev} {zs : List V} {a : Addr} {as : List D} {Q : VK} {E : XK} {i : Nat} {g : Bool} {o : O} (hE : E = fun cls d H => W cls d σ H) (l3 : ρ2.length = σ.length) (hl : ts.length = τ.length) (f2 : Fit K M F0 H0 σ.length F1 H1 (σ ++ ts) (ρ2 ++ τ)) (r : Reps K F1 as zs) (hn : as.length + 1 = n)
    (hg : gb ρ2 i = .own g o) (hv : (σ ++ ts)[i]? = some (some (.ref a)))
    (go : Go K W M F0 H0 σ ts τ (match S o as with
        | .ok b o' => if sameDx o o' = true then .ok b (ρ2.set i (.own g o')) else .no
        | .er C fs o' => if sameDx o o' = true then .er C fs (ρ2.set i (.own g o')) else .no
        | .no => .no) Q) : spI K n S (.ref a :: zs) H1 Q E := by
  subst hE
  have hb := gb_get hg (by intro z; cases z)
  obtain ⟨q, h1, h2, h3, h4⟩ := f2.own i g o (get_app hb)
  rw [hv] at h1; cases h1
  have hil := lt_of_get hb
  refine ⟨a, zs, F1, o, as, rfl, by simp [← r.length, hn], f2.sub, h2, h4.triv, r, ?_⟩
  cases e : S o as with
  | no => rw [e] at go; exact go.elim
  | ok b o' =>
    rw [e] at go
    simp only at go
    by_cases hs : sameDx o o' = true
    · rw [if_pos hs] at go
      intro F' H' v ad hp ho
      have f3 := f2.turnV (get_app hb) hv ad hp ho hs
      rw [set_app hil, List.append_assoc, List.append_assoc] at f3
      exact go F' H' v (by simpa using l3) f3
    · rw [if_neg hs] at go; exact go.elim
  | er C fs o' =>
    rw [e] at go
    simp only at go
    by_cases hs : sameDx o o' = true
    · rw [if_pos hs] at go
      intro F' H' dd gr hp ho x
      have f3 := f2.turn (get_app hb) hv gr hp ho hs
      rw [set_app hil] at f3
      exact go F' H' dd (by simpa using l3) f3 x
    · rw [if_neg hs] at go; exact go.elim
theorem pd_callI (i : Nat) (h : FnG X.prog X.w X.K X.mg X.base x k n S f fd ps) (hb : Binds X.K fd ps ds) (hv : Vals dvs ds) (hd : ∀ F, Reps X.K F dd dvs) (hr : Room k X.A) (tk : Takes X W) (hg : Gl X x) (ha : PDA X W (e :: es) fa)
    (hdb : (x == ("__debug__" : Str)) = false := by decide) (he : starEach (e :: es) X.env = (false, eval e X.env) :: starEach es X.env := by rfl) (hpl : (backTo pos (starEach es X.env)).any (·.1) = false := by rfl) :
    PD X W (.Call (.Name x p) (e :: es) [] pos) (dCallI i n S dd fa) := by
  refine PD.of (pe_callSD h.ok hr hg h.gl h.kp hb hv (fun σ => passAt tk σ) ha hdb he hpl) fun σ H Q hh => ?_
  obtain ⟨M, F0, H0, F, ρ, ts, τ, l, ft, go⟩ := hh
  have hl := ft.lenT l
  refine ⟨M, F0, H0, F, ρ, ts, τ, l, ft, GoA.bind go (us := []) (cs := []) (by simp) (by simp) rfl fun bs ρ1 F1 H1 xs l1 l2 f1 go1 => ?_⟩
  cases bs with
  | nil => exact go1.elim
  | cons b bs =>
    cases b with
    | al j =>
      simp only at go1
      by_cases hj : j = i
      · rw [if_pos hj] at go1
        subst hj
        cases xs with
        | nil => cases l2
        | cons x0 xs =>
          have f1' : Fit X.K M F0 H0 σ.length F1 H1 (σ ++ ((ts ++ [some x0]) ++ xs.map some)) (ρ1 ++ ((τ ++ [.al j]) ++ bs)) := by simpa using f1
          cases e1 : frzs ρ1 bs with
          | none => rw [e1] at go1; exact go1.elim
          | some q =>
            obtain ⟨as, ρ2⟩ := q
            rw [e1] at go1
            simp only at go1
            obtain ⟨F2, s2, l3, f2, r2⟩ := f1'.frzs bs xs _ _ _ _ _ _ l1 (by simp [hl]) e1
            by_cases hn : (as ++ dd).length + 1 = n
            · rw [if_pos hn] at go1
              cases eg : gb ρ2 j with
              | own g o =>
                rw [eg] at go1
                have hbj := gb_get eg (by intro z; cases z)
                have hal := f2.al (ρ2.length + τ.length) j (get_mid _ _ _ _)
                obtain ⟨q, h1, _⟩ := f2.own j g o (get_app hbj)
                have hx0 : (σ ++ (ts ++ [some x0]))[ρ2.length + τ.length]? = some (some x0) := by rw [l3, ← hl]; exact get_mid _ _ _ _
                rw [hx0, h1] at hal
                have e0 := hal.2
                cases e0
                have f3 : Fit X.K M F0 H0 σ.length F2 H1 (σ ++ ts) (ρ2 ++ τ) := f2.less l3 hl
                have hjl := lt_of_get hbj
                have hv3 : (σ ++ ts)[j]? = some (some (V.ref q)) := by
                  rw [List.getElem?_append_left (by omega)] at h1 ⊢; exact h1
                exact sp_callI rfl l3 hl f3 (r2.appD hd) hn eg hv3 go1
              | un => rw [eg] at go1; exact go1.elim
              | val d => rw [eg] at go1; exact go1.elim
              | al m => rw [eg] at go1; exact go1.elim
            · rw [if_neg hn] at go1; exact go1.elim
      · rw [if_neg hj] at go1; exact go1.elim
    | un => exact go1.elim
    | val d => exact go1.elim
    | own g o => exact go1.elim
end
end Dl
namespace Dl
open PySem PySem.Spec PyProof.Rows L2

section
variable {K : PySem.W.Frag} {W : WX} {M : Addr → Prop} {F0 H0 F H F' H' : Hp} {n : Nat} {vs ws : L2.St} {bs cs : List B} {v : V} {b : B} {σ ts : L2.St} {τ : List B} {ρ : Ev}
/-- the object behind a name's entry -/
theorem Fit.ownOf (f : Fit K M F0 H0 n F H vs (ρ ++ bs)) {m j : Nat} {x : V} {g : Bool} {o : O} (hm : (ρ ++ bs)[m]? = some (.al j)) (hv : vs[m]? = some (some x)) (hg : gb ρ j = .own g o) :
    ∃ p, x = .ref p ∧ vs[j]? = some (some (.ref p)) ∧ F p = none ∧ OwnAt K (fun a => g = true → H0 a = none) F H p o := by
  obtain ⟨_, h2⟩ := f.al m j hm
  obtain ⟨p, q1, q2, q3, q4⟩ := f.own j g o (get_app (gb_get hg (by intro z; cases z)))
  rw [hv, q1] at h2
  cases h2
  exact ⟨p, rfl, q1, q2, q4⟩
/-- a slot's object written -/
theorem Fit.writeS (f : Fit K M F0 H0 σ.length F H (σ ++ ts) (ρ ++ τ)) {i : Nat} {g : Bool} {o o' : O} {p : Addr} {u : HO} (h : gb ρ i = .own g o) (hv : (σ ++ ts)[i]? = some (some (.ref p)))
    (hn : OwnAt K (fun a => g = true → H0 a = none) F (upd H p u) p o') (ho : ∀ q, u ≠ .own q) : Fit K M F0 H0 σ.length F (upd H p u) (σ ++ ts) (ρ.set i (.own g o') ++ τ) := by
  have hb := gb_get h (by intro z; cases z)
  have f2 := f.write (get_app hb) hv hn ho
  rw [set_app (lt_of_get hb)] at f2
  exact f2
end

/-! ### x[i] = e -/
def keyD : D → Option Key
  | .int i => some (.inl i)
  | .str x => some (.inr x)
  | _ => none
def keysD : List D → Option (List Key)
  | [] => some []
  | d :: ds => match keyD d, keysD ds with
    | some k, some ks => some (k :: ks)
    | _, _ => none
def putD {κ : Type} [DecidableEq κ] (kvs : List (κ × D)) (k : κ) (v : D) : List (κ × D) :=
  if (kvs.any fun kv => decide (kv.1 = k)) = true then kvs.map (fun kv => if kv.1 = k then (kv.1, v) else kv) else kvs ++ [(k, v)]
def setO (o : O) (i d : D) : Option O := match o with
  | .lst ds => match i with
    | .int k => match ixN ds.length k with
      | some m => some (.lst (ds.set m d))
      | none => none
    | _ => none
  | .dk kvs => match keyD i with
    | some k => if kvs.length < sizeLine then some (.dk (putD kvs k d)) else none
    | none => none
  | .dt kvs => match i with
    | .tup ks => match keysD ks with
      | some k => if kvs.length < sizeLine then some (.dt (putD kvs k d)) else none
      | none => none
    | _ => none
  | .ins _ _ _ => none
section
variable {K : PySem.W.Frag} {F H : Hp}
theorem keyD_v {d : D} {v : V} {k : Key} (h : Rep K F d v) (e : keyD d = some k) : v = kV k := by
  cases d <;> first | (cases e; done) | (simp only [Rep] at h; subst h; cases e; rfl)
theorem keyD_1 {d : D} {v : V} {k : Key} (h : Rep1 K F H d v) (e : keyD d = some k) : v = kV k := by
  cases d <;> first | (cases e; done) | (cases h; cases e; rfl)
theorem keysD_v : ∀ {ds : List D} {vs : List V} {ks : List Key}, Reps K F ds vs → keysD ds = some ks → vs = ks.map kV
  | [], vs, ks, h, e => by simp only [Reps] at h; subst h; cases e; rfl
  | d :: ds, vs, ks, h, e => by
    simp only [Reps] at h
    obtain ⟨v, r, rfl, h1, h2⟩ := h
    unfold keysD at e
    cases e1 : keyD d with
    | none => rw [e1] at e; cases e
    | some k =>
      cases e2 : keysD ds with
      | none => rw [e1, e2] at e; cases e
      | some kr => rw [e1, e2] at e; cases e; rw [keyD_v h1 e1, keysD_v h2 e2]; rfl
theorem RepK.length {ds : List (Key × D)} : ∀ {vs : List (Key × V)}, RepK K F ds vs → ds.length = vs.length := by
  induction ds with
  | nil => intro vs h; simp only [RepK] at h; subst h; rfl
  | cons p ds ih => intro vs h; obtain ⟨k, d⟩ := p; simp only [RepK] at h; obtain ⟨v, r, rfl, _, h2⟩ := h; simp [ih h2]
theorem RepT.length {ds : List (List Key × D)} : ∀ {vs : List (List Key × V)}, RepT K F ds vs → ds.length = vs.length := by
  induction ds with
  | nil => intro vs h; simp only [RepT] at h; subst h; rfl
  | cons p ds ih => intro vs h; obtain ⟨k, d⟩ := p; simp only [RepT] at h; obtain ⟨v, r, rfl, _, h2⟩ := h; simp [ih h2]
theorem RepK.any {k : Key} {ds : List (Key × D)} : ∀ {vs : List (Key × V)}, RepK K F ds vs → (ds.any fun kv => decide (kv.1 = k)) = (vs.any fun kv => decide (kv.1 = k)) := by
  induction ds with
  | nil => intro vs h; simp only [RepK] at h; subst h; rfl
  | cons p ds ih => intro vs h; obtain ⟨k, d⟩ := p; simp only [RepK] at h; obtain ⟨v, r, rfl, _, h2⟩ := h; simp only [List.any_cons, ih h2]
theorem RepT.any {k : List Key} {ds : List (List Key × D)} : ∀ {vs : List (List Key × V)}, RepT K F ds vs → (ds.any fun kv => decide (kv.1 = k)) = (vs.any fun kv => decide (kv.1 = k)) := by
  induction ds with
  | nil => intro vs h; simp only [RepT] at h; subst h; rfl
  | cons p ds ih => intro vs h; obtain ⟨k, d⟩ := p; simp only [RepT] at h; obtain ⟨v, r, rfl, _, h2⟩ := h; simp only [List.any_cons, ih h2]
theorem RepK.mapP {k : Key} {d : D} {v : V} (hv : Rep K F d v) {ds : List (Key × D)} : ∀ {vs : List (Key × V)}, RepK K F ds vs → RepK K F (ds.map fun kv => if kv.1 = k then (kv.1, d) else kv) (vs.map fun kv => if kv.1 = k then (kv.1, v) else kv) := by
  induction ds with
  | nil => intro vs h; simp only [RepK] at h; subst h; simp only [List.map_nil, RepK]
  | cons p ds ih =>
    intro vs h; obtain ⟨k', d'⟩ := p; simp only [RepK] at h; obtain ⟨v', r, rfl, h1, h2⟩ := h
    simp only [List.map_cons]
    by_cases e : k' = k
    · rw [if_pos e, if_pos e]; simp only [RepK]; exact ⟨v, _, rfl, hv, ih h2⟩
    · rw [if_neg e, if_neg e]; simp only [RepK]; exact ⟨v', _, rfl, h1, ih h2⟩
theorem RepT.mapP {k : List Key} {d : D} {v : V} (hv : Rep K F d v) {ds : List (List Key × D)} : ∀ {vs : List (List Key × V)}, RepT K F ds vs → RepT K F (ds.map fun kv => if kv.1 = k then (kv.1, d) else kv) (vs.map fun kv => if kv.1 = k then (kv.1, v) else kv) := by
  induction ds with
  | nil => intro vs h; simp only [RepT] at h; subst h; simp only [List.map_nil, RepT]
  | cons p ds ih =>
    intro vs h; obtain ⟨k', d'⟩ := p; simp only [RepT] at h; obtain ⟨v', r, rfl, h1, h2⟩ := h
    simp only [List.map_cons]
    by_cases e : k' = k
    · rw [if_pos e, if_pos e]; simp only [RepT]; exact ⟨v, _, rfl, hv, ih h2⟩
    · rw [if_neg e, if_neg e]; simp only [RepT]; exact ⟨v', _, rfl, h1, ih h2⟩
theorem RepK.snoc {k : Key} {d : D} {v : V} (hv : Rep K F d v) {ds : List (Key × D)} : ∀ {vs : List (Key × V)}, RepK K F ds vs → RepK K F (ds ++ [(k, d)]) (vs ++ [(k, v)]) := by
  induction ds with
  | nil => intro vs h; simp only [RepK] at h; subst h; simp only [List.nil_append, RepK]; exact ⟨v, [], rfl, hv, rfl⟩
  | cons p ds ih => intro vs h; obtain ⟨k', d'⟩ := p; simp only [RepK] at h; obtain ⟨v', r, rfl, h1, h2⟩ := h; simp only [List.cons_append, RepK]; exact ⟨v', _, rfl, h1, ih h2⟩
theorem RepT.snoc {k : List Key} {d : D} {v : V} (hv : Rep K F d v) {ds : List (List Key × D)} : ∀ {vs : List (List Key × V)}, RepT K F ds vs → RepT K F (ds ++ [(k, d)]) (vs ++ [(k, v)]) := by
  induction ds with
  | nil => intro vs h; simp only [RepT] at h; subst h; simp only [List.nil_append, RepT]; exact ⟨v, [], rfl, hv, rfl⟩
  | cons p ds ih => intro vs h; obtain ⟨k', d'⟩ := p; simp only [RepT] at h; obtain ⟨v', r, rfl, h1, h2⟩ := h; simp only [List.cons_append, RepT]; exact ⟨v', _, rfl, h1, ih h2⟩
theorem RepK.put {k : Key} {d : D} {v : V} (hv : Rep K F d v) {ds : List (Key × D)} {vs : List (Key × V)} (h : RepK K F ds vs) : RepK K F (putD ds k d) (putK vs k v) := by
  unfold putD putK
  rw [h.any]
  split
  · exact h.mapP hv
  · exact h.snoc hv
theorem RepT.put {k : List Key} {d : D} {v : V} (hv : Rep K F d v) {ds : List (List Key × D)} {vs : List (List Key × V)} (h : RepT K F ds vs) : RepT K F (putD ds k d) (putK vs k v) := by
  unfold putD putK
  rw [h.any]
  split
  · exact h.mapP hv
  · exact h.snoc hv
theorem Reps.set {d : D} {v : V} (hv : Rep K F d v) : ∀ {ds : List D} {xs : List V} (m : Nat), Reps K F ds xs → Reps K F (ds.set m d) (xs.set m v)
  | [], xs, m, h => by simp only [Reps] at h; subst h; simp only [List.set_nil, Reps]
  | d' :: ds, xs, 0, h => by simp only [Reps] at h; obtain ⟨v', r, rfl, h1, h2⟩ := h; simp only [List.set_cons_zero, Reps]; exact ⟨v, r, rfl, hv, h2⟩
  | d' :: ds, xs, m + 1, h => by simp only [Reps] at h; obtain ⟨v', r, rfl, h1, h2⟩ := h; simp only [List.set_cons_succ, Reps]; exact ⟨v', _, rfl, h1, Reps.set hv m h2⟩
theorem psetOr {X : Cx} {t t' : TSet} (h : PSet X t) (h' : PSet X t') : PSet X (fun o i v H Q => t o i v H Q ∨ t' o i v H Q) := fun pins s σ H o i v ov iv u Q I ro ri rv q => by
  rcases q with q | q
  · exact h pins s σ H o i v ov iv u Q I ro ri rv q
  · exact h' pins s σ H o i v ov iv u Q I ro ri rv q
theorem setO_ok {N : Addr → Prop} {p : Addr} {o o' : O} {i d : D} {iv v : V} {Q : Hp → Prop} (s : Same F H) (hF : F p = none) (ho : OwnAt K N F H p o) (hi : Rep1 K F H i iv) (hv : Rep K F d v) (e : setO o i d = some o')
    (hq : ∀ u, OwnAt K N F (upd H p u) p o' → (∀ q, u ≠ .own q) → Q (upd H p u)) : rSetL (.ref p) iv v H Q ∨ rSetD (.ref p) iv v H Q := by
  cases o with
  | lst ds =>
    obtain ⟨vs, h1, h2⟩ := ho
    unfold setO at e
    cases i with
    | int k =>
      cases hi
      simp only at e
      cases e1 : ixN ds.length k with
      | none => rw [e1] at e; cases e
      | some m =>
        rw [e1] at e; cases e
        rw [h2.length] at e1
        exact .inl ⟨p, vs, k, m, rfl, rfl, h1, e1, hq _ ⟨_, upd_same, h2.set hv m⟩ (fun _ z => nomatch z)⟩
    | _ => cases e
  | dk kvs =>
    obtain ⟨us, h1, h2⟩ := ho
    unfold setO at e
    simp only at e
    cases e1 : keyD i with
    | none => rw [e1] at e; cases e
    | some k =>
      rw [e1] at e
      simp only at e
      split at e
      · cases e; rename_i hz
        refine .inr ⟨p, _, rfl, .inl ⟨us, k, h1, keyD_1 hi e1, by rw [← h2.length]; exact hz, rfl⟩, hq _ ⟨_, upd_same, h2.put hv⟩ (fun _ z => nomatch z)⟩
      · cases e
  | dt kvs =>
    obtain ⟨us, h1, h2⟩ := ho
    unfold setO at e
    cases i with
    | tup ks =>
      simp only at e
      cases e1 : keysD ks with
      | none => rw [e1] at e; cases e
      | some k =>
        rw [e1] at e
        simp only at e
        split at e
        · cases e; rename_i hz
          obtain ⟨a, ws, rfl, h3, h4⟩ := hi
          have h5 := keysD_v h4 e1
          subst h5
          refine .inr ⟨p, _, rfl, .inr ⟨us, k, a, h1, rfl, s _ _ h3, by rw [← h2.length]; exact hz, rfl⟩, hq _ ⟨_, upd_same, h2.put hv⟩ (fun _ z => nomatch z)⟩
        · cases e
    | _ => cases e
  | ins C dx fs => cases e
end
/-- where x[i] = e stores: the name's object -/
def stItem (v o i : B) (ρ : Ev) : R Fl := match o with
  | .al j => match frz1 ρ v with
    | some (d, ρ1) => match look ρ1 i with
      | some k => match gb ρ1 j with
        | .own g ob => match setO ob k d with
          | some o' => .ok .nx (ρ1.set j (.own g o'))
          | none => .no
        | _ => .no
      | none => .no
    | none => .no
  | _ => .no
def sStore (fv fo fi : Ev → R B) : Ev → R Fl := fun ρ => (fv ρ).bind fun v ρ1 => (fo ρ1).bind fun o ρ2 => (fi ρ2).bind fun i ρ3 => stItem v o i ρ3
section
variable {X : Cx} {W : WX} {K : PySem.W.Frag} {fv fo fi : Ev → R B} {e o i : Expr} {pos pos' : Pos}
theorem ps_storeD (hu : X.A.units + 1 < cLine) (he : PD X W e fv) (ho : PD X W o fo) (hi : PD X W i fi) (hs : swapsWithSole [.Subscript o i pos'] e pos.line X.env = pure false := by rfl) (hw : swappedStores [.Subscript o i pos'] e X.env = pure none := by rfl)
    (h1 : (assignEach [.Subscript o i pos'] X.env).map (·.2) = [assign (.Subscript o i pos') X.env] := by rfl)
    (ha : ∀ v, assign (.Subscript o i pos') X.env v = (do
      let ov ← holding [v] (eval o X.env)
      let iv ← holding [v, ov] (eval i X.env)
      standAt pos'
      holding [v, ov, iv] (setItem ov iv v)
      release [v, ov, iv] []) := by intro _; rfl) : PDS X W (.Assign [.Subscript o i pos'] e pos) (sStore fv fo fi) := by
  refine PS.imp (ps_asg he (pg_sub ho hi (psetOr set_list (set_dict hu)) ha) hs hw h1) fun D σ H hq => ?_
  obtain ⟨M, F0, H0, F, ρ, ts, τ, l, na, ft, go⟩ := hq
  have hl := ft.lenT l
  refine ⟨M, F0, H0, F, ρ, ts, τ, l, ft, Go.bindS go fun b ρ1 F1 H1 x l1 f1 go1 => ?_⟩
  refine ⟨M, F0, H0, F1, ρ1, ts ++ [some x], τ ++ [b], l1, f1, ?_⟩
  cases e2 : fo ρ1 with
  | no => rw [e2] at go1; exact go1.elim
  | er C fs ρ2 =>
    rw [e2] at go1
    intro F' H' dd l f x
    rw [← List.append_assoc, ← List.append_assoc] at f
    exact go1 F' H' σ dd rfl l (f.drop (by simp; omega)) x
  | ok c ρ2 =>
    rw [e2] at go1
    intro F2 H2 y l2 f2
    refine ⟨M, F0, H0, F2, ρ2, ts ++ [some x] ++ [some y], τ ++ [b] ++ [c], l2, by simpa only [List.append_assoc] using f2, ?_⟩
    have go1 : GoS X.K W M F0 H0 σ.length ts τ ((fi ρ2).bind fun i ρ3 => stItem b c i ρ3) D := go1
    cases e3 : fi ρ2 with
    | no => rw [e3] at go1; exact go1.elim
    | er C fs ρ3 =>
      rw [e3] at go1
      intro F' H' dd l f xe
      have f2 : Fit X.K M F0 H0 σ.length F' H' (σ ++ (ts ++ [some x, some y])) (ρ3 ++ (τ ++ [b, c])) := by simpa only [List.append_assoc, List.cons_append, List.nil_append] using f
      exact go1 F' H' σ dd rfl l (f2.less l hl) xe
    | ok d ρ3 =>
      rw [e3] at go1
      intro F3 H3 z l3 f3
      have go1 : GoS X.K W M F0 H0 σ.length ts τ (stItem b c d ρ3) D := go1
      unfold stItem at go1
      cases c with
      | al j =>
        simp only at go1
        cases e4 : frz1 ρ3 b with
        | none => rw [e4] at go1; exact go1.elim
        | some q =>
          obtain ⟨dv, ρ4⟩ := q
          rw [e4] at go1
          simp only at go1
          have f3' : Fit X.K M F0 H0 σ.length F3 H3 (σ ++ (ts ++ (some x :: [y, z].map some))) (ρ3 ++ (τ ++ (b :: [.al j, d]))) := by simpa using f3
          obtain ⟨F4, b', s4, l4, f4, r4⟩ := f3'.frz1 l3 hl e4
          cases e5 : look ρ4 d with
          | none => rw [e5] at go1; exact go1.elim
          | some k =>
            rw [e5] at go1
            simp only at go1
            cases e6 : gb ρ4 j with
            | own g ob =>
              rw [e6] at go1
              simp only at go1
              cases e7 : setO ob k dv with
              | none => rw [e7] at go1; exact go1.elim
              | some o' =>
                rw [e7] at go1
                have g1 : Fit X.K M F0 H0 σ.length F4 H3 (σ ++ ((ts ++ [some x]) ++ [some y, some z])) (ρ4 ++ ((τ ++ [b']) ++ [.al j, d])) := by simpa using f4
                have g2 : Fit X.K M F0 H0 σ.length F4 H3 (σ ++ ((ts ++ [some x, some y]) ++ [some z])) (ρ4 ++ ((τ ++ [b', .al j]) ++ [d])) := by simpa using f4
                obtain ⟨p, rfl, hv, hF, hO⟩ := g1.ownOf (m := ρ4.length + (τ ++ [b']).length) (get_mid _ _ _ _) (by rw [l4, show (τ ++ [b']).length = (ts ++ [some x]).length by simp [hl]]; exact get_mid _ _ _ _) e6
                have hk := g2.looks (n := ρ4.length + (τ ++ [b', .al j]).length) (get_mid _ _ _ _) (by rw [l4, show (τ ++ [b', B.al j]).length = (ts ++ [some x, some (V.ref p)]).length by simp [hl]]; exact get_mid _ _ _ _) e5
                refine setO_ok f4.sub hF hO hk r4 e7 fun u hO' hu' => ?_
                have hjl := lt_of_get (gb_get e6 (by intro z; cases z))
                have f5 : Fit X.K M F0 H0 σ.length F4 H3 (σ ++ ts) (ρ4 ++ τ) := f4.less l4 hl
                have hv5 : (σ ++ ts)[j]? = some (some (V.ref p)) := by
                  rw [List.getElem?_append_left (by omega)] at hv ⊢; exact hv
                exact go1 F4 _ σ rfl (by simpa using l4) (f5.writeS e6 hv5 hO' hu')
            | un => rw [e6] at go1; exact go1.elim
            | val d => rw [e6] at go1; exact go1.elim
            | al m => rw [e6] at go1; exact go1.elim
      | un => exact go1.elim
      | val _ => exact go1.elim
      | own _ _ => exact go1.elim
end
end Dl
namespace Dl
open PySem PySem.Spec PyProof.Rows L2

/-! ### x, y = a, b; x += e -/
/-- an entry taken out of its place: a frozen value or an object of its own -/
def own1 (b : B) (ρ : Ev) : Option (B × Ev) := match b with
  | .val d => some (.val d, ρ)
  | .own true o => some (.own true o, ρ)
  | .al j => match frz1 ρ (.al j) with
    | some (d, ρ1) => some (.val d, ρ1)
    | none => none
  | _ => none
def sPar (i j : Nat) (fa : Ev → R (List B)) : Ev → R Fl := fun ρ => (fa ρ).bind fun bs ρ1 => match bs with
  | [a, b] => match own1 a ρ1 with
    | some (a', ρ2) => match own1 b ρ2 with
      | some (b', ρ3) => .ok .nx ((ρ3.set j b').set i a')
      | none => .no
    | none => .no
  | _ => .no
def sPar3 (i j l : Nat) (fa : Ev → R (List B)) : Ev → R Fl := fun ρ => (fa ρ).bind fun bs ρ1 => match bs with
  | [a, b, c] => match own1 a ρ1 with
    | some (a', ρ2) => match own1 b ρ2 with
      | some (b', ρ3) => match own1 c ρ3 with
        | some (c', ρ4) => .ok .nx (((ρ4.set l c').set j b').set i a')
        | none => .no
      | none => .no
    | none => .no
  | _ => .no
section
variable {K : PySem.W.Frag} {W : WX} {M : Addr → Prop} {F0 H0 F H F' H' : Hp} {n : Nat} {vs ws : L2.St} {bs cs : List B} {v : V} {b : B} {σ ts : L2.St} {τ : List B} {ρ : Ev}
theorem Fit.valAt (f : Fit K M F0 H0 n F H vs bs) {m : Nat} {x : V} {d : D} (hv : vs[m]? = some (some x)) (r : Rep K F d x) : Fit K M F0 H0 n F H vs (bs.set m (.val d)) := by
  refine ⟨f.sub0, f.subF0, f.sub, f.new, by simp [f.len], fun j e e1 => ?_, fun j g o' e => ?_, fun j k g g' o1 o2 q e1 e2 e3 e4 => ?_, fun j k e => ?_, f.mem0⟩
  · rcases getElem?_set_cases e1 with ⟨rfl, e, _⟩ | ⟨hj, e1⟩
    · cases e; exact ⟨x, hv, r⟩
    · exact f.val j e e1
  · rcases getElem?_set_cases e with ⟨rfl, e, _⟩ | ⟨hj, e1⟩
    · cases e
    · exact f.own j g o' e1
  · rcases getElem?_set_cases e1 with ⟨rfl, e, _⟩ | ⟨_, e1⟩
    · cases e
    · rcases getElem?_set_cases e2 with ⟨rfl, e, _⟩ | ⟨_, e2⟩
      · cases e
      · exact f.dis j k g g' o1 o2 q e1 e2 e3 e4
  · rcases getElem?_set_cases e with ⟨rfl, e, _⟩ | ⟨_, e1⟩
    · cases e
    · exact f.al j k e1
theorem Fit.take1 {b b' : B} {x : V} {bs : List B} {xs : List V} {ρ' : Ev} (f : Fit K M F0 H0 σ.length F H (σ ++ (ts ++ (some x :: xs.map some))) (ρ ++ (τ ++ (b :: bs)))) (l : ρ.length = σ.length) (hl : ts.length = τ.length)
    (h : Dl.own1 b ρ = some (b', ρ')) : ∃ F', Same F F' ∧ ρ'.length = σ.length ∧ (∀ j, b' ≠ .al j) ∧ Fit K M F0 H0 σ.length F' H (σ ++ (ts ++ (some x :: xs.map some))) (ρ' ++ (τ ++ (b' :: bs))) := by
  cases b with
  | un => cases h
  | val d => cases h; exact ⟨F, Same.refl F, l, (fun j z => by cases z), f⟩
  | own g o =>
    cases g with
    | false => cases h
    | true => cases h; exact ⟨F, Same.refl F, l, (fun j z => by cases z), f⟩
  | al i =>
    simp only [Dl.own1] at h
    cases e : Dl.frz1 ρ (.al i) with
    | none => rw [e] at h; cases h
    | some q =>
      obtain ⟨d, ρ1⟩ := q
      rw [e] at h; cases h
      obtain ⟨F', b', s, l1, f1, r⟩ := f.frz1 l hl e
      refine ⟨F', s, l1, (fun j z => by cases z), ?_⟩
      have f2 := f1.valAt (m := ρ'.length + τ.length) (by rw [l1, ← hl]; exact get_mid _ _ _ _) r
      rw [set_mid] at f2
      exact f2
end
section
variable {X : Cx} {W : WX} {K : PySem.W.Frag} {fa : Ev → R (List B)} {f : Ev → R B} {a b c e : Expr} {x y z : Str} {px py pz pt pos pos' : Pos} {kt k2 : Nat} {pt2 : Pos}
theorem noAl_put {τ : List B} {b : B} (na : NoAl τ) (hb : ∀ j, b ≠ .al j) : NoAl (τ ++ [b]) := fun j k e => by
  rcases getElem?_snoc e with e | ⟨_, e⟩
  · exact na j k e
  · exact hb k e.symm
theorem ps_parD (i j : Nat) (hc : X.calm = true) (hN : X.N.Nodup) (hi : X.N[i]? = some x) (hj : X.N[j]? = some y) (hij : i ≠ j)
    (hx : X.env.scope.names.lookup x = some .local) (hy : X.env.scope.names.lookup y = some .local) (ha : PDA X W [a, b] fa)
    (hw : swappedStores [.Tuple [.Name x px, .Name y py] kt pt] (.Tuple [a, b] k2 pt2) X.env = pure (some [x, y]))
    (hs : swapsWithSole [.Tuple [.Name x px, .Name y py] kt pt] (.Tuple [a, b] k2 pt2) pos.line X.env = pure false := by rfl) :
    PDS X W (.Assign [.Tuple [.Name x px, .Name y py] kt pt] (.Tuple [a, b] k2 pt2) pos) (sPar i j fa) := ⟨fun pins s σ H D I h => (ps_par hc hN hi hj hij hx hy ha hw hs).run pins s σ H D I (by
  obtain ⟨M, F0, H0, F, ρ, ts, τ, l, na, ft, go⟩ := h
  have hl := ft.lenT l
  have hi' : i < σ.length := by rw [I.len]; exact lt_of_get hi
  have hj' : j < σ.length := by rw [I.len]; exact lt_of_get hj
  refine ⟨M, F0, H0, F, ρ, ts, τ, l, ft, GoA.bindS go fun bs ρ1 F1 H1 xs l1 l2 f1 go1 => ?_⟩
  match bs, xs, l2 with
  | [], [], _ => exact go1.elim
  | [_], [_], _ => exact go1.elim
  | _ :: _ :: _ :: _, _ :: _ :: _ :: _, _ => exact go1.elim
  | [b1, b2], [x1, x2], _ =>
    refine ⟨x1, x2, rfl, ?_⟩
    simp only at go1
    cases e1 : own1 b1 ρ1 with
    | none => rw [e1] at go1; exact go1.elim
    | some q =>
      obtain ⟨c1, ρ2⟩ := q
      rw [e1] at go1
      simp only at go1
      cases e2 : own1 b2 ρ2 with
      | none => rw [e2] at go1; exact go1.elim
      | some q =>
        obtain ⟨c2, ρ3⟩ := q
        rw [e2] at go1
        obtain ⟨F2, s2, l3, n1, f2⟩ := Fit.take1 (xs := [x2]) f1 l1 hl e1
        have f2' : Fit X.K M F0 H0 σ.length F2 H1 (σ ++ ((ts ++ [some x1]) ++ (some x2 :: ([] : List V).map some))) (ρ2 ++ ((τ ++ [c1]) ++ (b2 :: []))) := by simpa using f2
        obtain ⟨F3, s3, l4, n2, f3⟩ := Fit.take1 (xs := []) f2' l3 (by simp [hl]) e2
        have f4 := Fit.put (ts := ts ++ [some x1]) (τ := τ ++ [c1]) f3 l4 (noAl_put na n1) n2 hj'
        have hlen : (σ.set j (some x2)).length = σ.length := by simp
        have f5 := Fit.put (σ := σ.set j (some x2)) (ρ := ρ3.set j c2) (by rw [hlen]; exact f4) (by simp [l4]) na n1 (i := i) (by simpa using hi')
        rw [hlen] at f5
        rw [List.set_comm _ _ hij]
        exact go1 F3 H1 _ (by simp) (by simp [l4]) f5)⟩
/-- x += e, of whole numbers -/
def augD (op : Int → Int → Int) (i : Nat) (f : Ev → R B) : Ev → R Fl := fun ρ => match gb ρ i with
  | .val (.int k) => (f ρ).bind fun b ρ1 => match look ρ1 b with
    | some (.int m) => .ok .nx (ρ1.set i (.val (.int (op k m))))
    | _ => .no
  | _ => .no
def Ip (X : Cx) (op : Operator) (g : Int → Int → Int) : Prop := PIp X op (ipI g)
theorem ip_addD : Ip X .Add (· + ·) := ip_add
theorem ip_subD : Ip X .Sub (· - ·) := ip_sub
theorem ps_augD {op : Operator} {g : Int → Int → Int} (i : Nat) (hN : X.N.Nodup) (hi : X.N[i]? = some x) (hx : Loc X.env.scope x) (he : PD X W e f) (ho : Ip X op g) (hf : X.fn x = true ∨ X.env.scope.names.lookup x = some .local := by first | exact .inl rfl | exact .inr rfl | assumption) :
    PDS X W (.AugAssign (.Name x pos') op e pos) (augD g i f) := ⟨fun pins s σ H D I h => (ps_aug hN hi hx he ho hf).run pins s σ H D I (by
  obtain ⟨M, F0, H0, F, ρ, ts, τ, l, na, ft, go⟩ := h
  have hl := ft.lenT l
  have hi' : i < σ.length := by rw [I.len]; exact lt_of_get hi
  unfold augD at go
  cases e1 : gb ρ i with
  | val d =>
    cases d with
    | int k =>
      rw [e1] at go
      simp only at go
      have hb := gb_get e1 (by intro z; cases z)
      obtain ⟨v, h1, h2⟩ := ft.val i _ (get_app hb)
      simp only [Rep] at h2
      subst h2
      rw [List.getElem?_append_left hi'] at h1
      refine ⟨_, h1, M, F0, H0, F, ρ, ts, τ, l, ft, Go.bindS go fun b ρ1 F1 H1 x l1 f1 go1 => ?_⟩
      cases e2 : look ρ1 b with
      | none => rw [e2] at go1; exact go1.elim
      | some d2 =>
        rw [e2] at go1
        cases d2 with
        | int m =>
          have r := f1.looks (n := σ.length + ts.length) (by rw [← l1, hl]; exact get_mid _ _ _ []) (get_last2 _ _ _) e2
          cases r
          refine ⟨k, m, rfl, rfl, ?_⟩
          have f2 : Fit X.K M F0 H0 σ.length F1 H1 (σ ++ (ts ++ [some (V.int (g k m))])) (ρ1 ++ (τ ++ [.val (.int (g k m))])) := Fit.res f1 l1 hl (Adds.val0 f1.sub rep_int)
          exact go1 F1 H1 _ (by simp) (by simpa using l1) (f2.put l1 na (fun j z => by cases z) hi')
        | _ => exact go1.elim
    | _ => rw [e1] at go; exact go.elim
  | un => rw [e1] at go; exact go.elim
  | al j => rw [e1] at go; exact go.elim
  | own g' o => rw [e1] at go; exact go.elim)⟩
end
end Dl
namespace Dl
open PySem PySem.Spec PyProof.Rows L2

/-! ### x.m(..) of a built-in's method that changes the object of a name -/
def isT (T : String) : O → Bool
  | .lst _ => T == "list"
  | .dk _ => T == "dict"
  | .dt _ => T == "dict"
  | .ins _ _ _ => false
def dMut (T : String) (m : O → List D → Option (D × O)) (fo : Ev → R B) (fa : Ev → R (List B)) : Ev → R B := fun ρ => (fo ρ).bind fun o ρ1 => match o with
  | .al j => match gb ρ1 j with
    | .own _ o1 => if isT T o1 = true then (fa ρ1).bind fun bs ρ2 => match frzs ρ2 bs with
      | some (ds, ρ3) => match gb ρ3 j with
        | .own g ob => match m ob ds with
          | some (d, o') => .ok (.val d) (ρ3.set j (.own g o'))
          | none => .no
        | _ => .no
      | none => .no
      else .no
    | _ => .no
  | _ => .no
def Mut (K : PySem.W.Frag) (r : V → List V → Hp → VK → Prop) (m : O → List D → Option (D × O)) : Prop := ∀ (F H : Hp) (N : Addr → Prop) (p : Addr) (xs : List V) (ds : List D) (o o' : O) (d : D) (Q : VK), Same F H → F p = none → OwnAt K N F H p o → Reps K F ds xs → m o ds = some (d, o') →
  (∀ u v, OwnAt K N F (upd H p u) p o' → (∀ q, u ≠ .own q) → Rep K F d v → Q v (upd H p u)) → r (.ref p) xs H Q
structure MutM (X : Cx) (T : String) (name : Str) (m : O → List D → Option (D × O)) : Prop where
  ex : ∃ id r, PlainAttrs T ∧ Slot T name id ∧ typeOf (.builtin id) = pure (.type "method_descriptor") ∧ MtR X id r ∧ Mut X.K r m
section
variable {K : PySem.W.Frag} {F H : Hp}
theorem isT_ty {N : Addr → Prop} {p : Addr} {o : O} {T : String} (h : OwnAt K N F H p o) (e : isT T o = true) : tyV K T (.ref p) H := by
  cases o with
  | lst ds => obtain ⟨vs, h1, _⟩ := h; simp only [isT, beq_iff_eq] at e; exact .inl ⟨e, vs, .inl (.inl h1)⟩
  | dk ds => obtain ⟨vs, h1, _⟩ := h; simp only [isT, beq_iff_eq] at e; exact .inr (.inr (.inl ⟨e, .inl ⟨vs, h1⟩⟩))
  | dt ds => obtain ⟨vs, h1, _⟩ := h; simp only [isT, beq_iff_eq] at e; exact .inr (.inr (.inl ⟨e, .inr ⟨vs, h1⟩⟩))
  | ins C dx fs => cases e
end
section
variable {X : Cx} {W : WX} {fo : Ev → R B} {fa : Ev → R (List B)} {o e : Expr} {es : List Expr} {T : String} {name : Str} {m : O → List D → Option (D × O)} {apos cpos : Pos}
theorem tE_mut {r : V → List V → Hp → VK → Prop} (mu : Mut X.K r m) (σ : L2.St) (H : Hp) (Q : VK) (hq : tE X.K W (dMut T m fo fa) σ H Q) : tBM X.K T r (tE X.K W fo) (tA X.K W fa) σ H Q := by
  obtain ⟨M, F0, H0, F, ρ, ts, τ, l, ft, go⟩ := hq
  have hl := ft.lenT l
  refine ⟨M, F0, H0, F, ρ, ts, τ, l, ft, Go.bind go (us := []) (cs := []) (by simp) (by simp) rfl fun b ρ1 F1 H1 x l1 f1 go1 => ?_⟩
  cases b with
  | al j =>
    simp only at go1
    cases e1 : gb ρ1 j with
    | own g1 o1 =>
      rw [e1] at go1
      simp only at go1
      by_cases ht : isT T o1 = true
      · rw [if_pos ht] at go1
        have f1' : Fit X.K M F0 H0 σ.length F1 H1 (σ ++ (ts ++ [some x])) (ρ1 ++ (τ ++ [.al j])) := f1
        obtain ⟨p, rfl, hv, hF, hO⟩ := f1'.ownOf (m := ρ1.length + τ.length) (get_mid _ _ _ _) (by rw [l1, ← hl]; exact get_mid _ _ _ _) e1
        refine ⟨isT_ty hO ht, M, F0, H0, F1, ρ1, ts ++ [some (.ref p)], τ ++ [.al j], l1, f1, GoA.bind go1 (us := [some (.ref p)]) (cs := [.al j]) rfl rfl rfl fun bs ρ2 F2 H2 xs l2 l3 f2 go2 => ?_⟩
        cases e2 : frzs ρ2 bs with
        | none => rw [e2] at go2; exact go2.elim
        | some q =>
          obtain ⟨ds, ρ3⟩ := q
          rw [e2] at go2
          simp only at go2
          obtain ⟨F3, s3, l4, f3, r3⟩ := f2.frzs bs xs _ _ _ _ _ _ l2 (by simp [hl]) e2
          cases e3 : gb ρ3 j with
          | own g ob =>
            rw [e3] at go2
            simp only at go2
            cases e4 : m ob ds with
            | none => rw [e4] at go2; exact go2.elim
            | some q =>
              obtain ⟨d, o'⟩ := q
              rw [e4] at go2
              have f3' : Fit X.K M F0 H0 σ.length F3 H2 (σ ++ (ts ++ [some (V.ref p)])) (ρ3 ++ (τ ++ [.al j])) := f3
              obtain ⟨p', hp, hv', hF', hO'⟩ := f3'.ownOf (m := ρ3.length + τ.length) (get_mid _ _ _ _) (by rw [l4, ← hl]; exact get_mid _ _ _ _) e3
              cases hp
              have f5 : Fit X.K M F0 H0 σ.length F3 H2 (σ ++ ts) (ρ3 ++ τ) := f3'.less l4 hl
              have hjl := lt_of_get (gb_get e3 (by intro z; cases z))
              have hv5 : (σ ++ ts)[j]? = some (some (V.ref p)) := by
                rw [List.getElem?_append_left (by omega)] at hv' ⊢; exact hv'
              refine mu F3 H2 _ p xs ds ob o' d _ f3.sub hF' hO' r3 e4 fun u v hO2 hu hr => ?_
              have f6 := f5.writeS e3 hv5 hO2 hu
              have l6 : (ρ3.set j (.own g o')).length = σ.length := by simpa using l4
              exact go2 F3 _ v l6 (Fit.res (js := []) (jb := []) (by simpa using f6) l6 hl (Adds.val0 f6.sub hr))
          | un => rw [e3] at go2; exact go2.elim
          | val d => rw [e3] at go2; exact go2.elim
          | al m => rw [e3] at go2; exact go2.elim
      · rw [if_neg ht] at go1; exact go1.elim
    | un => rw [e1] at go1; exact go1.elim
    | val d => rw [e1] at go1; exact go1.elim
    | al m => rw [e1] at go1; exact go1.elim
  | un => exact go1.elim
  | val _ => exact go1.elim
  | own _ _ => exact go1.elim
theorem tE_mut0 {r : V → List V → Hp → VK → Prop} (mu : Mut X.K r m) (σ : L2.St) (H : Hp) (Q : VK) (hq : tE X.K W (dMut T m fo dNil) σ H Q) : tBM0 X.K T r (tE X.K W fo) σ H Q := by
  obtain ⟨M, F0, H0, F, ρ, ts, τ, l, ft, go⟩ := hq
  have hl := ft.lenT l
  refine ⟨M, F0, H0, F, ρ, ts, τ, l, ft, Go.bind go (us := []) (cs := []) (by simp) (by simp) rfl fun b ρ1 F1 H1 x l1 f1 go1 => ?_⟩
  cases b with
  | al j =>
    simp only at go1
    cases e1 : gb ρ1 j with
    | own g ob =>
      rw [e1] at go1
      simp only at go1
      by_cases ht : isT T ob = true
      · rw [if_pos ht] at go1
        have f1' : Fit X.K M F0 H0 σ.length F1 H1 (σ ++ (ts ++ [some x])) (ρ1 ++ (τ ++ [.al j])) := f1
        obtain ⟨p, rfl, hv, hF, hO⟩ := f1'.ownOf (m := ρ1.length + τ.length) (get_mid _ _ _ _) (by rw [l1, ← hl]; exact get_mid _ _ _ _) e1
        refine ⟨isT_ty hO ht, ?_⟩
        have go2 : Go X.K W M F0 H0 σ ts τ (match gb ρ1 j with
          | .own g ob => match m ob [] with
            | some (d, o') => .ok (.val d) (ρ1.set j (.own g o'))
            | none => .no
          | _ => .no) Q := go1
        rw [e1] at go2
        simp only at go2
        cases e4 : m ob [] with
        | none => rw [e4] at go2; exact go2.elim
        | some q =>
          obtain ⟨d, o'⟩ := q
          rw [e4] at go2
          have f5 : Fit X.K M F0 H0 σ.length F1 H1 (σ ++ ts) (ρ1 ++ τ) := f1'.less l1 hl
          have hjl := lt_of_get (gb_get e1 (by intro z; cases z))
          have hv5 : (σ ++ ts)[j]? = some (some (V.ref p)) := by
            rw [List.getElem?_append_left (by omega)] at hv ⊢; exact hv
          refine mu F1 H1 _ p [] [] ob o' d _ f1.sub hF hO (by simp only [Reps]) e4 fun u v hO2 hu hr => ?_
          have f6 := f5.writeS e1 hv5 hO2 hu
          have l6 : (ρ1.set j (.own g o')).length = σ.length := by simpa using l1
          exact go2 F1 _ v l6 (Fit.res (js := []) (jb := []) (by simpa using f6) l6 hl (Adds.val0 f6.sub hr))
      · rw [if_neg ht] at go1; exact go1.elim
    | un => rw [e1] at go1; exact go1.elim
    | val d => rw [e1] at go1; exact go1.elim
    | al m => rw [e1] at go1; exact go1.elim
  | un => exact go1.elim
  | val _ => exact go1.elim
  | own _ _ => exact go1.elim
theorem pd_mut (mm : MutM X T name m) (ho : PD X W o fo) (ha : PDA X W (e :: es) fa) (hbase : attributeBase o name X.env (eval o X.env) = eval o X.env := by rfl)
    (hfew : ((backTo cpos (starEach (e :: es) X.env)).all (fun x => !x.1) && (backToKw cpos (keywordEach [] X.env)).all (fun x => x.1.isSome)
      && decide ((e :: es).length + ([] : List Keyword).length + (if ([] : List Keyword).isEmpty then 0 else 1) < 30)) = true := by rfl)
    (hline : (apos.endLine == cpos.line) = true := by rfl) (hs : starEach (e :: es) X.env = (false, eval e X.env) :: starEach es X.env := by rfl) (hplain : (backTo cpos (starEach es X.env)).any (·.1) = false := by rfl) :
    PD X W (.Call (.Attribute o name apos) (e :: es) [] cpos) (dMut T m fo fa) := by
  obtain ⟨id, r, pa, sl, ty, mt, mu⟩ := mm.ex
  exact PD.of (pe_bm pa sl ty mt ho ha hbase hfew hline hs hplain) fun σ H Q h => tE_mut mu σ H Q h
theorem pd_mut0 (mm : MutM X T name m) (ho : PD X W o fo) (hbase : attributeBase o name X.env (eval o X.env) = eval o X.env := by rfl) (hline : (apos.endLine == cpos.line) = true := by rfl) :
    PD X W (.Call (.Attribute o name apos) [] [] cpos) (dMut T m fo dNil) := by
  obtain ⟨id, r, pa, sl, ty, mt, mu⟩ := mm.ex
  exact PD.of (pe_bm0 pa sl ty mt ho hbase hline) fun σ H Q h => tE_mut0 mu σ H Q h
/-! the methods -/
def appO : O → List D → Option (D × O)
  | .lst ds, [d] => if ds.length < sizeLine then some (.non, .lst (ds ++ [d])) else none
  | _, _ => none
theorem mu_append : MutM X "list" "append" appO := ⟨_, _, PySem.F.plainAttrs_list, PySem.F.slot_list_append, PySem.F.type_list_append, mt_append, fun F H N p xs ds o o' d Q s hF hO r e hq => by
  unfold appO at e
  split at e
  · split at e
    · cases e; rename_i hz
      obtain ⟨vs, h1, h2⟩ := hO
      have r0 := r
      simp only [Reps] at r
      obtain ⟨v, _, rfl, h3, rfl⟩ := r
      exact ⟨p, vs, v, rfl, rfl, h1, by rw [← h2.length]; exact hz, hq _ _ ⟨_, upd_same, h2.app r0⟩ (fun _ z => nomatch z) rep_non⟩
    · cases e
  · cases e⟩
def extO : O → List D → Option (D × O)
  | .lst ds, [.lst es] => if ds.length + es.length ≤ sizeLine then some (.non, .lst (ds ++ es)) else none
  | _, _ => none
theorem mu_extend : MutM X "list" "extend" extO := ⟨_, _, PySem.F.plainAttrs_list, PySem.F.slot_list_extend, PySem.F.type_list_extend, mt_extend, fun F H N p xs ds o o' d Q s hF hO r e hq => by
  unfold extO at e
  split at e
  · split at e
    · cases e; rename_i hz
      obtain ⟨vs, h1, h2⟩ := hO
      simp only [Reps] at r
      obtain ⟨v, _, rfl, h3, rfl⟩ := r
      simp only [Rep] at h3
      obtain ⟨a, us, rfl, h4, h5⟩ := h3
      exact ⟨p, a, vs, us, rfl, rfl, h1, s _ _ h4, by rw [← h2.length, ← h5.length]; exact hz, hq _ _ ⟨_, upd_same, h2.app h5⟩ (fun _ z => nomatch z) rep_non⟩
    · cases e
  · cases e⟩
def popO : O → List D → Option (D × O)
  | .lst ds, [] => match ds[ds.length - 1]? with
    | some d => some (d, .lst ds.dropLast)
    | none => none
  | .lst ds, [.int i] => if -(2 ^ 63) ≤ i ∧ i < 2 ^ 63 then match seqIndex? i ds.length with
      | some k => match ds[k]? with
        | some d => some (d, .lst (ds.eraseIdx k))
        | none => none
      | none => none
    else none
  | _, _ => none
theorem Reps.dropLast {K : PySem.W.Frag} {F : Hp} : ∀ {ds : List D} {xs : List V}, Reps K F ds xs → Reps K F ds.dropLast xs.dropLast
  | [], xs, h => by simp only [Reps] at h; subst h; simp only [List.dropLast_nil, Reps]
  | [d], xs, h => by simp only [Reps] at h; obtain ⟨v, r, rfl, h1, rfl⟩ := h; simp only [List.dropLast_singleton, Reps]
  | d :: e :: ds, xs, h => by
    have h0 := h
    simp only [Reps] at h
    obtain ⟨v, r, rfl, h1, v2, r2, rfl, h2, h3⟩ := h
    have ih : Reps K F (e :: ds) (v2 :: r2) := by simp only [Reps]; exact ⟨v2, r2, rfl, h2, h3⟩
    rw [List.dropLast_cons_cons, List.dropLast_cons_cons]
    simp only [Reps]; exact ⟨v, _, rfl, h1, Reps.dropLast ih⟩
theorem Reps.eraseIdx {K : PySem.W.Frag} {F : Hp} : ∀ {ds : List D} {xs : List V} (k : Nat), Reps K F ds xs → Reps K F (ds.eraseIdx k) (xs.eraseIdx k)
  | [], xs, k, h => by simp only [Reps] at h; subst h; simp only [List.eraseIdx_nil, Reps]
  | d :: ds, xs, 0, h => by simp only [Reps] at h; obtain ⟨v, r, rfl, h1, h2⟩ := h; exact h2
  | d :: ds, xs, k + 1, h => by
    simp only [Reps] at h; obtain ⟨v, r, rfl, h1, h2⟩ := h
    simp only [List.eraseIdx_cons_succ, Reps]; exact ⟨v, _, rfl, h1, Reps.eraseIdx k h2⟩
theorem mu_pop0 : MutM X "list" "pop" (fun o ds => match ds with
  | [] => popO o ds
  | _ => none) := ⟨_, _, PySem.F.plainAttrs_list, PySem.F.slot_list_pop, PySem.F.type_list_pop, mt_pop, fun F H N p xs ds o o' d Q s hF hO r e hq => by
  cases ds with
  | cons _ _ => cases e
  | nil =>
    simp only [Reps] at r
    subst r
    simp only at e
    unfold popO at e
    cases o with
    | lst ds =>
      simp only at e
      obtain ⟨vs, h1, h2⟩ := hO
      cases e1 : ds[ds.length - 1]? with
      | none => rw [e1] at e; cases e
      | some d' =>
        rw [e1] at e; cases e
        obtain ⟨v, h3, h4⟩ := h2.get e1
        exact ⟨p, vs, v, rfl, rfl, h1, by rw [← h2.length]; exact h3, hq _ _ ⟨_, upd_same, h2.dropLast⟩ (fun _ z => nomatch z) h4⟩
    | _ => cases e⟩
theorem mu_pop1 : MutM X "list" "pop" (fun o ds => match ds with
  | [.int i] => popO o [.int i]
  | _ => none) := ⟨_, _, PySem.F.plainAttrs_list, PySem.F.slot_list_pop, PySem.F.type_list_pop, mt_popAt, fun F H N p xs ds o o' d Q s hF hO r e hq => by
  simp only at e
  split at e
  · rename_i i
    unfold popO at e
    cases o with
    | lst ds =>
      simp only at e
      obtain ⟨vs, h1, h2⟩ := hO
      simp only [Reps, Rep] at r
      obtain ⟨_, _, rfl, rfl, rfl⟩ := r
      split at e
      · rename_i hz
        cases e1 : seqIndex? i ds.length with
        | none => rw [e1] at e; cases e
        | some k =>
          rw [e1] at e
          simp only at e
          cases e2 : ds[k]? with
          | none => rw [e2] at e; cases e
          | some d' =>
            rw [e2] at e; cases e
            obtain ⟨v, h3, h4⟩ := h2.get e2
            exact ⟨p, vs, i, k, v, rfl, rfl, h1, hz.1, hz.2, by rw [← h2.length]; exact e1, h3, hq _ _ ⟨_, upd_same, h2.eraseIdx k⟩ (fun _ z => nomatch z) h4⟩
      · cases e
    | _ => cases e
  · cases e⟩
end

/-! ### texts: s.join(xs) -/
def strsD : List D → Option (List Str)
  | [] => some []
  | .str x :: ds => match strsD ds with
    | some xs => some (x :: xs)
    | none => none
  | _ => none
theorem strs_ok {K : PySem.W.Frag} {F : Hp} : ∀ {ds : List D} {vs : List V} {zs : List Str}, Reps K F ds vs → strsD ds = some zs → vs = zs.map V.str
  | [], vs, zs, h, e => by simp only [Reps] at h; subst h; cases e; rfl
  | .str x :: ds, vs, zs, h, e => by
    simp only [Reps, Rep] at h
    obtain ⟨v, r, rfl, rfl, h2⟩ := h
    simp only [strsD] at e
    cases e1 : strsD ds with
    | none => rw [e1] at e; cases e
    | some xs => rw [e1] at e; cases e; rw [strs_ok h2 e1]; rfl
  | .non :: _, _, _, _, e => by cases e
  | .bl _ :: _, _, _, _, e => by cases e
  | .int _ :: _, _, _, _, e => by cases e
  | .lst _ :: _, _, _, _, e => by cases e
  | .tup _ :: _, _, _, _, e => by cases e
  | .kt _ :: _, _, _, _, e => by cases e
  | .kl _ :: _, _, _, _, e => by cases e
  | .dk _ :: _, _, _, _, e => by cases e
  | .dt _ :: _, _, _, _, e => by cases e
  | .ins _ _ :: _, _, _, _, e => by cases e
def seqOf : D → Option (List D)
  | .lst ds => some ds
  | .tup ds => some ds
  | .kt ds => some ds
  | .kl ds => some ds
  | _ => none
def joinD (a b : D) : Option B := match a with
  | .str x => match seqOf b with
    | some ds => match strsD ds with
      | some zs => if (zs.map (·.length)).sum + zs.length * x.length ≤ 16777216 then some (.val (.str (Txt.join x zs))) else none
      | none => none
    | none => none
  | _ => none
section
variable {X : Cx} {W : WX} {f g : Ev → R B} {o e : Expr} {apos pos : Pos}
theorem Rep1.seqOf {K : PySem.W.Frag} {F H : Hp} {d : D} {v : V} {ds : List D} (s : Same F H) (h : Rep1 K F H d v) (e : Dl.seqOf d = some ds) : ∃ a vs, v = .ref a ∧ (SqL K H a vs ∨ SqT K H a vs) ∧ Reps K F ds vs := by
  cases d with
  | lst xs => cases e; obtain ⟨a, vs, e, h1, h2⟩ := h; exact ⟨a, vs, e, .inl (.inl (.inl h1)), h2⟩
  | kl xs => cases e; obtain ⟨a, vs, e, h1, h2⟩ := h; exact ⟨a, vs, e, .inl h1, h2⟩
  | tup xs => cases e; obtain ⟨a, vs, e, h1, h2⟩ := h; exact ⟨a, vs, e, .inr (Same.sqT s h1), h2⟩
  | kt xs => cases e; obtain ⟨a, vs, e, h1, h2⟩ := h; exact ⟨a, vs, e, .inr (sqT_mono s h1.sqT), h2⟩
  | _ => cases e
def tyRd (T : String) : D → Bool
  | .str _ => T == "str"
  | .int _ => T == "int"
  | .lst _ => T == "list"
  | .kl _ => T == "list"
  | .dk _ => T == "dict"
  | .dt _ => T == "dict"
  | _ => false
theorem tyRd_ok {K : PySem.W.Frag} {F H : Hp} {d : D} {v : V} {T : String} (h : Rep1 K F H d v) (e : tyRd T d = true) : tyV K T v H := by
  cases d with
  | str x => cases h; simp only [tyRd, beq_iff_eq] at e; exact e
  | int x => cases h; simp only [tyRd, beq_iff_eq] at e; exact e
  | lst xs => obtain ⟨a, vs, rfl, h1, h2⟩ := h; simp only [tyRd, beq_iff_eq] at e; exact .inl ⟨e, vs, .inl (.inl h1)⟩
  | kl xs => obtain ⟨a, vs, rfl, h1, h2⟩ := h; simp only [tyRd, beq_iff_eq] at e; exact .inl ⟨e, vs, h1⟩
  | dk xs => obtain ⟨a, vs, rfl, h1, h2⟩ := h; simp only [tyRd, beq_iff_eq] at e; exact .inr (.inr (.inl ⟨e, .inl ⟨vs, h1⟩⟩))
  | dt xs => obtain ⟨a, vs, rfl, h1, h2⟩ := h; simp only [tyRd, beq_iff_eq] at e; exact .inr (.inr (.inl ⟨e, .inr ⟨vs, h1⟩⟩))
  | _ => cases e
/-- x.m(a), by values -/
def dRd1 (T : String) (op : D → D → Option B) (f g : Ev → R B) : Ev → R B := fun ρ => (f ρ).bind fun a ρ1 => match look ρ1 a with
  | some x => if tyRd T x = true then (g ρ1).bind fun b ρ2 => fin2 op a b ρ2 else .no
  | none => .no
theorem tE_rd1 {T : String} {op : D → D → Option B} {r : V → List V → Hp → VK → Prop} (o : Op2 X.K (fun x y H Q => r x [y] H Q) op) (σ : L2.St) (H : Hp) (Q : VK) (h : tE X.K W (dRd1 T op f g) σ H Q) :
    tE X.K W f σ H fun x H1 => tyV X.K T x H1 ∧ tE X.K W g σ H1 fun y H2 => r x [y] H2 Q := by
  obtain ⟨M, F0, H0, F, ρ, ts, τ, l, ft, go⟩ := h
  have hl := ft.lenT l
  refine ⟨M, F0, H0, F, ρ, ts, τ, l, ft, Go.bind go (us := []) (cs := []) (by simp) (by simp) rfl fun b ρ1 F1 H1 x l1 f1 go1 => ?_⟩
  cases e0 : look ρ1 b with
  | none => rw [e0] at go1; exact go1.elim
  | some d0 =>
    rw [e0] at go1
    simp only at go1
    by_cases ht : tyRd T d0 = true
    · rw [if_pos ht] at go1
      have r0 := f1.looks (n := σ.length + ts.length) (by rw [← l1, hl]; exact get_mid _ _ _ []) (get_last2 _ _ _) e0
      refine ⟨tyRd_ok r0 ht, M, F0, H0, F1, ρ1, ts ++ [some x], τ ++ [b], l1, f1, go1.bind (us := [some x]) (cs := [b]) rfl rfl rfl fun c ρ2 F2 H2 y l2 f2 go2 => ?_⟩
      unfold fin2 at go2
      cases e1 : look ρ2 b with
      | none => rw [e1] at go2; exact go2.elim
      | some d =>
        rw [e1] at go2
        simp only at go2
        cases e2 : look ρ2 c with
        | none => rw [e2] at go2; exact go2.elim
        | some d2 =>
          rw [e2] at go2
          simp only at go2
          cases e3 : op d d2 with
          | none => rw [e3] at go2; exact go2.elim
          | some z =>
            rw [e3] at go2
            have f2' : Fit X.K M F0 H0 σ.length F2 H2 (σ ++ (ts ++ [some x, some y])) (ρ2 ++ (τ ++ [b, c])) := by simpa using f2
            refine o F2 H2 x y d d2 z Q f2.sub (f2'.looks (n := σ.length + ts.length) ?_ (get_mid _ _ _ _) e1) (f2.looks (n := σ.length + (ts ++ [some x]).length) ?_ (get_last2 _ _ _) e2) e3 fun F' H' v a => go2 F' H' v l2 (f2'.res l2 hl a)
            · rw [← l2, hl]; exact get_mid _ _ _ _
            · have : (ts ++ [some x]).length = (τ ++ [b]).length := by simp [hl]
              rw [← l2, this]; exact get_mid _ _ _ []
    · rw [if_neg ht] at go1; exact go1.elim
theorem pd_join (ho : PD X W o f) (he : PD X W e g) (hs : starEach [e] X.env = [(false, eval e X.env)] := by rfl) (hbase : attributeBase o "join" X.env (eval o X.env) = eval o X.env := by rfl) (hline : (apos.endLine == pos.line) = true := by rfl) :
    PD X W (.Call (.Attribute o "join" apos) [e] [] pos) (dRd1 "str" joinD f g) := PD.of (pe_join ho he hs hbase hline) fun σ H Q h => by
  have h2 := tE_rd1 (r := fun x xs H Q => ∃ a p, ∃ ys : List Str, x = .str a ∧ xs = [.ref p] ∧ (SqL X.K H p (ys.map V.str) ∨ SqT X.K H p (ys.map V.str)) ∧
      (ys.map (·.length)).sum + ys.length * a.length ≤ 16777216 ∧ Q (.str (Txt.join a ys)) H) (fun F H x y d e b Q s h1 h2 ho hq => by
    unfold joinD at ho
    cases d with
    | str z =>
      cases h1
      simp only at ho
      cases e1 : seqOf e with
      | none => rw [e1] at ho; cases ho
      | some ds =>
        rw [e1] at ho
        simp only at ho
        cases e2 : strsD ds with
        | none => rw [e2] at ho; cases ho
        | some zs =>
          rw [e2] at ho
          simp only at ho
          split at ho
          · rename_i hz; cases ho
            obtain ⟨a, vs, rfl, h3, h4⟩ := h2.seqOf s e1
            have h5 := strs_ok h4 e2
            subst h5
            exact ⟨z, a, zs, rfl, rfl, h3, hz, hq F H _ (Adds.val0 s rep_str)⟩
          · cases ho
    | _ => cases ho) σ H Q h
  obtain ⟨M, F0, H0, F, ρ, ts, τ, l, ft, go⟩ := h2
  refine ⟨M, F0, H0, F, ρ, ts, τ, l, ft, ?_⟩
  cases e : f ρ with
  | no => rw [e] at go; exact go.elim
  | er C fs ρ' => rw [e] at go; exact go
  | ok bb ρ' =>
    rw [e] at go
    intro F' H' v l ft
    obtain ⟨ty, go2⟩ := go F' H' v l ft
    refine ⟨?_, go2⟩
    cases v with
    | str a => exact ⟨a, rfl⟩
    | int a => exact absurd (show "str" = "int" from ty) (by decide)
    | ref p =>
      rcases ty with ⟨h, _⟩ | ⟨h, _⟩ | ⟨h, _⟩ | ⟨h, _⟩ <;> exact absurd h (by decide)
    | _ => exact ty.elim
end
end Dl
namespace Dl
open PySem PySem.Spec PyProof.Rows L2

/-! ### calls with keywords -/
inductive Src where
  | p (i : Nat) | d (i : Nat) | k (i : Nat)
def src1 {α : Type} (us its ws : List α) : Src → Option α
  | .p i => us[i]?
  | .d i => its[i]?
  | .k i => ws[i]?
def selL {α : Type} : List Src → List α → List α → List α → List α
  | [], _, _, _ => []
  | s :: r, us, its, ws => match src1 us its ws s with
    | some x => x :: selL r us its ws
    | none => selL r us its ws
theorem vals_none {vs : List V} {us : List Value} (h : Vals vs us) {i : Nat} (e : vs[i]? = none) : us[i]? = none := by
  rw [List.getElem?_eq_none_iff] at e ⊢
  rw [← h.length]; exact e
theorem vals_sel {us its ws : List Value} {vs ds zs : List V} (h1 : Vals vs us) (h2 : Vals ds its) (h3 : Vals zs ws) : ∀ sel : List Src, Vals (selL sel vs ds zs) (selL sel us its ws)
  | [] => .nil
  | s :: r => by
    have ih := vals_sel h1 h2 h3 r
    have key : (src1 vs ds zs s = none ∧ src1 us its ws s = none) ∨ ∃ v u, src1 vs ds zs s = some v ∧ src1 us its ws s = some u ∧ RelV v u := by
      have g : ∀ {xs : List V} {os : List Value} (i : Nat), Vals xs os → (xs[i]? = none ∧ os[i]? = none) ∨ ∃ v u, xs[i]? = some v ∧ os[i]? = some u ∧ RelV v u := fun {xs os} i h => by
        cases e : xs[i]? with
        | none => exact .inl ⟨rfl, vals_none h e⟩
        | some v => obtain ⟨u, q1, q2⟩ := h.get e; exact .inr ⟨v, u, rfl, q1, q2⟩
      cases s with
      | p i => exact g i h1
      | d i => exact g i h2
      | k i => exact g i h3
    unfold selL
    rcases key with ⟨e1, e2⟩ | ⟨v, u, e1, e2, q⟩
    · rw [e1, e2]; exact ih
    · rw [e1, e2]; exact .cons q ih
theorem reps_none {K : PySem.W.Frag} {F : Hp} {ds : List D} {vs : List V} (h : Reps K F ds vs) {i : Nat} (e : ds[i]? = none) : vs[i]? = none := by
  rw [List.getElem?_eq_none_iff] at e ⊢
  rw [← h.length]; exact e
theorem reps_sel {K : PySem.W.Frag} {F : Hp} {us its ws : List D} {vs ds zs : List V} (h1 : Reps K F us vs) (h2 : Reps K F its ds) (h3 : Reps K F ws zs) : ∀ sel : List Src, Reps K F (selL sel us its ws) (selL sel vs ds zs)
  | [] => by simp only [selL, Reps]
  | s :: r => by
    have ih := reps_sel h1 h2 h3 r
    have key : (src1 us its ws s = none ∧ src1 vs ds zs s = none) ∨ ∃ u v, src1 us its ws s = some u ∧ src1 vs ds zs s = some v ∧ Rep K F u v := by
      have g : ∀ {xs : List D} {os : List V} (i : Nat), Reps K F xs os → (xs[i]? = none ∧ os[i]? = none) ∨ ∃ u v, xs[i]? = some u ∧ os[i]? = some v ∧ Rep K F u v := fun {xs os} i h => by
        cases e : xs[i]? with
        | none => exact .inl ⟨rfl, reps_none h e⟩
        | some v => obtain ⟨u, q1, q2⟩ := h.get e; exact .inr ⟨v, u, rfl, q1, q2⟩
      cases s with
      | p i => exact g i h1
      | d i => exact g i h2
      | k i => exact g i h3
    unfold selL
    rcases key with ⟨e1, e2⟩ | ⟨v, u, e1, e2, q⟩
    · rw [e1, e2]; exact ih
    · rw [e1, e2]; simp only [Reps]; exact ⟨u, _, rfl, q, ih⟩
section
variable {K : PySem.W.Frag} {x qual : Str} {params : Arguments} {body : List Stmt} {scope : Scope} {dvs : List V} {kws : List (Str × V)} {f : Addr} {fd : FuncData} {ps : List Str}
theorem kb_dfl (F : FunD K x qual params body scope dvs kws f fd) (n : Nat) (ks : List Str) (sel : List Src) (hd : dvs ≠ [])
    (h : ∀ (T : Addr) (kV doc pm : Value) (an : Option Addr) (cdv ct : Value) (us its ws : List Value), us.length = n → its.length = dvs.length → ws.length = ks.length →
      ∃ k, bindArgs (PySem.W.fnOf x qual params body scope (.ref T) kV doc pm an cdv ct) ⟨us, ks.zip ws⟩ = seqItems? (.ref T) >>= k ∧ k (some its.toArray) = pure (ps.zip (selL sel us its ws))) :
    ∃ its : List Value, KBn K fd ps n ks (fun us ws => selL sel us its ws) (fun vs zs => selL sel vs dvs zs) := by
  obtain ⟨oc, od, dV, kV, doc, pm, an, cdv, ct, osl, rfl, lk, hcd, hD, hK⟩ := F.ex
  rcases hD with ⟨e, _⟩ | ⟨_, T, o, its, m, rfl, lT, oT, rT⟩
  · exact absurd e hd
  · refine ⟨its, ⟨fun s us ws X l1 l2 => ?_, fun r1 r2 => vals_sel r1 rT r2 sel⟩⟩
    obtain ⟨k, e1, e2⟩ := h T kV doc pm an cdv ct us its ws l1 rT.length.symm l2
    refine BindsTo.of_looks fun M => ?_
    rw [e1]
    exact looks_items X lT oT (.of_pure e2)
/-- a def without defaults -/
theorem kb_all (F : FunD K x qual params body scope [] kws f fd) (n : Nat) (ks : List Str) (sel : List Src)
    (h : ∀ (kV doc pm : Value) (an : Option Addr) (cdv ct : Value) (us ws : List Value), us.length = n → ws.length = ks.length →
      bindArgs (PySem.W.fnOf x qual params body scope .none kV doc pm an cdv ct) ⟨us, ks.zip ws⟩ = pure (ps.zip (selL sel us [] ws))) :
    ∃ its : List Value, KBn K fd ps n ks (fun us ws => selL sel us its ws) (fun vs zs => selL sel vs [] zs) := by
  obtain ⟨oc, od, dV, kV, doc, pm, an, cdv, ct, osl, rfl, lk, hcd, hD, hK⟩ := F.ex
  rcases hD with ⟨_, rfl⟩ | ⟨e, _⟩
  · exact ⟨[], ⟨fun s us ws X l1 l2 => BindsTo.of_looks fun M => .of_pure (h kV doc pm an cdv ct us ws l1 l2), fun r1 r2 => vals_sel r1 .nil r2 sel⟩⟩
  · exact absurd rfl e
end

def tCallNS (n m : Nat) (sp : Sp) (gV : List V → List V → List V) (E : L2.St → XK) (t tk : TA) : TE := fun σ H Q => t σ H fun vs H1 => tk σ H1 fun zs H2 => vs.length = n ∧ zs.length = m ∧ sp (gV vs zs) H2 Q (E σ)
section
variable {X : Cx} {CX : CXT} {k n : Nat} {f : Addr} {fd : FuncData} {ps ks : List Str} {sp : Sp} {E : L2.St → XK} {x : Str} {p pos : Pos} {e : Expr} {es : List Expr} {kws : List Keyword} {t tk : TA} {g : List Value → List Value → List Value} {gV : List V → List V → List V}
theorem run_fnNS {pins : List (Addr × Obj)} {σ : L2.St} {H : Hp} {s : Shared} {Q : VK} {us ws : List Value} {vs zs : List V} (F : FnOk X.prog X.w X.K X.mg X.base CX k f fd ps sp) (hr : Room k X.A) (hb : KBn X.K fd ps n ks g gV) (hx : PassesAt CX X σ (E σ))
    (I : Inv X pins σ H s) (r : Vals vs us) (rz : Vals zs ws) (l1 : vs.length = n) (l2 : zs.length = ks.length) (h : sp (gV vs zs) H Q (E σ)) : wpAny (model X.prog X.w) X.A (call (.ref f) us (ks.zip ws)) (EP X pins σ Q) X.xe s := by
  have r2 := hb.rel r rz
  refine wpAny_call (codeAny_mono (F.run X.A X.stack s H ⟨us, ks.zip ws⟩ (g us ws) (gV vs zs) Q (E σ) hr I.env0 (hb.to s us ws I.kIn (r.length.symm.trans l1) (rz.length.symm.trans l2)) r2 h) fun r s' hq => ?_)
  cases r with
  | error e => exact hx pins H s e s' I hq
  | ok fl =>
    cases fl with
    | ret u => exact I.after hq
    | next => exact False.elim hq
    | brk => exact False.elim hq
    | cont => exact False.elim hq
/-- f(e, .., k = v, ..) -/
theorem pe_callNS (F : FnOk X.prog X.w X.K X.mg X.base CX k f fd ps sp) (hr : Room k X.A) (hg : Gl X x) (hm : X.mg x = some (.ref f)) (hk : PySem.W.keepIn X.K (.ref f) = true) (hb : KBn X.K fd ps n ks g gV) (hx : ∀ σ, PassesAt CX X σ (E σ))
    (ha : PA X (e :: es) t) (hkw : PK X kws tk) (hall : (backToKw pos (keywordEach kws X.env)).all (·.1.isSome) = true := by rfl) (hks : (backToKw pos (keywordEach kws X.env)).filterMap (·.1) = ks := by rfl)
    (hdb : (x == ("__debug__" : Str)) = false := by decide) (he : starEach (e :: es) X.env = (false, eval e X.env) :: starEach es X.env := by rfl)
    (hpl : ((backTo pos (starEach (e :: es) X.env)).any (·.1) || (backToKw pos (keywordEach kws X.env)).any (·.1.isNone)) = false := by rfl) :
    PE X (.Call (.Name x p) (e :: es) kws pos) (tCallNS n ks.length sp gV E t tk) := by
  refine ⟨fun pins s σ H Q I h => ?_⟩
  refine wpAny_Call_Name_kw (ld_glob I hg hm ?_ hdb)
  refine PySem.W.callWith_KW (h₀ := X.base) I.ok.mod.kin hk hall (thn (ha.run pos pins s σ H _ I h) fun us s1 ⟨vs, H1, I1, r, q⟩ => ?_) hpl he
  refine thn (hkw.run pos pins s1 σ H1 _ I1 q) fun ws s2 ⟨zs, H2, I2, rz, l1, l2, q2⟩ => ⟨I2.kIn, ?_⟩
  rw [hks]
  exact run_fnNS F hr hb (hx σ) I2 r rz l1 l2 q2
/-- f(k = v, ..) -/
theorem pe_callNS0 (F : FnOk X.prog X.w X.K X.mg X.base CX k f fd ps sp) (hr : Room k X.A) (hg : Gl X x) (hm : X.mg x = some (.ref f)) (hk : PySem.W.keepIn X.K (.ref f) = true) (hb : KBn X.K fd ps 0 ks g gV) (hx : ∀ σ, PassesAt CX X σ (E σ))
    (hkw : PK X kws tk) (hall : (backToKw pos (keywordEach kws X.env)).all (·.1.isSome) = true := by rfl) (hks : (backToKw pos (keywordEach kws X.env)).filterMap (·.1) = ks := by rfl)
    (hdb : (x == ("__debug__" : Str)) = false := by decide)
    (hpl : ((backTo pos (starEach [] X.env)).any (·.1) || (backToKw pos (keywordEach kws X.env)).any (·.1.isNone)) = false := by rfl) :
    PE X (.Call (.Name x p) [] kws pos) (tCallNS 0 ks.length sp gV E tNil tk) := by
  refine ⟨fun pins s σ H Q I h => ?_⟩
  refine wpAny_Call_Name_kw (ld_glob I hg hm ?_ hdb)
  refine PySem.W.callWith_KW0 (h₀ := X.base) I.ok.mod.kin hk hall ?_ hpl
  refine thn (hkw.run pos pins s σ H _ I h) fun ws s2 ⟨zs, H2, I2, rz, l1, l2, q2⟩ => ⟨I2.kIn, ?_⟩
  rw [hks]
  exact run_fnNS (us := []) (vs := []) F hr hb (hx σ) I2 .nil rz rfl l2 q2
end
def PDK (X : Cx) (W : WX) (kws : List Keyword) (f : Ev → R (List B)) : Prop := PK X kws (tA X.K W f)
/-- f(a, .., k = b, ..): N values by place, m by name -/
def dCallK (n N m : Nat) (sel : List Src) (dd : List D) (S : SD) (fa fk : Ev → R (List B)) : Ev → R B := fun ρ => (fa ρ).bind fun bs ρ1 => (fk ρ1).bind fun cs ρ2 => match frzs ρ2 (bs ++ cs) with
  | some (ds, ρ3) => if bs.length = N ∧ cs.length = m ∧ (selL sel (ds.take N) dd (ds.drop N)).length = n then outD (S (selL sel (ds.take N) dd (ds.drop N))) ρ3 else .no
  | none => .no
section
variable {X : Cx} {W : WX} {fa fk : Ev → R (List B)} {fe : Ev → R B} {e : Expr} {es : List Expr} {kws : List Keyword} {x : Str} {nm : Option Str} {p pos kpos : Pos} {k n N : Nat} {S : SD} {f : Addr} {fd : FuncData} {ps ks : List Str} {g : List Value → List Value → List Value} {dvs : List V} {dd : List D} {sel : List Src}
theorem pdk_nil : PDK X W [] dNil := ⟨fun pos pins s σ H Q I h => pk_nil.run pos pins s σ H Q I (by
  obtain ⟨M, F0, H0, F, ρ, ts, τ, l, ft, go⟩ := h
  exact (show ∀ F' H' (vs : List V), ρ.length = σ.length → ([] : List B).length = vs.length → Fit X.K M F0 H0 σ.length F' H' (σ ++ (ts ++ vs.map some)) (ρ ++ (τ ++ [])) → Q vs H' from go) F H [] l rfl (by simpa using ft))⟩
theorem pdk_cons (ha : PD X W e fe) (hr : PDK X W kws fk) : PDK X W (⟨nm, e, kpos⟩ :: kws) (dCons fe fk) := ⟨fun pos pins s σ H Q I h => (pk_cons ha hr).run pos pins s σ H Q I (tA_cons σ H Q h)⟩
theorem sp_callK {M : Addr → Prop} {F0 H0 F2 H2 : Hp} {σ ts : L2.St} {τ : List B} {ρ2 : Ev} {vs zs : List V} {bs cs : List B} {Q : VK} {E : XK} (hE : E = fun cls d H => W cls d σ H) (hd : ∀ F, Reps X.K F dd dvs) (l2 : ρ2.length = σ.length) (hl : ts.length = τ.length) (b1 : bs.length = vs.length)
    (f2 : Fit X.K M F0 H0 σ.length F2 H2 (σ ++ (ts ++ (vs ++ zs).map some)) (ρ2 ++ (τ ++ (bs ++ cs))))
    (go : Go X.K W M F0 H0 σ ts τ (match frzs ρ2 (bs ++ cs) with
  | some (ds, ρ3) => if bs.length = N ∧ cs.length = ks.length ∧ (selL sel (ds.take N) dd (ds.drop N)).length = n then outD (S (selL sel (ds.take N) dd (ds.drop N))) ρ3 else .no
  | none => .no) Q) (b2 : cs.length = zs.length) : vs.length = N ∧ zs.length = ks.length ∧ spD X.K n S (selL sel vs dvs zs) H2 Q E := by
  cases e1 : frzs ρ2 (bs ++ cs) with
  | none => rw [e1] at go; exact go.elim
  | some q =>
    obtain ⟨ds, ρ3⟩ := q
    rw [e1] at go
    simp only at go
    by_cases hn : bs.length = N ∧ cs.length = ks.length ∧ (selL sel (ds.take N) dd (ds.drop N)).length = n
    · rw [if_pos hn] at go
      obtain ⟨F3, s3, l4, f3, r3⟩ := f2.frzs (bs ++ cs) (vs ++ zs) _ _ _ _ _ _ l2 hl e1
      have hN : vs.length = N := by omega
      have r4 : Reps X.K F3 (ds.take N) vs := by
        have := r3.take N
        rw [← hN] at this ⊢
        rw [List.take_left] at this; exact this
      have r5 : Reps X.K F3 (ds.drop N) zs := by
        have := r3.drop N
        rw [← hN] at this ⊢
        rw [List.drop_left] at this; exact this
      exact ⟨hN, by omega, sp_call hE l4 hl f3 (reps_sel r4 (hd F3) r5 sel) hn.2.2 go⟩
    · rw [if_neg hn] at go; exact go.elim
theorem pd_callK (h : FnF X.prog X.w X.K X.mg X.base x k n S f fd ps) (hb : KBn X.K fd ps N ks g (fun vs zs => selL sel vs dvs zs)) (hd : ∀ F, Reps X.K F dd dvs) (hr : Room k X.A) (tk : Takes X W) (hg : Gl X x) (ha : PDA X W (e :: es) fa) (hk : PDK X W kws fk)
    (hall : (backToKw pos (keywordEach kws X.env)).all (·.1.isSome) = true := by rfl) (hks : (backToKw pos (keywordEach kws X.env)).filterMap (·.1) = ks := by rfl)
    (hdb : (x == ("__debug__" : Str)) = false := by decide) (he : starEach (e :: es) X.env = (false, eval e X.env) :: starEach es X.env := by rfl)
    (hpl : ((backTo pos (starEach (e :: es) X.env)).any (·.1) || (backToKw pos (keywordEach kws X.env)).any (·.1.isNone)) = false := by rfl) :
    PD X W (.Call (.Name x p) (e :: es) kws pos) (dCallK n N ks.length sel dd S fa fk) := by
  refine PD.of (pe_callNS h.ok hr hg h.gl h.kp hb (fun σ => passAt tk σ) ha hk hall hks hdb he hpl) fun σ H Q hh => ?_
  obtain ⟨M, F0, H0, F, ρ, ts, τ, l, ft, go⟩ := hh
  have hl := ft.lenT l
  refine ⟨M, F0, H0, F, ρ, ts, τ, l, ft, GoA.bind go (us := []) (cs := []) (by simp) (by simp) rfl fun bs ρ1 F1 H1 xs l1 b1 f1 go1 => ?_⟩
  refine ⟨M, F0, H0, F1, ρ1, ts ++ xs.map some, τ ++ bs, l1, f1, GoA.bind go1 (us := xs.map some) (cs := bs) rfl rfl (by simp [b1]) fun cs ρ2 F2 H2 zs l2 b2 f2 go2 => ?_⟩
  exact sp_callK rfl hd l2 hl b1 (by simpa only [List.append_assoc, List.map_append] using f2) go2 b2
theorem pd_callK0 (h : FnF X.prog X.w X.K X.mg X.base x k n S f fd ps) (hb : KBn X.K fd ps 0 ks g (fun vs zs => selL sel vs dvs zs)) (hd : ∀ F, Reps X.K F dd dvs) (hr : Room k X.A) (tk : Takes X W) (hg : Gl X x) (hk : PDK X W kws fk)
    (hall : (backToKw pos (keywordEach kws X.env)).all (·.1.isSome) = true := by rfl) (hks : (backToKw pos (keywordEach kws X.env)).filterMap (·.1) = ks := by rfl)
    (hdb : (x == ("__debug__" : Str)) = false := by decide)
    (hpl : ((backTo pos (starEach [] X.env)).any (·.1) || (backToKw pos (keywordEach kws X.env)).any (·.1.isNone)) = false := by rfl) :
    PD X W (.Call (.Name x p) [] kws pos) (dCallK n 0 ks.length sel dd S dNil fk) := by
  refine PD.of (pe_callNS0 h.ok hr hg h.gl h.kp hb (fun σ => passAt tk σ) hk hall hks hdb hpl) fun σ H Q hh => ?_
  obtain ⟨M, F0, H0, F, ρ, ts, τ, l, ft, go⟩ := hh
  have hl := ft.lenT l
  have go : Go X.K W M F0 H0 σ ts τ ((fk ρ).bind fun cs ρ2 => match frzs ρ2 ([] ++ cs) with
  | some (ds, ρ3) => if ([] : List B).length = 0 ∧ cs.length = ks.length ∧ (selL sel (ds.take 0) dd (ds.drop 0)).length = n then outD (S (selL sel (ds.take 0) dd (ds.drop 0))) ρ3 else .no
  | none => .no) Q := go
  refine ⟨M, F0, H0, F, ρ, ts, τ, l, ft, GoA.bind go (us := []) (cs := []) (by simp) (by simp) rfl fun cs ρ2 F2 H2 zs l2 b2 f2 go2 => ?_⟩
  exact sp_callK (vs := []) (bs := []) rfl hd l2 hl rfl (by simpa using f2) go2 b2
end

/-! ### {}, {k: v, ..} -/
def dDNewK : Ev → R B := fun ρ => .ok (.own true (.dk [])) ρ
def dDNewT : Ev → R B := fun ρ => .ok (.own true (.dt [])) ρ
section
variable {X : Cx} {W : WX} {K : PySem.W.Frag} {pos : Pos} {M : Addr → Prop} {F0 H0 F H : Hp}
theorem Adds.dk {F H : Hp} {ds : List (Key × D)} {xs : List (Key × V)} {p : Addr} (s : Same F H) (h : H p = none) (r : RepK K F ds xs) : Adds K none0 F H F (upd H p (.dK xs)) (.ref p) (.own true (.dk ds)) :=
  ⟨fun a o _ e => same_upd h a o e, Same.refl F, s.trans (same_upd h), fun _ e _ => e, rfl, p, rfl, s.free h, h, xs, upd_same, r⟩
theorem Adds.dt {F H : Hp} {ds : List (List Key × D)} {xs : List (List Key × V)} {p : Addr} (s : Same F H) (h : H p = none) (r : RepT K F ds xs) : Adds K none0 F H F (upd H p (.dT xs)) (.ref p) (.own true (.dt ds)) :=
  ⟨fun a o _ e => same_upd h a o e, Same.refl F, s.trans (same_upd h), fun _ e _ => e, rfl, p, rfl, s.free h, h, xs, upd_same, r⟩
theorem pd_dnewK : PD X W (.Dict [] [] pos) dDNewK := PD.of pe_dnewK fun σ H Q h => by
  obtain ⟨M, F0, H0, F, ρ, ts, τ, l, ft, go⟩ := h
  intro p hp
  exact (show ∀ F' H' v, ρ.length = σ.length → Fit X.K M F0 H0 σ.length F' H' (σ ++ (ts ++ [some v])) (ρ ++ (τ ++ [.own true (.dk [])])) → Q v H' from go) F _ _ l (Fit.res (js := []) (jb := []) (by simpa using ft) l (ft.lenT l) (Adds.dk ft.sub hp (by simp only [RepK])))
theorem pd_dnewT : PD X W (.Dict [] [] pos) dDNewT := PD.of pe_dnewT fun σ H Q h => by
  obtain ⟨M, F0, H0, F, ρ, ts, τ, l, ft, go⟩ := h
  intro p hp
  exact (show ∀ F' H' v, ρ.length = σ.length → Fit X.K M F0 H0 σ.length F' H' (σ ++ (ts ++ [some v])) (ρ ++ (τ ++ [.own true (.dt [])])) → Q v H' from go) F _ _ l (Fit.res (js := []) (jb := []) (by simpa using ft) l (ft.lenT l) (Adds.dt ft.sub hp (by simp only [RepT])))
end
end Dl
namespace Dl
open PySem PySem.Spec PyProof.Rows L2

/-! ### {k: v, ..} -/
abbrev EF := Ev → R B
def flatA : List (EF × EF) → Ev → R (List B)
  | [] => dNil
  | (fk, fv) :: r => dCons fk (dCons fv (flatA r))
def pairV : List V → List (V × V)
  | x :: y :: r => (x, y) :: pairV r
  | _ => []
def pairD : List D → Option (List (Key × D))
  | [] => some []
  | x :: y :: r => match keyD x, pairD r with
    | some k, some ps => some ((k, y) :: ps)
    | _, _ => none
  | _ => none
def mergeD (kvs more : List (Key × D)) : List (Key × D) := more.foldl (fun acc kv => putD acc kv.1 kv.2) kvs
def dDisp (fs : List (EF × EF)) : EF := fun ρ => (flatA fs ρ).bind fun bs ρ1 => match frzs ρ1 bs with
  | some (ds, ρ2) => match pairD ds with
    | some kvs => if kvs.length ≤ 15 then .ok (.own true (.dk (mergeD [] kvs))) ρ2 else .no
    | none => .no
  | none => .no
section
variable {X : Cx} {W : WX} {K : PySem.W.Frag} {pos : Pos} {M : Addr → Prop} {F0 H0 F H : Hp}
def trsOf (K : PySem.W.Frag) (W : WX) (fs : List (EF × EF)) : List (TE × TE) := fs.map fun p => (tE K W p.1, tE K W p.2)
def PDPs (X : Cx) (W : WX) (pos : Pos) (keys : List (Option Expr)) (values : List Expr) (fs : List (EF × EF)) : Prop := PPs X pos keys values (trsOf X.K W fs)
theorem pdps_nil : PDPs X W pos [] [] [] := pps_nil
theorem pdps_cons {k v : Expr} {ks : List (Option Expr)} {vs : List Expr} {fk fv : EF} {fs : List (EF × EF)} (hk : PD X W k fk) (hv : PD X W v fv) (hr : PDPs X W pos ks vs fs) : PDPs X W pos (some k :: ks) (v :: vs) ((fk, fv) :: fs) := pps_cons hk hv hr
theorem tP_nil {σ : L2.St} {H : Hp} {Q : List V → Hp → Prop} (h : tA K W dNil σ H Q) : Q [] H := by
  obtain ⟨M, F0, H0, F, ρ, ts, τ, l, ft, go⟩ := h
  exact (show ∀ F' H' (vs : List V), ρ.length = σ.length → ([] : List B).length = vs.length → Fit K M F0 H0 σ.length F' H' (σ ++ (ts ++ vs.map some)) (ρ ++ (τ ++ [])) → Q vs H' from go) F H [] l rfl (by simpa using ft)
theorem tE_imp {f : EF} {σ : L2.St} {H : Hp} {Q Q' : VK} (h : tE K W f σ H Q) (i : ∀ v H', Q v H' → Q' v H') : tE K W f σ H Q' := by
  obtain ⟨M, F0, H0, F, ρ, ts, τ, l, ft, go⟩ := h
  refine ⟨M, F0, H0, F, ρ, ts, τ, l, ft, ?_⟩
  cases e : f ρ with
  | no => rw [e] at go; exact go.elim
  | er C fs ρ1 => rw [e] at go; exact go
  | ok b ρ1 => rw [e] at go; exact fun F' H' v l f => i _ _ (go F' H' v l f)
theorem tP_of : ∀ (fs : List (EF × EF)) (σ : L2.St) (H : Hp) (Q : List (V × V) → Hp → Prop), tA K W (flatA fs) σ H (fun xs H' => Q (pairV xs) H') → tPairs (trsOf K W fs) σ H Q
  | [], σ, H, Q, h => tP_nil h
  | (fk, fv) :: r, σ, H, Q, h => by
    have h1 := tA_cons σ H _ h
    refine tE_imp h1 fun x H1 h2 => ?_
    have h3 := tA_cons σ H1 _ h2
    exact tE_imp h3 fun y H2 h4 => tP_of r σ H2 _ h4
theorem pair_ok {F : Hp} : ∀ {ds : List D} {vs : List V} {kvs : List (Key × D)}, Reps K F ds vs → pairD ds = some kvs → ∃ us : List (Key × V), pairV vs = us.map (fun kv => (kV kv.1, kv.2)) ∧ RepK K F kvs us
  | [], vs, kvs, h, e => by simp only [Reps] at h; subst h; cases e; exact ⟨[], rfl, by simp only [RepK]⟩
  | [_], _, _, _, e => by cases e
  | x :: y :: r, vs, kvs, h, e => by
    simp only [Reps] at h
    obtain ⟨v, _, rfl, h1, w, r2, rfl, h2, h3⟩ := h
    simp only [pairD] at e
    cases e1 : keyD x with
    | none => rw [e1] at e; cases e
    | some k =>
      cases e2 : pairD r with
      | none => rw [e1, e2] at e; cases e
      | some ps =>
        rw [e1, e2] at e; cases e
        obtain ⟨us, q1, q2⟩ := pair_ok h3 e2
        refine ⟨(k, w) :: us, ?_, by simp only [RepK]; exact ⟨w, us, rfl, h2, q2⟩⟩
        show (v, w) :: pairV r2 = _
        rw [q1, keyD_v h1 e1]; rfl
theorem RepK.merge {F : Hp} {more : List (Key × D)} : ∀ {ms : List (Key × V)} {ds : List (Key × D)} {vs : List (Key × V)}, RepK K F more ms → RepK K F ds vs → RepK K F (mergeD ds more) (mergeK vs ms) := by
  induction more with
  | nil => intro ms ds vs h h2; simp only [RepK] at h; subst h; exact h2
  | cons p more ih =>
    intro ms ds vs h h2
    obtain ⟨k, d⟩ := p
    simp only [RepK] at h
    obtain ⟨v, r, rfl, h3, h4⟩ := h
    exact ih (ms := r) (ds := putD ds k d) (vs := putK vs k v) h4 (h2.put h3)
theorem pd_disp {keys : List (Option Expr)} {values : List Expr} {fs : List (EF × EF)} (h : PDPs X W pos keys values fs) (hall : keys.all (·.isSome) = true) (hl : keys.length = values.length) (h0 : keys ≠ [])
    (h15 : keys.length ≤ 15) : PD X W (.Dict keys values pos) (dDisp fs) := PD.of (pe_disp h hall hl h0 h15) fun σ H Q hq => by
  obtain ⟨M, F0, H0, F, ρ, ts, τ, l, ft, go⟩ := hq
  have hl := ft.lenT l
  intro p hp
  have f0 : Fit X.K M F0 H0 σ.length F (upd H p (.dK [])) (σ ++ (ts ++ [some (.ref p)])) (ρ ++ (τ ++ [.own true (.dk [])])) := Fit.res (js := []) (jb := []) (by simpa using ft) l hl (Adds.dk ft.sub hp (by simp only [RepK]))
  refine tP_of fs σ _ _ ⟨M, F0, H0, F, ρ, ts ++ [some (.ref p)], τ ++ [.own true (.dk [])], l, f0, GoA.bind go (us := [some (.ref p)]) (cs := [.own true (.dk [])]) rfl rfl rfl fun bs ρ1 F1 H1 xs l1 l2 f1 go1 => ?_⟩
  cases e : frzs ρ1 bs with
  | none => rw [e] at go1; exact go1.elim
  | some q =>
    obtain ⟨ds, ρ2⟩ := q
    rw [e] at go1
    simp only at go1
    cases e2 : pairD ds with
    | none => rw [e2] at go1; exact go1.elim
    | some kvs =>
      rw [e2] at go1
      simp only at go1
      by_cases hz : kvs.length ≤ 15
      · rw [if_pos hz] at go1
        obtain ⟨F2, s2, l3, f2, r2⟩ := f1.frzs bs xs _ _ _ _ _ _ l1 (by simp [hl]) e
        obtain ⟨us, q1, q2⟩ := pair_ok r2 e2
        have gb9 : (ρ2 ++ (τ ++ [B.own true (.dk [])]))[σ.length + ts.length]? = some (B.own true (.dk [])) := by
          rw [hl, ← l3]; exact get_mid _ _ _ []
        have gv9 : (σ ++ (ts ++ [some (V.ref p)]))[σ.length + ts.length]? = some (some (V.ref p)) := get_mid _ _ _ []
        obtain ⟨p', h1, h2, h3, h4⟩ := f2.own _ _ _ gb9
        rw [gv9] at h1; cases h1
        obtain ⟨us0, h5, h6⟩ := h4
        simp only [RepK] at h6
        subst h6
        refine ⟨h5, us, q1, by rw [← q2.length]; exact hz, ?_⟩
        have f3 := f2.write (o' := .dk (mergeD [] kvs)) (u := .dK (mergeK [] us)) gb9 gv9 ⟨_, upd_same, q2.merge (by simp only [RepK])⟩ (fun _ z => nomatch z)
        rw [hl] at f3
        have e9 : (ρ2 ++ (τ ++ [B.own true (.dk [])])).set (σ.length + τ.length) (.own true (.dk (mergeD [] kvs))) = ρ2 ++ (τ ++ [.own true (.dk (mergeD [] kvs))]) := by rw [← l3]; exact set_mid _ _ _ _ _
        rw [e9] at f3
        exact go1 F2 _ _ l3 f3
      · rw [if_neg hz] at go1; exact go1.elim
end

/-! ### making an instance: C(a, ..) -/
inductive RM where
  | ok (fs : List (Str × D)) | er (C : Nat) (fs : List (Str × D)) | no
abbrev SM := List D → RM
/-- the __init__ S does what g says, whatever the instance's dict -/
def InitBy (C : Nat) (S : SI) (g : SM) : Prop := ∀ (dx : Addr) (ds : List D), match g ds with
  | .ok fs => S (.ins C dx []) ds = .ok (.val .non) (.ins C dx fs)
  | .er E fs => ∃ gs, S (.ins C dx []) ds = .er E fs (.ins C dx gs)
  | .no => True
def outM (C : Nat) (r : RM) (ρ : Ev) : R B := match r with
  | .ok fs => .ok (.val (.ins C fs)) ρ
  | .er E fs => .er E fs ρ
  | .no => .no
def dMake (C : Nat) (n : Nat) (g : SM) (dd : List D) (fa : Ev → R (List B)) : EF := fun ρ => (fa ρ).bind fun bs ρ1 => match frzs ρ1 bs with
  | some (ds, ρ2) => if (ds ++ dd).length + 1 = n then outM C (g (ds ++ dd)) ρ2 else .no
  | none => .no
section
variable {X : Cx} {W : WX} {K : PySem.W.Frag} {fa : Ev → R (List B)} {e : Expr} {es : List Expr} {x : Str} {p pos : Pos} {k n : Nat} {S : SI} {g : SM} {C : Nat} {C0 f : Addr} {fd : FuncData} {ps : List Str} {ds : List Value} {dvs : List V} {dd : List D}
theorem Adds.ins {F H : Hp} {C : Nat} {a dx : Addr} {fs : List (Str × D)} {us : List (Str × V)} {F' H' : Hp} (g : Grw none0 F H F' H') (hp : F' a = none) (hd : F' dx = none) (ha : H a = none) (hx : H dx = none) (h1 : H' a = some (.ins (ca K C) dx us)) (h2 : H' dx = some (.own a)) (r : RepF K F' fs us) (hne : dx ≠ a) :
    Adds K none0 F H (upd (upd F' dx (.own a)) a (.ins (ca K C) dx us)) H' (.ref a) (.val (.ins C fs)) := by
  have s1 : Same F' (upd (upd F' dx (.own a)) a (.ins (ca K C) dx us)) := fun b o e => by
    rw [upd_ne (ne_of_none e hp), upd_ne (ne_of_none e hd)]; exact e
  refine ⟨g.same, g.sameF.trans s1, fun b o e => ?_, fun b e1 e2 => ?_, ?_⟩
  · by_cases hb : b = a
    · subst hb; rw [upd_same] at e; cases e; exact h1
    · rw [upd_ne hb] at e
      by_cases hb : b = dx
      · subst hb; rw [upd_same] at e; cases e; exact h2
      · rw [upd_ne hb] at e; exact g.sub _ _ e
  · rw [upd_ne (fun z => by subst z; exact e2 ha), upd_ne (fun z => by subst z; exact e2 hx)]; exact g.new b e1 e2
  · show Rep K _ (.ins C fs) (.ref a)
    simp only [Rep]
    exact ⟨a, dx, us, rfl, upd_same, by rw [upd_ne hne, upd_same], RepF.mono s1 _ _ r⟩
/-- what is laid for a new instance -/
theorem made_own {F H : Hp} {C : Nat} {a dx : Addr} (s : Same F H) (ha : H a = none) (hx : H dx = none) (hne : dx ≠ a) : Same F (upd (upd H dx (.own a)) a (.ins (ca K C) dx [])) ∧ F a = none ∧ OwnAt K (fun b => b = dx) F (upd (upd H dx (.own a)) a (.ins (ca K C) dx [])) a (.ins C dx []) := by
  have s1 : Same H (upd (upd H dx (.own a)) a (.ins (ca K C) dx [])) := fun b o e => by
    rw [upd_ne (ne_of_none e ha), upd_ne (ne_of_none e hx)]; exact e
  exact ⟨s.trans s1, s.free ha, [], upd_same, by simp only [RepF], by rw [upd_ne hne, upd_same], s.free hx, rfl⟩
theorem make_ok {F H : Hp} {C : Nat} {a dx : Addr} {as : List D} {zs : List V} {Q : VK} {E : XK} (s : Same F H) (r : Reps K F as zs) (hn : as.length + 1 = n) (hi : InitBy C S g) (ha : H a = none) (hx : H dx = none) (hne : dx ≠ a)
    (hq : match g as with
      | .ok fs => ∀ F' H' v, Adds K none0 F H F' H' v (.val (.ins C fs)) → Q v H'
      | .er E1 fs => ∀ F' H' dd, Grw none0 F H F' H' → ExcAt K F' dd fs → E (.ref (ca K E1)) (some dd) H'
      | .no => False) : spI K n S (.ref a :: zs) (upd (upd H dx (.own a)) a (.ins (ca K C) dx [])) (fun v H2 => v = .non ∧ Q (.ref a) H2) E := by
  obtain ⟨s1, hF, hO⟩ := made_own (K := K) s ha hx hne (C := C)
  refine ⟨a, zs, F, _, as, rfl, by simp [← r.length, hn], s1, hF, hO.triv, r, ?_⟩
  have back : ∀ {F' H' : Hp}, Grw (· = a) F (upd (upd H dx (.own a)) a (.ins (ca K C) dx [])) F' H' → F' a = none → Grw none0 F H F' H' := fun {F' H'} gr h1 => by
    refine ⟨fun b o _ e => gr.same b o (ne_of_none e ha) (by rw [upd_ne (ne_of_none e ha), upd_ne (ne_of_none e hx)]; exact e), gr.sameF, gr.sub, fun b e1 e2 => gr.new b e1 ?_⟩
    have h3 : b ≠ a := fun z => by subst z; exact e2 ha
    have h4 : b ≠ dx := fun z => by subst z; exact e2 hx
    rw [upd_ne h3, upd_ne h4]; exact e2
  have h := hi dx as
  cases eg : g as with
  | no => rw [eg] at hq; exact hq.elim
  | er E1 fs =>
    rw [eg] at hq h
    obtain ⟨gs, h⟩ := h
    rw [h]
    exact fun F' H' dd gr h1 _ x => hq F' H' dd (back gr h1) x
  | ok fs =>
    rw [eg] at hq h
    simp only at h
    rw [h]
    intro F' H' v ad h1 h2
    have hv : v = .non := by have := ad.res; simpa only [Rep] using this
    obtain ⟨us, q1, q2, q3, q4, _⟩ := h2
    refine ⟨hv, hq _ _ _ (Adds.ins (back ⟨ad.same, ad.sameF, ad.sub, ad.new⟩ h1) h1 q4 ha hx q1 q3 q2 hne)⟩
def tMakeS (C : Addr) (sp : Sp) (dvs : List V) (E : L2.St → XK) (t : TA) : TE := fun σ H Q => t σ H fun vs H1 => ∀ x dx, H1 x = none → H1 dx = none → dx ≠ x →
  sp (.ref x :: (vs ++ dvs)) (upd (upd H1 dx (.own x)) x (.ins C dx [])) (fun v H2 => v = .non ∧ Q (.ref x) H2) (E σ)
theorem run_makeS {CX : CXT} {sp : Sp} {E : XK} {pins : List (Addr × Obj)} {σ : L2.St} {H : Hp} {s : Shared} {Q : VK} {us : List Value} {vs : List V} (M : Mk X.K C0 f) (F : FnOk X.prog X.w X.K X.mg X.base CX k f fd ps sp) (hr : Room (k + 1) X.A) (hb : Binds X.K fd ps ds) (hd : Vals dvs ds)
    (hx : PassesAt CX X σ E) (I : Inv X pins σ H s) (r : Vals vs us)
    (h : ∀ x dx, H x = none → H dx = none → dx ≠ x → sp (.ref x :: (vs ++ dvs)) (upd (upd H dx (.own x)) x (.ins C0 dx [])) (fun v H2 => v = .non ∧ Q (.ref x) H2) E) :
    wpAny (model X.prog X.w) X.A (call (.ref C0) us) (EP X pins σ Q) X.xe s := by
  have hq := h (s.heap.objs.size + 1) s.heap.objs.size (I.hok.fresh (Nat.le_succ _)) (I.hok.fresh (Nat.le_refl _)) (Nat.ne_of_lt (Nat.lt_succ_self _))
  have I2 := Inv.made (C := C0) I
  have r2 : Vals (V.ref (s.heap.objs.size + 1) :: (vs ++ dvs)) (Value.ref (s.heap.objs.size + 1) :: (us ++ ds)) := .cons rfl (r.append hd)
  have hl : (Value.ref (s.heap.objs.size + 1) :: us ++ ds).length = ps.length := by
    have e := r2.length
    rw [F.len _ _ _ _ hq] at e
    exact e.symm
  refine wpAny_call (make_map (f := f) I.kIn M.makes M.init (beq_iff_eq.mp M.fn) (codeAny_mono (F.run _ X.stack _ _ ⟨Value.ref (s.heap.objs.size + 1) :: us, []⟩ (Value.ref (s.heap.objs.size + 1) :: (us ++ ds)) _ _ E (hr.make C0 us [])
    (I2.env0.make C0 us []) (hb _ (Value.ref (s.heap.objs.size + 1) :: us) I2.kIn hl) r2 hq) fun r s' hq' => ?_))
  cases r with
  | error e => exact hx pins _ _ e s' I2 hq'
  | ok fl =>
    cases fl with
    | ret u =>
      obtain ⟨v, H', I3, rv, ev, q3⟩ := I2.after hq'
      subst ev
      exact ⟨rv, ⟨V.ref (s.heap.objs.size + 1), H', I3, rfl, q3⟩⟩
    | next => exact False.elim hq'
    | brk => exact False.elim hq'
    | cont => exact False.elim hq'
/-- the class x of the text, its __init__'s promise -/
structure MkF (P : Program) (w : World) (K : PySem.W.Frag) (mg : Str → Option Value) (base : Heap) (x : Str) (k n : Nat) (C : Nat) (g : SM) (f : Addr) (fd : FuncData) (ps : List Str) : Prop where
  gl : mg x = some (.ref (ca K C))
  mkd : Mk K (ca K C) f
  ex : ∃ S, FnOk P w K mg base (L2.CX P w) k f fd ps (spI K n S) ∧ InitBy C S g
theorem tE_make {σ : L2.St} {H : Hp} {Q : VK} (hi : InitBy C S g) (hd : ∀ F, Reps K F dd dvs) (hq : tE K W (dMake C n g dd fa) σ H Q) : tMakeS (ca K C) (spI K n S) dvs (WE W) (tA K W fa) σ H Q := by
  obtain ⟨M, F0, H0, F, ρ, ts, τ, l, ft, go⟩ := hq
  have hl := ft.lenT l
  refine ⟨M, F0, H0, F, ρ, ts, τ, l, ft, GoA.bind go (us := []) (cs := []) (by simp) (by simp) rfl fun bs ρ1 F1 H1 xs l1 l2 f1 go1 => ?_⟩
  cases e1 : frzs ρ1 bs with
  | none => rw [e1] at go1; exact go1.elim
  | some q =>
    obtain ⟨as, ρ2⟩ := q
    rw [e1] at go1
    simp only at go1
    obtain ⟨F2, s2, l3, f2, r2⟩ := f1.frzs bs xs _ _ _ _ _ _ l1 hl e1
    by_cases hn : (as ++ dd).length + 1 = n
    · rw [if_pos hn] at go1
      intro a dx ha hx hne
      refine make_ok f2.sub (r2.appD hd) hn hi ha hx hne ?_
      cases eg : g (as ++ dd) with
      | no => rw [eg] at go1; exact go1.elim
      | er E1 fs => rw [eg] at go1; exact fun F' H' dd' gr x => go1 F' H' dd' l3 (f2.grw gr) x
      | ok fs => rw [eg] at go1; exact fun F' H' v a => go1 F' H' v l3 (Fit.res (js := []) (jb := []) (by simpa using f2) l3 hl a)
    · rw [if_neg hn] at go1; exact go1.elim
theorem pd_make (m : MkF X.prog X.w X.K X.mg X.base x k n C g f fd ps) (hb : Binds X.K fd ps ds) (hv : Vals dvs ds) (hd : ∀ F, Reps X.K F dd dvs) (hr : Room (k + 1) X.A) (tk : Takes X W) (hg : Gl X x) (ha : PDA X W (e :: es) fa)
    (hdb : (x == ("__debug__" : Str)) = false := by decide) (he : starEach (e :: es) X.env = (false, eval e X.env) :: starEach es X.env := by rfl) (hpl : (backTo pos (starEach es X.env)).any (·.1) = false := by rfl) :
    PD X W (.Call (.Name x p) (e :: es) [] pos) (dMake C n g dd fa) := by
  obtain ⟨S, F, hi⟩ := m.ex
  refine ⟨fun pins s σ H Q I h => ?_⟩
  refine wpAny_Call_Name_kw (ld_glob I hg m.gl ?_ hdb)
  refine PySem.W.callWith_K (h₀ := X.base) I.ok.mod.kin m.mkd.kp (thn ((show PA X (e :: es) (tA X.K W fa) from ha).run pos pins s σ H _ I (tE_make hi hd h)) fun us s1 ⟨vs, H1, I1, r, q⟩ => ⟨I1.kIn, ?_⟩) he hpl
  exact run_makeS m.mkd F hr hb hv (passAt tk σ) I1 r q
end
end Dl
namespace Dl
open PySem PySem.Spec PyProof.Rows L2

/-! ### bodies, whatever calls them -/
section
variable {K : PySem.W.Frag}
theorem start_len {N : List Str} {vs : List V} (h : vs.length ≤ N.length) : (L2.start N vs).length = N.length := by rw [start_eq]; simp; omega
theorem body_D {N : List Str} {n : Nat} {g : Ev → R Fl} {vs : List V} {H : Hp} {Q : VK} {E : XK} (hn : n ≤ N.length) (h : spD K n (fnD N.length g) vs H Q E) : tS K (wE E) g { nx := fun _ H' => Q .non H', rt := Q } (L2.start N vs) H := by
  obtain ⟨hv, F, ds, sF, r, h⟩ := h
  have hl := r.length
  have hsl : (L2.start N vs).length = N.length := start_len (by omega)
  refine ⟨none0, F, H, F, ds.map B.val ++ List.replicate (N.length - ds.length) .un, [], [], by rw [hsl]; simp; omega, noAl_nil, ?_, ?_⟩
  · rw [hsl, List.append_nil, List.append_nil, start_eq]; exact fit_start sF r (by omega)
  · rw [hsl]
    unfold fnD at h
    cases e : g (ds.map B.val ++ List.replicate (N.length - ds.length) .un) with
    | no => rw [e] at h; exact h.elim
    | er C fs ρ =>
      rw [e] at h
      exact fun F' H' σ' dd _ _ f x => h F' H' dd f.done x
    | ok fl ρ =>
      rw [e] at h
      cases fl with
      | nx => exact fun F' H' σ' _ _ f => h F' H' .non (f.done.adds rep_non)
      | bk => exact h.elim
      | ct => exact h.elim
      | rt b =>
        intro F' H' σ' v l1 l2 f
        have f2 : Fit K none0 F H N.length F' H' (σ' ++ [some v]) (ρ ++ [b]) := f
        cases b with
        | un => exact h.elim
        | al j => exact h.elim
        | val d => exact h F' H' v (f2.gives (by omega) True.intro)
        | own gg o =>
          cases gg with
          | false => exact h.elim
          | true => exact h F' H' v (f2.gives (by omega) rfl)
theorem body_I {N : List Str} {n : Nat} {g : Ev → R Fl} {vs : List V} {H : Hp} {Q : VK} {E : XK} (hn : n ≤ N.length) (h : spI K n (fnI N.length g) vs H Q E) : tS K (wE E) g { nx := fun _ H' => Q .non H', rt := Q } (L2.start N vs) H := by
  obtain ⟨p, ws, F, o, ds, rfl, hv, sF, hF, ho, r, h⟩ := h
  have hl := r.length
  simp only [List.length_cons] at hv
  have hsl : (L2.start N (.ref p :: ws)).length = N.length := start_len (by simp; omega)
  have slot0 : ∀ {F' H' : Hp} {σ' ts : L2.St} {ρ : Ev} {cs : List B} {o' : O}, σ'.length = N.length → Fit K (· = p) F H N.length F' H' (σ' ++ ts) (ρ ++ cs) → gb ρ 0 = .own false o' → F' p = none ∧ OwnAt K triv F' H' p o' := fun {F' H' σ' ts ρ cs o'} l1 f e => by
    obtain ⟨q, _, h2, h3, h4⟩ := f.own 0 false o' (get_app (gb_get e (by intro z; cases z)))
    rw [if_neg (by decide)] at h3
    cases h3
    exact ⟨h2, h4.triv⟩
  refine ⟨(· = p), F, H, F, .own false o :: (ds.map B.val ++ List.replicate (N.length - (ds.length + 1)) .un), [], [], by rw [hsl]; simp; omega, noAl_nil, ?_, ?_⟩
  · rw [hsl, List.append_nil, List.append_nil, start_eq]; exact fit_startI sF hF ho r (by omega)
  · rw [hsl]
    unfold fnI at h
    cases e : g (.own false o :: (ds.map B.val ++ List.replicate (N.length - (ds.length + 1)) .un)) with
    | no => rw [e] at h; exact h.elim
    | er C fs ρ =>
      rw [e] at h
      simp only at h
      intro F' H' σ' dd l1 _ f x
      cases e2 : gb ρ 0 with
      | own gg o' =>
        cases gg with
        | false =>
          rw [e2] at h
          obtain ⟨h1, h2⟩ := slot0 l1 f e2
          exact h F' H' dd f.done h1 h2 x
        | true => rw [e2] at h; exact h.elim
      | _ => rw [e2] at h; exact h.elim
    | ok fl ρ =>
      rw [e] at h
      cases fl with
      | nx =>
        simp only at h
        intro F' H' σ' l1 _ f
        cases e2 : gb ρ 0 with
        | own gg o' =>
          cases gg with
          | false =>
            rw [e2] at h
            obtain ⟨h1, h2⟩ := slot0 l1 f e2
            exact h F' H' .non (f.done.adds rep_non) h1 h2
          | true => rw [e2] at h; exact h.elim
        | _ => rw [e2] at h; exact h.elim
      | bk => exact h.elim
      | ct => exact h.elim
      | rt b =>
        intro F' H' σ' v l1 l2 f
        have f2 : Fit K (· = p) F H N.length F' H' (σ' ++ [some v]) (ρ ++ [b]) := f
        cases b with
        | un => exact h.elim
        | al j => exact h.elim
        | val d =>
          simp only at h
          cases e2 : gb ρ 0 with
          | own gg o' =>
            cases gg with
            | false =>
              rw [e2] at h
              obtain ⟨h1, h2⟩ := slot0 l1 f2 e2
              exact h F' H' v (f2.gives (by omega) True.intro) h1 h2
            | true => rw [e2] at h; exact h.elim
          | _ => rw [e2] at h; exact h.elim
        | own gg u =>
          cases gg with
          | false => exact h.elim
          | true =>
            simp only at h
            cases e2 : gb ρ 0 with
            | own gg o' =>
              cases gg with
              | false =>
                rw [e2] at h
                obtain ⟨h1, h2⟩ := slot0 l1 f2 e2
                exact h F' H' v (f2.gives (by omega) rfl) h1 h2
              | true => rw [e2] at h; exact h.elim
            | _ => rw [e2] at h; exact h.elim
end

/-! ### C(a, .., *rest) -/
/-- def __init__(self, a, .., *v) -/
def starSp (m : Nat) (sp : Sp) : Sp := fun vs H Q E => ∃ ws rest, vs = ws ++ rest ∧ ws.length = m ∧ rest.length ≤ sizeLine ∧ ∀ p, H p = Option.none → sp (ws ++ [V.ref p]) (upd H p (.tup rest)) Q E
section
variable {P : Program} {w : World} {K : PySem.W.Frag} {mg : Str → Option Value} {base : Heap}
theorem ok_IS {x qual pv : Str} {st : Stmt} {kws : List (Str × V)} {f : Addr} {fd : FuncData} {N ps : List Str} {k : Nat} {g : Ev → R Fl} (Fn : FunD K x qual (defArgs st) (defBody st) (defScope st) [] kws f fd) (S : FnScope N (ps ++ [pv]) (defScope st)) (hn : (ps ++ [pv]).length ≤ N.length)
    (hb : ∀ (kV doc pm : Value) (an : Option Addr) (cdv ct : Value) (us rest : List Value), us.length = ps.length → bindArgs (PySem.W.fnOf x qual (defArgs st) (defBody st) (defScope st) .none kV doc pm an cdv ct) ⟨us ++ rest, []⟩ = (newTuple rest >>= fun t => pure (ps.zip us ++ [(pv, t)])))
    (hbody : ∀ (cdv : Value) (A : Around) (outer : List Env) (s : Shared) (H : Hp) (E : XK), Room k (A.deeper (envOfC qual (defScope st) s.heap.objs.size f cdv)) → Takes (cxOf (L2.CX P w) P w K mg base N qual (defScope st) f cdv A outer s H E) (wE E) →
      PDSs (cxOf (L2.CX P w) P w K mg base N qual (defScope st) f cdv A outer s H E) (wE E) (defBody st) g) :
    FnR P w K mg base (L2.CX P w) (k + 1) f (starSp ps.length (spI K (ps ++ [pv]).length (fnI N.length g))) := by
  obtain ⟨oc, od, dV, kV, doc, pm, an, cdv, ct, osl, rfl, lk, hcd, hD, hK⟩ := Fn.ex
  rcases hD with ⟨_, rfl⟩ | ⟨e, _⟩
  case inr => exact absurd rfl e
  refine StX.fn_star lk hcd S StX.cxUp (hb kV doc pm an cdv ct) fun A outer s H vs Q E hr hsp => ?_
  exact ⟨_, hbody cdv A outer s H E hr (takes_of rfl rfl rfl rfl), body_I hn hsp⟩
end
/-- the class x of the text, __init__ with a star parameter behind m others (self among them) -/
structure MkR (P : Program) (w : World) (K : PySem.W.Frag) (mg : Str → Option Value) (base : Heap) (x : Str) (k m : Nat) (C : Nat) (g : SM) (f : Addr) : Prop where
  gl : mg x = some (.ref (ca K C))
  mkd : Mk K (ca K C) f
  ex : ∃ S, FnR P w K mg base (L2.CX P w) k f (starSp m (spI K (m + 1) S)) ∧ InitBy C S g
def dMakeR (C : Nat) (m : Nat) (g : SM) (fa : Ev → R (List B)) : EF := fun ρ => (fa ρ).bind fun bs ρ1 => match frzs ρ1 bs with
  | some (ds, ρ2) => if m ≤ ds.length ∧ ds.length ≤ sizeLine then outM C (g (ds.take m ++ [.tup (ds.drop m)])) ρ2 else .no
  | none => .no
section
variable {X : Cx} {W : WX} {K : PySem.W.Frag} {fa : Ev → R (List B)} {e : Expr} {es : List Expr} {x : Str} {p pos : Pos} {k n m : Nat} {S : SI} {g : SM} {C : Nat} {f : Addr}
theorem upd_comm {H : Hp} {a b : Addr} {u v : HO} (h : a ≠ b) : upd (upd H a u) b v = upd (upd H b v) a u := by
  funext c
  unfold upd
  by_cases h1 : c = a
  · subst h1; simp [h]
  · simp [h1]
theorem run_makeRS {CX : CXT} {sp : Sp} {E : XK} {C0 : Addr} {pins : List (Addr × Obj)} {σ : L2.St} {H : Hp} {s : Shared} {Q : VK} {us : List Value} {vs : List V} (M : Mk X.K C0 f) (F : FnR X.prog X.w X.K X.mg X.base CX k f sp) (hr : Room (k + 1) X.A) (hx : PassesAt CX X σ E) (I : Inv X pins σ H s) (r : Vals vs us)
    (h : ∀ x dx, H x = none → H dx = none → dx ≠ x → sp (V.ref x :: vs) (upd (upd H dx (.own x)) x (.ins C0 dx [])) (fun v H2 => v = .non ∧ Q (.ref x) H2) E) :
    wpAny (model X.prog X.w) X.A (call (.ref C0) us) (EP X pins σ Q) X.xe s := by
  have hq := h (s.heap.objs.size + 1) s.heap.objs.size (I.hok.fresh (Nat.le_succ _)) (I.hok.fresh (Nat.le_refl _)) (Nat.ne_of_lt (Nat.lt_succ_self _))
  have I2 := Inv.made (C := C0) I
  have r2 : Vals (V.ref (s.heap.objs.size + 1) :: vs) (Value.ref (s.heap.objs.size + 1) :: us) := .cons rfl r
  refine wpAny_call (make_map (f := f) I.kIn M.makes M.init (beq_iff_eq.mp M.fn) (codeAny_mono (F _ X.stack _ _ (Value.ref (s.heap.objs.size + 1) :: us) _ _ E (hr.make C0 us []) (I2.env0.make C0 us []) r2 hq) fun r s' hq' => ?_))
  cases r with
  | error e => exact hx pins _ _ e s' I2 hq'
  | ok fl =>
    cases fl with
    | ret u =>
      obtain ⟨v, H', I3, rv, ev, q3⟩ := I2.after hq'
      subst ev
      exact ⟨rv, ⟨V.ref (s.heap.objs.size + 1), H', I3, rfl, q3⟩⟩
    | next => exact False.elim hq'
    | brk => exact False.elim hq'
    | cont => exact False.elim hq'
theorem tE_makeR {σ : L2.St} {H : Hp} {Q : VK} (hi : InitBy C S g) (hq : tE K W (dMakeR C m g fa) σ H Q) : tA K W fa σ H fun vs H1 => ∀ x dx, H1 x = none → H1 dx = none → dx ≠ x →
    starSp (m + 1) (spI K (m + 1 + 1) S) (V.ref x :: vs) (upd (upd H1 dx (.own x)) x (.ins (ca K C) dx [])) (fun v H2 => v = .non ∧ Q (.ref x) H2) (WE W σ) := by
  obtain ⟨M, F0, H0, F, ρ, ts, τ, l, ft, go⟩ := hq
  have hl := ft.lenT l
  refine ⟨M, F0, H0, F, ρ, ts, τ, l, ft, GoA.bind go (us := []) (cs := []) (by simp) (by simp) rfl fun bs ρ1 F1 H1 xs l1 l2 f1 go1 => ?_⟩
  cases e1 : frzs ρ1 bs with
  | none => rw [e1] at go1; exact go1.elim
  | some q =>
    obtain ⟨as, ρ2⟩ := q
    rw [e1] at go1
    simp only at go1
    obtain ⟨F2, s2, l3, f2, r2⟩ := f1.frzs bs xs _ _ _ _ _ _ l1 hl e1
    by_cases hn : m ≤ as.length ∧ as.length ≤ sizeLine
    · rw [if_pos hn] at go1
      intro a dx ha hx hne
      have hlx := r2.length
      refine ⟨V.ref a :: xs.take m, xs.drop m, by simp, by simp; omega, by simp; omega, fun t ht => ?_⟩
      have hta : t ≠ a := fun z => by subst z; rw [upd_same] at ht; cases ht
      rw [upd_ne hta] at ht
      have htd : t ≠ dx := fun z => by subst z; rw [upd_same] at ht; cases ht
      rw [upd_ne htd] at ht
      rw [upd_comm (Ne.symm hta), upd_comm (Ne.symm htd)]
      have f3 : Fit K M F0 H0 σ.length (upd F2 t (.tup (xs.drop m))) (upd H1 t (.tup (xs.drop m))) (σ ++ ts) (ρ2 ++ τ) := by
        have := (f2.add (Adds.tup f2.sub ht (r2.drop m)))
        exact this.drop f2.len
      have hF2 : F2 t = none := f2.sub.free ht
      have r3 : Reps K (upd F2 t (.tup (xs.drop m))) (as.take m ++ [.tup (as.drop m)]) (xs.take m ++ [V.ref t]) := by
        have s3 := same_upd (o := .tup (xs.drop m)) hF2
        refine (Reps.mono s3 _ _ (r2.take m)).app ?_
        simp only [Reps, Rep]
        exact ⟨_, [], rfl, ⟨t, _, rfl, upd_same, Reps.mono s3 _ _ (r2.drop m)⟩, rfl⟩
      refine make_ok f3.sub r3 (by simp; omega) hi (by rw [upd_ne (Ne.symm hta)]; exact ha) (by rw [upd_ne (Ne.symm htd)]; exact hx) hne ?_
      cases eg : g (as.take m ++ [.tup (as.drop m)]) with
      | no => rw [eg] at go1; exact go1.elim
      | er E1 fs => rw [eg] at go1; exact fun F' H' dd' gr x => go1 F' H' dd' l3 (f3.grw gr) x
      | ok fs => rw [eg] at go1; exact fun F' H' v a => go1 F' H' v l3 (Fit.res (js := []) (jb := []) (by simpa using f3) l3 hl a)
    · rw [if_neg hn] at go1; exact go1.elim
theorem pd_makeR (mk : MkR X.prog X.w X.K X.mg X.base x k (m + 1) C g f) (hr : Room (k + 1) X.A) (tk : Takes X W) (hg : Gl X x) (ha : PDA X W (e :: es) fa)
    (hdb : (x == ("__debug__" : Str)) = false := by decide) (he : starEach (e :: es) X.env = (false, eval e X.env) :: starEach es X.env := by rfl) (hpl : (backTo pos (starEach es X.env)).any (·.1) = false := by rfl) :
    PD X W (.Call (.Name x p) (e :: es) [] pos) (dMakeR C m g fa) := by
  obtain ⟨S, F, hi⟩ := mk.ex
  refine ⟨fun pins s σ H Q I h => ?_⟩
  refine wpAny_Call_Name_kw (ld_glob I hg mk.gl ?_ hdb)
  refine PySem.W.callWith_K (h₀ := X.base) I.ok.mod.kin mk.mkd.kp (thn ((show PA X (e :: es) (tA X.K W fa) from ha).run pos pins s σ H _ I (tE_makeR hi h)) fun us s1 ⟨vs, H1, I1, r, q⟩ => ⟨I1.kIn, ?_⟩) he hpl
  exact run_makeRS mk.mkd F hr (passAt tk σ) I1 r q
end

/-! ### e.f, e.f = v -/
structure FldF (K : PySem.W.Frag) (C : Nat) (f : Str) : Prop where
  cl : Cls K (ca K C)
  na : NoAttr K (ca K C) f
def dFld (cs : List Nat) (f : Str) (fe : EF) : EF := fun ρ => (fe ρ).bind fun b ρ1 => match look ρ1 b with
  | some (.ins C fs) => if cs.contains C = true then match fs.lookup f with
      | some d => .ok (.val d) ρ1
      | none => .no
    else .no
  | _ => .no
def putFD (f : Str) (v : D) : List (Str × D) → List (Str × D)
  | [] => [(f, v)]
  | (g, x) :: r => if g = f then (g, v) :: r else (g, x) :: putFD f v r
def stFld (cs : List Nat) (f : Str) (v o : B) (ρ : Ev) : R Fl := match o with
  | .al j => match frz1 ρ v with
    | some (d, ρ1) => match gb ρ1 j with
      | .own g (.ins C dx fs) => if cs.contains C = true ∧ fs.length < 1000 then .ok .nx (ρ1.set j (.own g (.ins C dx (putFD f d fs)))) else .no
      | _ => .no
    | none => .no
  | _ => .no
def sFldD (cs : List Nat) (f : Str) (fv fo : EF) : Ev → R Fl := fun ρ => (fv ρ).bind fun v ρ1 => (fo ρ1).bind fun o ρ2 => stFld cs f v o ρ2
section
variable {K : PySem.W.Frag} {F H : Hp}
theorem RepF.lookup {f : Str} {d : D} : ∀ {fs : List (Str × D)} {us : List (Str × V)}, RepF K F fs us → fs.lookup f = some d → ∃ v, us.lookup f = some v ∧ Rep K F d v
  | [], us, h, e => by cases e
  | (g, x) :: fs, us, h, e => by
    simp only [RepF] at h
    obtain ⟨v, r, rfl, h1, h2⟩ := h
    simp only [List.lookup] at e ⊢
    cases hb : (f == g) with
    | true => rw [hb] at e; cases e; exact ⟨v, rfl, h1⟩
    | false => rw [hb] at e; exact RepF.lookup h2 e
theorem RepF.length : ∀ {fs : List (Str × D)} {us : List (Str × V)}, RepF K F fs us → fs.length = us.length
  | [], us, h => by simp only [RepF] at h; subst h; rfl
  | (g, x) :: fs, us, h => by simp only [RepF] at h; obtain ⟨v, r, rfl, h1, h2⟩ := h; simp [RepF.length h2]
theorem RepF.put {f : Str} {d : D} {v : V} (hv : Rep K F d v) : ∀ {fs : List (Str × D)} {us : List (Str × V)}, RepF K F fs us → RepF K F (putFD f d fs) (putF f v us)
  | [], us, h => by simp only [RepF] at h; subst h; simp only [putFD, putF, RepF]; exact ⟨v, [], rfl, hv, rfl⟩
  | (g, x) :: fs, us, h => by
    simp only [RepF] at h
    obtain ⟨w, r, rfl, h1, h2⟩ := h
    simp only [putFD, putF]
    by_cases e : g = f
    · rw [if_pos e, if_pos e]; simp only [RepF]; exact ⟨v, r, rfl, hv, h2⟩
    · rw [if_neg e, if_neg e]; simp only [RepF]; exact ⟨w, _, rfl, h1, RepF.put hv h2⟩
end
section
variable {X : Cx} {W : WX} {fe fv fo : EF} {e o value : Expr} {f : Str} {pos pos' : Pos} {cs : List Nat}
theorem mem_of_contains {C : Nat} (h : cs.contains C = true) : C ∈ cs := by simpa using h
theorem pd_fld (hc : ∀ C ∈ cs, FldF X.K C f) (he : PD X W e fe) (hb : attributeBase e f X.env (eval e X.env) = eval e X.env := by rfl) : PD X W (.Attribute e f pos) (dFld cs f fe) := PD.of (pe_fld he hb) fun σ H Q h => by
  obtain ⟨M, F0, H0, F, ρ, ts, τ, l, ft, go⟩ := h
  have hl := ft.lenT l
  refine ⟨M, F0, H0, F, ρ, ts, τ, l, ft, Go.bind go (us := []) (cs := []) (by simp) (by simp) rfl fun b ρ1 F1 H1 x l1 f1 go1 => ?_⟩
  cases e1 : look ρ1 b with
  | none => rw [e1] at go1; exact go1.elim
  | some d =>
    rw [e1] at go1
    cases d with
    | ins C fs =>
      simp only at go1
      by_cases hC : cs.contains C = true
      · rw [if_pos hC] at go1
        cases e2 : fs.lookup f with
        | none => rw [e2] at go1; exact go1.elim
        | some d =>
          rw [e2] at go1
          have r := f1.looks (n := σ.length + ts.length) (by rw [← l1, hl]; exact get_mid _ _ _ []) (get_last2 _ _ _) e1
          obtain ⟨a, dx, us, rfl, h1, h2, h3⟩ := r
          obtain ⟨v, q1, q2⟩ := h3.lookup e2
          have hF := hc C (mem_of_contains hC)
          exact ⟨a, _, dx, us, v, rfl, h1, hF.cl, hF.na, q1, go1 F1 H1 v l1 (f1.res l1 hl (Adds.val0 f1.sub q2))⟩
      · rw [if_neg hC] at go1; exact go1.elim
    | _ => exact go1.elim
theorem ps_fldD (hc : ∀ C ∈ cs, FldF X.K C f) (hv : PD X W value fv) (ho : PD X W o fo) (hs : swapsWith value (some (.Attribute o f pos')) pos.line X.env = pure false := by rfl) : PDS X W (.Assign [.Attribute o f pos'] value pos) (sFldD cs f fv fo) := by
  refine PS.imp (ps_fld ho hv hs) fun D σ H hq => ?_
  obtain ⟨M, F0, H0, F, ρ, ts, τ, l, na, ft, go⟩ := hq
  have hl := ft.lenT l
  refine ⟨M, F0, H0, F, ρ, ts, τ, l, ft, Go.bindS go fun b ρ1 F1 H1 x l1 f1 go1 => ?_⟩
  refine ⟨M, F0, H0, F1, ρ1, ts ++ [some x], τ ++ [b], l1, f1, ?_⟩
  cases e2 : fo ρ1 with
  | no => rw [e2] at go1; exact go1.elim
  | er C fs ρ2 =>
    rw [e2] at go1
    intro F' H' dd l f x
    rw [← List.append_assoc, ← List.append_assoc] at f
    exact go1 F' H' σ dd rfl l (f.drop (by simp; omega)) x
  | ok c ρ2 =>
    rw [e2] at go1
    intro F2 H2 y l2 f2
    have go1 : GoS X.K W M F0 H0 σ.length ts τ (stFld cs f b c ρ2) D := go1
    unfold stFld at go1
    cases c with
    | al j =>
      simp only at go1
      cases e4 : frz1 ρ2 b with
      | none => rw [e4] at go1; exact go1.elim
      | some q =>
        obtain ⟨dv, ρ4⟩ := q
        rw [e4] at go1
        simp only at go1
        have f2' : Fit X.K M F0 H0 σ.length F2 H2 (σ ++ (ts ++ (some x :: [y].map some))) (ρ2 ++ (τ ++ (b :: [.al j]))) := by simpa using f2
        obtain ⟨F4, b', s4, l4, f4, r4⟩ := f2'.frz1 l2 hl e4
        cases e6 : gb ρ4 j with
        | own g ob =>
          rw [e6] at go1
          cases ob with
          | ins C dx fs =>
            simp only at go1
            by_cases hC : cs.contains C = true ∧ fs.length < 1000
            · rw [if_pos hC] at go1
              have g1 : Fit X.K M F0 H0 σ.length F4 H2 (σ ++ ((ts ++ [some x]) ++ [some y])) (ρ4 ++ ((τ ++ [b']) ++ [.al j])) := by simpa using f4
              obtain ⟨p, rfl, hv, hF, hO⟩ := g1.ownOf (m := ρ4.length + (τ ++ [b']).length) (get_mid _ _ _ _) (by rw [l4, show (τ ++ [b']).length = (ts ++ [some x]).length by simp [hl]]; exact get_mid _ _ _ _) e6
              obtain ⟨us, h1, h2, h3, h4, h5⟩ := hO
              have hcl := hc C (mem_of_contains hC.1)
              have hne : dx ≠ p := fun z => by rw [z, h1] at h3; cases h3
              refine ⟨p, _, dx, us, rfl, h1, hcl.cl, hcl.na, by rw [← h2.length]; exact hC.2, ?_⟩
              have hjl := lt_of_get (gb_get e6 (by intro z; cases z))
              have f5 : Fit X.K M F0 H0 σ.length F4 H2 (σ ++ ts) (ρ4 ++ τ) := f4.less l4 hl
              have hv5 : (σ ++ ts)[j]? = some (some (V.ref p)) := by
                rw [List.getElem?_append_left (by omega)] at hv ⊢; exact hv
              exact go1 F4 _ σ rfl (by simpa using l4) (f5.writeS (o' := .ins C dx (putFD f dv fs)) e6 hv5 ⟨_, upd_same, h2.put r4, by rw [upd_ne hne]; exact h3, h4, h5⟩ (fun _ z => nomatch z))
            · rw [if_neg hC] at go1; exact go1.elim
          | _ => exact go1.elim
        | un => rw [e6] at go1; exact go1.elim
        | val d => rw [e6] at go1; exact go1.elim
        | al m => rw [e6] at go1; exact go1.elim
    | un => exact go1.elim
    | val _ => exact go1.elim
    | own _ _ => exact go1.elim
end
end Dl
namespace Dl
open PySem PySem.Spec PyProof.Rows L2

/-! ### short names for what a program prints -/
section
variable {X : Cx} {W : WX} {x : Str} {pos : Pos} {k : Nat}
theorem u65 {A : Around} (r : Room k A) : A.units + 65 < cLine := by have := r.un; omega
theorem u1 {A : Around} (r : Room k A) : A.units + 1 < cLine := by have := r.un; omega
theorem tkB : Takes X W0 := fun _ _ ⟨_, _, _, _, _, _, _, _, _, _, _, _, _, _, _, _, h⟩ => h.elim
theorem dv (i : Nat) (hN : X.N[i]? = some x := by rfl) (hv : Vis X.env.scope x := by first | exact Or.inl rfl | exact Or.inr (Or.inl rfl) | exact Or.inr (Or.inr rfl)) (hd : (x == ("__debug__" : Str)) = false := by decide)
    (hcd : (x == ("__classdict__" : Str)) = false := by decide) : PD X W (.Name x pos) (dVar i) := pd_var i hN hv hd hcd
theorem dgs {z : Str} (hg : Gl X x) (h : ∃ t, X.mg x = some (.str z t)) (hdb : (x == ("__debug__" : Str)) = false := by decide) : PD X W (.Name x pos) (dC (.str z)) := by
  obtain ⟨t, e⟩ := h
  exact pd_glob (v := .str z) hg e ⟨t, rfl⟩ (fun _ => rep_str) hdb
theorem dgi {i : Int} (hg : Gl X x) (h : ∃ t, X.mg x = some (.int i t)) (hdb : (x == ("__debug__" : Str)) = false := by decide) : PD X W (.Name x pos) (dC (.int i)) := by
  obtain ⟨t, e⟩ := h
  exact pd_glob (v := .int i) hg e ⟨t, rfl⟩ (fun _ => rep_int) hdb
theorem pe_tyn {n : String} (hg : Gl X x) (hm : X.mg x = none) (hv : bootBuiltins x = some (.type n)) (hn : x ≠ "__name__" := by decide) (hd : (x == ("__debug__" : Str)) = false := by decide) : PE X (.Name x pos) (tC (.ty n)) := pe_bltn hg hm hv rfl hn hd
end
theorem bb_len : bootBuiltins "len" = some (.builtin "len") := by decide +kernel
theorem bb_all : bootBuiltins "all" = some (.builtin "all") := by decide +kernel
theorem bb_any : bootBuiltins "any" = some (.builtin "any") := by decide +kernel
theorem bb_abs : bootBuiltins "abs" = some (.builtin "abs") := by decide +kernel
theorem bb_max : bootBuiltins "max" = some (.builtin "max") := by decide +kernel
theorem bb_min : bootBuiltins "min" = some (.builtin "min") := by decide +kernel
theorem bb_repr : bootBuiltins "repr" = some (.builtin "repr") := by decide +kernel
theorem bb_sum : bootBuiltins "sum" = some (.builtin "sum") := by decide +kernel
theorem bb_int : bootBuiltins "int" = some (.type "int") := by decide +kernel
theorem bb_bool : bootBuiltins "bool" = some (.type "bool") := by decide +kernel
theorem bb_str : bootBuiltins "str" = some (.type "str") := by decide +kernel
theorem bb_list : bootBuiltins "list" = some (.type "list") := by decide +kernel
theorem bb_tuple : bootBuiltins "tuple" = some (.type "tuple") := by decide +kernel
theorem bb_dict : bootBuiltins "dict" = some (.type "dict") := by decide +kernel

/-! ### the head's facts: HandS's, and any others -/
def allFacts (n : Nat) (fa : List He.Fa) (fn : List He.DefD) (ex : PySem.W.Frag → Bool) (g : Addr → Option Obj) : He.AlD × Bool := (He.obsD fa fn (He.frG g (He.asD g n)), ex (He.frG g (He.asD g n)))
def hookQ (n : Nat) (fa : List He.Fa) (fn : List He.DefD) (ex : PySem.W.Frag → Bool) : PySem.W.Hook where
  α := He.AlD × Bool
  obs := fun s => allFacts n fa fn ex s.heap.get?
  val := fun _ => (He.valD fn, true)
  says := fun _ h => ∃ K : PySem.W.Frag, K.In h ∧ He.SaysD fa fn K ∧ ex K = true
  of := fun _ _ e => ⟨_, He.frG_in, congrArg (fun z : He.AlD × Bool => z.1) e, congrArg (fun z : He.AlD × Bool => z.2) e⟩
  keeps := fun _ _ _ ⟨K, hK, c⟩ k => ⟨K, PySem.W.Frag.In.keeps hK k, c⟩
theorem allFacts_eq {n : Nat} {fa : List He.Fa} {fn : List He.DefD} {ex : PySem.W.Frag → Bool} {g : Addr → Option Obj} {s : Shared} (h : ∀ a, g a = s.heap.get? a) : allFacts n fa fn ex g = (hookQ n fa fn ex).obs s := by
  have e : g = s.heap.get? := funext h
  rw [e] <;> rfl
/-- of a class: its instances may be looked at -/
def instB (K : PySem.W.Frag) (C : Addr) : Bool := PySem.W.plainGet K C Str.empty && (PySem.W.hasDictIn K C && (PySem.W.plainOver K C && (He.eqO (PySem.W.findIn K (.ref C) "__setattr__") (some (some (.builtin "object.__setattr__"))) &&
  (He.eqO (PySem.W.findIn K (.ref C) "__class__") (some (some (.builtin "object.__class__"))) && (He.eqO (PySem.W.specialIn K (.builtin "object.__class__") "__get__") (some (some (.builtin "getset_descriptor.__get__"))) &&
  (decide (PySem.W.takesIn K (.builtin "object.__class__") = some true) && decide (PySem.W.mroIn K C (.type "object") = some true)))))))
theorem inst_of {K : PySem.W.Frag} {C : Addr} (h : instB K C = true) : Inst K C := by
  unfold instB at h
  simp only [Bool.and_eq_true] at h
  obtain ⟨h1, h2, h3, h4, h5, h6, h7, h8⟩ := h
  exact ⟨⟨h1, h2, h3, He.eqO_ok h4⟩, He.eqO_ok h5, He.eqO_ok h6, of_decide_eq_true h7, of_decide_eq_true h8⟩
/-- what isinstance(an instance of a class, types) tells -/
def kitB2 (K : PySem.W.Frag) (C : Nat) (Ts : List String) (k : Bool) : Bool := decide (PySem.W.kitAny K (.ref (ca K C)) (Ts.map Value.type) = some k)
/-- a list of classes, each with its answer -/
theorem cls_facts {p : Nat → Bool → Prop} : ∀ {cls : List (Nat × Bool)}, (∀ q ∈ cls, p q.1 q.2) → ∀ C k, cls.lookup C = some k → p C k
  | [], _, C, k, h => by cases h
  | (D, j) :: r, h, C, k, e => by
    simp only [List.lookup] at e
    split at e
    · rename_i hb
      have : C = D := by simpa using hb
      subst this; cases e
      exact h (C, j) (by simp)
    · exact cls_facts (fun q hq => h q (List.mem_cons_of_mem _ hq)) C k e
/-- of a field -/
theorem fld_of {K : PySem.W.Frag} {C : Nat} {f : Str} (h : Inst K (ca K C)) (n : He.eqO (PySem.W.findIn K (.ref (ca K C)) f) (some none) = true) : FldF K C f := ⟨h.cl, He.eqO_ok n⟩
/-- every class below object: the types are none of its -/
def kitF (K : PySem.W.Frag) (C0 : Addr) : Bool := tyNames.all fun n => decide (PySem.W.kitOne K (.type n) (.ref C0) = some false)
theorem kitF_ok {K : PySem.W.Frag} {C0 : Addr} (h : kitF K C0 = true) : ∀ n ∈ tyNames, PySem.W.kitOne K (.type n) (.ref C0) = some false := fun n hn => of_decide_eq_true (List.all_eq_true.mp h n hn)
def kitC (K : PySem.W.Frag) (C C0 : Addr) (k : Bool) : Bool := decide (PySem.W.kitOne K (.ref C) (.ref C0) = some k)

/-! ### a def's promise, by depth; S of no answer -/
theorem fn_no {P : Program} {w : World} {K : PySem.W.Frag} {mg : Str → Option Value} {base : Heap} {k n : Nat} {f : Addr} {fd : FuncData} {ps : List Str} (hn : ps.length = n) : FnOk P w K mg base (L2.CX P w) k f fd ps (spD K n fun _ => .no) :=
  ⟨fun vs H Q E h => by rw [hn]; exact h.1, fun _ _ _ _ _ _ _ _ _ _ _ _ _ h => by obtain ⟨_, _, _, _, _, h⟩ := h; exact h.elim⟩
end Dl
namespace Dl
open PySem PySem.Spec PyProof.Rows L2
theorem reps_n {K : PySem.W.Frag} {F : Hp} : Reps K F [] [] := by simp only [Reps]
theorem reps_c {K : PySem.W.Frag} {F : Hp} {d : D} {v : V} {ds : List D} {vs : List V} (h : Rep K F d v) (hr : Reps K F ds vs) : Reps K F (d :: ds) (v :: vs) := by
  simp only [Reps]; exact ⟨v, vs, rfl, h, hr⟩
/-- the i-th statement of a class -/
def clsBody (s : Stmt) (i : Nat) : Stmt := match s with
  | .ClassDef _ _ _ b _ _ _ _ _ _ _ => b.getD i (.Pass ⟨0, 0, 0, 0⟩)
  | _ => .Pass ⟨0, 0, 0, 0⟩
theorem ok_any {P : Program} {w : World} {K : PySem.W.Frag} {mg : Str → Option Value} {base : Heap} {k n : Nat} {f : Addr} {fd : FuncData} {ps : List Str} {sp : Sp} (F : FnOk P w K mg base (L2.CX P w) k f fd ps sp) {sp' : Sp} (e : sp = sp') : FnOk P w K mg base (L2.CX P w) k f fd ps sp' := e ▸ F
end Dl
namespace Dl
open PySem PySem.Spec PyProof.Rows L2
theorem cx_none {P : Program} {w : World} : ∀ (H : Hp) (s : Shared) (e : Value) (s' : Shared), L2.CX P w [] H s (fun _ _ _ => False) e s' → False := fun H s e s' h => by
  obtain ⟨_, _, _, _, _, _, _, _, _, _, _, _, h⟩ := h
  exact h
end Dl
namespace Dl
open PySem PySem.Spec PyProof.Rows L2
/-- the head's last call; what may leave a def depends on the world -/
theorem walk_ofQ {l : PySem.W.OpenLaw} {n k : Nat} {q : Program} {loose : List Str} {XP : (Str → Option Value) → Heap → Prop} {YP : World → Heap → Prop} {d : DefRec} {x : Str}
    (hn : l.most = some n) (hn2 : n ≤ sizeLine) (hdf : d.params.defaults = []) (hr : Room k callerA)
    (F : ∀ (w : World) (mg : Str → Option Value) (fa : Addr) (h : Heap), YP w h → h.Ns mainGlobals mg → mg d.name = some (.ref fa) →
      ∃ (K : PySem.W.Frag) (fd : FuncData) (S : SD), K.In h ∧ (∀ (s : Shared) (u : Value), BindsTo s fd ⟨[u], []⟩ [(x, u)]) ∧
        (∀ ns : List Int, ns.length ≤ n → S [.kl (ns.map D.int)] = .ok (.val (.bl true))) ∧
        ∀ base : Heap, FnOk l.prog w K mg base (L2.CX l.prog w) k fa fd [x] (spD K 1 S)) :
    PySem.W.WalkO q loose XP YP l.row.toRowW d [] (fun f vs => PySem.call f vs) := by
  refine Att.attach_call hn hdf fun w s₀ s₁ mg mb fa o pm cd doc a vs ns G Y ho hd hcd hmg hobj hints hlen hg => ?_
  obtain ⟨K, fd, S, KX, hb, hS, hF⟩ := F w mg fa _ Y G.T.g hmg
  refine law_call KX G.T.g G.T.b G.T.builtins G.T.nolimit hg hobj hints (Nat.le_trans hlen hn2) hr (fun base _ _ => hF base) hb (fun H hO hSq => ?_) fun H e s' => cx_none H s₁ e s'
  refine ⟨rfl, H, [.kl (ns.map D.int)], Same.refl H, ?_, ?_⟩
  · have key : ∀ ns : List Int, Reps K H (ns.map D.int) (ns.map V.int) := fun ns => by
      induction ns with
      | nil => exact reps_n
      | cons i r ih => exact reps_c rep_int ih
    refine reps_c ?_ reps_n
    simp only [Rep]
    exact ⟨a, _, rfl, hSq, key ns⟩
  · rw [hS ns hlen]
    intro F' H' v ad
    have := ad.res
    simpa only [Rep] using this
end Dl
namespace Dl
open PySem PySem.Spec PyProof.Rows L2

/-! ### operations of whole numbers, where they are told -/
theorem bits_le {i : Int} {n : Nat} (h : i.natAbs < 2 ^ n) (hn : 0 < n) : Builtin.Int.intBits i ≤ n := by
  unfold Builtin.Int.intBits
  split
  · omega
  · have := PySem.Flt.log2_lt_of hn h
    omega
theorem mul_ok {i j : Int} (h : i.natAbs < 2 ^ 64) : mulD (.int i) (.int j) = some (vI (i * j)) := by
  have : mulOk i j = true := by
    have h1 := bits_le h (by decide)
    have h2 : decide (Builtin.Int.intBits i > shortFactorBits) = false := decide_eq_false (by show ¬ (64 < Builtin.Int.intBits i); omega)
    unfold mulOk; rw [h2]; rfl
  unfold mulD orD iiC
  simp only [this, if_true]
theorem pow_ok {i j : Int} {n : Nat} (h : i.natAbs < 2 ^ n) (hn : 0 < n) (hj : 0 ≤ j) (hj2 : (n : Int) * j ≤ 2 ^ 27) : powD (.int i) (.int j) = some (vI (i ^ j.toNat)) := by
  have h1 := bits_le h hn
  have h2 : (Builtin.Int.intBits i : Int) * j ≤ (n : Int) * j := Int.mul_le_mul_of_nonneg_right (by omega) hj
  unfold powD iiC
  simp only [decide_eq_true_eq]
  rw [if_pos ⟨hj, by omega⟩]
theorem fdiv_ok {i j : Int} (h : 0 < j) (h2 : j.natAbs < 2 ^ 64) : fdivD (.int i) (.int j) = some (vI (i / j)) := by
  unfold fdivD iiC
  simp only [decide_eq_true_eq]
  rw [if_pos ⟨h, by have := PySem.Flt.log2_lt_of (show 0 < 64 by decide) h2; omega⟩]
theorem mod_ok {i j : Int} (h : 0 < j) : modD (.int i) (.int j) = some (vI (i % j)) := by
  unfold modD iiC
  simp only [decide_eq_true_eq]
  rw [if_pos h]
theorem add_int' {i j : Int} : addD (.int i) (.int j) = some (vI (i + j)) := rfl
theorem sub_int' {i j : Int} : subD (.int i) (.int j) = some (vI (i - j)) := rfl

/-! ### what an expression without effects tells -/
def Is (f : EF) (ρ : Ev) (d : D) : Prop := ∃ b, f ρ = .ok b ρ ∧ look ρ b = some d
def IsA (f : Ev → R (List B)) (ρ : Ev) (ds : List D) : Prop := ∃ bs, f ρ = .ok bs ρ ∧ lookAll ρ bs = some ds
def IsT (f : Ev → R Bool) (ρ : Ev) (k : Bool) : Prop := f ρ = .ok k ρ
/-- what a slot holds -/
def at_ (ρ : Ev) (i : Nat) : Option D := look ρ (.al i)
section
variable {ρ : Ev} {f g h : EF} {d e : D} {c : B} {k : Bool}
theorem is_c : Is (dC d) ρ d := ⟨_, rfl, rfl⟩
theorem is_var {i : Nat} (h : at_ ρ i = some d) : Is (dVar i) ρ d := by
  refine ⟨.al i, ?_, h⟩
  unfold dVar
  unfold at_ at h
  simp only [look] at h
  cases e : gb ρ i with
  | un => rw [e] at h; cases h
  | al j => rw [e] at h; cases h
  | val d' => rfl
  | own g o => rfl
theorem is_op1 {op : D → Option B} (h : Is f ρ d) (e1 : op d = some (.val e)) : Is (op1 f op) ρ e := by
  obtain ⟨b, h1, h2⟩ := h
  exact ⟨.val e, by unfold op1; rw [h1]; simp only [R.bind]; unfold fin1; rw [h2]; simp only [e1], rfl⟩
theorem is_op2 {op : D → D → Option B} {x y : D} (h1 : Is f ρ x) (h2 : Is g ρ y) (e1 : op x y = some (.val e)) : Is (op2 f g op) ρ e := by
  obtain ⟨b, h1, h3⟩ := h1
  obtain ⟨b', h2, h4⟩ := h2
  exact ⟨.val e, by unfold op2; rw [h1]; simp only [R.bind]; rw [h2]; simp only; unfold fin2; rw [h3, h4]; simp only [e1], rfl⟩
theorem is_on1 {op : D → Option B} (h : Is f ρ d) (e1 : op d = some (.val e)) : Is (opN (dCons f dNil) (on1 op)) ρ e := by
  obtain ⟨b, h1, h2⟩ := h
  refine ⟨.val e, ?_, rfl⟩
  unfold opN dCons dNil
  rw [h1]; simp only [R.bind]
  unfold finN
  simp only [lookAll, h2, on1, e1]
theorem isT_B (h : Is f ρ (.bl k)) : IsT (dB f) ρ k := by
  obtain ⟨b, h1, h2⟩ := h
  unfold IsT dB; rw [h1]; simp only [R.bind]; unfold toB; rw [h2]
theorem isT_Tr (h : Is f ρ d) (e1 : truth d = some k) : IsT (dTr f) ρ k := by
  obtain ⟨b, h1, h2⟩ := h
  unfold IsT dTr; rw [h1]; simp only [R.bind]; unfold toTr; rw [h2]; simp only [e1]
theorem isT_and {p q : Ev → R Bool} {j : Bool} (h1 : IsT p ρ k) (h2 : k = true → IsT q ρ j) : IsT (tAndD p q) ρ (k && j) := by
  unfold IsT tAndD at *; rw [h1]; simp only [R.bind]
  cases k with
  | true => simp only [if_true, Bool.true_and]; exact h2 rfl
  | false => rfl
theorem isT_or {p q : Ev → R Bool} {j : Bool} (h1 : IsT p ρ k) (h2 : k = false → IsT q ρ j) : IsT (tOrD p q) ρ (k || j) := by
  unfold IsT tOrD at *; rw [h1]; simp only [R.bind]
  cases k with
  | true => rfl
  | false => simp only [Bool.false_or]; exact h2 rfl
theorem isT_not {p : Ev → R Bool} (h1 : IsT p ρ k) : IsT (tNotD p) ρ (!k) := by
  unfold IsT tNotD at *; rw [h1]; rfl
/-- a scalar -/
def scalD : D → Bool
  | .non => true
  | .bl _ => true
  | .int _ => true
  | .str _ => true
  | _ => false
theorem entry_scal {b : B} (h : look ρ b = some d) (hs : scalD d = true) : b = .val d ∨ ∃ j, b = .al j ∧ gb ρ j = .val d := by
  cases b with
  | un => cases h
  | val d' => cases h; exact .inl rfl
  | own g o => cases o <;> first | (cases h; cases hs)
  | al j =>
    refine .inr ⟨j, rfl, ?_⟩
    simp only [look] at h
    split at h
    · rename_i e; cases h; exact e
    · rename_i e; rename_i g o; cases o <;> first | (cases h; cases hs)
    · cases h
theorem frz1_scal {b : B} (h : look ρ b = some d) (hs : scalD d = true) : frz1 ρ b = some (d, ρ) := by
  rcases entry_scal h hs with rfl | ⟨j, rfl, e⟩
  · rfl
  · simp only [frz1, e]
theorem st_set {i : Nat} (h : Is f ρ d) (hs : scalD d = true) : sSet i f ρ = .ok .nx (ρ.set i (.val d)) := by
  obtain ⟨b, h1, h2⟩ := h
  unfold sSet; rw [h1]; simp only [R.bind]
  rcases entry_scal h2 hs with rfl | ⟨j, rfl, e⟩
  · rfl
  · show (match frz1 ρ (.al j) with
      | some (d, ρ1) => R.ok Fl.nx (List.set ρ1 i (B.val d))
      | none => R.no) = _
    rw [frz1_scal h2 hs]
theorem st_ret (h : Is f ρ d) (hs : scalD d = true) : sRet f ρ = .ok (.rt (.val d)) ρ := by
  obtain ⟨b, h1, h2⟩ := h
  unfold sRet; rw [h1]; simp only [R.bind]
  rcases entry_scal h2 hs with rfl | ⟨j, rfl, e⟩
  · rfl
  · show ret1 (.al j) ρ = _
    simp only [ret1, e]
theorem st_if {p : Ev → R Bool} {a b : Ev → R Fl} (h : IsT p ρ k) : sIf p a b ρ = if k = true then a ρ else b ρ := by
  unfold sIf; rw [h]; rfl
theorem st_seq {a b : Ev → R Fl} {ρ' : Ev} (h : a ρ = .ok .nx ρ') : sSeq a b ρ = b ρ' := by
  unfold sSeq; rw [h]
theorem st_seqR {a b : Ev → R Fl} {ρ' : Ev} {c : B} (h : a ρ = .ok (.rt c) ρ') : sSeq a b ρ = .ok (.rt c) ρ' := by
  unfold sSeq; rw [h]
/-- x[i] = scalar -/
theorem st_store {fv fi : EF} {j : Nat} {x i : D} {g : Bool} {o o' : O} (hv : Is fv ρ x) (hs : scalD x = true) (hj : gb ρ j = .own g o) (hi : Is fi ρ i) (e : setO o i x = some o') : sStore fv (dVar j) fi ρ = .ok .nx (ρ.set j (.own g o')) := by
  obtain ⟨b, h1, h2⟩ := hv
  obtain ⟨b', h3, h4⟩ := hi
  unfold sStore; rw [h1]; simp only [R.bind]
  have : dVar j ρ = .ok (.al j) ρ := by unfold dVar; rw [hj]
  rw [this]; simp only; rw [h3]; simp only
  unfold stItem
  simp only [frz1_scal h2 hs, h4, hj, e]
end
end Dl
namespace Dl
open PySem PySem.Spec PyProof.Rows L2
section
variable {ρ : Ev} {f g h : EF} {d e : D} {c : B} {k : Bool}
theorem st_T {p : Ev → R Bool} {a b : Ev → R Fl} (h : IsT p ρ k) (hk : k = true) : sIf p a b ρ = a ρ := by rw [st_if h, if_pos hk]
theorem st_F {p : Ev → R Bool} {a b : Ev → R Fl} (h : IsT p ρ k) (hk : k = false) : sIf p a b ρ = b ρ := by rw [st_if h, if_neg (by rw [hk]; decide)]
theorem lt_int' {i j : Int} : ltD (.int i) (.int j) = some (.val (.bl (decide (i < j)))) := rfl
theorem gt_int' {i j : Int} : gtD (.int i) (.int j) = some (.val (.bl (decide (j < i)))) := rfl
theorem ge_int' {i j : Int} : geD (.int i) (.int j) = some (.val (.bl (decide (j ≤ i)))) := rfl
theorem le_int' {i j : Int} : leD (.int i) (.int j) = some (.val (.bl (decide (i ≤ j)))) := rfl
theorem shaped_ints (cs : List Int) : ∃ ps, toPys (cs.map D.int) = some ps ∧ SeqAt.shaped (.list ps) = true ∧ (ps = [] ↔ cs = []) := by
  have key : ∀ cs : List Int, toPys (cs.map D.int) = some (cs.map PyData.int) := fun cs => by
    induction cs with
    | nil => simp only [List.map_nil, toPys]
    | cons c cs ih => simp only [List.map_cons, toPys, toPy, ih]
  have lay : ∀ cs : List Int, PyData.canLayAll0 (cs.map PyData.int) = true := fun cs => by
    induction cs with
    | nil => simp only [List.map_nil, PyData.canLayAll0]
    | cons c cs ih => simp only [List.map_cons, PyData.canLayAll0, PyData.canLay0, ih, Bool.and_self]
  have dep : ∀ cs : List Int, PyData.depthAll (cs.map PyData.int) = 0 := fun cs => by
    induction cs with
    | nil => simp only [List.map_nil, PyData.depthAll]
    | cons c cs ih => simp only [List.map_cons, PyData.depthAll, PyData.depth, ih]; rfl
  refine ⟨cs.map PyData.int, key cs, ?_, by cases cs <;> simp⟩
  unfold SeqAt.shaped
  simp only [PyData.canLay0, lay cs, PyData.depth, dep cs, Bool.true_and]
  decide
theorem ne_nil_ints (cs : List Int) : neD (.lst (cs.map D.int)) (.lst []) = some (.val (.bl (!decide (cs = [])))) := by
  obtain ⟨ps, h1, h2, h3⟩ := shaped_ints cs
  have h4 : SeqAt.shaped (.list []) = true := by decide +kernel
  unfold neD eqB
  have : eqS (.lst (cs.map D.int)) (.lst []) = none := rfl
  rw [this]
  simp only [eqP, toPy, toPys, h1, h2, h4, and_self, if_true, vB]
  cases cs with
  | nil => rw [(h3.mpr rfl)]; simp [PyData.eqv, PyData.eqvAll]
  | cons c cs =>
    cases ps with
    | nil => exact absurd (h3.mp rfl) (by simp)
    | cons p ps => simp [PyData.eqv, PyData.eqvAll]
/-- the place of an index -/
theorem idx_int {ds : List D} {i : Int} (h0 : 0 ≤ i) (h1 : i < ds.length) : ∃ d, ds[i.toNat]? = some d ∧ idxD (.lst ds) (.int i) = some (.val d) := by
  have h2 : i.toNat < ds.length := by omega
  refine ⟨ds[i.toNat], List.getElem?_eq_getElem h2, ?_⟩
  have e : L2.atI ds i = some ds[i.toNat] := by
    unfold L2.atI ixN
    rw [if_pos h0, if_pos h1]
    exact List.getElem?_eq_getElem h2
  show (match L2.atI ds i with
    | some x => some (B.val x)
    | none => none) = _
  rw [e]
/-! ### the drawing pen of all laws -/
def pen (cs : List Int) (t r : Int) : O := .lst [.lst (cs.map D.int), .int t, .int r]
end
end Dl
namespace Dl
open PySem PySem.Spec PyProof.Rows L2
/-! ### what a block comes to -/
def Wp (r : R Fl) (P : Fl → Ev → Prop) : Prop := ∃ (fl : Fl) (ρ : Ev), r = .ok fl ρ ∧ P fl ρ
def seqK (b : Ev → R Fl) (P : Fl → Ev → Prop) : Fl → Ev → Prop
  | .nx, ρ => Wp (b ρ) P
  | .bk, ρ => P .bk ρ
  | .ct, ρ => P .ct ρ
  | .rt c, ρ => P (.rt c) ρ
section
variable {ρ : Ev} {f g h : EF} {d e : D} {c : B} {k : Bool} {P : Fl → Ev → Prop} {a b : Ev → R Fl}
theorem wp_ok {r : R Fl} {fl : Fl} {ρ' : Ev} (h : r = .ok fl ρ') (hP : P fl ρ') : Wp r P := ⟨fl, ρ', h, hP⟩
theorem wp_mono {r : R Fl} {P' : Fl → Ev → Prop} (h : Wp r P) (i : ∀ fl ρ', P fl ρ' → P' fl ρ') : Wp r P' := by
  obtain ⟨fl, ρ', e, hP⟩ := h
  exact ⟨fl, ρ', e, i _ _ hP⟩
theorem wp_get {r : R Fl} (h : Wp r P) : ∃ fl ρ', r = .ok fl ρ' ∧ P fl ρ' := h
theorem wp_seqn (h : Wp (b ρ) P) : seqK b P .nx ρ := h
theorem wp_seq (h : Wp (a ρ) (seqK b P)) : Wp (sSeq a b ρ) P := by
  obtain ⟨fl, ρ', e, hP⟩ := wp_get h
  unfold sSeq; rw [e]
  cases fl with
  | nx => exact hP
  | bk => exact ⟨_, _, rfl, hP⟩
  | ct => exact ⟨_, _, rfl, hP⟩
  | rt c => exact ⟨_, _, rfl, hP⟩
theorem wp_nil (h : P .nx ρ) : Wp (sNil ρ) P := ⟨_, _, rfl, h⟩
theorem wp_set {i : Nat} (h : Is f ρ d) (hs : scalD d = true) (hP : P .nx (ρ.set i (.val d))) : Wp (sSet i f ρ) P := wp_ok (st_set h hs) hP
theorem wp_ret (h : Is f ρ d) (hs : scalD d = true) (hP : P (.rt (.val d)) ρ) : Wp (sRet f ρ) P := wp_ok (st_ret h hs) hP
theorem wp_if {p : Ev → R Bool} (h : IsT p ρ k) (h1 : k = true → Wp (a ρ) P) (h2 : k = false → Wp (b ρ) P) : Wp (sIf p a b ρ) P := by
  rw [st_if h]
  cases k with
  | true => exact h1 rfl
  | false => exact h2 rfl
theorem wp_T {p : Ev → R Bool} (h : IsT p ρ k) (hk : k = true) (h1 : Wp (a ρ) P) : Wp (sIf p a b ρ) P := wp_if h (fun _ => h1) (fun z => by rw [hk] at z; cases z)
theorem wp_F {p : Ev → R Bool} (h : IsT p ρ k) (hk : k = false) (h1 : Wp (b ρ) P) : Wp (sIf p a b ρ) P := wp_if h (fun z => by rw [hk] at z; cases z) (fun _ => h1)
theorem wp_store {fv fi : EF} {j : Nat} {x i : D} {g : Bool} {o o' : O} (hv : Is fv ρ x) (hs : scalD x = true) (hj : gb ρ j = .own g o) (hi : Is fi ρ i) (e : setO o i x = some o') (hP : P .nx (ρ.set j (.own g o'))) : Wp (sStore fv (dVar j) fi ρ) P := wp_ok (st_store hv hs hj hi e) hP
/-- an if without a way out, whose branches only set slots -/
theorem wp_use {r : R Fl} {Q : Fl → Ev → Prop} (h : Wp r Q) (i : ∀ fl ρ', Q fl ρ' → P fl ρ') : Wp r P := wp_mono h i
end
end Dl
namespace Dl
open PySem PySem.Spec PyProof.Rows L2

/-! ### values without effects -/
def cD : B → Option D
  | .val d => some d
  | .own true o => o.toD
  | _ => none
def Iv (f : EF) (ρ : Ev) (d : D) : Prop := ∃ b, f ρ = .ok b ρ ∧ frz1 ρ b = some (d, ρ) ∧ look ρ b = some d
def IvA (f : Ev → R (List B)) (ρ : Ev) (ds : List D) : Prop := ∃ bs, f ρ = .ok bs ρ ∧ frzs ρ bs = some (ds, ρ)
def II (it : Ev → R (List D)) (ρ : Ev) (ds : List D) : Prop := it ρ = .ok ds ρ
section
variable {ρ ρ' : Ev} {f g h : EF} {fa : Ev → R (List B)} {d e x y : D} {c : B} {k : Bool} {ds es xs ys : List D}
theorem cD_frz (h : cD c = some d) : frz1 ρ c = some (d, ρ) ∧ look ρ c = some d := by
  cases c with
  | val d' => cases h; exact ⟨rfl, rfl⟩
  | own g o =>
    cases g with
    | false => cases h
    | true =>
      have h : o.toD = some d := h
      refine ⟨?_, h⟩
      simp only [frz1, h]
  | un => cases h
  | al i => cases h
theorem Iv.is (h : Iv f ρ d) : Is f ρ d := by obtain ⟨b, h1, _, h3⟩ := h; exact ⟨b, h1, h3⟩
theorem Iv.of (h : f ρ = .ok c ρ) (e : cD c = some d) : Iv f ρ d := ⟨c, h, (cD_frz e).1, (cD_frz e).2⟩
theorem Is.iv (h : Is f ρ d) (hs : scalD d = true) : Iv f ρ d := by obtain ⟨b, h1, h2⟩ := h; exact ⟨b, h1, frz1_scal h2 hs, h2⟩
theorem iv_c : Iv (dC d) ρ d := ⟨_, rfl, rfl, rfl⟩
theorem iv_var {i : Nat} (h : gb ρ i = .val d) : Iv (dVar i) ρ d := by
  refine ⟨.al i, ?_, ?_, ?_⟩
  · unfold dVar; rw [h]
  · simp only [frz1, h]
  · simp only [look, h]
theorem iv_op1 {op : D → Option B} (h : Is f ρ x) (e1 : op x = some c) (e2 : cD c = some d) : Iv (op1 f op) ρ d := by
  obtain ⟨b, h1, h2⟩ := h
  exact .of (by unfold op1; rw [h1]; simp only [R.bind]; unfold fin1; rw [h2]; simp only [e1]) e2
theorem iv_op2 {op : D → D → Option B} (h1 : Is f ρ x) (h2 : Is g ρ y) (e1 : op x y = some c) (e2 : cD c = some d) : Iv (op2 f g op) ρ d := by
  obtain ⟨b, h1, h3⟩ := h1
  obtain ⟨b', h2, h4⟩ := h2
  exact .of (by unfold op2; rw [h1]; simp only [R.bind]; rw [h2]; simp only; unfold fin2; rw [h3, h4]; simp only [e1]) e2
theorem iv_on1 {op : D → Option B} (h : Is f ρ x) (e1 : op x = some c) (e2 : cD c = some d) : Iv (opN (dCons f dNil) (on1 op)) ρ d := by
  obtain ⟨b, h1, h2⟩ := h
  refine .of (c := c) ?_ e2
  unfold opN dCons dNil
  rw [h1]; simp only [R.bind]
  unfold finN
  simp only [lookAll, h2, on1, e1]
theorem iva_nil : IvA dNil ρ [] := ⟨[], rfl, rfl⟩
theorem iva_cons (h : Iv f ρ d) (hr : IvA fa ρ ds) : IvA (dCons f fa) ρ (d :: ds) := by
  obtain ⟨b, h1, h2, _⟩ := h
  obtain ⟨bs, h3, h4⟩ := hr
  refine ⟨b :: bs, ?_, ?_⟩
  · unfold dCons; rw [h1]; simp only [R.bind]; rw [h3]
  · simp only [frzs, h2, h4]
theorem iv_lst (h : IvA fa ρ ds) (hz : ds.length ≤ sizeLine) : Iv (dLst fa) ρ (.lst ds) := by
  obtain ⟨bs, h1, h2⟩ := h
  exact .of (c := .own true (.lst ds)) (by unfold dLst; rw [h1]; simp only [R.bind, h2]; rw [if_pos hz]) rfl
theorem iv_tup (h : IvA fa ρ ds) (hz : ds.length ≤ sizeLine) : Iv (dTup fa) ρ (.tup ds) := by
  obtain ⟨bs, h1, h2⟩ := h
  exact .of (c := .val (.tup ds)) (by unfold dTup; rw [h1]; simp only [R.bind, h2]; rw [if_pos hz]) rfl
theorem iv_call {n : Nat} {S : SD} {dd : List D} (h : IvA fa ρ ds) (hn : (ds ++ dd).length = n) (e1 : S (ds ++ dd) = .ok c) (e2 : cD c = some d) : Iv (dCall n S dd fa) ρ d := by
  obtain ⟨bs, h1, h2⟩ := h
  exact .of (c := c) (by unfold dCall; rw [h1]; simp only [R.bind, h2]; rw [if_pos hn, e1]; rfl) e2
theorem frzs_app : ∀ {as bs : List B} {ds es : List D}, frzs ρ as = some (ds, ρ) → frzs ρ bs = some (es, ρ) → frzs ρ (as ++ bs) = some (ds ++ es, ρ) := by
  intro as
  have mono : ∀ {as : List B} {ds : List D} {ρ1 : Ev}, frzs ρ as = some (ds, ρ1) → True := fun _ => True.intro
  induction as with
  | nil => intro bs ds es h1 h2; cases h1; exact h2
  | cons a as ih =>
    intro bs ds es h1 h2
    simp only [List.cons_append, frzs] at h1 ⊢
    cases e1 : frz1 ρ a with
    | none => rw [e1] at h1; cases h1
    | some q =>
      obtain ⟨d, ρ1⟩ := q
      rw [e1] at h1
      simp only at h1 ⊢
      -- freezing only turns owned slots into values; back at ρ means that none was
      have key : ρ1 = ρ := by
        have len : ∀ (as : List B) (ρ1 ρ2 : Ev) (ds : List D), frzs ρ1 as = some (ds, ρ2) → ∀ i d, gb ρ1 i = .val d → gb ρ2 i = .val d := by
          have one : ∀ (b : B) (ρ1 ρ2 : Ev) (d : D), frz1 ρ1 b = some (d, ρ2) → ∀ i d, gb ρ1 i = .val d → gb ρ2 i = .val d := by
            intro b ρ1 ρ2 d h i d' hi
            cases b with
            | un => cases h
            | val _ => cases h; exact hi
            | own g o =>
              cases g with
              | false => cases h
              | true =>
                simp only [frz1] at h
                split at h
                · cases h; exact hi
                · cases h
            | al j =>
              simp only [frz1] at h
              cases ej : gb ρ1 j with
              | un => rw [ej] at h; cases h
              | al _ => rw [ej] at h; cases h
              | val _ => rw [ej] at h; cases h; exact hi
              | own g o =>
                rw [ej] at h
                cases g with
                | false => cases h
                | true =>
                  simp only at h
                  split at h
                  · cases h
                    by_cases hij : i = j
                    · subst hij; rw [ej] at hi; cases hi
                    · have : ∀ (l : Ev) (i j : Nat) (x : B), i ≠ j → gb (l.set j x) i = gb l i := by
                        intro l
                        induction l with
                        | nil => intro i j x _; rfl
                        | cons a r ih =>
                          intro i j x hne
                          cases i with
                          | zero => cases j with
                            | zero => exact absurd rfl hne
                            | succ j => rfl
                          | succ i => cases j with
                            | zero => rfl
                            | succ j => exact ih i j x (by omega)
                      rw [this _ _ _ _ hij]; exact hi
                  · cases h
          intro as
          induction as with
          | nil => intro ρ1 ρ2 ds h i d hi; cases h; exact hi
          | cons a as ih =>
            intro ρ1 ρ2 ds h i d hi
            simp only [frzs] at h
            cases e1 : frz1 ρ1 a with
            | none => rw [e1] at h; cases h
            | some q =>
              obtain ⟨d1, ρ3⟩ := q
              rw [e1] at h
              simp only at h
              cases e2 : frzs ρ3 as with
              | none => rw [e2] at h; cases h
              | some q =>
                obtain ⟨d2, ρ4⟩ := q
                rw [e2] at h; cases h
                exact ih _ _ _ e2 i d (one a ρ1 ρ3 d1 e1 i d hi)
        cases e2 : frzs ρ1 as with
        | none => rw [e2] at h1; cases h1
        | some q =>
          obtain ⟨d2, ρ4⟩ := q
          rw [e2] at h1
          simp only [Option.some.injEq, Prod.mk.injEq] at h1
          obtain ⟨_, h1⟩ := h1
          cases a with
          | un => cases e1
          | val _ => cases e1; rfl
          | own g o =>
            cases g with
            | false => cases e1
            | true =>
              simp only [frz1] at e1
              split at e1
              · cases e1; rfl
              · cases e1
          | al j =>
            simp only [frz1] at e1
            cases ej : gb ρ j with
            | un => rw [ej] at e1; cases e1
            | al _ => rw [ej] at e1; cases e1
            | val _ => rw [ej] at e1; cases e1; rfl
            | own g o =>
              rw [ej] at e1
              cases g with
              | false => cases e1
              | true =>
                simp only at e1
                split at e1
                · cases e1
                  have hj := lt_of_get (gb_get ej (by intro z; cases z))
                  have gs : ∀ (l : Ev) (j : Nat) (x : B), j < l.length → gb (l.set j x) j = x := by
                    intro l
                    induction l with
                    | nil => intro j x h; simp at h
                    | cons a r ih =>
                      intro j x h
                      cases j with
                      | zero => rfl
                      | succ j => exact ih j x (by simpa using h)
                  have := len as _ _ _ e2 j d (gs _ _ _ hj)
                  rw [h1, ej] at this; cases this
                · cases e1
      subst key
      cases e2 : frzs ρ1 as with
      | none => rw [e2] at h1; cases h1
      | some q =>
        obtain ⟨d2, ρ4⟩ := q
        rw [e2] at h1
        simp only [Option.some.injEq, Prod.mk.injEq] at h1
        obtain ⟨rfl, h1⟩ := h1
        subst h1
        rw [ih e2 h2]
        rfl
theorem iv_callK {n N m : Nat} {sel : List Src} {dd : List D} {S : SD} {fk : Ev → R (List B)} (h : IvA fa ρ ds) (hk : IvA fk ρ es) (h1 : ds.length = N) (h2 : es.length = m) (hn : (selL sel ds dd es).length = n) (e1 : S (selL sel ds dd es) = .ok c) (e2 : cD c = some d) :
    Iv (dCallK n N m sel dd S fa fk) ρ d := by
  obtain ⟨bs, a1, a2⟩ := h
  obtain ⟨cs, b1, b2⟩ := hk
  have lens : ∀ (bs : List B) (ρ1 ρ2 : Ev) (ds : List D), frzs ρ1 bs = some (ds, ρ2) → bs.length = ds.length := by
    intro bs
    induction bs with
    | nil => intro ρ1 ρ2 ds h; cases h; rfl
    | cons b bs ih =>
      intro ρ1 ρ2 ds h
      simp only [frzs] at h
      cases e1 : frz1 ρ1 b with
      | none => rw [e1] at h; cases h
      | some q =>
        rw [e1] at h
        simp only at h
        cases e2 : frzs q.2 bs with
        | none => rw [e2] at h; cases h
        | some q2 => rw [e2] at h; cases h; simp [ih _ _ _ e2]
  have l1 := lens _ _ _ _ a2
  have l2 := lens _ _ _ _ b2
  refine .of (c := c) ?_ e2
  unfold dCallK; rw [a1]; simp only [R.bind]; rw [b1]; simp only [frzs_app a2 b2]
  have t1 : (ds ++ es).take N = ds := by rw [← h1]; exact List.take_left
  have t2 : (ds ++ es).drop N = es := by rw [← h1]; exact List.drop_left
  rw [t1, t2, if_pos ⟨by omega, by omega, hn⟩, e1]; rfl
theorem iv_and (h1 : Iv f ρ x) (e1 : truth x = some k) (h2 : k = true → Iv g ρ y) : Iv (dAnd f g) ρ (if k = true then y else x) := by
  obtain ⟨b, a1, a2, a3⟩ := h1
  have t : toTr b ρ = .ok k ρ := by unfold toTr; rw [a3]; simp only [e1]
  cases k with
  | true =>
    obtain ⟨b', b1, b2⟩ := h2 rfl
    exact ⟨b', by unfold dAnd; rw [a1]; simp only [R.bind]; rw [t]; simp only [if_true]; exact b1, b2⟩
  | false => exact ⟨b, by unfold dAnd; rw [a1]; simp only [R.bind]; rw [t]; rfl, a2, a3⟩
theorem iv_or (h1 : Iv f ρ x) (e1 : truth x = some k) (h2 : k = false → Iv g ρ y) : Iv (dOr f g) ρ (if k = true then x else y) := by
  obtain ⟨b, a1, a2, a3⟩ := h1
  have t : toTr b ρ = .ok k ρ := by unfold toTr; rw [a3]; simp only [e1]
  cases k with
  | false =>
    obtain ⟨b', b1, b2⟩ := h2 rfl
    exact ⟨b', by unfold dOr; rw [a1]; simp only [R.bind]; rw [t]; exact b1, b2⟩
  | true => exact ⟨b, by unfold dOr; rw [a1]; simp only [R.bind]; rw [t]; rfl, a2, a3⟩
theorem iv_not (h1 : Iv f ρ x) (e1 : truth x = some k) : Iv (dNot f) ρ (.bl (!k)) := by
  obtain ⟨b, a1, a2, a3⟩ := h1
  have t : toTr b ρ = .ok k ρ := by unfold toTr; rw [a3]; simp only [e1]
  exact .of (c := .val (.bl (!k))) (by unfold dNot; rw [a1]; simp only [R.bind]; rw [t]) rfl
theorem iv_if {p : Ev → R Bool} (h1 : IsT p ρ k) (ha : k = true → Iv f ρ d) (hb : k = false → Iv g ρ d) : Iv (dIf p f g) ρ d := by
  cases k with
  | true =>
    obtain ⟨b, b1, b2⟩ := ha rfl
    exact ⟨b, by unfold dIf; rw [h1]; simp only [R.bind, if_true]; exact b1, b2⟩
  | false =>
    obtain ⟨b, b1, b2⟩ := hb rfl
    exact ⟨b, by unfold dIf; rw [h1]; simp only [R.bind]; exact b1, b2⟩
theorem iv_sl {lo hi : Option Int} {fl fh : Ev → R (Option Int)} (h1 : Is f ρ x) (hl : fl ρ = .ok lo ρ) (hh : fh ρ = .ok hi ρ) (e1 : slD x lo hi = some c) (e2 : cD c = some d) : Iv (dSl f fl fh) ρ d := by
  obtain ⟨b, a1, a2⟩ := h1
  exact .of (c := c) (by unfold dSl; rw [a1]; simp only [R.bind]; rw [hl]; simp only; rw [hh]; simp only [a2, e1]) e2
theorem os_int {i : Int} (h : Is f ρ (.int i)) : oSome f ρ = .ok (some i) ρ := by
  obtain ⟨b, a1, a2⟩ := h
  unfold oSome; rw [a1]; simp only [R.bind]; unfold toI; rw [a2]

/-! ### what is walked -/
def iterD : D → Option (List D)
  | .lst ds => some ds
  | .tup ds => some ds
  | .kt ds => some ds
  | .str x => some (strD x)
  | _ => none
theorem ii_seq (h : Iv f ρ (.lst ds)) : II (iSeq f) ρ ds := by
  obtain ⟨b, a1, a2, a3⟩ := h
  unfold II iSeq; rw [a1]; simp only [R.bind, a2]
theorem ii_str {z : Str} (h : Is f ρ (.str z)) : II (iStrD f) ρ (strD z) := by
  obtain ⟨b, a1, a2⟩ := h
  unfold II iStrD; rw [a1]; simp only [R.bind, a2]
def lstR (d : D) (ρ : Ev) : R (List D) := match d with
  | .lst ds => .ok ds ρ
  | _ => .no
def tupR (d : D) (ρ : Ev) : R (List D) := match tupOf d with
  | some ds => .ok ds ρ
  | none => .no
def strR (d : D) (ρ : Ev) : R (List D) := match d with
  | .str z => .ok (strD z) ρ
  | _ => .no
theorem ii_any (h : Iv f ρ d) (e : iterD d = some ds) : II (orI (iSeq f) (orI (iTupD f) (iStrD f))) ρ ds := by
  obtain ⟨b, a1, a2, a3⟩ := h
  have s : iSeq f ρ = lstR d ρ := by
    unfold iSeq lstR; rw [a1]; simp only [R.bind, a2]; cases d <;> rfl
  have t : iTupD f ρ = tupR d ρ := by
    unfold iTupD tupR; rw [a1]; simp only [R.bind, a2]; first | done | (cases tupOf d <;> rfl)
  have u : iStrD f ρ = strR d ρ := by
    unfold iStrD strR; rw [a1]; simp only [R.bind, a3]; cases d <;> rfl
  unfold II orI; rw [s, t, u]
  cases d <;> first | (cases e; rfl) | cases e
theorem ii_zip (h : IvA fa ρ [x, y]) (hx : (x = .lst xs ∧ y = .lst ys) ∨ (tupOf x = some xs ∧ tupOf y = some ys)) : II (iZipD fa) ρ (zipD xs ys) := by
  obtain ⟨bs, a1, a2⟩ := h
  unfold II iZipD; rw [a1]; simp only [R.bind, a2]
  rcases hx with ⟨rfl, rfl⟩ | ⟨h1, h2⟩
  · rfl
  · cases x <;> first | (cases h1; cases y <;> first | (cases h2; rfl) | cases h2) | cases h1
theorem ii_rng1 {j : Int} (h : Is f ρ (.int j)) (h1 : -(2 ^ 62) ≤ j) (h2 : j < 2 ^ 62) : II (iRng1 (dCons f dNil)) ρ (rngD 0 j.toNat) := by
  obtain ⟨b, a1, a2⟩ := h
  unfold II iRng1 dCons dNil
  rw [a1]; simp only [R.bind, lookAll, a2, Option.bind, int1]
  rw [if_pos ⟨h1, h2⟩]

/-! ### comprehensions without effects -/
theorem una_una {vs : List Nat} : una vs 0 (una vs 0 ρ) = una vs 0 ρ := by
  apply List.ext_getElem?
  intro i
  rw [una_get, una_get]
  by_cases hc : vs.contains (0 + i) = true
  · rw [if_pos hc, if_pos hc]; cases ρ[i]? <;> rfl
  · rw [if_neg hc, if_neg hc]
theorem iv_comp {it : Ev → R (List D)} {t : Tg} {vs : List Nat} {test : Ev → R Bool} {elt : EF} {ρ1 : D → Ev} {kk : D → Bool} {ee : D → D} (hit : II it ρ ds)
    (hs : rst vs 0 (una vs 0 ρ) ρ = ρ) (hz : ds.length ≤ sizeLine)
    (body : ∀ d ∈ ds, t.set d (una vs 0 ρ) = some (ρ1 d) ∧ una vs 0 (ρ1 d) = una vs 0 ρ ∧ IsT test (ρ1 d) (kk d) ∧ (kk d = true → Iv elt (ρ1 d) (ee d))) :
    Iv (dComp it t vs test elt) ρ (.lst ((ds.filter kk).map ee)) := by
  have go : ∀ (rest acc : List D), (∀ d ∈ rest, d ∈ ds) → acc.length + rest.length ≤ sizeLine → compGo t vs test elt rest acc (una vs 0 ρ) = .ok (acc ++ (rest.filter kk).map ee) (una vs 0 ρ) := by
    intro rest
    induction rest with
    | nil => intro acc _ _; simp [compGo]
    | cons d rest ih =>
      intro acc hm hl
      obtain ⟨b1, b2, b3, b4⟩ := body d (hm d (by simp))
      have hm' : ∀ e ∈ rest, e ∈ ds := fun e he => hm e (by simp [he])
      simp only [compGo, b1]
      unfold IsT at b3
      rw [b3]
      simp only [List.length_cons] at hl
      cases hk : kk d with
      | false =>
        simp only [b2]
        rw [ih acc hm' (by omega)]
        simp [hk]
      | true =>
        obtain ⟨b, c1, c2, _⟩ := b4 hk
        simp only
        rw [c1]
        simp only [c2]
        rw [if_pos (by omega), b2, ih (acc ++ [ee d]) hm' (by simp; omega)]
        simp [hk]
  refine .of (c := .own true (.lst ((ds.filter kk).map ee))) ?_ rfl
  unfold dComp
  unfold II at hit
  rw [hit]; simp only [R.bind]
  rw [go ds [] (fun _ h => h) (by simpa using hz)]
  simp only [List.nil_append, hs]
end

/-! ### loops, and what is put into slots -/
section
variable {ρ ρ' : Ev} {f g h : EF} {d : D} {c : B} {k : Bool} {P : Fl → Ev → Prop} {a b : Ev → R Fl} {ds : List D}
theorem wp_for {it : Ev → R (List D)} {t : Tg} {g : Ev → R Fl} {ρ1 : Ev} (I : Nat → Ev → Prop) (hit : it ρ = .ok ds ρ1) (h0 : I 0 ρ1)
    (step : ∀ (i : Nat) (hi : i < ds.length) (ρ : Ev), I i ρ → ∃ ρ2, t.set ds[i] ρ = some ρ2 ∧ Wp (g ρ2) (fun fl ρ3 => (fl = .nx ∨ fl = .ct) ∧ I (i + 1) ρ3))
    (hend : ∀ ρ, I ds.length ρ → P .nx ρ) : Wp (sFor it t g ρ) P := by
  have go : ∀ (n i : Nat) (ρ : Ev), i + n = ds.length → I i ρ → Wp (forGo t g (ds.drop i) ρ) P := by
    intro n
    induction n with
    | zero =>
      intro i ρ hi hI
      have : i = ds.length := by omega
      subst this
      rw [List.drop_length]
      exact ⟨_, _, rfl, hend ρ hI⟩
    | succ n ih =>
      intro i ρ hi hI
      have hlt : i < ds.length := by omega
      obtain ⟨ρ2, e1, h1⟩ := step i hlt ρ hI
      rw [List.drop_eq_getElem_cons hlt]
      simp only [forGo, e1]
      obtain ⟨fl, ρ3, e2, h2, h3⟩ := wp_get h1
      rw [e2]
      rcases h2 with rfl | rfl
      · exact ih (i + 1) ρ3 (by omega) h3
      · exact ih (i + 1) ρ3 (by omega) h3
  unfold sFor; rw [hit]; simp only [R.bind]
  have := go ds.length 0 ρ1 (by omega) h0
  simpa using this
theorem wp_setB {i : Nat} (h : f ρ = .ok c ρ') (hc : cD c ≠ none) (hP : P .nx (ρ'.set i c)) : Wp (sSet i f ρ) P := by
  unfold sSet; rw [h]; simp only [R.bind]
  cases c with
  | val d => exact ⟨_, _, rfl, hP⟩
  | own g o =>
    cases g with
    | true => exact ⟨_, _, rfl, hP⟩
    | false => exact absurd rfl hc
  | un => exact absurd rfl hc
  | al j => exact absurd rfl hc
theorem wp_expr (h : f ρ = .ok c ρ') (hP : P .nx ρ') : Wp (sExpr f ρ) P := by
  unfold sExpr; rw [h]; exact ⟨_, _, rfl, hP⟩
/-- two values without effects of their own, in slots -/
theorem wp_par {i j : Nat} {fa : Ev → R (List B)} {c1 c2 : B} (h : fa ρ = .ok [c1, c2] ρ') (h1 : cD c1 ≠ none) (h2 : cD c2 ≠ none) (hP : P .nx ((ρ'.set j c2).set i c1)) : Wp (sPar i j fa ρ) P := by
  have key : ∀ c : B, cD c ≠ none → own1 c ρ' = some (c, ρ') := fun c hc => by
    cases c with
    | val d => rfl
    | own g o =>
      cases g with
      | true => rfl
      | false => exact absurd rfl hc
    | un => exact absurd rfl hc
    | al j => exact absurd rfl hc
  unfold sPar; rw [h]; simp only [R.bind]
  rw [key c1 h1]; simp only
  rw [key c2 h2]; exact ⟨_, _, rfl, hP⟩
end

/-! ### the drawing pen -/
def PenOk (n : Nat) (o : O) : Prop := ∃ cs t r, o = pen cs t r ∧ 0 ≤ t ∧ t + n ≤ 2 ^ 30 ∧ 0 ≤ r
def DrawOk (S : SI) : Prop := ∀ (n : Nat) (o : O) (m : Int), PenOk (n + 1) o → m < 2 ^ 60 → ∃ d o', S o [.int m] = .ok (.val (.int d)) o' ∧ PenOk n o' ∧ 0 ≤ d ∧ (2 ≤ m → d < m) ∧ (m < 2 → d = 0)
theorem PenOk.mono {n m : Nat} {o : O} (h : PenOk n o) (hm : m ≤ n) : PenOk m o := by
  obtain ⟨cs, t, r, e, h1, h2, h3⟩ := h
  exact ⟨cs, t, r, e, h1, by omega, h3⟩
theorem drawOk_of {S : SI} (h : ∀ (cs : List Int) (t r m : Int), 0 ≤ t → t < 2 ^ 40 → 0 ≤ r → m < 2 ^ 60 → ∃ d t' r', S (pen cs t r) [.int m] = .ok (.val (.int d)) (pen cs t' r') ∧
    0 ≤ d ∧ (2 ≤ m → d < m) ∧ (m < 2 → d = 0) ∧ t ≤ t' ∧ t' ≤ t + 1 ∧ 0 ≤ r') : DrawOk S := fun n o m hp hm => by
  obtain ⟨cs, t, r, rfl, h1, h2, h3⟩ := hp
  obtain ⟨d, t', r', e, a1, a2, a3, a4, a5, a6⟩ := h cs t r m h1 (by omega) h3 hm
  exact ⟨d, _, e, ⟨cs, t', r', rfl, by omega, by omega, a6⟩, a1, a2, a3⟩
theorem pen_same {n : Nat} {o : O} (h : PenOk n o) : sameDx o o = true ∧ ∀ {m : Nat} {o' : O}, PenOk m o' → sameDx o o' = true := by
  obtain ⟨cs, t, r, rfl, _⟩ := h
  refine ⟨rfl, fun h' => ?_⟩
  obtain ⟨cs', t', r', rfl, _⟩ := h'
  rfl
section
variable {ρ ρ' : Ev} {f g h : EF} {fa : Ev → R (List B)} {d : D} {ds : List D} {S : SI}
/-- a draw from the pen in slot i -/
theorem ev_draw {i n : Nat} {gg : Bool} {o : O} {m : Int} (hS : DrawOk S) (hp : gb ρ i = .own gg o) (ho : PenOk (n + 1) o) (hm : Iv f ρ (.int m)) (hb : m < 2 ^ 60) :
    ∃ d o', dCallI i 2 S [] (dCons (dVar i) (dCons f dNil)) ρ = .ok (.val (.int d)) (ρ.set i (.own gg o')) ∧ PenOk n o' ∧ 0 ≤ d ∧ (2 ≤ m → d < m) ∧ (m < 2 → d = 0) := by
  obtain ⟨d, o', e, h1, h2⟩ := hS n o m ho hb
  refine ⟨d, o', ?_, h1, h2⟩
  obtain ⟨b, a1, a2, a3⟩ := hm
  have v : dVar i ρ = .ok (.al i) ρ := by unfold dVar; rw [hp]
  unfold dCallI dCons dNil
  rw [v]; simp only [R.bind]; rw [a1]; simp only [if_true, frzs, a2, List.append_nil, List.length_cons, List.length_nil, hp, e, (pen_same ho).2 h1]
/-- a call that changes the pen in slot i and tells a value -/
theorem ev_pen {i n m k : Nat} {gg : Bool} {o o' : O} (hp : gb ρ i = .own gg o) (ho : PenOk n o) (ha : IvA fa ρ ds) (hn : ds.length + 1 = k) {b : B} (e : S o ds = .ok b o') (ho' : PenOk m o') :
    dCallI i k S [] (dCons (dVar i) fa) ρ = .ok b (ρ.set i (.own gg o')) := by
  obtain ⟨bs, a1, a2⟩ := ha
  have v : dVar i ρ = .ok (.al i) ρ := by unfold dVar; rw [hp]
  unfold dCallI dCons
  rw [v]; simp only [R.bind]; rw [a1]; simp only [if_true, a2, List.append_nil, hn, hp, e, (pen_same ho).2 ho']
end
end Dl
namespace Dl
open PySem PySem.Spec PyProof.Rows L2
section
variable {ρ ρ' : Ev} {f g h : EF} {fa : Ev → R (List B)} {d e x y z : D} {c : B} {k : Bool} {ds es xs ys : List D} {P : Fl → Ev → Prop}
theorem in_sign' {neg : Bool} {c : Nat} {z : Str} : inD neg (.str ⟨#[c]⟩) (.str z) = some (.val (.bl (if neg then !decide (c ∈ z.cps.toList) else decide (c ∈ z.cps.toList)))) := by
  cases neg <;> rfl
theorem eq_nil_ints (cs : List Int) : eqD (.lst (cs.map D.int)) (.lst []) = some (.val (.bl (decide (cs = [])))) := by
  have h := ne_nil_ints cs
  unfold neD at h
  unfold eqD
  cases e : eqB (.lst (cs.map D.int)) (.lst []) with
  | none => rw [e] at h; cases h
  | some k =>
    rw [e] at h
    simp only [vB, Option.some.injEq, B.val.injEq, D.bl.injEq] at h ⊢
    cases k <;> simp_all
/-- [1 for .. if ..] == [] -/
theorem eq_nil_ones {α : Type} (l : List α) : eqD (.lst (l.map fun _ => D.int 1)) (.lst []) = some (.val (.bl l.isEmpty)) := by
  have := eq_nil_ints (l.map fun _ => (1 : Int))
  rw [List.map_map] at this
  have e : (D.int ∘ fun _ : α => (1 : Int)) = fun _ => D.int 1 := rfl
  rw [e] at this
  rw [this]
  cases l <;> simp
theorem ne_bl {i j : Bool} : neD (.bl i) (.bl j) = some (.val (.bl (!(i == j)))) := rfl
theorem eq_bl {i j : Bool} : eqD (.bl i) (.bl j) = some (.val (.bl (i == j))) := rfl
theorem ne_str {i j : Str} : neD (.str i) (.str j) = some (.val (.bl (!(i == j)))) := rfl
theorem eq_str {i j : Str} : eqD (.str i) (.str j) = some (.val (.bl (i == j))) := rfl
theorem eq_int {i j : Int} : eqD (.int i) (.int j) = some (.val (.bl (i == j))) := rfl
theorem ne_int {i j : Int} : neD (.int i) (.int j) = some (.val (.bl (!(i == j)))) := rfl
/-- repr of truth values tells them apart -/
def reprB (b : Bool) : Str := if b then "True" else "False"
theorem ne_repr {i j : Bool} : neD (.str (reprB i)) (.str (reprB j)) = some (.val (.bl (!(i == j)))) := by
  rw [ne_str]
  have h1 : (reprB true == reprB false) = false := by decide +kernel
  have h2 : (reprB false == reprB true) = false := by decide +kernel
  cases i <;> cases j <;> simp [h1, h2]
/-- both ends: a < b < c -/
theorem iv_chain {o o' : D → D → Option B} {k : Bool} (h1 : Is f ρ x) (h2 : Is g ρ y) (e1 : o x y = some (.val (.bl k))) (h3 : k = true → Is h ρ z) (j : Bool) (e2 : k = true → o' y z = some (.val (.bl j))) : Iv (dChain f g h o o') ρ (.bl (k && j)) := by
  obtain ⟨b, a1, a2⟩ := h1
  obtain ⟨b', b1, b2⟩ := h2
  have ck : chk o b b' ρ = some k := by unfold chk; simp only [a2, b2, e1]
  cases k with
  | false =>
    refine .of (c := .val (.bl false)) ?_ rfl
    unfold dChain; rw [a1]; simp only [R.bind]; rw [b1]; simp only [ck]
    rfl
  | true =>
    obtain ⟨b'', c1, c2⟩ := h3 rfl
    refine .of (c := .val (.bl j)) ?_ rfl
    unfold dChain; rw [a1]; simp only [R.bind]; rw [b1]; simp only [ck, if_true]
    rw [c1]; simp only
    unfold fin2; rw [b2, c2]; simp only [e2 rfl]
/-- the value of a slot, that is owned -/
theorem is_own {i : Nat} {gg : Bool} {o : O} (h : gb ρ i = .own gg o) (e : o.toD = some d) : Is (dVar i) ρ d := ⟨.al i, by unfold dVar; rw [h], by simp only [look, h]; exact e⟩
/-- the tests of one if, told of a value -/
theorem isT_TrV (h : Iv f ρ d) (e1 : truth d = some k) : IsT (dTr f) ρ k := isT_Tr h.is e1
end
end Dl
namespace Dl
open PySem PySem.Spec PyProof.Rows L2
section
variable {ρ ρ' : Ev} {f g h : EF} {d e x y z : D} {ds : List D} {P : Fl → Ev → Prop}
theorem iv_andF (h1 : Iv f ρ x) (e1 : truth x = some false) : Iv (dAnd f g) ρ x := by
  have := iv_and (g := g) (y := .non) h1 e1 (fun z => by cases z)
  exact this
theorem iv_andT (h1 : Iv f ρ x) (e1 : truth x = some true) (h2 : Iv g ρ y) : Iv (dAnd f g) ρ y := by
  have := iv_and h1 e1 (fun _ => h2)
  exact this
theorem iv_orT (h1 : Iv f ρ x) (e1 : truth x = some true) : Iv (dOr f g) ρ x := by
  have := iv_or (g := g) (y := .non) h1 e1 (fun z => by cases z)
  exact this
theorem iv_orF (h1 : Iv f ρ x) (e1 : truth x = some false) (h2 : Iv g ρ y) : Iv (dOr f g) ρ y := by
  have := iv_or h1 e1 (fun _ => h2)
  exact this
/-- a comprehension whose turns change things -/
theorem ev_comp {it : Ev → R (List D)} {t : Tg} {vs : List Nat} {test : Ev → R Bool} {elt : EF} {ρ1 : Ev} (I : Nat → List D → Ev → Prop) (hit : it ρ = .ok ds ρ1) (h0 : I 0 [] (una vs 0 ρ1)) (hz : ds.length ≤ sizeLine)
    (step : ∀ (i : Nat) (hi : i < ds.length) (acc : List D) (ρ : Ev), acc.length ≤ i → I i acc ρ → ∃ ρ2 k ρ3, t.set ds[i] ρ = some ρ2 ∧ test ρ2 = .ok k ρ3 ∧
      (k = true → ∃ b ρ4 x ρ5, elt ρ3 = .ok b ρ4 ∧ frz1 ρ4 b = some (x, ρ5) ∧ I (i + 1) (acc ++ [x]) (una vs 0 ρ5)) ∧ (k = false → I (i + 1) acc (una vs 0 ρ3))) :
    ∃ acc ρ', acc.length ≤ ds.length ∧ I ds.length acc ρ' ∧ dComp it t vs test elt ρ = .ok (.own true (.lst acc)) (rst vs 0 ρ' ρ1) := by
  have go : ∀ (n i : Nat) (acc : List D) (ρ : Ev), i + n = ds.length → acc.length ≤ i → I i acc ρ → ∃ acc' ρ', acc'.length ≤ ds.length ∧ I ds.length acc' ρ' ∧ compGo t vs test elt (ds.drop i) acc ρ = .ok acc' ρ' := by
    intro n
    induction n with
    | zero =>
      intro i acc ρ hi hl hI
      have : i = ds.length := by omega
      subst this
      rw [List.drop_length]
      exact ⟨acc, ρ, hl, hI, rfl⟩
    | succ n ih =>
      intro i acc ρ hi hl hI
      have hlt : i < ds.length := by omega
      obtain ⟨ρ2, k, ρ3, e1, e2, h1, h2⟩ := step i hlt acc ρ hl hI
      rw [List.drop_eq_getElem_cons hlt]
      simp only [compGo, e1]
      rw [e2]
      cases k with
      | false => exact ih (i + 1) acc _ (by omega) (by omega) (h2 rfl)
      | true =>
        obtain ⟨b, ρ4, x, ρ5, e3, e4, h3⟩ := h1 rfl
        simp only
        rw [e3]
        simp only [e4]
        rw [if_pos (by omega)]
        exact ih (i + 1) (acc ++ [x]) _ (by omega) (by simp; omega) h3
  obtain ⟨acc, ρ', h1, h2, h3⟩ := go ds.length 0 [] _ (by omega) (Nat.le_refl _) h0
  refine ⟨acc, ρ', h1, h2, ?_⟩
  unfold dComp
  rw [hit]; simp only [R.bind]
  rw [List.drop_zero] at h3
  rw [h3]
end
end Dl
namespace Dl
open PySem PySem.Spec PyProof.Rows L2
section
variable {ρ ρ' : Ev} {f g h : EF} {fa : Ev → R (List B)} {d e x y z : D} {ds : List D} {c : B} {P : Fl → Ev → Prop}
theorem ev_lst (h : IvA fa ρ ds) (hz : ds.length ≤ sizeLine) : dLst fa ρ = .ok (.own true (.lst ds)) ρ := by
  obtain ⟨bs, h1, h2⟩ := h
  unfold dLst; rw [h1]; simp only [R.bind, h2]; rw [if_pos hz]
theorem wp_retB (h : f ρ = .ok c ρ') (hc : cD c ≠ none) (hP : P (.rt c) ρ') : Wp (sRet f ρ) P := by
  unfold sRet; rw [h]; simp only [R.bind]
  cases c with
  | val d => exact ⟨_, _, rfl, hP⟩
  | own g o =>
    cases g with
    | true => exact ⟨_, _, rfl, hP⟩
    | false => exact absurd rfl hc
  | un => exact absurd rfl hc
  | al j => exact absurd rfl hc
/-- a def's answer that is an object of its own -/
theorem fnD_own {n : Nat} {g : Ev → R Fl} {ds : List D} {o : O} {ρ' : Ev} (h : g (ds.map B.val ++ List.replicate (n - ds.length) .un) = .ok (.rt (.own true o)) ρ') : fnD n g ds = .ok (.own true o) := by
  unfold fnD; rw [h]
/-- the comprehension of the pen: int(cell) -/
theorem ints_comp {it : Ev → R (List D)} {i : Nat} {cs : List Int} (hit : II it ρ (cs.map D.int)) (hs : rst [i] 0 (una [i] 0 ρ) ρ = ρ) (hu : ∀ d, una [i] 0 ((una [i] 0 ρ).set i (.val d)) = una [i] 0 ρ) (hg : ∀ d, gb ((una [i] 0 ρ).set i (.val d)) i = .val d)
    (hz : cs.length ≤ sizeLine) : Iv (dComp it (.one i) [i] tTrue (opN (dCons (dVar i) dNil) (on1 Dl.intD))) ρ (.lst (cs.map D.int)) := by
  have h := iv_comp (ee := fun d => d) (kk := fun _ => true) (t := .one i) (vs := [i]) (test := tTrue) (elt := opN (dCons (dVar i) dNil) (on1 Dl.intD)) (ρ1 := fun d => (una [i] 0 ρ).set i (.val d)) hit hs (by simpa using hz) (fun d hd => by
    obtain ⟨c, _, rfl⟩ := List.mem_map.mp hd
    exact ⟨rfl, hu _, rfl, fun _ => iv_on1 (iv_var (hg _)).is rfl rfl⟩)
  rw [List.filter_eq_self.mpr (fun _ _ => rfl), show (fun d : D => d) = id from rfl, List.map_id] at h
  exact h
theorem cut63 (cs : List Int) : ∃ ks : List Int, Dl.cutD (cs.map D.int) none (some 63) = ks.map D.int ∧ ks.length ≤ cs.length := by
  unfold Dl.cutD
  refine ⟨(cs.drop (HT.sIx (cs.map D.int).length 0 none)).take (HT.sIx (cs.map D.int).length (cs.map D.int).length (some 63) - HT.sIx (cs.map D.int).length 0 none), ?_, ?_⟩
  · rw [List.map_take, List.map_drop]
  · rw [List.length_take, List.length_drop]; omega
end
end Dl
namespace Law
open PySem PySem.Spec PyProof.Rows L2 Dl

def topS (i : Nat) : Stmt := PySem.Challenge.pw_pastsayings_k01_kinds_of_values.main.body.getD i (.Pass ⟨0, 0, 0, 0⟩)
abbrev sd_fixed : Stmt := topS 8
theorem sc_fixed : FnScope (["value", "part"] : List Str) (["value"] : List Str) (defScope sd_fixed) := ⟨rfl, rfl, rfl, by decide +kernel, rfl, by decide +kernel, by decide +kernel⟩
abbrev sd_Paper_uinitu : Stmt := clsBody (topS 10) 0
theorem sc_Paper_uinitu : FnScope (["self", "word", "parts"] : List Str) (["self", "word", "parts"] : List Str) (defScope sd_Paper_uinitu) := ⟨rfl, rfl, rfl, by decide +kernel, rfl, by decide +kernel, by decide +kernel⟩
abbrev sd__law_draw : Stmt := topS 13
theorem sc__law_draw : FnScope (["pen", "many", "rest", "turn", "cell", "mixed"] : List Str) (["pen", "many"] : List Str) (defScope sd__law_draw) := ⟨rfl, rfl, rfl, by decide +kernel, rfl, by decide +kernel, by decide +kernel⟩
abbrev sd__law_is_name : Stmt := topS 15
theorem sc__law_is_name : FnScope (["value", "sign"] : List Str) (["value"] : List Str) (defScope sd__law_is_name) := ⟨rfl, rfl, rfl, by decide +kernel, rfl, by decide +kernel, by decide +kernel⟩
abbrev sd__law_pen : Stmt := topS 12
theorem sc__law_pen : FnScope (["script", "cell"] : List Str) (["script"] : List Str) (defScope sd__law_pen) := ⟨rfl, rfl, rfl, by decide +kernel, rfl, by decide +kernel, by decide +kernel⟩
abbrev sd__law_pick : Stmt := topS 14
theorem sc__law_pick : FnScope (["pen", "some"] : List Str) (["pen", "some"] : List Str) (defScope sd__law_pick) := ⟨rfl, rfl, rfl, by decide +kernel, rfl, by decide +kernel, by decide +kernel⟩
abbrev sd_is_listed : Stmt := topS 4
theorem sc_is_listed : FnScope (["value", "least", "most"] : List Str) (["value", "least", "most"] : List Str) (defScope sd_is_listed) := ⟨rfl, rfl, rfl, by decide +kernel, rfl, by decide +kernel, by decide +kernel⟩
abbrev sd_is_name : Stmt := topS 5
theorem sc_is_name : FnScope (["value", "sign"] : List Str) (["value"] : List Str) (defScope sd_is_name) := ⟨rfl, rfl, rfl, by decide +kernel, rfl, by decide +kernel, by decide +kernel⟩
abbrev sd_are_names : Stmt := topS 6
theorem sc_are_names : FnScope (["value", "least", "most", "one", "other"] : List Str) (["value", "least", "most"] : List Str) (defScope sd_are_names) := ⟨rfl, rfl, rfl, by decide +kernel, rfl, by decide +kernel, by decide +kernel⟩
abbrev sd_is_integer : Stmt := topS 2
theorem sc_is_integer : FnScope (["value"] : List Str) (["value"] : List Str) (defScope sd_is_integer) := ⟨rfl, rfl, rfl, by decide +kernel, rfl, by decide +kernel, by decide +kernel⟩
abbrev sd_is_within : Stmt := topS 3
theorem sc_is_within : FnScope (["value", "least", "most"] : List Str) (["value", "least", "most"] : List Str) (defScope sd_is_within) := ⟨rfl, rfl, rfl, by decide +kernel, rfl, by decide +kernel, by decide +kernel⟩
abbrev sd_law : Stmt := topS 16
theorem sc_law : FnScope (["script", "pen", "some", "value", "whole", "least", "top", "listed", "few", "many", "due", "names", "one", "other", "turn", "word", "lap", "signs", "sign"] : List Str) (["script"] : List Str) (defScope sd_law) := ⟨rfl, rfl, rfl, by decide +kernel, rfl, by decide +kernel, by decide +kernel⟩
/-! ### what the defs do -/
def ci : List (Nat × Bool) := [(12, false)]
def cs_parts : List Nat := [12]
def cs_word : List Nat := [12]
def ci_Paper : List (Nat × Bool) := [(12, true)]
def g_fixed (S_rk : SD) : Ev → R Fl :=
  sSeq (sIf (dTr (op1 (dVar 0) (isiD ["list", "tuple"] ci))) (sRet (opN (dCons (dComp (orI (iSeq (dVar 0)) (orI (iTupD (dVar 0)) (iStrD (dVar 0)))) (.one 1) [1] (tTrue) (dCall 1 S_rk [] (dCons (dVar 1) (dNil)))) (dNil)) (on1 tupleD))) (sNil)) (sRet (dVar 0))
def S_fixed : Nat → SD
  | 0 => fun _ => .no
  | k + 1 => fnD 2 (g_fixed (S_fixed k))
def g_Paper_uinitu : Ev → R Fl :=
  sSeq (sFldD cs_word "word" (dVar 1) (dVar 0)) (sFldD cs_parts "parts" (dCall 1 (S_fixed 40) [] (dCons (dVar 2) (dNil))) (dVar 0))
def S_Paper_uinitu : SI := fnI 3 g_Paper_uinitu
def M_Paper_uinitu : SM := fun ds => match ds with
  | [a, b] => match S_fixed 40 [b] with
    | .ok (.val d) => .ok [("word", a), ("parts", d)]
    | _ => .no
  | _ => .no
def g__law_draw : Ev → R Fl :=
  sSeq (sIf (dB (op2 (dVar 1) (dC (.int 2)) ltD)) (sRet (dC (.int 0))) (sNil)) (sSeq (sIf (dB (op2 (op2 (dVar 0) (dC (.int 2)) idxD) (dC (.int 0)) gtD)) (sSeq (sSet 2 (opN (dCons (op2 (dVar 0) (dC (.int 2)) idxD) (dNil)) (on1 intD))) (sSeq (sStore (op2 (dVar 2) (dVar 1) fdivD) (dVar 0) (dC (.int 2))) (sRet (op2 (opN (dCons (dVar 2) (dNil)) (on1 intD)) (dVar 1) modD)))) (sNil)) (sSeq (sSet 3 (op2 (dVar 0) (dC (.int 1)) idxD)) (sSeq (sStore (op2 (dVar 3) (dC (.int 1)) addD) (dVar 0) (dC (.int 1))) (sSeq (sSet 4 (op2 (op2 (dC (.int 74059)) (dVar 3) mulD) (dC (.int 9125)) addD)) (sSeq (sIf (dB (op2 (op2 (dVar 0) (dC (.int 0)) idxD) (dLst (dNil)) neD)) (sSet 4 (op2 (op2 (dVar 0) (dC (.int 0)) idxD) (op2 (opN (dCons (dVar 3) (dNil)) (on1 intD)) (opN (dCons (op2 (dVar 0) (dC (.int 0)) idxD) (dNil)) (on1 lenD)) modD) idxD)) (sNil)) (sSeq (sIf (tAndD (dB (op2 (dVar 3) (opN (dCons (op2 (dVar 0) (dC (.int 0)) idxD) (dNil)) (on1 lenD)) ltD)) (dB (op2 (opN (dCons (dVar 4) (dNil)) (on1 absD)) (op2 (dC (.int 10)) (dC (.int 18)) powD) geD))) (sSeq (sSet 2 (op2 (op2 (dC (.int 2)) (op2 (opN (dCons (dVar 4) (dNil)) (on1 absD)) (op2 (dC (.int 10)) (dC (.int 18)) powD) subD) mulD) (opN (dCons (op2 (dVar 4) (dC (.int 0)) ltD) (dNil)) (on1 intD)) addD)) (sSeq (sStore (op2 (opN (dCons (dVar 2) (dNil)) (on1 intD)) (dVar 1) fdivD) (dVar 0) (dC (.int 2))) (sRet (op2 (opN (dCons (dVar 2) (dNil)) (on1 intD)) (dVar 1) modD)))) (sNil)) (sSeq (sSet 5 (op2 (opN (dCons (op2 (op2 (op2 (op2 (opN (dCons (dVar 4) (dNil)) (on1 intD)) (dC (.int 2147483489)) modD) (op2 (dC (.int 74059)) (dVar 3) mulD) addD) (dC (.int 9125)) addD) (dC (.int 3)) powD) (dNil)) (on1 intD)) (dC (.int 2147483543)) modD)) (sSeq (sSet 5 (op2 (opN (dCons (op2 (op2 (op2 (op2 (dVar 5) (op2 (op2 (dC (.int 2)) (dVar 3) mulD) (dC (.int 6327)) addD) mulD) (op2 (op2 (dC (.int 35069)) (dVar 3) mulD) (dVar 3) mulD) addD) (dC (.int 74059)) addD) (dC (.int 5)) powD) (dNil)) (on1 intD)) (dC (.int 2147483497)) modD)) (sRet (op2 (opN (dCons (op2 (dVar 5) (dC (.int 32)) fdivD) (dNil)) (on1 intD)) (dVar 1) modD))))))))))
def S__law_draw : SI := fnI 6 g__law_draw
def g__law_is_name : Ev → R Fl :=
  sRet (dAnd (op1 (dVar 0) (isiD ["str"] ci)) (dAnd (dChain (dC (.int 0)) (opN (dCons (dVar 0) (dNil)) (on1 lenD)) (dC (.int 9)) ltD ltD) (op2 (dComp (orI (iSeq (dVar 0)) (orI (iTupD (dVar 0)) (iStrD (dVar 0)))) (.one 1) [1] (dB (op2 (dVar 1) (dC (.str "abcdefghijklmnopqrstuvwxyz")) (inD true))) (dC (.int 1))) (dLst (dNil)) eqD)))
def S__law_is_name : SD := fnD 2 g__law_is_name
def g__law_pen : Ev → R Fl :=
  sRet (dLst (dCons (dComp (orI (iSeq (dSl (dVar 0) (oNone) (oSome (dC (.int 63))))) (orI (iTupD (dSl (dVar 0) (oNone) (oSome (dC (.int 63))))) (iStrD (dSl (dVar 0) (oNone) (oSome (dC (.int 63))))))) (.one 1) [1] (tTrue) (opN (dCons (dVar 1) (dNil)) (on1 intD))) (dCons (dC (.int 0)) (dCons (dC (.int 0)) (dNil)))))
def S__law_pen : SD := fnD 2 g__law_pen
def g__law_pick : Ev → R Fl :=
  sRet (op2 (dVar 1) (dCallI 0 2 (S__law_draw) [] (dCons (dVar 0) (dCons (opN (dCons (dVar 1) (dNil)) (on1 lenD)) (dNil)))) idxD)
def S__law_pick : SI := fnI 2 g__law_pick
def g_is_listed : Ev → R Fl :=
  sRet (dAnd (op1 (dVar 0) (isiD ["list", "tuple"] ci)) (dAnd (op2 (opN (dCons (dVar 0) (dNil)) (on1 lenD)) (dVar 1) geD) (dOr (op2 (dVar 2) (dC .non) isD) (op2 (opN (dCons (dVar 0) (dNil)) (on1 lenD)) (dVar 2) leD))))
def S_is_listed : SD := fnD 3 g_is_listed
def g_is_name : Ev → R Fl :=
  sRet (dAnd (op1 (dVar 0) (isiD ["str"] ci)) (dAnd (dChain (dC (.int 1)) (opN (dCons (dVar 0) (dNil)) (on1 lenD)) (dC (.int 8)) leD leD) (opN (dCons (dComp (orI (iSeq (dVar 0)) (orI (iTupD (dVar 0)) (iStrD (dVar 0)))) (.one 1) [1] (tTrue) (op2 (dVar 1) (dC (.str "abcdefghijklmnopqrstuvwxyz")) (inD false))) (dNil)) (on1 allD))))
def S_is_name : SD := fnD 2 g_is_name
def g_are_names : Ev → R Fl :=
  sSeq (sIf (tOrD (tNotD (dTr (dCall 3 (S_is_listed) [] (dCons (dVar 0) (dCons (dVar 1) (dCons (dVar 2) (dNil))))))) (tNotD (dTr (opN (dCons (dComp (orI (iSeq (dVar 0)) (orI (iTupD (dVar 0)) (iStrD (dVar 0)))) (.one 3) [3] (tTrue) (dCall 1 (S_is_name) [] (dCons (dVar 3) (dNil)))) (dNil)) (on1 allD))))) (sRet (dC (.bl false))) (sNil)) (sRet (opN (dCons (dComp (iZipD (dCons (dVar 0) (dCons (dSl (dVar 0) (oSome (dC (.int 1))) (oNone)) (dNil)))) (.tup [3, 4]) [3, 4] (tTrue) (op2 (dVar 3) (dVar 4) ltD)) (dNil)) (on1 allD)))
def S_are_names : SD := fnD 5 g_are_names
def g_is_integer : Ev → R Fl :=
  sRet (dAnd (op1 (dVar 0) (isiD ["int"] ci)) (dNot (op1 (dVar 0) (isiD ["bool"] ci))))
def S_is_integer : SD := fnD 1 g_is_integer
def g_is_within : Ev → R Fl :=
  sRet (dAnd (dCall 1 (S_is_integer) [] (dCons (dVar 0) (dNil))) (dAnd (dOr (op2 (dVar 1) (dC .non) isD) (op2 (dVar 0) (dVar 1) geD)) (dOr (op2 (dVar 2) (dC .non) isD) (op2 (dVar 0) (dVar 2) leD))))
def S_is_within : SD := fnD 3 g_is_within
def g_law : Ev → R Fl :=
  sSeq (sSet 1 (dCall 1 (S__law_pen) [] (dCons (dVar 0) (dNil)))) (sSeq (sSet 2 (dLst (dCons (dC .non) (dCons (dC (.bl true)) (dCons (dC (.bl false)) (dCons (dC (.int 0)) (dCons (dC (.int 1)) (dCons (op2 (dC (.int 0)) (dC (.int 1)) subD) (dCons (dC (.int 7)) (dCons (op2 (dC (.int 10)) (dC (.int 59)) powD) (dCons (dC (.str "")) (dCons (dC (.str "a")) (dCons (dC (.str "z")) (dCons (dC (.str "abcdefgh")) (dCons (dC (.str "abcdefghi")) (dCons (dC (.str "A")) (dCons (dC (.str "a b")) (dCons (dC (.str "a1")) (dCons (dTup (dNil)) (dCons (dLst (dNil)) (dCons (dTup (dCons (dC (.int 1)) (dNil))) (dCons (dLst (dCons (dC (.int 1)) (dCons (dC (.int 2)) (dNil)))) (dCons (dLst (dCons (dC (.str "a")) (dNil))) (dCons (dTup (dCons (dC (.str "a")) (dCons (dC (.str "b")) (dNil)))) (dCons (dLst (dCons (dC (.str "b")) (dCons (dC (.str "a")) (dNil)))) (dCons (dLst (dCons (dC (.str "a")) (dCons (dC (.str "a")) (dNil)))) (dCons (dDNewK) (dCons (dDisp ((dC (.str "a"), dC (.int 1)) :: [])) (dCons (dMakeR 12 1 (M_Paper_uinitu) (dCons (dC (.str "p")) (dNil))) (dCons (dLst (dCons (dC .non) (dNil))) (dCons (dLst (dCons (dLst (dCons (dC (.str "a")) (dNil))) (dNil))) (dCons (dC (.str "ab")) (dNil))))))))))))))))))))))))))))))))) (sSeq (sFor (orI (iSeq (dVar 2)) (orI (iTupD (dVar 2)) (iStrD (dVar 2)))) (.one 3) (sSeq (sSet 4 (dAnd (op1 (dVar 3) (isiD ["int"] ci)) (dNot (op1 (dVar 3) (isiD ["bool"] ci))))) (sSeq (sIf (tOrD (dB (op2 (opN (dCons (dCall 1 (S_is_integer) [] (dCons (dVar 3) (dNil))) (dNil)) (on1 reprD)) (opN (dCons (dVar 4) (dNil)) (on1 reprD)) neD)) (tOrD (dB (op2 (dCallK 1 0 1 [.k 0] [] (S_is_integer) (dNil) (dCons (dVar 3) (dNil))) (dVar 4) neD)) (tOrD (dB (op2 (opN (dCons (dCall 1 (S_is_name) [] (dCons (dVar 3) (dNil))) (dNil)) (on1 reprD)) (opN (dCons (dCall 1 (S__law_is_name) [] (dCons (dVar 3) (dNil))) (dNil)) (on1 reprD)) neD)) (dB (op2 (dCallK 1 0 1 [.k 0] [] (S_is_name) (dNil) (dCons (dVar 3) (dNil))) (dCall 1 (S__law_is_name) [] (dCons (dVar 3) (dNil))) neD))))) (sRet (dC (.bl false))) (sNil)) (sSeq (sPar 5 6 (dCons (dCallI 1 2 (S__law_pick) [] (dCons (dVar 1) (dCons (dLst (dCons (dC .non) (dCons (dC (.int 0)) (dCons (dC (.int 1)) (dCons (op2 (dC (.int 0)) (dC (.int 3)) subD) (dNil)))))) (dNil)))) (dCons (dCallI 1 2 (S__law_pick) [] (dCons (dVar 1) (dCons (dLst (dCons (dC .non) (dCons (dC (.int 1)) (dCons (dC (.int 6)) (dCons (dC (.int 7)) (dNil)))))) (dNil)))) (dNil)))) (sSeq (sIf (tOrD (dB (op2 (opN (dCons (dCall 3 (S_is_within) [] (dCons (dVar 3) (dCons (dVar 5) (dCons (dVar 6) (dNil))))) (dNil)) (on1 reprD)) (opN (dCons (dAnd (dVar 4) (dAnd (dOr (op2 (dVar 5) (dC .non) isD) (op2 (dVar 3) (dVar 5) geD)) (dOr (op2 (dVar 6) (dC .non) isD) (op2 (dVar 3) (dVar 6) leD)))) (dNil)) (on1 reprD)) neD)) (dB (op2 (dCallK 3 0 3 [.k 2, .k 1, .k 0] [] (S_is_within) (dNil) (dCons (dVar 6) (dCons (dVar 5) (dCons (dVar 3) (dNil))))) (dCall 3 (S_is_within) [] (dCons (dVar 3) (dCons (dVar 5) (dCons (dVar 6) (dNil))))) neD))) (sRet (dC (.bl false))) (sNil)) (sSeq (sSet 7 (op1 (dVar 3) (isiD ["list", "tuple"] ci))) (sSeq (sPar 8 9 (dCons (dCallI 1 2 (S__law_draw) [] (dCons (dVar 1) (dCons (dC (.int 3)) (dNil)))) (dCons (dCallI 1 2 (S__law_pick) [] (dCons (dVar 1) (dCons (dLst (dCons (dC .non) (dCons (dC (.int 0)) (dCons (dC (.int 1)) (dCons (dC (.int 2)) (dNil)))))) (dNil)))) (dNil)))) (sSeq (sSet 10 (dAnd (dVar 7) (dAnd (op2 (opN (dCons (dVar 3) (dNil)) (on1 lenD)) (dVar 8) geD) (dOr (op2 (dVar 9) (dC .non) isD) (op2 (opN (dCons (dVar 3) (dNil)) (on1 lenD)) (dVar 9) leD))))) (sSeq (sIf (tOrD (dB (op2 (opN (dCons (dCall 3 (S_is_listed) [] (dCons (dVar 3) (dCons (dVar 8) (dCons (dVar 9) (dNil))))) (dNil)) (on1 reprD)) (opN (dCons (dVar 10) (dNil)) (on1 reprD)) neD)) (tOrD (dB (op2 (dCall 3 (S_is_listed) [.int 0, .non] (dCons (dVar 3) (dNil))) (dVar 7) neD)) (dB (op2 (dCallK 3 0 3 [.k 2, .k 1, .k 0] [] (S_is_listed) (dNil) (dCons (dVar 9) (dCons (dVar 8) (dCons (dVar 3) (dNil))))) (dVar 10) neD)))) (sRet (dC (.bl false))) (sNil)) (sSeq (sSet 11 (dAnd (dVar 10) (dAnd (op2 (dComp (orI (iSeq (dVar 3)) (orI (iTupD (dVar 3)) (iStrD (dVar 3)))) (.one 12) [12] (tNotD (dTr (dCall 1 (S__law_is_name) [] (dCons (dVar 12) (dNil))))) (dC (.int 1))) (dLst (dNil)) eqD) (op2 (dComp (iZipD (dCons (dVar 3) (dCons (dSl (dVar 3) (oSome (dC (.int 1))) (oNone)) (dNil)))) (.tup [12, 13]) [12, 13] (dB (op2 (dVar 12) (dVar 13) geD)) (dC (.int 1))) (dLst (dNil)) eqD)))) (sIf (tOrD (dB (op2 (opN (dCons (dCall 3 (S_are_names) [] (dCons (dVar 3) (dCons (dVar 8) (dCons (dVar 9) (dNil))))) (dNil)) (on1 reprD)) (opN (dCons (dVar 11) (dNil)) (on1 reprD)) neD)) (dB (op2 (dCallK 3 0 3 [.k 2, .k 1, .k 0] [] (S_are_names) (dNil) (dCons (dVar 9) (dCons (dVar 8) (dCons (dVar 3) (dNil))))) (dVar 11) neD))) (sRet (dC (.bl false))) (sNil)))))))))))) (sSeq (sFor (iRng1 (dCons (dC (.int 20)) (dNil))) (.one 14) (sSeq (sSet 15 (dRd1 "str" joinD (dC (.str "")) (dComp (iRng1 (dCons (dCallI 1 2 (S__law_draw) [] (dCons (dVar 1) (dCons (dC (.int 11)) (dNil)))) (dNil))) (.one 16) [16] (tTrue) (dCallI 1 2 (S__law_pick) [] (dCons (dVar 1) (dCons (dLst (dCons (dC (.str "a")) (dCons (dC (.str "b")) (dCons (dC (.str "j")) (dCons (dC (.str "z")) (dCons (dC (.str "q")) (dCons (dC (.str "A")) (dCons (dC (.str "-")) (dCons (dC (.str "1")) (dCons (dC (.str " ")) (dNil))))))))))) (dNil))))))) (sIf (dB (op2 (opN (dCons (dCall 1 (S_is_name) [] (dCons (dVar 15) (dNil))) (dNil)) (on1 reprD)) (opN (dCons (dCall 1 (S__law_is_name) [] (dCons (dVar 15) (dNil))) (dNil)) (on1 reprD)) neD)) (sRet (dC (.bl false))) (sNil)))) (sSeq (sSet 17 (op2 (dComp (iStrD (dC (.str "abcdefghijklmnopqrstuvwxyz"))) (.one 18) [18] (tNotD (dTr (dCall 1 (S_is_name) [] (dCons (dVar 18) (dNil))))) (dVar 18)) (dComp (iStrD (dC (.str "`{\x40[/:_ \n"))) (.one 18) [18] (dTr (dCall 1 (S_is_name) [] (dCons (op2 (dC (.str "a")) (dVar 18) addD) (dNil)))) (dVar 18)) addD)) (sRet (dAnd (op2 (dVar 17) (dLst (dNil)) eqD) (dAnd (op2 (dCall 1 (S_is_name) [] (dCons (dC (.str "jkqvwxyz")) (dNil))) (dC (.bl true)) isD) (op2 (dCall 3 (S_are_names) [.int 0, .non] (dCons (dLst (dNil)) (dNil))) (dC (.bl true)) isD))))))))
def S_law : SD := fnD 19 g_law
/-! ### what is known of the top -/
structure Fs (P : Program) (w : World) (K : PySem.W.Frag) (mg : Str → Option Value) where
  d_fixed : FuncData
  F_fixed : FunD K "fixed" "fixed" (defArgs sd_fixed) (defBody sd_fixed) (defScope sd_fixed) [] [] (He.ga K "fixed") d_fixed
  g_fixed : mg "fixed" = some (.ref (He.ga K "fixed"))
  d_Paper_uinitu : FuncData
  F_Paper_uinitu : FunD K "__init__" "Paper.__init__" (defArgs sd_Paper_uinitu) (defBody sd_Paper_uinitu) (defScope sd_Paper_uinitu) [] [] (He.ma K (ca K 12) "__init__") d_Paper_uinitu
  d__law_draw : FuncData
  F__law_draw : FunD K "_law_draw" "_law_draw" (defArgs sd__law_draw) (defBody sd__law_draw) (defScope sd__law_draw) [] [] (He.ga K "_law_draw") d__law_draw
  g__law_draw : mg "_law_draw" = some (.ref (He.ga K "_law_draw"))
  d__law_is_name : FuncData
  F__law_is_name : FunD K "_law_is_name" "_law_is_name" (defArgs sd__law_is_name) (defBody sd__law_is_name) (defScope sd__law_is_name) [] [] (He.ga K "_law_is_name") d__law_is_name
  g__law_is_name : mg "_law_is_name" = some (.ref (He.ga K "_law_is_name"))
  d__law_pen : FuncData
  F__law_pen : FunD K "_law_pen" "_law_pen" (defArgs sd__law_pen) (defBody sd__law_pen) (defScope sd__law_pen) [] [] (He.ga K "_law_pen") d__law_pen
  g__law_pen : mg "_law_pen" = some (.ref (He.ga K "_law_pen"))
  d__law_pick : FuncData
  F__law_pick : FunD K "_law_pick" "_law_pick" (defArgs sd__law_pick) (defBody sd__law_pick) (defScope sd__law_pick) [] [] (He.ga K "_law_pick") d__law_pick
  g__law_pick : mg "_law_pick" = some (.ref (He.ga K "_law_pick"))
  d_is_listed : FuncData
  F_is_listed : FunD K "is_listed" "is_listed" (defArgs sd_is_listed) (defBody sd_is_listed) (defScope sd_is_listed) [.int 0, .non] [] (He.ga K "is_listed") d_is_listed
  g_is_listed : mg "is_listed" = some (.ref (He.ga K "is_listed"))
  d_is_name : FuncData
  F_is_name : FunD K "is_name" "is_name" (defArgs sd_is_name) (defBody sd_is_name) (defScope sd_is_name) [] [] (He.ga K "is_name") d_is_name
  g_is_name : mg "is_name" = some (.ref (He.ga K "is_name"))
  d_are_names : FuncData
  F_are_names : FunD K "are_names" "are_names" (defArgs sd_are_names) (defBody sd_are_names) (defScope sd_are_names) [.int 0, .non] [] (He.ga K "are_names") d_are_names
  g_are_names : mg "are_names" = some (.ref (He.ga K "are_names"))
  d_is_integer : FuncData
  F_is_integer : FunD K "is_integer" "is_integer" (defArgs sd_is_integer) (defBody sd_is_integer) (defScope sd_is_integer) [] [] (He.ga K "is_integer") d_is_integer
  g_is_integer : mg "is_integer" = some (.ref (He.ga K "is_integer"))
  d_is_within : FuncData
  F_is_within : FunD K "is_within" "is_within" (defArgs sd_is_within) (defBody sd_is_within) (defScope sd_is_within) [] [] (He.ga K "is_within") d_is_within
  g_is_within : mg "is_within" = some (.ref (He.ga K "is_within"))
  d_law : FuncData
  F_law : FunD K "law" "law" (defArgs sd_law) (defBody sd_law) (defScope sd_law) [] [] (He.ga K "law") d_law
  g_law : mg "law" = some (.ref (He.ga K "law"))
  g_Paper : mg "Paper" = some (.ref (ca K 12))
  k_Paper : Mk K (ca K 12) (He.ma K (ca K 12) "__init__")
  n_abs : mg "abs" = none
  n_all : mg "all" = none
  n_bool : mg "bool" = none
  n_int : mg "int" = none
  n_isinstance : mg "isinstance" = none
  n_len : mg "len" = none
  n_list : mg "list" = none
  n_range : mg "range" = none
  n_repr : mg "repr" = none
  n_str : mg "str" = none
  n_tuple : mg "tuple" = none
  n_zip : mg "zip" = none
  t_LETTERS : ∃ t, mg "LETTERS" = some (.str "abcdefghijklmnopqrstuvwxyz" t)
  ki_bool : ∀ C k, ci.lookup C = some k → Inst K (ca K C) ∧ PySem.W.kitAny K (.ref (ca K C)) (["bool"].map Value.type) = some k
  ki_int : ∀ C k, ci.lookup C = some k → Inst K (ca K C) ∧ PySem.W.kitAny K (.ref (ca K C)) (["int"].map Value.type) = some k
  ki_list_tuple : ∀ C k, ci.lookup C = some k → Inst K (ca K C) ∧ PySem.W.kitAny K (.ref (ca K C)) (["list", "tuple"].map Value.type) = some k
  ki_str : ∀ C k, ci.lookup C = some k → Inst K (ca K C) ∧ PySem.W.kitAny K (.ref (ca K C)) (["str"].map Value.type) = some k
  ki_tuple : ∀ C k, ci.lookup C = some k → Inst K (ca K C) ∧ PySem.W.kitAny K (.ref (ca K C)) (["tuple"].map Value.type) = some k
  f_parts : ∀ C ∈ cs_parts, FldF K C "parts"
  f_word : ∀ C ∈ cs_word, FldF K C "word"
section
variable {P : Program} {w : World} {K : PySem.W.Frag} {mg : Str → Option Value} {base : Heap}
theorem bnd_fixed_1 (c : Fs P w K mg) : ∃ ds, Vals ([] : List V) ds ∧ Binds K c.d_fixed (["value"] : List Str) ds := ⟨[], .nil, c.F_fixed.bindsN fun _ _ _ _ _ _ us hl => match us, hl with | [_], _ => rfl⟩
theorem pdc_fixed_rk {X : Cx} {W : WX} {fa : Ev → R (List B)} {e : Expr} {es : List Expr} {p pos : Pos} {rk : Nat} {fd : FuncData} (h : FnF X.prog X.w X.K X.mg X.base "fixed" (rk + 1) 1 (S_fixed rk) (He.ga X.K "fixed") fd (["value"] : List Str)) (hb : ∃ ds, Vals ([] : List V) ds ∧ Binds X.K fd (["value"] : List Str) ds) (hr : Room (rk + 1) X.A) (tk : Takes X W) (hg : Gl X "fixed") (ha : PDA X W (e :: es) fa) (he : starEach (e :: es) X.env = (false, eval e X.env) :: starEach es X.env := by rfl) (hpl : (backTo pos (starEach es X.env)).any (·.1) = false := by rfl) : PD X W (.Call (.Name "fixed" p) (e :: es) [] pos) (dCall 1 (S_fixed rk) [] fa) := by
  obtain ⟨ds, hv, hb⟩ := hb
  exact pd_call h hb hv (fun _ => reps_n) hr tk hg ha (by decide) he hpl
theorem ok_fixed (c : Fs P w K mg) : ∀ rk : Nat, FnOk P w K mg base (L2.CX P w) (rk + 1) (He.ga K "fixed") c.d_fixed (["value"] : List Str) (spD K 1 (S_fixed rk))
  | 0 => fn_no rfl
  | rk + 1 => FnOk.mono (j := rk + 1 + 1) (ok_D (k := rk + 1) c.F_fixed sc_fixed (by decide) fun cdv A outer s H E hr tk =>
  (show PDSs _ _ _ (g_fixed (S_fixed rk)) from pss_consD (ps_ifD (pdt_val (pd_isiT (tt := tC .non) (.cons (.ty _) (.cons (.ty _) .nil)) (by decide) (isF_ty (Ts := ["list", "tuple"]) (by decide) c.ki_list_tuple) (by rfl) c.n_isinstance (dv 0) (pa_cons (pe_tyn (by rfl) c.n_list bb_list) (pa_cons (pe_tyn (by rfl) c.n_tuple bb_tuple) pa_nil)) (fun _ _ _ h => h))) (pss_oneD (ps_retD (pd_callTy (ct_tuple) (by rfl) c.n_tuple bb_tuple (pda_cons (pd_comp (own := [("part", 1)]) rfl sc_fixed.nd (pdi_or (pdi_list (dv 0)) (pdi_or (pdi_tup (dv 0)) (pdi_str (dv 0)))) (blkOk_by (by kernel_rfl)) (fun _ _ _ _ _ => pdg_name 1 sc_fixed.nd rfl (by first | exact Or.inl rfl | exact Or.inr rfl)) (fun _ _ _ _ _ => pdts_nil) (fun _ _ _ _ _ => pdc_fixed_rk ⟨c.g_fixed, c.F_fixed.kp, ok_fixed c rk⟩ (bnd_fixed_1 c) (hr.mono (by omega)) tkB (by rfl) (pda_cons (dv 1) (pda_nil))) (by decide)) (pda_nil))))) (pss_nilD)) (pss_oneD (ps_retD (dv 0))))) (by omega)
theorem pdc_fixed_1 {X : Cx} {W : WX} {fa : Ev → R (List B)} {e : Expr} {es : List Expr} {p pos : Pos} (c : Fs X.prog X.w X.K X.mg) (hr : Room 41 X.A) (tk : Takes X W) (hg : Gl X "fixed") (ha : PDA X W (e :: es) fa) (he : starEach (e :: es) X.env = (false, eval e X.env) :: starEach es X.env := by rfl) (hpl : (backTo pos (starEach es X.env)).any (·.1) = false := by rfl) : PD X W (.Call (.Name "fixed" p) (e :: es) [] pos) (dCall 1 (S_fixed 40) [] fa) := by
  obtain ⟨ds, hv, hb⟩ := bnd_fixed_1 c
  exact pd_call ⟨c.g_fixed, c.F_fixed.kp, ok_fixed c 40⟩ hb hv (fun _ => reps_n) hr tk hg ha (by decide) he hpl
theorem ok_Paper_uinitu (c : Fs P w K mg) : FnR P w K mg base (L2.CX P w) 42 (He.ma K (ca K 12) "__init__") (starSp 2 (spI K 3 S_Paper_uinitu)) :=
  ok_IS (ps := (["self", "word"] : List Str)) (pv := "parts") c.F_Paper_uinitu sc_Paper_uinitu (by decide) (fun kV doc pm an cdv ct => StX.bind_star2 (B := fun l => bindArgs (PySem.W.fnOf "__init__" "Paper.__init__" (defArgs sd_Paper_uinitu) (defBody sd_Paper_uinitu) (defScope sd_Paper_uinitu) .none kV doc pm an cdv ct) ⟨l, []⟩) (fun _ _ => rfl) (fun _ _ _ _ => rfl)) fun cdv A outer s H E hr tk =>
  pss_consD (ps_fldD c.f_word (dv 1) (dv 0)) (pss_oneD (ps_fldD c.f_parts (pdc_fixed_1 c (hr.mono (by omega)) tk (by rfl) (pda_cons (dv 2) (pda_nil))) (dv 0)))
theorem mk_Paper (c : Fs P w K mg) : MkR P w K mg base "Paper" 42 2 12 M_Paper_uinitu (He.ma K (ca K 12) "__init__") := by
  refine ⟨c.g_Paper, c.k_Paper, S_Paper_uinitu, ok_Paper_uinitu c, fun dx ds => ?_⟩
  unfold M_Paper_uinitu
  match ds with
  | [] => exact True.intro
  | [_] => exact True.intro
  | _ :: _ :: _ :: _ => exact True.intro
  | [a, b] =>
    simp only
    cases e : S_fixed 40 [b] with
    | no => exact True.intro
    | er _ _ => exact True.intro
    | ok q =>
      cases q with
      | val d =>
        show S_Paper_uinitu (.ins 12 dx []) [a, b] = _
        simp [S_Paper_uinitu, fnI, g_Paper_uinitu, sSeq, sFldD, dVar, gb, R.bind, stFld, frz1, cs_word, cs_parts, putFD, dCall, dCons, dNil, frzs, e, outD]; decide
      | _ => exact True.intro
theorem ok__law_draw (c : Fs P w K mg) : FnOk P w K mg base (L2.CX P w) 1 (He.ga K "_law_draw") c.d__law_draw (["pen", "many"] : List Str) (spI K 2 S__law_draw) :=
  ok_I c.F__law_draw sc__law_draw (by decide) fun cdv A outer s H E hr tk =>
  pss_consD (ps_ifD (pdt_cm (cm_lt) (dv 1) (pd_int) (by rfl)) (pss_oneD (ps_retD (pd_int))) (pss_nilD)) (pss_consD (ps_ifD (pdt_cm (cm_gt) (pd_ix (dv 0) (pd_int) (fun _ _ => rfl)) (pd_int) (by rfl)) (pss_consD (ps_setD 2 sc__law_draw.nd rfl (by first | exact Or.inl rfl | exact Or.inr rfl) (pd_callTy (ct_int) (by rfl) c.n_int bb_int (pda_cons (pd_ix (dv 0) (pd_int) (fun _ _ => rfl)) (pda_nil)))) (pss_consD (ps_storeD (u1 hr) (pd_bin bn_fdiv (dv 2) (dv 1)) (dv 0) (pd_int)) (pss_oneD (ps_retD (pd_bin bn_mod (pd_callTy (ct_int) (by rfl) c.n_int bb_int (pda_cons (dv 2) (pda_nil))) (dv 1)))))) (pss_nilD)) (pss_consD (ps_setD 3 sc__law_draw.nd rfl (by first | exact Or.inl rfl | exact Or.inr rfl) (pd_ix (dv 0) (pd_int) (fun _ _ => rfl))) (pss_consD (ps_storeD (u1 hr) (pd_bin bn_add (dv 3) (pd_int)) (dv 0) (pd_int)) (pss_consD (ps_setD 4 sc__law_draw.nd rfl (by first | exact Or.inl rfl | exact Or.inr rfl) (pd_bin bn_add (pd_bin bn_mul (pd_int) (dv 3)) (pd_int))) (pss_consD (ps_ifD (pdt_cm (cm_ne hr.units) (pd_ix (dv 0) (pd_int) (fun _ _ => rfl)) (pd_lst (pda_nil)) (by rfl)) (pss_oneD (ps_setD 4 sc__law_draw.nd rfl (by first | exact Or.inl rfl | exact Or.inr rfl) (pd_ix (pd_ix (dv 0) (pd_int) (fun _ _ => rfl)) (pd_bin bn_mod (pd_callTy (ct_int) (by rfl) c.n_int bb_int (pda_cons (dv 3) (pda_nil))) (pd_callB (cb_len) (by rfl) c.n_len bb_len (pda_cons (pd_ix (dv 0) (pd_int) (fun _ _ => rfl)) (pda_nil)))) (fun _ _ => rfl)))) (pss_nilD)) (pss_consD (ps_ifD ((pdw_and (pdt_cm (cm_lt) (dv 3) (pd_callB (cb_len) (by rfl) c.n_len bb_len (pda_cons (pd_ix (dv 0) (pd_int) (fun _ _ => rfl)) (pda_nil))) (by rfl)) (pdw_and1 (pdt_cm (cm_ge) (pd_callB (cb_abs) (by rfl) c.n_abs bb_abs (pda_cons (dv 4) (pda_nil))) (pd_bin bn_pow (pd_int) (pd_int)) (by rfl)))).pt) (pss_consD (ps_setD 2 sc__law_draw.nd rfl (by first | exact Or.inl rfl | exact Or.inr rfl) (pd_bin bn_add (pd_bin bn_mul (pd_int) (pd_bin bn_sub (pd_callB (cb_abs) (by rfl) c.n_abs bb_abs (pda_cons (dv 4) (pda_nil))) (pd_bin bn_pow (pd_int) (pd_int)))) (pd_callTy (ct_int) (by rfl) c.n_int bb_int (pda_cons (pd_cm (cm_lt) (dv 4) (pd_int) (by rfl)) (pda_nil))))) (pss_consD (ps_storeD (u1 hr) (pd_bin bn_fdiv (pd_callTy (ct_int) (by rfl) c.n_int bb_int (pda_cons (dv 2) (pda_nil))) (dv 1)) (dv 0) (pd_int)) (pss_oneD (ps_retD (pd_bin bn_mod (pd_callTy (ct_int) (by rfl) c.n_int bb_int (pda_cons (dv 2) (pda_nil))) (dv 1)))))) (pss_nilD)) (pss_consD (ps_setD 5 sc__law_draw.nd rfl (by first | exact Or.inl rfl | exact Or.inr rfl) (pd_bin bn_mod (pd_callTy (ct_int) (by rfl) c.n_int bb_int (pda_cons (pd_bin bn_pow (pd_bin bn_add (pd_bin bn_add (pd_bin bn_mod (pd_callTy (ct_int) (by rfl) c.n_int bb_int (pda_cons (dv 4) (pda_nil))) (pd_int)) (pd_bin bn_mul (pd_int) (dv 3))) (pd_int)) (pd_int)) (pda_nil))) (pd_int))) (pss_consD (ps_setD 5 sc__law_draw.nd rfl (by first | exact Or.inl rfl | exact Or.inr rfl) (pd_bin bn_mod (pd_callTy (ct_int) (by rfl) c.n_int bb_int (pda_cons (pd_bin bn_pow (pd_bin bn_add (pd_bin bn_add (pd_bin bn_mul (dv 5) (pd_bin bn_add (pd_bin bn_mul (pd_int) (dv 3)) (pd_int))) (pd_bin bn_mul (pd_bin bn_mul (pd_int) (dv 3)) (dv 3))) (pd_int)) (pd_int)) (pda_nil))) (pd_int))) (pss_oneD (ps_retD (pd_bin bn_mod (pd_callTy (ct_int) (by rfl) c.n_int bb_int (pda_cons (pd_bin bn_fdiv (dv 5) (pd_int)) (pda_nil))) (dv 1))))))))))))
theorem bnd__law_draw_2 (c : Fs P w K mg) : ∃ ds, Vals ([] : List V) ds ∧ Binds K c.d__law_draw (["pen", "many"] : List Str) ds := ⟨[], .nil, c.F__law_draw.bindsN fun _ _ _ _ _ _ us hl => match us, hl with | [_, _], _ => rfl⟩
theorem pdc__law_draw_2 {X : Cx} {W : WX} {fa : Ev → R (List B)} {e : Expr} {es : List Expr} {p pos : Pos} (c : Fs X.prog X.w X.K X.mg) (i : Nat) (hr : Room 1 X.A) (tk : Takes X W) (hg : Gl X "_law_draw") (ha : PDA X W (e :: es) fa) (he : starEach (e :: es) X.env = (false, eval e X.env) :: starEach es X.env := by rfl) (hpl : (backTo pos (starEach es X.env)).any (·.1) = false := by rfl) : PD X W (.Call (.Name "_law_draw" p) (e :: es) [] pos) (dCallI i 2 S__law_draw [] fa) := by
  obtain ⟨ds, hv, hb⟩ := bnd__law_draw_2 c
  exact pd_callI i ⟨c.g__law_draw, c.F__law_draw.kp, ok__law_draw c⟩ hb hv (fun _ => reps_n) hr tk hg ha (by decide) he hpl
theorem ok__law_is_name (c : Fs P w K mg) : FnOk P w K mg base (L2.CX P w) 1 (He.ga K "_law_is_name") c.d__law_is_name (["value"] : List Str) (spD K 1 S__law_is_name) :=
  ok_D c.F__law_is_name sc__law_is_name (by decide) fun cdv A outer s H E hr tk =>
  pss_oneD (ps_retD (pd_and (pd_isi1 (.ty _) (isF_ty (Ts := ["str"]) (by decide) c.ki_str) (by rfl) c.n_isinstance (dv 0) (pe_tyn (by rfl) c.n_str bb_str)) (pd_and (pd_chain (cm_lt) (cm_lt) (pd_int) (pd_callB (cb_len) (by rfl) c.n_len bb_len (pda_cons (dv 0) (pda_nil))) (pd_int)) (pd_one (pd_cm (cm_eq hr.units) (pd_comp (own := [("sign", 1)]) rfl sc__law_is_name.nd (pdi_or (pdi_list (dv 0)) (pdi_or (pdi_tup (dv 0)) (pdi_str (dv 0)))) (blkOk_by (by kernel_rfl)) (fun _ _ _ _ _ => pdg_name 1 sc__law_is_name.nd rfl (by first | exact Or.inl rfl | exact Or.inr rfl)) (fun _ _ _ _ _ => pdts_one (pdt_cm (cm_notIn (u65 hr)) (dv 1) (pd_str) (by rfl))) (fun _ _ _ _ _ => pd_int) (by decide)) (pd_lst (pda_nil)) (by rfl))))))
theorem bnd__law_is_name_1 (c : Fs P w K mg) : ∃ ds, Vals ([] : List V) ds ∧ Binds K c.d__law_is_name (["value"] : List Str) ds := ⟨[], .nil, c.F__law_is_name.bindsN fun _ _ _ _ _ _ us hl => match us, hl with | [_], _ => rfl⟩
theorem pdc__law_is_name_1 {X : Cx} {W : WX} {fa : Ev → R (List B)} {e : Expr} {es : List Expr} {p pos : Pos} (c : Fs X.prog X.w X.K X.mg) (hr : Room 1 X.A) (tk : Takes X W) (hg : Gl X "_law_is_name") (ha : PDA X W (e :: es) fa) (he : starEach (e :: es) X.env = (false, eval e X.env) :: starEach es X.env := by rfl) (hpl : (backTo pos (starEach es X.env)).any (·.1) = false := by rfl) : PD X W (.Call (.Name "_law_is_name" p) (e :: es) [] pos) (dCall 1 S__law_is_name [] fa) := by
  obtain ⟨ds, hv, hb⟩ := bnd__law_is_name_1 c
  exact pd_call ⟨c.g__law_is_name, c.F__law_is_name.kp, ok__law_is_name c⟩ hb hv (fun _ => reps_n) hr tk hg ha (by decide) he hpl
theorem ok__law_pen (c : Fs P w K mg) : FnOk P w K mg base (L2.CX P w) 1 (He.ga K "_law_pen") c.d__law_pen (["script"] : List Str) (spD K 1 S__law_pen) :=
  ok_D c.F__law_pen sc__law_pen (by decide) fun cdv A outer s H E hr tk =>
  pss_oneD (ps_retD (pd_lst (pda_cons (pd_comp (own := [("cell", 1)]) rfl sc__law_pen.nd (pdi_or (pdi_list (pd_slice (dv 0) (pdo_none) (pdo_some (pd_int)))) (pdi_or (pdi_tup (pd_slice (dv 0) (pdo_none) (pdo_some (pd_int)))) (pdi_str (pd_slice (dv 0) (pdo_none) (pdo_some (pd_int)))))) (blkOk_by (by kernel_rfl)) (fun _ _ _ _ _ => pdg_name 1 sc__law_pen.nd rfl (by first | exact Or.inl rfl | exact Or.inr rfl)) (fun _ _ _ _ _ => pdts_nil) (fun _ _ _ _ _ => pd_callTy (ct_int) (by rfl) c.n_int bb_int (pda_cons (dv 1) (pda_nil))) (by decide)) (pda_cons (pd_int) (pda_cons (pd_int) (pda_nil))))))
theorem bnd__law_pen_1 (c : Fs P w K mg) : ∃ ds, Vals ([] : List V) ds ∧ Binds K c.d__law_pen (["script"] : List Str) ds := ⟨[], .nil, c.F__law_pen.bindsN fun _ _ _ _ _ _ us hl => match us, hl with | [_], _ => rfl⟩
theorem pdc__law_pen_1 {X : Cx} {W : WX} {fa : Ev → R (List B)} {e : Expr} {es : List Expr} {p pos : Pos} (c : Fs X.prog X.w X.K X.mg) (hr : Room 1 X.A) (tk : Takes X W) (hg : Gl X "_law_pen") (ha : PDA X W (e :: es) fa) (he : starEach (e :: es) X.env = (false, eval e X.env) :: starEach es X.env := by rfl) (hpl : (backTo pos (starEach es X.env)).any (·.1) = false := by rfl) : PD X W (.Call (.Name "_law_pen" p) (e :: es) [] pos) (dCall 1 S__law_pen [] fa) := by
  obtain ⟨ds, hv, hb⟩ := bnd__law_pen_1 c
  exact pd_call ⟨c.g__law_pen, c.F__law_pen.kp, ok__law_pen c⟩ hb hv (fun _ => reps_n) hr tk hg ha (by decide) he hpl
theorem ok__law_pick (c : Fs P w K mg) : FnOk P w K mg base (L2.CX P w) 2 (He.ga K "_law_pick") c.d__law_pick (["pen", "some"] : List Str) (spI K 2 S__law_pick) :=
  ok_I c.F__law_pick sc__law_pick (by decide) fun cdv A outer s H E hr tk =>
  pss_oneD (ps_retD (pd_ix (dv 1) (pdc__law_draw_2 c 0 (hr.mono (by omega)) tk (by rfl) (pda_cons (dv 0) (pda_cons (pd_callB (cb_len) (by rfl) c.n_len bb_len (pda_cons (dv 1) (pda_nil))) (pda_nil)))) (fun _ _ => rfl)))
theorem bnd__law_pick_2 (c : Fs P w K mg) : ∃ ds, Vals ([] : List V) ds ∧ Binds K c.d__law_pick (["pen", "some"] : List Str) ds := ⟨[], .nil, c.F__law_pick.bindsN fun _ _ _ _ _ _ us hl => match us, hl with | [_, _], _ => rfl⟩
theorem pdc__law_pick_2 {X : Cx} {W : WX} {fa : Ev → R (List B)} {e : Expr} {es : List Expr} {p pos : Pos} (c : Fs X.prog X.w X.K X.mg) (i : Nat) (hr : Room 2 X.A) (tk : Takes X W) (hg : Gl X "_law_pick") (ha : PDA X W (e :: es) fa) (he : starEach (e :: es) X.env = (false, eval e X.env) :: starEach es X.env := by rfl) (hpl : (backTo pos (starEach es X.env)).any (·.1) = false := by rfl) : PD X W (.Call (.Name "_law_pick" p) (e :: es) [] pos) (dCallI i 2 S__law_pick [] fa) := by
  obtain ⟨ds, hv, hb⟩ := bnd__law_pick_2 c
  exact pd_callI i ⟨c.g__law_pick, c.F__law_pick.kp, ok__law_pick c⟩ hb hv (fun _ => reps_n) hr tk hg ha (by decide) he hpl
theorem ok_is_listed (c : Fs P w K mg) : FnOk P w K mg base (L2.CX P w) 1 (He.ga K "is_listed") c.d_is_listed (["value", "least", "most"] : List Str) (spD K 3 S_is_listed) :=
  ok_D c.F_is_listed sc_is_listed (by decide) fun cdv A outer s H E hr tk =>
  pss_oneD (ps_retD (pd_and (pd_isiT (tt := tC .non) (.cons (.ty _) (.cons (.ty _) .nil)) (by decide) (isF_ty (Ts := ["list", "tuple"]) (by decide) c.ki_list_tuple) (by rfl) c.n_isinstance (dv 0) (pa_cons (pe_tyn (by rfl) c.n_list bb_list) (pa_cons (pe_tyn (by rfl) c.n_tuple bb_tuple) pa_nil)) (fun _ _ _ h => h)) (pd_and (pd_cm (cm_ge) (pd_callB (cb_len) (by rfl) c.n_len bb_len (pda_cons (dv 0) (pda_nil))) (dv 1) (by rfl)) (pd_one (pd_or (pd_cm (cm_is) (dv 2) (pd_non) (by rfl)) (pd_one (pd_cm (cm_le) (pd_callB (cb_len) (by rfl) c.n_len bb_len (pda_cons (dv 0) (pda_nil))) (dv 2) (by rfl))))))))
theorem bnd_is_listed_1 (c : Fs P w K mg) : ∃ ds, Vals ([.int 0, .non] : List V) ds ∧ Binds K c.d_is_listed (["value", "least", "most"] : List Str) ds := c.F_is_listed.binds1 (ps := (["value", "least", "most"] : List Str)) 1 0 (by intro z; cases z) (by decide) fun _ _ _ _ _ _ _ us its h1 h2 => match us, its, h1, h2 with | [_], [_, _], _, _ => ⟨_, rfl, rfl⟩
theorem pdc_is_listed_1 {X : Cx} {W : WX} {fa : Ev → R (List B)} {e : Expr} {es : List Expr} {p pos : Pos} (c : Fs X.prog X.w X.K X.mg) (hr : Room 1 X.A) (tk : Takes X W) (hg : Gl X "is_listed") (ha : PDA X W (e :: es) fa) (he : starEach (e :: es) X.env = (false, eval e X.env) :: starEach es X.env := by rfl) (hpl : (backTo pos (starEach es X.env)).any (·.1) = false := by rfl) : PD X W (.Call (.Name "is_listed" p) (e :: es) [] pos) (dCall 3 S_is_listed [.int 0, .non] fa) := by
  obtain ⟨ds, hv, hb⟩ := bnd_is_listed_1 c
  exact pd_call ⟨c.g_is_listed, c.F_is_listed.kp, ok_is_listed c⟩ hb hv (fun _ => reps_c rep_int (reps_c rep_non (reps_n))) hr tk hg ha (by decide) he hpl
theorem bnd_is_listed_3 (c : Fs P w K mg) : ∃ ds, Vals ([] : List V) ds ∧ Binds K c.d_is_listed (["value", "least", "most"] : List Str) ds := c.F_is_listed.binds1 (ps := (["value", "least", "most"] : List Str)) 3 2 (by intro z; cases z) (by decide) fun _ _ _ _ _ _ _ us its h1 h2 => match us, its, h1, h2 with | [_, _, _], [_, _], _, _ => ⟨_, rfl, rfl⟩
theorem pdc_is_listed_3 {X : Cx} {W : WX} {fa : Ev → R (List B)} {e : Expr} {es : List Expr} {p pos : Pos} (c : Fs X.prog X.w X.K X.mg) (hr : Room 1 X.A) (tk : Takes X W) (hg : Gl X "is_listed") (ha : PDA X W (e :: es) fa) (he : starEach (e :: es) X.env = (false, eval e X.env) :: starEach es X.env := by rfl) (hpl : (backTo pos (starEach es X.env)).any (·.1) = false := by rfl) : PD X W (.Call (.Name "is_listed" p) (e :: es) [] pos) (dCall 3 S_is_listed [] fa) := by
  obtain ⟨ds, hv, hb⟩ := bnd_is_listed_3 c
  exact pd_call ⟨c.g_is_listed, c.F_is_listed.kp, ok_is_listed c⟩ hb hv (fun _ => reps_n) hr tk hg ha (by decide) he hpl
theorem kb_is_listed_0_most_least_value (c : Fs P w K mg) : ∃ its : List Value, KBn K c.d_is_listed (["value", "least", "most"] : List Str) 0 (["most", "least", "value"] : List Str) (fun us ws => selL [.k 2, .k 1, .k 0] us its ws) (fun vs zs => selL [.k 2, .k 1, .k 0] vs [.int 0, .non] zs) := kb_dfl c.F_is_listed 0 _ [.k 2, .k 1, .k 0] (by intro z; cases z) fun _ _ _ _ _ _ _ us its ws h1 h3 h2 => match us, its, ws, h1, h3, h2 with | [], [_, _], [_, _, _], _, _, _ => ⟨_, rfl, rfl⟩
theorem pdk_is_listed_0_most_least_value {X : Cx} {W : WX} {fk : Ev → R (List B)} {kws : List Keyword} {p pos : Pos} (c : Fs X.prog X.w X.K X.mg) (hr : Room 1 X.A) (tk : Takes X W) (hg : Gl X "is_listed") (hk : PDK X W kws fk) (hall : (backToKw pos (keywordEach kws X.env)).all (·.1.isSome) = true := by rfl) (hks : (backToKw pos (keywordEach kws X.env)).filterMap (·.1) = (["most", "least", "value"] : List Str) := by rfl) (hpl : ((backTo pos (starEach [] X.env)).any (·.1) || (backToKw pos (keywordEach kws X.env)).any (·.1.isNone)) = false := by rfl) : PD X W (.Call (.Name "is_listed" p) [] kws pos) (dCallK 3 0 3 [.k 2, .k 1, .k 0] [.int 0, .non] S_is_listed dNil fk) := by
  obtain ⟨its, hb⟩ := kb_is_listed_0_most_least_value c
  exact pd_callK0 ⟨c.g_is_listed, c.F_is_listed.kp, ok_is_listed c⟩ hb (fun _ => reps_c rep_int (reps_c rep_non (reps_n))) hr tk hg hk hall hks (by decide) hpl
theorem ok_is_name (c : Fs P w K mg) : FnOk P w K mg base (L2.CX P w) 1 (He.ga K "is_name") c.d_is_name (["value"] : List Str) (spD K 1 S_is_name) :=
  ok_D c.F_is_name sc_is_name (by decide) fun cdv A outer s H E hr tk =>
  pss_oneD (ps_retD (pd_and (pd_isi1 (.ty _) (isF_ty (Ts := ["str"]) (by decide) c.ki_str) (by rfl) c.n_isinstance (dv 0) (pe_tyn (by rfl) c.n_str bb_str)) (pd_and (pd_chain (cm_le) (cm_le) (pd_int) (pd_callB (cb_len) (by rfl) c.n_len bb_len (pda_cons (dv 0) (pda_nil))) (pd_int)) (pd_one (pd_callB (cb_all rfl) (by rfl) c.n_all bb_all (pda_cons (pd_comp (own := [("sign", 1)]) rfl sc_is_name.nd (pdi_or (pdi_list (dv 0)) (pdi_or (pdi_tup (dv 0)) (pdi_str (dv 0)))) (blkOk_by (by kernel_rfl)) (fun _ _ _ _ _ => pdg_name 1 sc_is_name.nd rfl (by first | exact Or.inl rfl | exact Or.inr rfl)) (fun _ _ _ _ _ => pdts_nil) (fun _ _ _ _ _ => pd_cm (cm_in (u65 hr)) (dv 1) (dgs rfl c.t_LETTERS) (by rfl)) (by decide)) (pda_nil)))))))
theorem bnd_is_name_1 (c : Fs P w K mg) : ∃ ds, Vals ([] : List V) ds ∧ Binds K c.d_is_name (["value"] : List Str) ds := ⟨[], .nil, c.F_is_name.bindsN fun _ _ _ _ _ _ us hl => match us, hl with | [_], _ => rfl⟩
theorem pdc_is_name_1 {X : Cx} {W : WX} {fa : Ev → R (List B)} {e : Expr} {es : List Expr} {p pos : Pos} (c : Fs X.prog X.w X.K X.mg) (hr : Room 1 X.A) (tk : Takes X W) (hg : Gl X "is_name") (ha : PDA X W (e :: es) fa) (he : starEach (e :: es) X.env = (false, eval e X.env) :: starEach es X.env := by rfl) (hpl : (backTo pos (starEach es X.env)).any (·.1) = false := by rfl) : PD X W (.Call (.Name "is_name" p) (e :: es) [] pos) (dCall 1 S_is_name [] fa) := by
  obtain ⟨ds, hv, hb⟩ := bnd_is_name_1 c
  exact pd_call ⟨c.g_is_name, c.F_is_name.kp, ok_is_name c⟩ hb hv (fun _ => reps_n) hr tk hg ha (by decide) he hpl
theorem kb_is_name_0_value (c : Fs P w K mg) : ∃ its : List Value, KBn K c.d_is_name (["value"] : List Str) 0 (["value"] : List Str) (fun us ws => selL [.k 0] us its ws) (fun vs zs => selL [.k 0] vs [] zs) := kb_all c.F_is_name 0 _ [.k 0] fun _ _ _ _ _ _ us ws h1 h2 => match us, ws, h1, h2 with | [], [_], _, _ => rfl
theorem pdk_is_name_0_value {X : Cx} {W : WX} {fk : Ev → R (List B)} {kws : List Keyword} {p pos : Pos} (c : Fs X.prog X.w X.K X.mg) (hr : Room 1 X.A) (tk : Takes X W) (hg : Gl X "is_name") (hk : PDK X W kws fk) (hall : (backToKw pos (keywordEach kws X.env)).all (·.1.isSome) = true := by rfl) (hks : (backToKw pos (keywordEach kws X.env)).filterMap (·.1) = (["value"] : List Str) := by rfl) (hpl : ((backTo pos (starEach [] X.env)).any (·.1) || (backToKw pos (keywordEach kws X.env)).any (·.1.isNone)) = false := by rfl) : PD X W (.Call (.Name "is_name" p) [] kws pos) (dCallK 1 0 1 [.k 0] [] S_is_name dNil fk) := by
  obtain ⟨its, hb⟩ := kb_is_name_0_value c
  exact pd_callK0 ⟨c.g_is_name, c.F_is_name.kp, ok_is_name c⟩ hb (fun _ => reps_n) hr tk hg hk hall hks (by decide) hpl
theorem ok_are_names (c : Fs P w K mg) : FnOk P w K mg base (L2.CX P w) 2 (He.ga K "are_names") c.d_are_names (["value", "least", "most"] : List Str) (spD K 3 S_are_names) :=
  ok_D c.F_are_names sc_are_names (by decide) fun cdv A outer s H E hr tk =>
  pss_consD (ps_ifD ((pdw_or (pdt_not (pdt_val (pdc_is_listed_3 c (hr.mono (by omega)) tk (by rfl) (pda_cons (dv 0) (pda_cons (dv 1) (pda_cons (dv 2) (pda_nil))))))) (pdw_or1 (pdt_not (pdt_val (pd_callB (cb_all rfl) (by rfl) c.n_all bb_all (pda_cons (pd_comp (own := [("one", 3)]) rfl sc_are_names.nd (pdi_or (pdi_list (dv 0)) (pdi_or (pdi_tup (dv 0)) (pdi_str (dv 0)))) (blkOk_by (by kernel_rfl)) (fun _ _ _ _ _ => pdg_name 3 sc_are_names.nd rfl (by first | exact Or.inl rfl | exact Or.inr rfl)) (fun _ _ _ _ _ => pdts_nil) (fun _ _ _ _ _ => pdc_is_name_1 c (hr.mono (by omega)) tkB (by rfl) (pda_cons (dv 3) (pda_nil))) (by decide)) (pda_nil))))))).pt) (pss_oneD (ps_retD (pd_bl))) (pss_nilD)) (pss_oneD (ps_retD (pd_callB (cb_all rfl) (by rfl) c.n_all bb_all (pda_cons (pd_comp (own := [("one", 3), ("other", 4)]) rfl sc_are_names.nd (pdi_zip (by rfl) c.n_zip (pda_cons (dv 0) (pda_cons (pd_slice (dv 0) (pdo_some (pd_int)) (pdo_none)) (pda_nil)))) (blkOk_by (by kernel_rfl)) (fun _ _ _ _ _ => pdg_tup rfl (pdgs_cons 3 sc_are_names.nd rfl (by first | exact Or.inl rfl | exact Or.inr rfl) (pdgs_cons 4 sc_are_names.nd rfl (by first | exact Or.inl rfl | exact Or.inr rfl) (pdgs_nil)))) (fun _ _ _ _ _ => pdts_nil) (fun _ _ _ _ _ => pd_cm (cm_lt) (dv 3) (dv 4) (by rfl)) (by decide)) (pda_nil)))))
theorem bnd_are_names_1 (c : Fs P w K mg) : ∃ ds, Vals ([.int 0, .non] : List V) ds ∧ Binds K c.d_are_names (["value", "least", "most"] : List Str) ds := c.F_are_names.binds1 (ps := (["value", "least", "most"] : List Str)) 1 0 (by intro z; cases z) (by decide) fun _ _ _ _ _ _ _ us its h1 h2 => match us, its, h1, h2 with | [_], [_, _], _, _ => ⟨_, rfl, rfl⟩
theorem pdc_are_names_1 {X : Cx} {W : WX} {fa : Ev → R (List B)} {e : Expr} {es : List Expr} {p pos : Pos} (c : Fs X.prog X.w X.K X.mg) (hr : Room 2 X.A) (tk : Takes X W) (hg : Gl X "are_names") (ha : PDA X W (e :: es) fa) (he : starEach (e :: es) X.env = (false, eval e X.env) :: starEach es X.env := by rfl) (hpl : (backTo pos (starEach es X.env)).any (·.1) = false := by rfl) : PD X W (.Call (.Name "are_names" p) (e :: es) [] pos) (dCall 3 S_are_names [.int 0, .non] fa) := by
  obtain ⟨ds, hv, hb⟩ := bnd_are_names_1 c
  exact pd_call ⟨c.g_are_names, c.F_are_names.kp, ok_are_names c⟩ hb hv (fun _ => reps_c rep_int (reps_c rep_non (reps_n))) hr tk hg ha (by decide) he hpl
theorem bnd_are_names_3 (c : Fs P w K mg) : ∃ ds, Vals ([] : List V) ds ∧ Binds K c.d_are_names (["value", "least", "most"] : List Str) ds := c.F_are_names.binds1 (ps := (["value", "least", "most"] : List Str)) 3 2 (by intro z; cases z) (by decide) fun _ _ _ _ _ _ _ us its h1 h2 => match us, its, h1, h2 with | [_, _, _], [_, _], _, _ => ⟨_, rfl, rfl⟩
theorem pdc_are_names_3 {X : Cx} {W : WX} {fa : Ev → R (List B)} {e : Expr} {es : List Expr} {p pos : Pos} (c : Fs X.prog X.w X.K X.mg) (hr : Room 2 X.A) (tk : Takes X W) (hg : Gl X "are_names") (ha : PDA X W (e :: es) fa) (he : starEach (e :: es) X.env = (false, eval e X.env) :: starEach es X.env := by rfl) (hpl : (backTo pos (starEach es X.env)).any (·.1) = false := by rfl) : PD X W (.Call (.Name "are_names" p) (e :: es) [] pos) (dCall 3 S_are_names [] fa) := by
  obtain ⟨ds, hv, hb⟩ := bnd_are_names_3 c
  exact pd_call ⟨c.g_are_names, c.F_are_names.kp, ok_are_names c⟩ hb hv (fun _ => reps_n) hr tk hg ha (by decide) he hpl
theorem kb_are_names_0_most_least_value (c : Fs P w K mg) : ∃ its : List Value, KBn K c.d_are_names (["value", "least", "most"] : List Str) 0 (["most", "least", "value"] : List Str) (fun us ws => selL [.k 2, .k 1, .k 0] us its ws) (fun vs zs => selL [.k 2, .k 1, .k 0] vs [.int 0, .non] zs) := kb_dfl c.F_are_names 0 _ [.k 2, .k 1, .k 0] (by intro z; cases z) fun _ _ _ _ _ _ _ us its ws h1 h3 h2 => match us, its, ws, h1, h3, h2 with | [], [_, _], [_, _, _], _, _, _ => ⟨_, rfl, rfl⟩
theorem pdk_are_names_0_most_least_value {X : Cx} {W : WX} {fk : Ev → R (List B)} {kws : List Keyword} {p pos : Pos} (c : Fs X.prog X.w X.K X.mg) (hr : Room 2 X.A) (tk : Takes X W) (hg : Gl X "are_names") (hk : PDK X W kws fk) (hall : (backToKw pos (keywordEach kws X.env)).all (·.1.isSome) = true := by rfl) (hks : (backToKw pos (keywordEach kws X.env)).filterMap (·.1) = (["most", "least", "value"] : List Str) := by rfl) (hpl : ((backTo pos (starEach [] X.env)).any (·.1) || (backToKw pos (keywordEach kws X.env)).any (·.1.isNone)) = false := by rfl) : PD X W (.Call (.Name "are_names" p) [] kws pos) (dCallK 3 0 3 [.k 2, .k 1, .k 0] [.int 0, .non] S_are_names dNil fk) := by
  obtain ⟨its, hb⟩ := kb_are_names_0_most_least_value c
  exact pd_callK0 ⟨c.g_are_names, c.F_are_names.kp, ok_are_names c⟩ hb (fun _ => reps_c rep_int (reps_c rep_non (reps_n))) hr tk hg hk hall hks (by decide) hpl
theorem ok_is_integer (c : Fs P w K mg) : FnOk P w K mg base (L2.CX P w) 1 (He.ga K "is_integer") c.d_is_integer (["value"] : List Str) (spD K 1 S_is_integer) :=
  ok_D c.F_is_integer sc_is_integer (by decide) fun cdv A outer s H E hr tk =>
  pss_oneD (ps_retD (pd_and (pd_isi1 (.ty _) (isF_ty (Ts := ["int"]) (by decide) c.ki_int) (by rfl) c.n_isinstance (dv 0) (pe_tyn (by rfl) c.n_int bb_int)) (pd_one (pd_not (pd_isi1 (.ty _) (isF_ty (Ts := ["bool"]) (by decide) c.ki_bool) (by rfl) c.n_isinstance (dv 0) (pe_tyn (by rfl) c.n_bool bb_bool))))))
theorem bnd_is_integer_1 (c : Fs P w K mg) : ∃ ds, Vals ([] : List V) ds ∧ Binds K c.d_is_integer (["value"] : List Str) ds := ⟨[], .nil, c.F_is_integer.bindsN fun _ _ _ _ _ _ us hl => match us, hl with | [_], _ => rfl⟩
theorem pdc_is_integer_1 {X : Cx} {W : WX} {fa : Ev → R (List B)} {e : Expr} {es : List Expr} {p pos : Pos} (c : Fs X.prog X.w X.K X.mg) (hr : Room 1 X.A) (tk : Takes X W) (hg : Gl X "is_integer") (ha : PDA X W (e :: es) fa) (he : starEach (e :: es) X.env = (false, eval e X.env) :: starEach es X.env := by rfl) (hpl : (backTo pos (starEach es X.env)).any (·.1) = false := by rfl) : PD X W (.Call (.Name "is_integer" p) (e :: es) [] pos) (dCall 1 S_is_integer [] fa) := by
  obtain ⟨ds, hv, hb⟩ := bnd_is_integer_1 c
  exact pd_call ⟨c.g_is_integer, c.F_is_integer.kp, ok_is_integer c⟩ hb hv (fun _ => reps_n) hr tk hg ha (by decide) he hpl
theorem kb_is_integer_0_value (c : Fs P w K mg) : ∃ its : List Value, KBn K c.d_is_integer (["value"] : List Str) 0 (["value"] : List Str) (fun us ws => selL [.k 0] us its ws) (fun vs zs => selL [.k 0] vs [] zs) := kb_all c.F_is_integer 0 _ [.k 0] fun _ _ _ _ _ _ us ws h1 h2 => match us, ws, h1, h2 with | [], [_], _, _ => rfl
theorem pdk_is_integer_0_value {X : Cx} {W : WX} {fk : Ev → R (List B)} {kws : List Keyword} {p pos : Pos} (c : Fs X.prog X.w X.K X.mg) (hr : Room 1 X.A) (tk : Takes X W) (hg : Gl X "is_integer") (hk : PDK X W kws fk) (hall : (backToKw pos (keywordEach kws X.env)).all (·.1.isSome) = true := by rfl) (hks : (backToKw pos (keywordEach kws X.env)).filterMap (·.1) = (["value"] : List Str) := by rfl) (hpl : ((backTo pos (starEach [] X.env)).any (·.1) || (backToKw pos (keywordEach kws X.env)).any (·.1.isNone)) = false := by rfl) : PD X W (.Call (.Name "is_integer" p) [] kws pos) (dCallK 1 0 1 [.k 0] [] S_is_integer dNil fk) := by
  obtain ⟨its, hb⟩ := kb_is_integer_0_value c
  exact pd_callK0 ⟨c.g_is_integer, c.F_is_integer.kp, ok_is_integer c⟩ hb (fun _ => reps_n) hr tk hg hk hall hks (by decide) hpl
theorem ok_is_within (c : Fs P w K mg) : FnOk P w K mg base (L2.CX P w) 2 (He.ga K "is_within") c.d_is_within (["value", "least", "most"] : List Str) (spD K 3 S_is_within) :=
  ok_D c.F_is_within sc_is_within (by decide) fun cdv A outer s H E hr tk =>
  pss_oneD (ps_retD (pd_and (pdc_is_integer_1 c (hr.mono (by omega)) tk (by rfl) (pda_cons (dv 0) (pda_nil))) (pd_and (pd_or (pd_cm (cm_is) (dv 1) (pd_non) (by rfl)) (pd_one (pd_cm (cm_ge) (dv 0) (dv 1) (by rfl)))) (pd_one (pd_or (pd_cm (cm_is) (dv 2) (pd_non) (by rfl)) (pd_one (pd_cm (cm_le) (dv 0) (dv 2) (by rfl))))))))
theorem bnd_is_within_3 (c : Fs P w K mg) : ∃ ds, Vals ([] : List V) ds ∧ Binds K c.d_is_within (["value", "least", "most"] : List Str) ds := ⟨[], .nil, c.F_is_within.bindsN fun _ _ _ _ _ _ us hl => match us, hl with | [_, _, _], _ => rfl⟩
theorem pdc_is_within_3 {X : Cx} {W : WX} {fa : Ev → R (List B)} {e : Expr} {es : List Expr} {p pos : Pos} (c : Fs X.prog X.w X.K X.mg) (hr : Room 2 X.A) (tk : Takes X W) (hg : Gl X "is_within") (ha : PDA X W (e :: es) fa) (he : starEach (e :: es) X.env = (false, eval e X.env) :: starEach es X.env := by rfl) (hpl : (backTo pos (starEach es X.env)).any (·.1) = false := by rfl) : PD X W (.Call (.Name "is_within" p) (e :: es) [] pos) (dCall 3 S_is_within [] fa) := by
  obtain ⟨ds, hv, hb⟩ := bnd_is_within_3 c
  exact pd_call ⟨c.g_is_within, c.F_is_within.kp, ok_is_within c⟩ hb hv (fun _ => reps_n) hr tk hg ha (by decide) he hpl
theorem kb_is_within_0_most_least_value (c : Fs P w K mg) : ∃ its : List Value, KBn K c.d_is_within (["value", "least", "most"] : List Str) 0 (["most", "least", "value"] : List Str) (fun us ws => selL [.k 2, .k 1, .k 0] us its ws) (fun vs zs => selL [.k 2, .k 1, .k 0] vs [] zs) := kb_all c.F_is_within 0 _ [.k 2, .k 1, .k 0] fun _ _ _ _ _ _ us ws h1 h2 => match us, ws, h1, h2 with | [], [_, _, _], _, _ => rfl
theorem pdk_is_within_0_most_least_value {X : Cx} {W : WX} {fk : Ev → R (List B)} {kws : List Keyword} {p pos : Pos} (c : Fs X.prog X.w X.K X.mg) (hr : Room 2 X.A) (tk : Takes X W) (hg : Gl X "is_within") (hk : PDK X W kws fk) (hall : (backToKw pos (keywordEach kws X.env)).all (·.1.isSome) = true := by rfl) (hks : (backToKw pos (keywordEach kws X.env)).filterMap (·.1) = (["most", "least", "value"] : List Str) := by rfl) (hpl : ((backTo pos (starEach [] X.env)).any (·.1) || (backToKw pos (keywordEach kws X.env)).any (·.1.isNone)) = false := by rfl) : PD X W (.Call (.Name "is_within" p) [] kws pos) (dCallK 3 0 3 [.k 2, .k 1, .k 0] [] S_is_within dNil fk) := by
  obtain ⟨its, hb⟩ := kb_is_within_0_most_least_value c
  exact pd_callK0 ⟨c.g_is_within, c.F_is_within.kp, ok_is_within c⟩ hb (fun _ => reps_n) hr tk hg hk hall hks (by decide) hpl
theorem ok_law (c : Fs P w K mg) : FnOk P w K mg base (L2.CX P w) 44 (He.ga K "law") c.d_law (["script"] : List Str) (spD K 1 S_law) :=
  ok_D c.F_law sc_law (by decide) fun cdv A outer s H E hr tk =>
  pss_consD (ps_setD 1 sc_law.nd rfl (by first | exact Or.inl rfl | exact Or.inr rfl) (pdc__law_pen_1 c (hr.mono (by omega)) tk (by rfl) (pda_cons (dv 0) (pda_nil)))) (pss_consD (ps_setD 2 sc_law.nd rfl (by first | exact Or.inl rfl | exact Or.inr rfl) (pd_lst (pda_cons (pd_non) (pda_cons (pd_bl) (pda_cons (pd_bl) (pda_cons (pd_int) (pda_cons (pd_int) (pda_cons (pd_bin bn_sub (pd_int) (pd_int)) (pda_cons (pd_int) (pda_cons (pd_bin bn_pow (pd_int) (pd_int)) (pda_cons (pd_str) (pda_cons (pd_str) (pda_cons (pd_str) (pda_cons (pd_str) (pda_cons (pd_str) (pda_cons (pd_str) (pda_cons (pd_str) (pda_cons (pd_str) (pda_cons (pd_tup (pda_nil)) (pda_cons (pd_lst (pda_nil)) (pda_cons (pd_tup (pda_cons (pd_int) (pda_nil))) (pda_cons (pd_lst (pda_cons (pd_int) (pda_cons (pd_int) (pda_nil)))) (pda_cons (pd_lst (pda_cons (pd_str) (pda_nil))) (pda_cons (pd_tup (pda_cons (pd_str) (pda_cons (pd_str) (pda_nil)))) (pda_cons (pd_lst (pda_cons (pd_str) (pda_cons (pd_str) (pda_nil)))) (pda_cons (pd_lst (pda_cons (pd_str) (pda_cons (pd_str) (pda_nil)))) (pda_cons (pd_dnewK) (pda_cons (pd_disp (pdps_cons (pd_str) (pd_int) (pdps_nil)) rfl rfl (by intro z; cases z) (by decide)) (pda_cons (pd_makeR (mk_Paper c) (hr.mono (by omega)) tk (by rfl) (pda_cons (pd_str) (pda_nil))) (pda_cons (pd_lst (pda_cons (pd_non) (pda_nil))) (pda_cons (pd_lst (pda_cons (pd_lst (pda_cons (pd_str) (pda_nil))) (pda_nil))) (pda_cons (pd_str) (pda_nil))))))))))))))))))))))))))))))))) (pss_consD (ps_forD (passes_of rfl) rfl (pdi_or (pdi_list (dv 2)) (pdi_or (pdi_tup (dv 2)) (pdi_str (dv 2)))) (pdg_name 3 sc_law.nd rfl (Or.inl rfl)) (pss_consD (ps_setD 4 sc_law.nd rfl (by first | exact Or.inl rfl | exact Or.inr rfl) (pd_and (pd_isi1 (.ty _) (isF_ty (Ts := ["int"]) (by decide) c.ki_int) (by rfl) c.n_isinstance (dv 3) (pe_tyn (by rfl) c.n_int bb_int)) (pd_one (pd_not (pd_isi1 (.ty _) (isF_ty (Ts := ["bool"]) (by decide) c.ki_bool) (by rfl) c.n_isinstance (dv 3) (pe_tyn (by rfl) c.n_bool bb_bool)))))) (pss_consD (ps_ifD ((pdw_or (pdt_cm (cm_ne hr.units) (pd_callB (cb_repr) (by rfl) c.n_repr bb_repr (pda_cons (pdc_is_integer_1 c (hr.mono (by omega)) tk (by rfl) (pda_cons (dv 3) (pda_nil))) (pda_nil))) (pd_callB (cb_repr) (by rfl) c.n_repr bb_repr (pda_cons (dv 4) (pda_nil))) (by rfl)) (pdw_or (pdt_cm (cm_ne hr.units) (pdk_is_integer_0_value c (hr.mono (by omega)) tk (by rfl) (pdk_cons (dv 3) (pdk_nil))) (dv 4) (by rfl)) (pdw_or (pdt_cm (cm_ne hr.units) (pd_callB (cb_repr) (by rfl) c.n_repr bb_repr (pda_cons (pdc_is_name_1 c (hr.mono (by omega)) tk (by rfl) (pda_cons (dv 3) (pda_nil))) (pda_nil))) (pd_callB (cb_repr) (by rfl) c.n_repr bb_repr (pda_cons (pdc__law_is_name_1 c (hr.mono (by omega)) tk (by rfl) (pda_cons (dv 3) (pda_nil))) (pda_nil))) (by rfl)) (pdw_or1 (pdt_cm (cm_ne hr.units) (pdk_is_name_0_value c (hr.mono (by omega)) tk (by rfl) (pdk_cons (dv 3) (pdk_nil))) (pdc__law_is_name_1 c (hr.mono (by omega)) tk (by rfl) (pda_cons (dv 3) (pda_nil))) (by rfl)))))).pt) (pss_oneD (ps_retD (pd_bl))) (pss_nilD)) (pss_consD (ps_parD 5 6 rfl sc_law.nd rfl rfl (by decide) rfl rfl (pda_cons (pdc__law_pick_2 c 1 (hr.mono (by omega)) tk (by rfl) (pda_cons (dv 1) (pda_cons (pd_lst (pda_cons (pd_non) (pda_cons (pd_int) (pda_cons (pd_int) (pda_cons (pd_bin bn_sub (pd_int) (pd_int)) (pda_nil)))))) (pda_nil)))) (pda_cons (pdc__law_pick_2 c 1 (hr.mono (by omega)) tk (by rfl) (pda_cons (dv 1) (pda_cons (pd_lst (pda_cons (pd_non) (pda_cons (pd_int) (pda_cons (pd_int) (pda_cons (pd_int) (pda_nil)))))) (pda_nil)))) (pda_nil))) (by rfl)) (pss_consD (ps_ifD ((pdw_or (pdt_cm (cm_ne hr.units) (pd_callB (cb_repr) (by rfl) c.n_repr bb_repr (pda_cons (pdc_is_within_3 c (hr.mono (by omega)) tk (by rfl) (pda_cons (dv 3) (pda_cons (dv 5) (pda_cons (dv 6) (pda_nil))))) (pda_nil))) (pd_callB (cb_repr) (by rfl) c.n_repr bb_repr (pda_cons (pd_and (dv 4) (pd_and (pd_or (pd_cm (cm_is) (dv 5) (pd_non) (by rfl)) (pd_one (pd_cm (cm_ge) (dv 3) (dv 5) (by rfl)))) (pd_one (pd_or (pd_cm (cm_is) (dv 6) (pd_non) (by rfl)) (pd_one (pd_cm (cm_le) (dv 3) (dv 6) (by rfl))))))) (pda_nil))) (by rfl)) (pdw_or1 (pdt_cm (cm_ne hr.units) (pdk_is_within_0_most_least_value c (hr.mono (by omega)) tk (by rfl) (pdk_cons (dv 6) (pdk_cons (dv 5) (pdk_cons (dv 3) (pdk_nil))))) (pdc_is_within_3 c (hr.mono (by omega)) tk (by rfl) (pda_cons (dv 3) (pda_cons (dv 5) (pda_cons (dv 6) (pda_nil))))) (by rfl)))).pt) (pss_oneD (ps_retD (pd_bl))) (pss_nilD)) (pss_consD (ps_setD 7 sc_law.nd rfl (by first | exact Or.inl rfl | exact Or.inr rfl) (pd_isiT (tt := tC .non) (.cons (.ty _) (.cons (.ty _) .nil)) (by decide) (isF_ty (Ts := ["list", "tuple"]) (by decide) c.ki_list_tuple) (by rfl) c.n_isinstance (dv 3) (pa_cons (pe_tyn (by rfl) c.n_list bb_list) (pa_cons (pe_tyn (by rfl) c.n_tuple bb_tuple) pa_nil)) (fun _ _ _ h => h))) (pss_consD (ps_parD 8 9 rfl sc_law.nd rfl rfl (by decide) rfl rfl (pda_cons (pdc__law_draw_2 c 1 (hr.mono (by omega)) tk (by rfl) (pda_cons (dv 1) (pda_cons (pd_int) (pda_nil)))) (pda_cons (pdc__law_pick_2 c 1 (hr.mono (by omega)) tk (by rfl) (pda_cons (dv 1) (pda_cons (pd_lst (pda_cons (pd_non) (pda_cons (pd_int) (pda_cons (pd_int) (pda_cons (pd_int) (pda_nil)))))) (pda_nil)))) (pda_nil))) (by rfl)) (pss_consD (ps_setD 10 sc_law.nd rfl (by first | exact Or.inl rfl | exact Or.inr rfl) (pd_and (dv 7) (pd_and (pd_cm (cm_ge) (pd_callB (cb_len) (by rfl) c.n_len bb_len (pda_cons (dv 3) (pda_nil))) (dv 8) (by rfl)) (pd_one (pd_or (pd_cm (cm_is) (dv 9) (pd_non) (by rfl)) (pd_one (pd_cm (cm_le) (pd_callB (cb_len) (by rfl) c.n_len bb_len (pda_cons (dv 3) (pda_nil))) (dv 9) (by rfl)))))))) (pss_consD (ps_ifD ((pdw_or (pdt_cm (cm_ne hr.units) (pd_callB (cb_repr) (by rfl) c.n_repr bb_repr (pda_cons (pdc_is_listed_3 c (hr.mono (by omega)) tk (by rfl) (pda_cons (dv 3) (pda_cons (dv 8) (pda_cons (dv 9) (pda_nil))))) (pda_nil))) (pd_callB (cb_repr) (by rfl) c.n_repr bb_repr (pda_cons (dv 10) (pda_nil))) (by rfl)) (pdw_or (pdt_cm (cm_ne hr.units) (pdc_is_listed_1 c (hr.mono (by omega)) tk (by rfl) (pda_cons (dv 3) (pda_nil))) (dv 7) (by rfl)) (pdw_or1 (pdt_cm (cm_ne hr.units) (pdk_is_listed_0_most_least_value c (hr.mono (by omega)) tk (by rfl) (pdk_cons (dv 9) (pdk_cons (dv 8) (pdk_cons (dv 3) (pdk_nil))))) (dv 10) (by rfl))))).pt) (pss_oneD (ps_retD (pd_bl))) (pss_nilD)) (pss_consD (ps_setD 11 sc_law.nd rfl (by first | exact Or.inl rfl | exact Or.inr rfl) (pd_and (dv 10) (pd_and (pd_cm (cm_eq hr.units) (pd_comp (own := [("one", 12)]) rfl sc_law.nd (pdi_or (pdi_list (dv 3)) (pdi_or (pdi_tup (dv 3)) (pdi_str (dv 3)))) (blkOk_by (by kernel_rfl)) (fun _ _ _ _ _ => pdg_name 12 sc_law.nd rfl (by first | exact Or.inl rfl | exact Or.inr rfl)) (fun _ _ _ _ _ => pdts_one (pdt_not (pdt_val (pdc__law_is_name_1 c (hr.mono (by omega)) tkB (by rfl) (pda_cons (dv 12) (pda_nil)))))) (fun _ _ _ _ _ => pd_int) (by decide)) (pd_lst (pda_nil)) (by rfl)) (pd_one (pd_cm (cm_eq hr.units) (pd_comp (own := [("one", 12), ("other", 13)]) rfl sc_law.nd (pdi_zip (by rfl) c.n_zip (pda_cons (dv 3) (pda_cons (pd_slice (dv 3) (pdo_some (pd_int)) (pdo_none)) (pda_nil)))) (blkOk_by (by kernel_rfl)) (fun _ _ _ _ _ => pdg_tup rfl (pdgs_cons 12 sc_law.nd rfl (by first | exact Or.inl rfl | exact Or.inr rfl) (pdgs_cons 13 sc_law.nd rfl (by first | exact Or.inl rfl | exact Or.inr rfl) (pdgs_nil)))) (fun _ _ _ _ _ => pdts_one (pdt_cm (cm_ge) (dv 12) (dv 13) (by rfl))) (fun _ _ _ _ _ => pd_int) (by decide)) (pd_lst (pda_nil)) (by rfl)))))) (pss_oneD (ps_ifD ((pdw_or (pdt_cm (cm_ne hr.units) (pd_callB (cb_repr) (by rfl) c.n_repr bb_repr (pda_cons (pdc_are_names_3 c (hr.mono (by omega)) tk (by rfl) (pda_cons (dv 3) (pda_cons (dv 8) (pda_cons (dv 9) (pda_nil))))) (pda_nil))) (pd_callB (cb_repr) (by rfl) c.n_repr bb_repr (pda_cons (dv 11) (pda_nil))) (by rfl)) (pdw_or1 (pdt_cm (cm_ne hr.units) (pdk_are_names_0_most_least_value c (hr.mono (by omega)) tk (by rfl) (pdk_cons (dv 9) (pdk_cons (dv 8) (pdk_cons (dv 3) (pdk_nil))))) (dv 11) (by rfl)))).pt) (pss_oneD (ps_retD (pd_bl))) (pss_nilD))))))))))))) (pss_consD (ps_forD (passes_of rfl) rfl (pdi_range1 (by rfl) c.n_range (pda_cons (pd_int) (pda_nil))) (pdg_name 14 sc_law.nd rfl (Or.inl rfl)) (pss_consD (ps_setD 15 sc_law.nd rfl (by first | exact Or.inl rfl | exact Or.inr rfl) (pd_join (pd_str) (pd_comp (own := [("lap", 16)]) rfl sc_law.nd (pdi_range1 (by rfl) c.n_range (pda_cons (pdc__law_draw_2 c 1 (hr.mono (by omega)) tk (by rfl) (pda_cons (dv 1) (pda_cons (pd_int) (pda_nil)))) (pda_nil))) (blkOk_by (by kernel_rfl)) (fun _ _ _ _ _ => pdg_name 16 sc_law.nd rfl (by first | exact Or.inl rfl | exact Or.inr rfl)) (fun _ _ _ _ _ => pdts_nil) (fun _ _ _ _ _ => pdc__law_pick_2 c 1 (hr.mono (by omega)) tkB (by rfl) (pda_cons (dv 1) (pda_cons (pd_lst (pda_cons (pd_str) (pda_cons (pd_str) (pda_cons (pd_str) (pda_cons (pd_str) (pda_cons (pd_str) (pda_cons (pd_str) (pda_cons (pd_str) (pda_cons (pd_str) (pda_cons (pd_str) (pda_nil))))))))))) (pda_nil)))) (by decide)))) (pss_oneD (ps_ifD (pdt_cm (cm_ne hr.units) (pd_callB (cb_repr) (by rfl) c.n_repr bb_repr (pda_cons (pdc_is_name_1 c (hr.mono (by omega)) tk (by rfl) (pda_cons (dv 15) (pda_nil))) (pda_nil))) (pd_callB (cb_repr) (by rfl) c.n_repr bb_repr (pda_cons (pdc__law_is_name_1 c (hr.mono (by omega)) tk (by rfl) (pda_cons (dv 15) (pda_nil))) (pda_nil))) (by rfl)) (pss_oneD (ps_retD (pd_bl))) (pss_nilD))))) (pss_consD (ps_setD 17 sc_law.nd rfl (by first | exact Or.inl rfl | exact Or.inr rfl) (pd_bin bn_add (pd_comp (own := [("sign", 18)]) rfl sc_law.nd (pdi_str (pd_str)) (blkOk_by (by kernel_rfl)) (fun _ _ _ _ _ => pdg_name 18 sc_law.nd rfl (by first | exact Or.inl rfl | exact Or.inr rfl)) (fun _ _ _ _ _ => pdts_one (pdt_not (pdt_val (pdc_is_name_1 c (hr.mono (by omega)) tkB (by rfl) (pda_cons (dv 18) (pda_nil)))))) (fun _ _ _ _ _ => dv 18) (by decide)) (pd_comp (own := [("sign", 18)]) rfl sc_law.nd (pdi_str (pd_str)) (blkOk_by (by kernel_rfl)) (fun _ _ _ _ _ => pdg_name 18 sc_law.nd rfl (by first | exact Or.inl rfl | exact Or.inr rfl)) (fun _ _ _ _ _ => pdts_one (pdt_val (pdc_is_name_1 c (hr.mono (by omega)) tkB (by rfl) (pda_cons (pd_bin bn_add (pd_str) (dv 18)) (pda_nil))))) (fun _ _ _ _ _ => dv 18) (by decide)))) (pss_oneD (ps_retD (pd_and (pd_cm (cm_eq hr.units) (dv 17) (pd_lst (pda_nil)) (by rfl)) (pd_and (pd_cm (cm_is) (pdc_is_name_1 c (hr.mono (by omega)) tk (by rfl) (pda_cons (pd_str) (pda_nil))) (pd_bl) (by rfl)) (pd_one (pd_cm (cm_is) (pdc_are_names_1 c (hr.mono (by omega)) tk (by rfl) (pda_cons (pd_lst (pda_nil)) (pda_nil))) (pd_bl) (by rfl)))))))))))
end
--MIRROR1
end Law
namespace Law
open PySem PySem.Spec PyProof.Rows L2 Dl
theorem draw_g (cs : List Int) (t r m : Int) (ht : 0 ≤ t) (ht2 : t < 2 ^ 40) (hr : 0 ≤ r) (hm : m < 2 ^ 60) : ∃ d t' r' ρ', g__law_draw [.own false (pen cs t r), .val (.int m), .un, .un, .un, .un] = .ok (.rt (.val (.int d))) ρ' ∧ gb ρ' 0 = .own false (pen cs t' r') ∧
    0 ≤ d ∧ (2 ≤ m → d < m) ∧ (m < 2 → d = 0) ∧ t ≤ t' ∧ t' ≤ t + 1 ∧ 0 ≤ r' := by
  suffices h : Wp (g__law_draw [.own false (pen cs t r), .val (.int m), .un, .un, .un, .un]) (fun fl ρ' => ∃ d t' r', fl = .rt (.val (.int d)) ∧ gb ρ' 0 = .own false (pen cs t' r') ∧
      0 ≤ d ∧ (2 ≤ m → d < m) ∧ (m < 2 → d = 0) ∧ t ≤ t' ∧ t' ≤ t + 1 ∧ 0 ≤ r') by
    obtain ⟨fl, ρ', e, d, t', r', rfl, h1, h2⟩ := wp_get h
    exact ⟨d, t', r', ρ', e, h1, h2⟩
  refine wp_seq ?_
  refine wp_if (isT_B (is_op2 (is_var rfl) is_c lt_int')) (fun h1 => ?_) (fun h1 => ?_)
  · have h1 : m < 2 := of_decide_eq_true h1
    exact wp_ret is_c rfl ⟨0, t, r, rfl, rfl, by omega, by omega, fun _ => rfl, by omega, by omega, hr⟩
  have h1 : ¬ m < 2 := of_decide_eq_false h1
  have m2 : 2 ≤ m := by omega
  have mn : m.natAbs < 2 ^ 64 := by omega
  refine wp_nil (wp_seq (wp_if (isT_B (is_op2 (is_op2 (is_var rfl) is_c (show idxD _ _ = some (.val (.int r)) from rfl)) is_c gt_int')) (fun h2 => ?_) (fun h2 => ?_)))
  · have md := Int.emod_nonneg r (show m ≠ 0 by omega)
    have md2 := Int.emod_lt_of_pos r (show 0 < m by omega)
    refine wp_seq (wp_set (is_on1 (is_op2 (is_var rfl) is_c (show idxD _ _ = some (.val (.int r)) from rfl)) (show Dl.intD (.int r) = _ from rfl)) rfl ?_)
    refine wp_seq (wp_store (is_op2 (is_var rfl) (is_var rfl) (fdiv_ok (by omega) mn)) rfl rfl is_c (show setO (pen cs t r) (.int 2) (.int (r / m)) = some (pen cs t (r / m)) from rfl) ?_)
    exact wp_ret (is_op2 (is_on1 (is_var rfl) (show Dl.intD (.int r) = _ from rfl)) (is_var rfl) (mod_ok (by omega))) rfl ⟨r % m, t, r / m, rfl, rfl, md, fun _ => md2, fun z => absurd z h1, by omega, by omega, Int.ediv_nonneg hr (by omega)⟩
  have h2 : ¬ 0 < r := of_decide_eq_false h2
  have r0 : r = 0 := by omega
  subst r0
  refine wp_nil (wp_seq (wp_set (is_op2 (is_var rfl) is_c (show idxD _ _ = some (.val (.int t)) from rfl)) rfl ?_))
  refine wp_seq (wp_store (is_op2 (is_var rfl) is_c add_int') rfl rfl is_c (show setO (pen cs t 0) (.int 1) (.int (t + 1)) = some (pen cs (t + 1) 0) from rfl) ?_)
  refine wp_seq (wp_set (is_op2 (is_op2 is_c (is_var rfl) (mul_ok (by decide))) is_c add_int') rfl ?_)
  -- the cell
  have p0 : ∀ c : Int, Is (op2 (dVar 0) (dC (.int 0)) idxD) [.own false (pen cs (t + 1) 0), .val (.int m), .un, .val (.int t), .val (.int c), .un] (.lst (cs.map D.int)) := fun c => is_op2 (is_var rfl) is_c rfl
  have ln : lenD (.lst (cs.map D.int)) = some (.val (.int cs.length)) := by simp [lenD, vI]
  refine wp_seq (wp_use (Q := fun fl ρ' => fl = .nx ∧ ∃ c : Int, ρ' = [.own false (pen cs (t + 1) 0), .val (.int m), .un, .val (.int t), .val (.int c), .un]) ?_ ?_)
  · refine wp_if (isT_B (is_op2 (p0 _) ⟨_, rfl, rfl⟩ (ne_nil_ints cs))) (fun h3 => ?_) (fun h3 => wp_nil ⟨rfl, _, rfl⟩)
    have h3 : cs ≠ [] := by simpa using h3
    have hl : 0 < cs.length := List.length_pos_iff.mpr h3
    have q1 := Int.emod_nonneg t (show (cs.length : Int) ≠ 0 by omega)
    have q2 := Int.emod_lt_of_pos t (show (0 : Int) < cs.length by omega)
    obtain ⟨d, e1, e2⟩ := idx_int (ds := cs.map D.int) q1 (by rw [List.length_map]; exact q2)
    rw [List.getElem?_map, List.getElem?_eq_getElem (by omega)] at e1
    cases e1
    exact wp_set (is_op2 (p0 _) (is_op2 (is_on1 (is_var rfl) (show Dl.intD (.int t) = _ from rfl)) (is_on1 (p0 _) ln) (mod_ok (by omega))) e2) rfl ⟨rfl, _, rfl⟩
  rintro fl ρ' ⟨rfl, c, rfl⟩
  have ab : Is (opN (dCons (dVar 4) (dNil)) (on1 absD)) [.own false (pen cs (t + 1) 0), .val (.int m), .un, .val (.int t), .val (.int c), .un] (.int (if c < 0 then -c else c)) := is_on1 (is_var rfl) rfl
  have p18 : powD (.int 10) (.int 18) = some (vI (10 ^ 18)) := pow_ok (n := 4) (by decide) (by decide) (by decide) (by decide)
  refine wp_seq (wp_if (isT_and (isT_B (is_op2 (is_var (show at_ _ 3 = some (.int t) from rfl)) (is_on1 (p0 c) ln) lt_int')) (fun _ => isT_B (is_op2 ab (is_op2 is_c is_c p18) ge_int'))) (fun h4 => ?_) (fun h4 => ?_))
  · have h5 : (10 : Int) ^ 18 ≤ if c < 0 then -c else c := by
      simp only [Bool.and_eq_true, decide_eq_true_eq] at h4; exact h4.2
    have h6 : (0 : Int) ≤ 2 * ((if c < 0 then -c else c) - 10 ^ 18) + (if decide (c < 0) = true then 1 else 0) := by
      have : (0 : Int) ≤ (if decide (c < 0) = true then 1 else 0) := by split <;> omega
      omega
    refine wp_seq (wp_set (is_op2 (is_op2 is_c (is_op2 ab (is_op2 is_c is_c p18) sub_int') (mul_ok (by decide))) (is_on1 (is_op2 (is_var rfl) is_c lt_int') (show Dl.intD (.bl (decide (c < 0))) = _ from rfl)) add_int') rfl ?_)
    refine wp_seq (wp_store (is_op2 (is_on1 (is_var rfl) (show Dl.intD (.int _) = _ from rfl)) (is_var rfl) (fdiv_ok (by omega) mn)) rfl rfl is_c (show setO (pen cs (t + 1) 0) (.int 2) (.int _) = some (pen cs (t + 1) _) from rfl) ?_)
    exact wp_ret (is_op2 (is_on1 (is_var rfl) (show Dl.intD (.int _) = _ from rfl)) (is_var rfl) (mod_ok (by omega))) rfl ⟨_, t + 1, _, rfl, rfl, Int.emod_nonneg _ (by omega), fun _ => Int.emod_lt_of_pos _ (by omega), fun z => absurd z h1, by omega, by omega, Int.ediv_nonneg h6 (by omega)⟩
  -- mixed
  have q1 := Int.emod_nonneg c (show (2147483489 : Int) ≠ 0 by decide)
  have q2 := Int.emod_lt_of_pos c (show (0 : Int) < 2147483489 by decide)
  refine wp_nil (wp_seq (wp_set (is_op2 (is_on1 (is_op2 (is_op2 (is_op2 (is_op2 (is_on1 (is_var rfl) (show Dl.intD (.int c) = _ from rfl)) is_c (mod_ok (by decide))) (is_op2 is_c (is_var rfl) (mul_ok (by decide))) add_int') is_c add_int') is_c (pow_ok (n := 80) (by omega) (by decide) (by decide) (by decide))) (show Dl.intD (.int _) = _ from rfl)) is_c (mod_ok (by decide))) rfl ?_))
  generalize (c % 2147483489 + 74059 * t + 9125) ^ (Int.toNat 3) = x
  have q3 := Int.emod_nonneg x (show (2147483543 : Int) ≠ 0 by decide)
  have q4 := Int.emod_lt_of_pos x (show (0 : Int) < 2147483543 by decide)
  generalize x % 2147483543 = y at q3 q4
  have s1 : ((y * (2 * t + 6327) + 35069 * t * t + 74059)).natAbs < 2 ^ 140 := by
    have a1 : 0 ≤ y * (2 * t + 6327) := Int.mul_nonneg q3 (by omega)
    have a2 : y * (2 * t + 6327) ≤ 2 ^ 31 * (2 ^ 42) := Int.mul_le_mul (by omega) (by omega) (by omega) (by decide)
    have a3 : 0 ≤ 35069 * t * t := Int.mul_nonneg (by omega) ht
    have a4 : 35069 * t * t ≤ 2 ^ 60 * 2 ^ 40 := Int.mul_le_mul (by omega) (by omega) ht (by decide)
    generalize y * (2 * t + 6327) = u at *
    generalize 35069 * t * t = v at *
    omega
  refine wp_seq (wp_set (is_op2 (is_on1 (is_op2 (is_op2 (is_op2 (is_op2 (is_var rfl) (is_op2 (is_op2 is_c (is_var rfl) (mul_ok (by decide))) is_c add_int') (mul_ok (by omega))) (is_op2 (is_op2 is_c (is_var rfl) (mul_ok (by decide))) (is_var rfl) (mul_ok (by omega))) add_int') is_c add_int') is_c (pow_ok (n := 140) s1 (by decide) (by decide) (by decide))) (show Dl.intD (.int _) = _ from rfl)) is_c (mod_ok (by decide))) rfl ?_)
  exact wp_ret (is_op2 (is_on1 (is_op2 (is_var rfl) is_c (fdiv_ok (by decide) (by decide))) (show Dl.intD (.int _) = _ from rfl)) (is_var rfl) (mod_ok (by omega))) rfl ⟨_, t + 1, 0, rfl, rfl, Int.emod_nonneg _ (by omega), fun _ => Int.emod_lt_of_pos _ (by omega), fun z => absurd z h1, by omega, by omega, by omega⟩
theorem draw_eq (cs : List Int) (t r m : Int) (ht : 0 ≤ t) (ht2 : t < 2 ^ 40) (hr : 0 ≤ r) (hm : m < 2 ^ 60) : ∃ d t' r', S__law_draw (pen cs t r) [.int m] = .ok (.val (.int d)) (pen cs t' r') ∧
    0 ≤ d ∧ (2 ≤ m → d < m) ∧ (m < 2 → d = 0) ∧ t ≤ t' ∧ t' ≤ t + 1 ∧ 0 ≤ r' := by
  obtain ⟨d, t', r', ρ', h1, h2, h3⟩ := draw_g cs t r m ht ht2 hr hm
  refine ⟨d, t', r', ?_, h3⟩
  show fnI 6 g__law_draw _ _ = _
  unfold fnI
  show (match g__law_draw [.own false (pen cs t r), .val (.int m), .un, .un, .un, .un] with
    | .ok .nx ρ => _
    | .ok (.rt (.val d)) ρ => _
    | .ok (.rt (.own true u)) ρ => _
    | .er C fs ρ => _
    | _ => RI.no) = _
  rw [h1]
  simp only [h2]
end Law
namespace Law
open PySem PySem.Spec PyProof.Rows L2 Dl
def isIntB : D → Bool
  | .int _ => true
  | _ => false
def isBlB : D → Bool
  | .bl _ => true
  | _ => false
def isStrB : D → Bool
  | .str _ => true
  | _ => false
def isSeqB : D → Bool
  | .lst _ => true
  | .tup _ => true
  | _ => false
/-- the values: short texts, no instance but a Paper -/
def Dom1 (d : D) : Prop := match d with
  | .str x => x.length ≤ 100
  | .kt _ => False
  | .kl _ => False
  | .ins C _ => C = 12
  | _ => True
def Dom (d : D) : Prop := Dom1 d ∧ ∀ ds, (d = .lst ds ∨ d = .tup ds) → ds.length ≤ 100 ∧ ∀ e ∈ ds, Dom1 e
theorem isi_int {d : D} (h : Dom1 d) : isiD ["int"] ci d = some (.val (.bl (isIntB d || isBlB d))) := by
  cases d <;> first | rfl | (cases h; rfl) | (cases h; done)
theorem isi_bool {d : D} (h : Dom1 d) : isiD ["bool"] ci d = some (.val (.bl (isBlB d))) := by
  cases d <;> first | rfl | (cases h; rfl) | (cases h; done)
theorem isi_str {d : D} (h : Dom1 d) : isiD ["str"] ci d = some (.val (.bl (isStrB d))) := by
  cases d <;> first | rfl | (cases h; rfl) | (cases h; done)
theorem isi_seq {d : D} (h : Dom1 d) : isiD ["list", "tuple"] ci d = some (.val (.bl (isSeqB d))) := by
  cases d <;> first | rfl | (cases h; rfl) | (cases h; done)
/-- isinstance(v, int) and (not isinstance(v, bool)) -/
theorem whole_iv {ρ : Ev} {i : Nat} {d : D} (h : Dom1 d) (hi : Is (dVar i) ρ d) : Iv (dAnd (op1 (dVar i) (isiD ["int"] ci)) (dNot (op1 (dVar i) (isiD ["bool"] ci)))) ρ (.bl (isIntB d)) := by
  have h1 := iv_op1 hi (isi_int h) rfl
  have h2 := iv_op1 hi (isi_bool h) rfl
  have h3 := iv_and h1 rfl fun _ => iv_not h2 rfl
  cases d <;> exact h3
theorem S_is_integer_eq {d : D} (h : Dom1 d) : S_is_integer [d] = .ok (.val (.bl (isIntB d))) := by
  have := st_ret (whole_iv (ρ := [.val d]) (i := 0) h (iv_var rfl).is).is rfl
  show fnD 1 g_is_integer [d] = _
  unfold fnD
  show (match g_is_integer [.val d] with
    | .ok .nx _ => _
    | .ok (.rt (.val d)) _ => _
    | .ok (.rt (.own true o)) _ => _
    | .er C fs _ => _
    | _ => RD.no) = _
  unfold g_is_integer
  rw [this]
/-- a def's answer, from its block's -/
theorem fnD_val {n : Nat} {g : Ev → R Fl} {ds : List D} {d : D} {ρ' : Ev} (h : g (ds.map B.val ++ List.replicate (n - ds.length) .un) = .ok (.rt (.val d)) ρ') : fnD n g ds = .ok (.val d) := by
  unfold fnD; rw [h]
def letters : List Nat := Str.cps (Str.ofString "abcdefghijklmnopqrstuvwxyz") |>.toList
def nameS (x : Str) : Bool := decide (1 ≤ (x.length : Int)) && decide ((x.length : Int) ≤ 8) && x.cps.toList.all fun c => decide (c ∈ letters)
def nameB : D → Bool
  | .str x => nameS x
  | _ => false
theorem len_str {x : Str} (h : x.length ≤ 100) : lenD (.str x) = some (.val (.int x.length)) := by
  have : x.length ≤ sizeLine := by rw [sizeLine_eq]; omega
  simp [lenD, this, vI]
theorem bls_map {α : Type} (p : α → Bool) : ∀ l : List α, blsD (l.map fun c => D.bl (p c)) = some (l.map p)
  | [] => rfl
  | c :: l => by simp [blsD, bls_map p l]
theorem all_map {α : Type} (p : α → Bool) (l : List α) : allD (.lst (l.map fun c => D.bl (p c))) = some (.val (.bl (l.all p))) := by
  simp only [allD, bls_map, vB, List.all_map]
  rfl
theorem S_is_name_eq {d : D} (h : Dom1 d) : S_is_name [d] = .ok (.val (.bl (nameB d))) := by
  refine fnD_val (ρ' := [.val d, .un]) ?_
  show g_is_name [.val d, .un] = _
  unfold g_is_name
  have hv : Iv (dVar 0) [B.val d, .un] d := iv_var rfl
  have h1 := iv_op1 hv.is (isi_str h) rfl
  cases hd : isStrB d with
  | false =>
    rw [hd] at h1
    have e : nameB d = false := by cases d <;> first | rfl | cases hd
    rw [e]
    exact st_ret (iv_and (y := .non) h1 rfl (fun z => by cases z)).is rfl
  | true =>
    cases d with
    | str x =>
      have hl := len_str h
      have c1 : Iv (opN (dCons (dVar 0) dNil) (on1 lenD)) [B.val (.str x), .un] (.int x.length) := iv_on1 hv.is hl rfl
      have h2 := iv_chain (f := dC (.int 1)) (h := dC (.int 8)) (o := leD) (o' := leD) is_c c1.is le_int' (fun _ => is_c) _ (fun _ => le_int')
      have lz : (strD x).length ≤ sizeLine := by
        have : x.length ≤ 100 := h
        rw [sizeLine_eq]; unfold strD; simp only [List.length_map]; show x.cps.size ≤ _; show x.length ≤ _; omega
      have h3 := iv_comp (t := .one 1) (vs := [1]) (test := tTrue) (elt := op2 (dVar 1) (dC (.str (Str.ofString "abcdefghijklmnopqrstuvwxyz"))) (inD false)) (ρ1 := fun e => [.val (.str x), .val e]) (kk := fun _ => true)
        (ee := fun e => match e with
          | .str y => (match y.cps.toList with
            | [c] => D.bl (decide (c ∈ letters))
            | _ => .non)
          | _ => .non) (ii_any hv rfl) rfl lz (fun e he => ⟨rfl, rfl, rfl, fun _ => by
          unfold strD at he
          obtain ⟨c, _, rfl⟩ := List.mem_map.mp he
          exact iv_op2 (iv_var (i := 1) rfl).is is_c in_sign' rfl⟩)
      have e3 : (((strD x).filter fun _ => true).map fun e => match e with
          | .str y => (match y.cps.toList with
            | [c] => D.bl (decide (c ∈ letters))
            | _ => .non)
          | _ => .non) = x.cps.toList.map fun c => D.bl (decide (c ∈ letters)) := by
        unfold strD
        rw [List.filter_eq_self.mpr (fun _ _ => rfl), List.map_map]; rfl
      rw [e3] at h3
      have h4 := iv_on1 h3.is (all_map _ _) rfl
      have h5 := iv_and h1 rfl fun _ => iv_and h2 rfl fun _ => h4
      refine (st_ret h5.is ?_).trans ?_
      · cases decide (1 ≤ (x.length : Int)) <;> cases decide ((x.length : Int) ≤ 8) <;> rfl
      · simp only [isStrB, if_true, nameB, nameS]
        cases decide (1 ≤ (x.length : Int)) <;> cases decide ((x.length : Int) ≤ 8) <;> simp
    | _ => cases hd
end Law
namespace Law
open PySem PySem.Spec PyProof.Rows L2 Dl
theorem all_not_any {α : Type} (l : List α) (p : α → Bool) : (l.filter fun c => !p c).isEmpty = l.all p := by
  induction l with
  | nil => rfl
  | cons a l ih => cases h : p a <;> simp [h, ih]
theorem S_law_is_name_eq {d : D} (h : Dom1 d) : S__law_is_name [d] = .ok (.val (.bl (nameB d))) := by
  refine fnD_val (ρ' := [.val d, .un]) ?_
  show g__law_is_name [.val d, .un] = _
  unfold g__law_is_name
  have hv : Iv (dVar 0) [B.val d, .un] d := iv_var rfl
  have h1 := iv_op1 hv.is (isi_str h) rfl
  cases hd : isStrB d with
  | false =>
    rw [hd] at h1
    have e : nameB d = false := by cases d <;> first | rfl | cases hd
    rw [e]
    exact st_ret (iv_and (y := .non) h1 rfl (fun z => by cases z)).is rfl
  | true =>
    cases d with
    | str x =>
      have hl := len_str h
      have c1 : Iv (opN (dCons (dVar 0) dNil) (on1 lenD)) [B.val (.str x), .un] (.int x.length) := iv_on1 hv.is hl rfl
      have h2 := iv_chain (f := dC (.int 0)) (h := dC (.int 9)) (o := ltD) (o' := ltD) is_c c1.is lt_int' (fun _ => is_c) _ (fun _ => lt_int')
      have lz : (strD x).length ≤ sizeLine := by
        have : x.length ≤ 100 := h
        rw [sizeLine_eq]; unfold strD; simp only [List.length_map]; show x.cps.size ≤ _; show x.length ≤ _; omega
      have h3 := iv_comp (t := .one 1) (vs := [1]) (test := dB (op2 (dVar 1) (dC (.str (Str.ofString "abcdefghijklmnopqrstuvwxyz"))) (inD true))) (elt := dC (.int 1)) (ρ1 := fun e => [.val (.str x), .val e]) (kk := fun e => match e with
          | .str y => (match y.cps.toList with
            | [c] => !decide (c ∈ letters)
            | _ => true)
          | _ => true) (ee := fun e => .int 1) (ii_any hv rfl) rfl lz (fun e he => by
          unfold strD at he
          obtain ⟨c, _, rfl⟩ := List.mem_map.mp he
          exact ⟨rfl, rfl, isT_B (is_op2 (iv_var (i := 1) rfl).is is_c in_sign'), fun _ => iv_c⟩)
      have h4 := iv_op2 (g := dLst dNil) (op := eqD) h3.is (iv_lst iva_nil (Nat.zero_le _)).is (eq_nil_ones _) rfl
      have h5 := iv_and h1 rfl fun _ => iv_and h2 rfl fun _ => h4
      refine (st_ret h5.is ?_).trans ?_
      · cases decide ((0 : Int) < (x.length : Int)) <;> cases decide ((x.length : Int) < 9) <;> rfl
      · have e1 : decide ((0 : Int) < (x.length : Int)) = decide (1 ≤ (x.length : Int)) := by congr 1
        have e2 : decide ((x.length : Int) < 9) = decide ((x.length : Int) ≤ 8) := decide_eq_decide.mpr (by omega)
        have e3 : ((strD x).filter fun e => match e with
          | .str y => (match y.cps.toList with
            | [c] => !decide (c ∈ letters)
            | _ => true)
          | _ => true).isEmpty = x.cps.toList.all fun c => decide (c ∈ letters) := by
          rw [← all_not_any]
          unfold strD
          rw [List.filter_map, List.isEmpty_map]; rfl
        rw [e1, e2, e3]
        simp only [isStrB, if_true, nameB, nameS]
        cases decide (1 ≤ (x.length : Int)) <;> cases decide ((x.length : Int) ≤ 8) <;> simp
    | _ => cases hd

/-! ### bounds: none, or a number -/
def bndD (d : D) : Prop := d = .non ∨ ∃ i, d = .int i
def geB (d l : D) : Bool := match d, l with
  | .int i, .int j => decide (j ≤ i)
  | _, _ => true
def leB (d l : D) : Bool := match d, l with
  | .int i, .int j => decide (i ≤ j)
  | _, _ => true
/-- (least is None or value >= least), value a number -/
theorem lo_iv {ρ : Ev} {f : EF} {i : Int} {l : D} {j : Nat} (hl : bndD l) (h : Is f ρ (.int i)) (hj : Iv (dVar j) ρ l) : Iv (dOr (op2 (dVar j) (dC .non) isD) (op2 f (dVar j) geD)) ρ (.bl (geB (.int i) l)) := by
  rcases hl with rfl | ⟨k, rfl⟩
  · exact iv_or (y := .non) (iv_op2 hj.is is_c (show isD .non .non = some (.val (.bl true)) from rfl) rfl) rfl (fun z => by cases z)
  · exact iv_or (iv_op2 hj.is is_c (show isD (.int k) .non = some (.val (.bl false)) from rfl) rfl) rfl (fun _ => iv_op2 h hj.is ge_int' rfl)
theorem hi_iv {ρ : Ev} {f : EF} {i : Int} {l : D} {j : Nat} (hl : bndD l) (h : Is f ρ (.int i)) (hj : Iv (dVar j) ρ l) : Iv (dOr (op2 (dVar j) (dC .non) isD) (op2 f (dVar j) leD)) ρ (.bl (leB (.int i) l)) := by
  rcases hl with rfl | ⟨k, rfl⟩
  · exact iv_or (y := .non) (iv_op2 hj.is is_c (show isD .non .non = some (.val (.bl true)) from rfl) rfl) rfl (fun z => by cases z)
  · exact iv_or (iv_op2 hj.is is_c (show isD (.int k) .non = some (.val (.bl false)) from rfl) rfl) rfl (fun _ => iv_op2 h hj.is le_int' rfl)
def withinB (d l m : D) : Bool := isIntB d && (geB d l && leB d m)
/-- w and (least is None or value >= least) and (top is None or value <= top) -/
theorem within_iv {ρ : Ev} {f : EF} {d l m : D} {i j k : Nat} (hl : bndD l) (hm : bndD m) (hw : Iv f ρ (.bl (isIntB d))) (hi : Iv (dVar i) ρ d) (hj : Iv (dVar j) ρ l) (hk : Iv (dVar k) ρ m) :
    Iv (dAnd f (dAnd (dOr (op2 (dVar j) (dC .non) isD) (op2 (dVar i) (dVar j) geD)) (dOr (op2 (dVar k) (dC .non) isD) (op2 (dVar i) (dVar k) leD)))) ρ (.bl (withinB d l m)) := by
  cases hd : isIntB d with
  | false =>
    have e : withinB d l m = false := by unfold withinB; rw [hd]; rfl
    rw [e]; rw [hd] at hw
    exact iv_and (y := .non) hw rfl (fun z => by cases z)
  | true =>
    cases d with
    | int v =>
      have h1 := lo_iv hl hi.is hj
      have h2 := hi_iv hm hi.is hk
      have h3 := iv_and hw rfl fun _ => iv_and h1 rfl fun _ => h2
      have e : (if isIntB (.int v) = true then (if geB (.int v) l = true then D.bl (leB (.int v) m) else .bl (geB (.int v) l)) else .bl (isIntB (.int v))) = .bl (withinB (.int v) l m) := by
        unfold withinB
        cases geB (.int v) l <;> simp [isIntB]
      rw [e] at h3; exact h3
    | _ => cases hd
theorem S_is_within_eq {d l m : D} (h : Dom1 d) (hl : bndD l) (hm : bndD m) : S_is_within [d, l, m] = .ok (.val (.bl (withinB d l m))) := by
  refine fnD_val (ρ' := [.val d, .val l, .val m]) ?_
  show g_is_within [.val d, .val l, .val m] = _
  unfold g_is_within
  have hw : Iv (dCall 1 S_is_integer [] (dCons (dVar 0) dNil)) [B.val d, .val l, .val m] (.bl (isIntB d)) := iv_call (iva_cons (iv_var rfl) iva_nil) rfl (S_is_integer_eq h) rfl
  exact st_ret (within_iv hl hm hw (iv_var rfl) (iv_var rfl) (iv_var rfl)).is rfl

/-! ### lists, tuples -/
def itemsD : D → List D
  | .lst ds => ds
  | .tup ds => ds
  | _ => []
def listedB (d : D) (few : Int) (m : D) : Bool := isSeqB d && (decide (few ≤ ((itemsD d).length : Int)) && leB (.int (itemsD d).length) m)
theorem len_seq {d : D} (h : isSeqB d = true) : lenD d = some (.val (.int (itemsD d).length)) := by
  cases d <;> first | rfl | cases h
theorem listed_iv {ρ : Ev} {f : EF} {d m : D} {few : Int} {i j k : Nat} (hm : bndD m) (hw : Iv f ρ (.bl (isSeqB d))) (hi : Iv (dVar i) ρ d) (hj : Iv (dVar j) ρ (.int few)) (hk : Iv (dVar k) ρ m) :
    Iv (dAnd f (dAnd (op2 (opN (dCons (dVar i) dNil) (on1 lenD)) (dVar j) geD) (dOr (op2 (dVar k) (dC .non) isD) (op2 (opN (dCons (dVar i) dNil) (on1 lenD)) (dVar k) leD)))) ρ (.bl (listedB d few m)) := by
  cases hd : isSeqB d with
  | false =>
    have e : listedB d few m = false := by unfold listedB; rw [hd]; rfl
    rw [e]; rw [hd] at hw
    exact iv_and (y := .non) hw rfl (fun z => by cases z)
  | true =>
    have c1 : Iv (opN (dCons (dVar i) dNil) (on1 lenD)) ρ (.int (itemsD d).length) := iv_on1 hi.is (len_seq hd) rfl
    have h1 := iv_op2 c1.is hj.is ge_int' rfl
    have h2 := hi_iv hm c1.is hk
    have h3 := iv_and hw rfl fun _ => iv_and h1 rfl fun _ => h2
    have e : (if isSeqB d = true then (if decide (few ≤ ((itemsD d).length : Int)) = true then D.bl (leB (.int (itemsD d).length) m) else .bl (decide (few ≤ ((itemsD d).length : Int)))) else .bl (isSeqB d)) = .bl (listedB d few m) := by
      unfold listedB
      rw [hd]
      cases decide (few ≤ ((itemsD d).length : Int)) <;> simp
    rw [e] at h3; exact h3
theorem S_is_listed_eq {d m : D} {few : Int} (h : Dom1 d) (hm : bndD m) : S_is_listed [d, .int few, m] = .ok (.val (.bl (listedB d few m))) := by
  refine fnD_val (ρ' := [.val d, .val (.int few), .val m]) ?_
  show g_is_listed [.val d, .val (.int few), .val m] = _
  unfold g_is_listed
  exact st_ret (listed_iv hm (iv_op1 (iv_var rfl).is (isi_seq h) rfl) (iv_var rfl) (iv_var rfl) (iv_var rfl)).is rfl
end Law
namespace Law
open PySem PySem.Spec PyProof.Rows L2 Dl
def ltP (d : D) : Bool := match d with
  | .tup [.str x, .str y] => decide (x.cps.toList < y.cps.toList)
  | _ => false
def pairsB (ds : List D) : Bool := (zipD ds (ds.drop 1)).all ltP
def namesB (d : D) (few : Int) (m : D) : Bool := listedB d few m && ((itemsD d).all nameB && pairsB (itemsD d))
theorem dom1_items {d e : D} (h : Dom d) (he : e ∈ itemsD d) : Dom1 e := by
  cases d with
  | lst ds => exact (h.2 ds (.inl rfl)).2 e he
  | tup ds => exact (h.2 ds (.inr rfl)).2 e he
  | _ => cases he
theorem len_items {d : D} (h : Dom d) : (itemsD d).length ≤ 100 := by
  cases d with
  | lst ds => exact (h.2 ds (.inl rfl)).1
  | tup ds => exact (h.2 ds (.inr rfl)).1
  | _ => exact Nat.zero_le _
theorem iter_seq {d : D} (h : isSeqB d = true) : iterD d = some (itemsD d) := by
  cases d <;> first | rfl | cases h
theorem cut1D (ds : List D) : Dl.cutD ds (some 1) none = ds.drop 1 := by
  unfold Dl.cutD
  cases ds with
  | nil => rfl
  | cons x r =>
    rw [show HT.sIx (x :: r).length 0 (some 1) = min 1 (x :: r).length from HT.sIx_nat (x :: r).length 0 1, HT.sIx_none]
    rw [show min 1 (x :: r).length = 1 by rw [List.length_cons]; omega]
    show List.take ((x :: r).length - 1) r = r
    rw [List.length_cons, Nat.add_sub_cancel]
    exact List.take_length
theorem name_str {d : D} (h : nameB d = true) : ∃ x, d = .str x := by
  cases d <;> first | exact ⟨_, rfl⟩ | cases h
theorem zip_strs {ds es : List D} (h1 : ds.all nameB = true) (h2 : es.all nameB = true) {p : D} (hp : p ∈ zipD ds es) : ∃ x y, p = .tup [.str x, .str y] := by
  induction ds generalizing es with
  | nil => cases hp
  | cons d ds ih =>
    cases es with
    | nil => cases hp
    | cons e es =>
      simp only [List.all_cons, Bool.and_eq_true] at h1 h2
      simp only [zipD, List.mem_cons] at hp
      rcases hp with rfl | hp
      · obtain ⟨x, rfl⟩ := name_str h1.1
        obtain ⟨y, rfl⟩ := name_str h2.1
        exact ⟨x, y, rfl⟩
      · exact ih h1.2 h2.2 hp
theorem zip_len : ∀ ds es : List D, (zipD ds es).length ≤ ds.length
  | [], _ => Nat.le_refl _
  | _ :: _, [] => Nat.zero_le _
  | _ :: ds, _ :: es => by have := zip_len ds es; simp only [zipD, List.length_cons]; omega
theorem all_drop {ds : List D} (h : ds.all nameB = true) : (ds.drop 1).all nameB = true := by
  rw [List.all_eq_true] at h ⊢
  exact fun x hx => h x (List.mem_of_mem_drop hx)
/-- zip(value, value[1:]) -/
theorem zip_ii {ρ : Ev} {d : D} {i : Nat} (h : isSeqB d = true) (hi : Iv (dVar i) ρ d) : II (iZipD (dCons (dVar i) (dCons (dSl (dVar i) (oSome (dC (.int 1))) oNone) dNil))) ρ (zipD (itemsD d) ((itemsD d).drop 1)) := by
  cases d with
  | lst ds =>
    have h2 : Iv (dSl (dVar i) (oSome (dC (.int 1))) oNone) ρ (.lst (ds.drop 1)) := iv_sl hi.is (os_int is_c) rfl (show slD (.lst ds) (some 1) none = some (.own true (.lst (ds.drop 1))) by simp only [slD, cut1D]) rfl
    exact ii_zip (iva_cons hi (iva_cons h2 iva_nil)) (.inl ⟨rfl, rfl⟩)
  | tup ds =>
    have h2 : Iv (dSl (dVar i) (oSome (dC (.int 1))) oNone) ρ (.tup (ds.drop 1)) := iv_sl hi.is (os_int is_c) rfl (show slD (.tup ds) (some 1) none = some (.val (.tup (ds.drop 1))) by simp only [slD, cut1D]) rfl
    exact ii_zip (iva_cons hi (iva_cons h2 iva_nil)) (.inr ⟨rfl, rfl⟩)
  | _ => cases h
theorem z100 {n : Nat} (h : n ≤ 100) : n ≤ sizeLine := by rw [sizeLine_eq]; omega
theorem S_are_names_eq {d m : D} {few : Int} (h : Dom d) (hm : bndD m) : S_are_names [d, .int few, m] = .ok (.val (.bl (namesB d few m))) := by
  suffices w : Wp (g_are_names [.val d, .val (.int few), .val m, .un, .un]) (fun fl _ => fl = .rt (.val (.bl (namesB d few m)))) by
    obtain ⟨fl, ρ', e, rfl⟩ := wp_get w
    exact fnD_val e
  have hv : Iv (dVar 0) [B.val d, .val (.int few), .val m, .un, .un] d := iv_var rfl
  have hli : Iv (dCall 3 S_is_listed [] (dCons (dVar 0) (dCons (dVar 1) (dCons (dVar 2) dNil)))) [B.val d, .val (.int few), .val m, .un, .un] (.bl (listedB d few m)) := iv_call (iva_cons hv (iva_cons (iv_var rfl) (iva_cons (iv_var rfl) iva_nil))) rfl (S_is_listed_eq h.1 hm) rfl
  unfold g_are_names
  refine wp_seq ?_
  cases hd : listedB d few m with
  | false =>
    rw [hd] at hli
    refine wp_T (isT_or (j := true) (isT_not (isT_TrV hli rfl)) (fun z => by cases z)) rfl ?_
    refine wp_ret is_c rfl ?_
    show _ = _
    unfold namesB; rw [hd]; rfl
  | true =>
    rw [hd] at hli
    have hs : isSeqB d = true := by
      unfold listedB at hd
      simp only [Bool.and_eq_true] at hd
      exact hd.1
    have h1 := iv_comp (t := .one 3) (vs := [3]) (test := tTrue) (elt := dCall 1 S_is_name [] (dCons (dVar 3) dNil)) (ρ1 := fun e => [B.val d, .val (.int few), .val m, .val e, .un]) (kk := fun _ => true) (ee := fun e => .bl (nameB e))
      (ii_any hv (iter_seq hs)) rfl (z100 (len_items h)) (fun e he => ⟨rfl, rfl, rfl, fun _ => iv_call (iva_cons (iv_var rfl) iva_nil) rfl (S_is_name_eq (dom1_items h he)) rfl⟩)
    rw [List.filter_eq_self.mpr (fun _ _ => rfl)] at h1
    have h2 := iv_on1 h1.is (all_map _ _) rfl
    cases hn : (itemsD d).all nameB with
    | false =>
      rw [hn] at h2
      refine wp_T (isT_or (isT_not (isT_TrV hli rfl)) (fun _ => isT_not (isT_TrV h2 rfl))) rfl ?_
      refine wp_ret is_c rfl ?_
      show _ = _
      unfold namesB; rw [hd, hn]; rfl
    | true =>
      rw [hn] at h2
      refine wp_F (isT_or (isT_not (isT_TrV hli rfl)) (fun _ => isT_not (isT_TrV h2 rfl))) rfl (wp_nil ?_)
      have h3 := iv_comp (t := .tup [3, 4]) (vs := [3, 4]) (test := tTrue) (elt := op2 (dVar 3) (dVar 4) ltD) (ρ1 := fun e => match e with
          | .tup [a, b] => [B.val d, .val (.int few), .val m, .val a, .val b]
          | _ => []) (kk := fun _ => true) (ee := fun e => .bl (ltP e))
        (zip_ii hs hv) rfl (Nat.le_trans (zip_len _ _) (z100 (len_items h))) (fun e he => by
          obtain ⟨x, y, rfl⟩ := zip_strs hn (all_drop hn) he
          exact ⟨rfl, rfl, rfl, fun _ => iv_op2 (iv_var (i := 3) rfl).is (iv_var (i := 4) rfl).is (show ltD (.str x) (.str y) = some (.val (.bl (decide (x.cps.toList < y.cps.toList)))) from rfl) rfl⟩)
      rw [List.filter_eq_self.mpr (fun _ _ => rfl)] at h3
      refine wp_ret (iv_on1 h3.is (all_map _ _) rfl).is rfl ?_
      show _ = _
      unfold namesB pairsB; rw [hd, hn]; rfl
/-! ### picks -/
theorem draw_ok : DrawOk S__law_draw := drawOk_of draw_eq
theorem pick_eq {n : Nat} {o : O} {ds : List D} (ho : PenOk (n + 1) o) (h0 : 0 < ds.length) (hz : ds.length < 1000) : ∃ x o', x ∈ ds ∧ S__law_pick o [.lst ds] = .ok (.val x) o' ∧ PenOk n o' := by
  have hl : Iv (opN (dCons (dVar 1) dNil) (on1 lenD)) [B.own false o, .val (.lst ds)] (.int ds.length) := iv_on1 (iv_var rfl).is (show lenD (.lst ds) = some (.val (.int ds.length)) from rfl) rfl
  obtain ⟨d, o', e, h1, h2, h3, h4⟩ := ev_draw (gg := false) (i := 0) draw_ok rfl ho hl (by omega)
  have hd : d < ds.length := by
    by_cases h5 : (2 : Int) ≤ ds.length
    · exact h3 h5
    · have := h4 (by omega); omega
  obtain ⟨x, e1, e2⟩ := idx_int (ds := ds) h2 hd
  refine ⟨x, o', List.mem_of_getElem? e1, ?_, h1⟩
  show fnI 2 g__law_pick o [.lst ds] = _
  unfold fnI
  have eg : g__law_pick [B.own false o, .val (.lst ds)] = .ok (.rt (.val x)) [B.own false o', .val (.lst ds)] := by
    have ef : fin2 idxD (.al 1) (.val (.int d)) [B.own false o', .val (.lst ds)] = .ok (.val x) [B.own false o', .val (.lst ds)] := by
      show (match idxD (.lst ds) (.int d) with
        | some c => R.ok c [B.own false o', B.val (.lst ds)]
        | none => R.no) = _
      rw [e2]
    have eb : op2 (dVar 1) (dCallI 0 2 S__law_draw [] (dCons (dVar 0) (dCons (opN (dCons (dVar 1) dNil) (on1 lenD)) dNil))) idxD [B.own false o, .val (.lst ds)] = .ok (.val x) [B.own false o', .val (.lst ds)] := by
      show R.bind (dCallI 0 2 S__law_draw [] (dCons (dVar 0) (dCons (opN (dCons (dVar 1) dNil) (on1 lenD)) dNil)) [B.own false o, .val (.lst ds)]) (fun b ρ2 => fin2 idxD (.al 1) b ρ2) = _
      rw [e]; exact ef
    show R.bind (op2 (dVar 1) (dCallI 0 2 S__law_draw [] (dCons (dVar 0) (dCons (opN (dCons (dVar 1) dNil) (on1 lenD)) dNil))) idxD [B.own false o, .val (.lst ds)]) ret1 = _
    rw [eb]; rfl
  show (match g__law_pick [B.own false o, .val (.lst ds)] with
    | .ok .nx ρ => _
    | .ok (.rt (.val d)) ρ => _
    | .ok (.rt (.own true u)) ρ => _
    | .er C fs ρ => _
    | _ => RI.no) = _
  rw [eg]; rfl
/-- a pick from a written list, the pen in slot i -/
theorem ev_pick {ρ : Ev} {i n : Nat} {gg : Bool} {o : O} {f : EF} {ds : List D} (hp : gb ρ i = .own gg o) (ho : PenOk (n + 1) o) (hf : Iv f ρ (.lst ds)) (h0 : 0 < ds.length) (hz : ds.length < 1000) :
    ∃ x o', x ∈ ds ∧ dCallI i 2 S__law_pick [] (dCons (dVar i) (dCons f dNil)) ρ = .ok (.val x) (ρ.set i (.own gg o')) ∧ PenOk n o' := by
  obtain ⟨x, o', h1, h2, h3⟩ := pick_eq ho h0 hz
  exact ⟨x, o', h1, ev_pen hp ho (iva_cons hf iva_nil) rfl h2 h3, h3⟩
end Law
namespace Law
open PySem PySem.Spec PyProof.Rows L2 Dl
def env (s : D) (o : O) (b2 b3 b4 b5 b6 b7 b8 b9 b10 b11 b14 b15 b17 : B) : Ev := [.val s, .own true o, b2, b3, b4, b5, b6, b7, b8, b9, b10, b11, .un, .un, b14, b15, .un, b17, .un]
theorem bb (b : Bool) : (!(b == b)) = false := by cases b <;> rfl
section
variable {s d : D} {o : O} {b2 b3 b4 b5 b6 b7 b8 b9 b10 b11 b14 b15 b17 : B} {n : Nat}
def gBody : Ev → R Fl := (sSeq (sSet 4 (dAnd (op1 (dVar 3) (isiD ["int"] ci)) (dNot (op1 (dVar 3) (isiD ["bool"] ci))))) (sSeq (sIf (tOrD (dB (op2 (opN (dCons (dCall 1 (S_is_integer) [] (dCons (dVar 3) (dNil))) (dNil)) (on1 reprD)) (opN (dCons (dVar 4) (dNil)) (on1 reprD)) neD)) (tOrD (dB (op2 (dCallK 1 0 1 [.k 0] [] (S_is_integer) (dNil) (dCons (dVar 3) (dNil))) (dVar 4) neD)) (tOrD (dB (op2 (opN (dCons (dCall 1 (S_is_name) [] (dCons (dVar 3) (dNil))) (dNil)) (on1 reprD)) (opN (dCons (dCall 1 (S__law_is_name) [] (dCons (dVar 3) (dNil))) (dNil)) (on1 reprD)) neD)) (dB (op2 (dCallK 1 0 1 [.k 0] [] (S_is_name) (dNil) (dCons (dVar 3) (dNil))) (dCall 1 (S__law_is_name) [] (dCons (dVar 3) (dNil))) neD))))) (sRet (dC (.bl false))) (sNil)) (sSeq (sPar 5 6 (dCons (dCallI 1 2 (S__law_pick) [] (dCons (dVar 1) (dCons (dLst (dCons (dC .non) (dCons (dC (.int 0)) (dCons (dC (.int 1)) (dCons (op2 (dC (.int 0)) (dC (.int 3)) subD) (dNil)))))) (dNil)))) (dCons (dCallI 1 2 (S__law_pick) [] (dCons (dVar 1) (dCons (dLst (dCons (dC .non) (dCons (dC (.int 1)) (dCons (dC (.int 6)) (dCons (dC (.int 7)) (dNil)))))) (dNil)))) (dNil)))) (sSeq (sIf (tOrD (dB (op2 (opN (dCons (dCall 3 (S_is_within) [] (dCons (dVar 3) (dCons (dVar 5) (dCons (dVar 6) (dNil))))) (dNil)) (on1 reprD)) (opN (dCons (dAnd (dVar 4) (dAnd (dOr (op2 (dVar 5) (dC .non) isD) (op2 (dVar 3) (dVar 5) geD)) (dOr (op2 (dVar 6) (dC .non) isD) (op2 (dVar 3) (dVar 6) leD)))) (dNil)) (on1 reprD)) neD)) (dB (op2 (dCallK 3 0 3 [.k 2, .k 1, .k 0] [] (S_is_within) (dNil) (dCons (dVar 6) (dCons (dVar 5) (dCons (dVar 3) (dNil))))) (dCall 3 (S_is_within) [] (dCons (dVar 3) (dCons (dVar 5) (dCons (dVar 6) (dNil))))) neD))) (sRet (dC (.bl false))) (sNil)) (sSeq (sSet 7 (op1 (dVar 3) (isiD ["list", "tuple"] ci))) (sSeq (sPar 8 9 (dCons (dCallI 1 2 (S__law_draw) [] (dCons (dVar 1) (dCons (dC (.int 3)) (dNil)))) (dCons (dCallI 1 2 (S__law_pick) [] (dCons (dVar 1) (dCons (dLst (dCons (dC .non) (dCons (dC (.int 0)) (dCons (dC (.int 1)) (dCons (dC (.int 2)) (dNil)))))) (dNil)))) (dNil)))) (sSeq (sSet 10 (dAnd (dVar 7) (dAnd (op2 (opN (dCons (dVar 3) (dNil)) (on1 lenD)) (dVar 8) geD) (dOr (op2 (dVar 9) (dC .non) isD) (op2 (opN (dCons (dVar 3) (dNil)) (on1 lenD)) (dVar 9) leD))))) (sSeq (sIf (tOrD (dB (op2 (opN (dCons (dCall 3 (S_is_listed) [] (dCons (dVar 3) (dCons (dVar 8) (dCons (dVar 9) (dNil))))) (dNil)) (on1 reprD)) (opN (dCons (dVar 10) (dNil)) (on1 reprD)) neD)) (tOrD (dB (op2 (dCall 3 (S_is_listed) [.int 0, .non] (dCons (dVar 3) (dNil))) (dVar 7) neD)) (dB (op2 (dCallK 3 0 3 [.k 2, .k 1, .k 0] [] (S_is_listed) (dNil) (dCons (dVar 9) (dCons (dVar 8) (dCons (dVar 3) (dNil))))) (dVar 10) neD)))) (sRet (dC (.bl false))) (sNil)) (sSeq (sSet 11 (dAnd (dVar 10) (dAnd (op2 (dComp (orI (iSeq (dVar 3)) (orI (iTupD (dVar 3)) (iStrD (dVar 3)))) (.one 12) [12] (tNotD (dTr (dCall 1 (S__law_is_name) [] (dCons (dVar 12) (dNil))))) (dC (.int 1))) (dLst (dNil)) eqD) (op2 (dComp (iZipD (dCons (dVar 3) (dCons (dSl (dVar 3) (oSome (dC (.int 1))) (oNone)) (dNil)))) (.tup [12, 13]) [12, 13] (dB (op2 (dVar 12) (dVar 13) geD)) (dC (.int 1))) (dLst (dNil)) eqD)))) (sIf (tOrD (dB (op2 (opN (dCons (dCall 3 (S_are_names) [] (dCons (dVar 3) (dCons (dVar 8) (dCons (dVar 9) (dNil))))) (dNil)) (on1 reprD)) (opN (dCons (dVar 11) (dNil)) (on1 reprD)) neD)) (dB (op2 (dCallK 3 0 3 [.k 2, .k 1, .k 0] [] (S_are_names) (dNil) (dCons (dVar 9) (dCons (dVar 8) (dCons (dVar 3) (dNil))))) (dVar 11) neD))) (sRet (dC (.bl false))) (sNil)))))))))))
theorem bnd_mem {x : D} {ds : List D} (h : x ∈ ds) (hb : ∀ y ∈ ds, bndD y) : bndD x := hb x h
theorem listed0 {d : D} : listedB d 0 .non = isSeqB d := by unfold listedB; cases isSeqB d <;> simp [leB]
theorem notnames {ρ : Ev} {i : Nat} (hd : Dom d) (hs : isSeqB d = true) : (((itemsD d).filter fun e => !nameB e)).isEmpty = (itemsD d).all nameB := all_not_any _ _
theorem body_ok (hd : Dom d) (ho : PenOk (n + 4) o) : Wp (gBody (env s o b2 (.val d) b4 b5 b6 b7 b8 b9 b10 b11 b14 b15 b17)) (fun fl ρ' => fl = .nx ∧ ∃ o' b4 b5 b6 b7 b8 b9 b10 b11, PenOk n o' ∧ ρ' = env s o' b2 (.val d) b4 b5 b6 b7 b8 b9 b10 b11 b14 b15 b17) := by
  have hd1 := hd.1
  unfold gBody
  -- whole
  refine wp_seq (wp_set (whole_iv hd1 (iv_var rfl).is).is rfl ?_)
  refine wp_seq (wp_F (isT_or (isT_B (is_op2 (iv_on1 (iv_call (iva_cons (iv_var rfl) iva_nil) rfl (S_is_integer_eq hd1) rfl).is (show reprD (.bl (isIntB d)) = some (.val (.str (reprB (isIntB d)))) from rfl) rfl).is (iv_on1 (iv_var rfl).is (show reprD (.bl (isIntB d)) = some (.val (.str (reprB (isIntB d)))) from rfl) rfl).is ne_repr))
    (fun _ => isT_or (isT_B (is_op2 (iv_callK iva_nil (iva_cons (iv_var rfl) iva_nil) rfl rfl rfl (S_is_integer_eq hd1) rfl).is (iv_var rfl).is ne_bl))
      (fun _ => isT_or (isT_B (is_op2 (iv_on1 (iv_call (iva_cons (iv_var rfl) iva_nil) rfl (S_is_name_eq hd1) rfl).is (show reprD (.bl (nameB d)) = some (.val (.str (reprB (nameB d)))) from rfl) rfl).is (iv_on1 (iv_call (iva_cons (iv_var rfl) iva_nil) rfl (S_law_is_name_eq hd1) rfl).is (show reprD (.bl (nameB d)) = some (.val (.str (reprB (nameB d)))) from rfl) rfl).is ne_repr))
        (fun _ => isT_B (is_op2 (iv_callK iva_nil (iva_cons (iv_var rfl) iva_nil) rfl rfl rfl (S_is_name_eq hd1) rfl).is (iv_call (iva_cons (iv_var rfl) iva_nil) rfl (S_law_is_name_eq hd1) rfl).is ne_bl))))) (by simp only [bb, Bool.or_self]) (wp_nil ?_))
  -- least, top
  obtain ⟨x1, o1, m1, e1, p1⟩ := ev_pick (ρ := (env s o b2 (.val d) b4 b5 b6 b7 b8 b9 b10 b11 b14 b15 b17).set 4 (.val (.bl (isIntB d)))) (i := 1) (gg := true) rfl ho (f := dLst (dCons (dC .non) (dCons (dC (.int 0)) (dCons (dC (.int 1)) (dCons (op2 (dC (.int 0)) (dC (.int 3)) subD) (dNil)))))) (iv_lst (iva_cons iv_c (iva_cons iv_c (iva_cons iv_c (iva_cons (iv_op2 is_c is_c sub_int' rfl) iva_nil)))) (by decide)) (by decide) (by decide)
  obtain ⟨x2, o2, m2, e2, p2⟩ := ev_pick (ρ := ((env s o b2 (.val d) b4 b5 b6 b7 b8 b9 b10 b11 b14 b15 b17).set 4 (.val (.bl (isIntB d)))).set 1 (.own true o1)) (i := 1) (gg := true) rfl p1 (f := dLst (dCons (dC .non) (dCons (dC (.int 1)) (dCons (dC (.int 6)) (dCons (dC (.int 7)) (dNil)))))) (iv_lst (iva_cons iv_c (iva_cons iv_c (iva_cons iv_c (iva_cons iv_c iva_nil)))) (by decide)) (by decide) (by decide)
  have hb1 : bndD x1 := bnd_mem m1 (by simp [bndD])
  have hb2 : bndD x2 := bnd_mem m2 (by simp [bndD])
  refine wp_seq (wp_par (c1 := .val x1) (c2 := .val x2) (ρ' := (((env s o b2 (.val d) b4 b5 b6 b7 b8 b9 b10 b11 b14 b15 b17).set 4 (.val (.bl (isIntB d)))).set 1 (.own true o1)).set 1 (.own true o2)) ?_ (by simp [cD]) (by simp [cD]) ?_)
  · show R.bind _ _ = _
    refine (congrArg (fun r => R.bind r _) e1).trans ?_
    show R.bind (R.bind _ _) _ = _
    refine (congrArg (fun r => R.bind (R.bind r _) _) e2).trans ?_
    rfl
  refine wp_seq (wp_F (isT_or (isT_B (is_op2 (iv_on1 (iv_call (iva_cons (iv_var rfl) (iva_cons (iv_var rfl) (iva_cons (iv_var rfl) iva_nil))) rfl (S_is_within_eq hd1 hb1 hb2) rfl).is (show reprD (.bl (withinB d x1 x2)) = some (.val (.str (reprB (withinB d x1 x2)))) from rfl) rfl).is (iv_on1 (within_iv hb1 hb2 (iv_var rfl) (iv_var rfl) (iv_var rfl) (iv_var rfl)).is (show reprD (.bl (withinB d x1 x2)) = some (.val (.str (reprB (withinB d x1 x2)))) from rfl) rfl).is ne_repr))
    (fun _ => isT_B (is_op2 (iv_callK iva_nil (iva_cons (iv_var rfl) (iva_cons (iv_var rfl) (iva_cons (iv_var rfl) iva_nil))) rfl rfl rfl (S_is_within_eq hd1 hb1 hb2) rfl).is (iv_call (iva_cons (iv_var rfl) (iva_cons (iv_var rfl) (iva_cons (iv_var rfl) iva_nil))) rfl (S_is_within_eq hd1 hb1 hb2) rfl).is ne_bl))) (by simp only [bb, Bool.or_self]) (wp_nil ?_))
  -- listed
  refine wp_seq (wp_set (iv_op1 (iv_var rfl).is (isi_seq hd1) rfl).is rfl ?_)
  -- few, many
  obtain ⟨few, o3, e3, p3, _⟩ := ev_draw (ρ := env s o2 b2 (.val d) (.val (.bl (isIntB d))) (.val x1) (.val x2) (.val (.bl (isSeqB d))) b8 b9 b10 b11 b14 b15 b17) (i := 1) (gg := true) draw_ok rfl p2 (f := dC (.int 3)) iv_c (by decide)
  obtain ⟨x3, o4, m3, e4, p4⟩ := ev_pick (ρ := (env s o2 b2 (.val d) (.val (.bl (isIntB d))) (.val x1) (.val x2) (.val (.bl (isSeqB d))) b8 b9 b10 b11 b14 b15 b17).set 1 (.own true o3)) (i := 1) (gg := true) rfl p3 (f := dLst (dCons (dC .non) (dCons (dC (.int 0)) (dCons (dC (.int 1)) (dCons (dC (.int 2)) (dNil)))))) (iv_lst (iva_cons iv_c (iva_cons iv_c (iva_cons iv_c (iva_cons iv_c iva_nil)))) (by decide)) (by decide) (by decide)
  have hb3 : bndD x3 := bnd_mem m3 (by simp [bndD])
  refine wp_seq (wp_par (c1 := .val (.int few)) (c2 := .val x3) (ρ' := ((env s o2 b2 (.val d) (.val (.bl (isIntB d))) (.val x1) (.val x2) (.val (.bl (isSeqB d))) b8 b9 b10 b11 b14 b15 b17).set 1 (.own true o3)).set 1 (.own true o4)) ?_ (by simp [cD]) (by simp [cD]) ?_)
  · show R.bind _ _ = _
    refine (congrArg (fun r => R.bind r _) e3).trans ?_
    show R.bind (R.bind _ _) _ = _
    refine (congrArg (fun r => R.bind (R.bind r _) _) e4).trans ?_
    rfl
  -- due
  refine wp_seq (wp_set (listed_iv (few := few) hb3 (iv_var rfl) (iv_var rfl) (iv_var rfl) (iv_var rfl)).is rfl ?_)
  refine wp_seq (wp_F (isT_or (isT_B (is_op2 (iv_on1 (iv_call (iva_cons (iv_var rfl) (iva_cons (iv_var rfl) (iva_cons (iv_var rfl) iva_nil))) rfl (S_is_listed_eq (few := few) hd1 hb3) rfl).is (show reprD (.bl (listedB d few x3)) = some (.val (.str (reprB (listedB d few x3)))) from rfl) rfl).is (iv_on1 (iv_var rfl).is (show reprD (.bl (listedB d few x3)) = some (.val (.str (reprB (listedB d few x3)))) from rfl) rfl).is ne_repr))
    (fun _ => isT_or (isT_B (is_op2 (iv_call (iva_cons (iv_var rfl) iva_nil) rfl (S_is_listed_eq (few := 0) hd1 (.inl rfl)) rfl).is (iv_var rfl).is (show neD (.bl (listedB d 0 .non)) (.bl (isSeqB d)) = some (.val (.bl (!(isSeqB d == isSeqB d)))) by rw [listed0]; rfl)))
      (fun _ => isT_B (is_op2 (iv_callK iva_nil (iva_cons (iv_var rfl) (iva_cons (iv_var rfl) (iva_cons (iv_var rfl) iva_nil))) rfl rfl rfl (S_is_listed_eq (few := few) hd1 hb3) rfl).is (iv_var rfl).is ne_bl)))) (by simp only [bb, Bool.or_self]) (wp_nil ?_))
  -- names
  have hN : Iv (dAnd (dVar 10) (dAnd (op2 (dComp (orI (iSeq (dVar 3)) (orI (iTupD (dVar 3)) (iStrD (dVar 3)))) (.one 12) [12] (tNotD (dTr (dCall 1 (S__law_is_name) [] (dCons (dVar 12) (dNil))))) (dC (.int 1))) (dLst (dNil)) eqD) (op2 (dComp (iZipD (dCons (dVar 3) (dCons (dSl (dVar 3) (oSome (dC (.int 1))) (oNone)) (dNil)))) (.tup [12, 13]) [12, 13] (dB (op2 (dVar 12) (dVar 13) geD)) (dC (.int 1))) (dLst (dNil)) eqD)))
      (env s o4 b2 (.val d) (.val (.bl (isIntB d))) (.val x1) (.val x2) (.val (.bl (isSeqB d))) (.val (.int few)) (.val x3) (.val (.bl (listedB d few x3))) b11 b14 b15 b17) (.bl (namesB d few x3)) := by
    cases hl : listedB d few x3 with
    | false =>
      have e : namesB d few x3 = false := by unfold namesB; rw [hl]; rfl
      rw [e]
      exact iv_andF (iv_var rfl) rfl
    | true =>
      have hs : isSeqB d = true := by
        unfold listedB at hl
        simp only [Bool.and_eq_true] at hl
        exact hl.1
      have hv : Iv (dVar 3) (env s o4 b2 (.val d) (.val (.bl (isIntB d))) (.val x1) (.val x2) (.val (.bl (isSeqB d))) (.val (.int few)) (.val x3) (.val (.bl true)) b11 b14 b15 b17) d := iv_var rfl
      have h1 := iv_comp (t := .one 12) (vs := [12]) (test := tNotD (dTr (dCall 1 (S__law_is_name) [] (dCons (dVar 12) (dNil))))) (elt := dC (.int 1)) (ρ1 := fun e => (env s o4 b2 (.val d) (.val (.bl (isIntB d))) (.val x1) (.val x2) (.val (.bl (isSeqB d))) (.val (.int few)) (.val x3) (.val (.bl true)) b11 b14 b15 b17).set 12 (.val e)) (kk := fun e => !nameB e) (ee := fun _ => .int 1)
        (ii_any hv (iter_seq hs)) rfl (z100 (len_items hd)) (fun e he => ⟨rfl, rfl, isT_not (isT_TrV (iv_call (iva_cons (iv_var rfl) iva_nil) rfl (S_law_is_name_eq (dom1_items hd he)) rfl) rfl), fun _ => iv_c⟩)
      have h2 := iv_op2 (g := dLst dNil) (op := eqD) h1.is (iv_lst iva_nil (Nat.zero_le _)).is (eq_nil_ones _) rfl
      rw [all_not_any] at h2
      cases hn : (itemsD d).all nameB with
      | false =>
        rw [hn] at h2
        have e : namesB d few x3 = false := by unfold namesB; rw [hl, hn]; rfl
        rw [e]
        exact iv_andT (iv_var (d := .bl true) rfl) rfl (iv_andF h2 rfl)
      | true =>
        rw [hn] at h2
        have h3 := iv_comp (t := .tup [12, 13]) (vs := [12, 13]) (test := dB (op2 (dVar 12) (dVar 13) geD)) (elt := dC (.int 1)) (ρ1 := fun e => match e with
            | .tup [a, b] => ((env s o4 b2 (.val d) (.val (.bl (isIntB d))) (.val x1) (.val x2) (.val (.bl (isSeqB d))) (.val (.int few)) (.val x3) (.val (.bl true)) b11 b14 b15 b17).set 12 (.val a)).set 13 (.val b)
            | _ => []) (kk := fun e => !ltP e) (ee := fun _ => .int 1)
          (zip_ii hs hv) rfl (Nat.le_trans (zip_len _ _) (z100 (len_items hd))) (fun e he => by
            obtain ⟨x, y, rfl⟩ := zip_strs hn (all_drop hn) he
            exact ⟨rfl, rfl, isT_B (is_op2 (iv_var (i := 12) rfl).is (iv_var (i := 13) rfl).is (show geD (.str x) (.str y) = some (.val (.bl (!decide (x.cps.toList < y.cps.toList)))) from rfl)), fun _ => iv_c⟩)
        have h4 := iv_op2 (g := dLst dNil) (op := eqD) h3.is (iv_lst iva_nil (Nat.zero_le _)).is (eq_nil_ones _) rfl
        rw [all_not_any] at h4
        have e : namesB d few x3 = (zipD (itemsD d) ((itemsD d).drop 1)).all ltP := by unfold namesB pairsB; rw [hl, hn]; simp
        rw [e]
        exact iv_andT (iv_var (d := .bl true) rfl) rfl (iv_andT h2 rfl h4)
  refine wp_seq (wp_set hN.is rfl ?_)
  refine wp_F (isT_or (isT_B (is_op2 (iv_on1 (iv_call (iva_cons (iv_var rfl) (iva_cons (iv_var rfl) (iva_cons (iv_var rfl) iva_nil))) rfl (S_are_names_eq (few := few) hd hb3) rfl).is (show reprD (.bl (namesB d few x3)) = some (.val (.str (reprB (namesB d few x3)))) from rfl) rfl).is (iv_on1 (iv_var rfl).is (show reprD (.bl (namesB d few x3)) = some (.val (.str (reprB (namesB d few x3)))) from rfl) rfl).is ne_repr))
    (fun _ => isT_B (is_op2 (iv_callK iva_nil (iva_cons (iv_var rfl) (iva_cons (iv_var rfl) (iva_cons (iv_var rfl) iva_nil))) rfl rfl rfl (S_are_names_eq (few := few) hd hb3) rfl).is (iv_var rfl).is ne_bl))) (by simp only [bb, Bool.or_self]) (wp_nil ?_)
  exact ⟨rfl, o4, _, _, _, _, _, _, _, _, p4, rfl⟩
end
end Law
namespace Law
open PySem PySem.Spec PyProof.Rows L2 Dl
theorem pen_eq {ns : List Int} (hn : ns.length ≤ 63) : ∃ cs, S__law_pen [.kl (ns.map D.int)] = .ok (.own true (pen cs 0 0)) := by
  obtain ⟨cs, e, hl⟩ := cut63 ns
  refine ⟨cs, fnD_own (ρ' := [.val (.kl (ns.map D.int)), .un]) ?_⟩
  show g__law_pen [.val (.kl (ns.map D.int)), .un] = _
  unfold g__law_pen
  have h1 : Iv (dSl (dVar 0) oNone (oSome (dC (.int 63)))) [.val (.kl (ns.map D.int)), .un] (.lst (cs.map D.int)) := iv_sl (iv_var rfl).is rfl (os_int is_c) (show slD (.kl (ns.map D.int)) none (some 63) = some (.own true (.lst (cs.map D.int))) by simp only [slD, e]) rfl
  have h2 := ints_comp (i := 1) (ii_any h1 rfl) rfl (fun _ => rfl) (fun _ => rfl) (z100 (by omega))
  have h3 := ev_lst (iva_cons h2 (iva_cons (iv_c (d := .int 0)) (iva_cons (iv_c (d := .int 0)) iva_nil))) (by simp only [List.length_cons, List.length_nil]; rw [sizeLine_eq]; omega)
  show R.bind (dLst _ _) ret1 = _
  rw [h3]; rfl
theorem fixed_nil : S_fixed 40 [.tup []] = .ok (.val (.kt [])) := rfl
def paper : D := .ins 12 [("word", .str "p"), ("parts", .kt [])]
def vals : List D := [.non, .bl true, .bl false, .int 0, .int 1, .int (0 - 1), .int 7, .int (10 ^ (Int.toNat 59)), .str "", .str "a", .str "z", .str "abcdefgh", .str "abcdefghi", .str "A", .str "a b", .str "a1", .tup [], .lst [], .tup [.int 1], .lst [.int 1, .int 2], .lst [.str "a"], .tup [.str "a", .str "b"],
  .lst [.str "b", .str "a"], .lst [.str "a", .str "a"], .dk [], .dk [(.inr "a", .int 1)], paper, .lst [.non], .lst [.lst [.str "a"]], .str "ab"]
theorem dom_scal {d : D} (h : Dom1 d) (h1 : ∀ ds, d ≠ .lst ds) (h2 : ∀ ds, d ≠ .tup ds) : Dom d := ⟨h, fun ds e => by rcases e with e | e; exact absurd e (h1 ds); exact absurd e (h2 ds)⟩
theorem dom_lst {ds : List D} (hl : ds.length ≤ 100) (h : ∀ e ∈ ds, Dom1 e) : Dom (.lst ds) := ⟨True.intro, fun es e => by rcases e with e | e <;> cases e; exact ⟨hl, h⟩⟩
theorem dom_tup {ds : List D} (hl : ds.length ≤ 100) (h : ∀ e ∈ ds, Dom1 e) : Dom (.tup ds) := ⟨True.intro, fun es e => by rcases e with e | e <;> cases e; exact ⟨hl, h⟩⟩
theorem dom_str {x : Str} (h : x.length ≤ 100) : Dom (.str x) := dom_scal h (fun _ z => by cases z) (fun _ z => by cases z)
theorem mem1 {α : Type} {p : α → Prop} {a : α} (h : p a) : ∀ e ∈ [a], p e := fun e he => by rw [List.mem_singleton] at he; rw [he]; exact h
theorem memc {α : Type} {p : α → Prop} {a : α} {r : List α} (h : p a) (hr : ∀ e ∈ r, p e) : ∀ e ∈ a :: r, p e := fun e he => by
  rcases List.mem_cons.mp he with rfl | he
  · exact h
  · exact hr e he
theorem vals_dom : ∀ d ∈ vals, Dom d := by
  have s : ∀ {d : D}, Dom1 d → (∀ ds, d ≠ .lst ds) → (∀ ds, d ≠ .tup ds) → Dom d := dom_scal
  have n0 : ∀ e ∈ ([] : List D), Dom1 e := fun e he => by cases he
  have sa : Dom1 (.str "a") := (by decide +kernel : (("a" : Str)).length ≤ 100)
  have sb : Dom1 (.str "b") := (by decide +kernel : (("b" : Str)).length ≤ 100)
  refine memc (s True.intro (fun _ z => by cases z) (fun _ z => by cases z)) (memc (s True.intro (fun _ z => by cases z) (fun _ z => by cases z)) (memc (s True.intro (fun _ z => by cases z) (fun _ z => by cases z)) ?_))
  refine memc (s True.intro (fun _ z => by cases z) (fun _ z => by cases z)) (memc (s True.intro (fun _ z => by cases z) (fun _ z => by cases z)) (memc (s True.intro (fun _ z => by cases z) (fun _ z => by cases z)) ?_))
  refine memc (s True.intro (fun _ z => by cases z) (fun _ z => by cases z)) (memc (s True.intro (fun _ z => by cases z) (fun _ z => by cases z)) ?_)
  refine memc (dom_str (by decide +kernel)) (memc (dom_str (by decide +kernel)) (memc (dom_str (by decide +kernel)) (memc (dom_str (by decide +kernel)) (memc (dom_str (by decide +kernel)) (memc (dom_str (by decide +kernel)) (memc (dom_str (by decide +kernel)) (memc (dom_str (by decide +kernel)) ?_)))))))
  refine memc (dom_tup (by decide) n0) (memc (dom_lst (by decide) n0) (memc (dom_tup (by decide) (mem1 True.intro)) (memc (dom_lst (by decide) (memc True.intro (mem1 True.intro))) ?_)))
  refine memc (dom_lst (by decide) (mem1 sa)) (memc (dom_tup (by decide) (memc sa (mem1 sb))) (memc (dom_lst (by decide) (memc sb (mem1 sa))) (memc (dom_lst (by decide) (memc sa (mem1 sa))) ?_)))
  refine memc (s True.intro (fun _ z => by cases z) (fun _ z => by cases z)) (memc (s True.intro (fun _ z => by cases z) (fun _ z => by cases z)) (memc (s (show (12 : Nat) = 12 from rfl) (fun _ z => by cases z) (fun _ z => by cases z)) ?_))
  exact memc (dom_lst (by decide) (mem1 True.intro)) (memc (dom_lst (by decide) (mem1 True.intro)) (mem1 (dom_str (by decide +kernel))))
theorem iv_paper {ρ : Ev} : Iv (dMakeR 12 1 (M_Paper_uinitu) (dCons (dC (.str "p")) (dNil))) ρ paper := by
  refine .of (c := .val paper) ?_ rfl
  show outM 12 (M_Paper_uinitu [.str "p", .tup []]) ρ = _
  have e : M_Paper_uinitu [.str "p", .tup []] = .ok [("word", .str "p"), ("parts", .kt [])] := by
    show (match S_fixed 40 [.tup []] with
      | .ok (.val d) => RM.ok [("word", .str "p"), ("parts", d)]
      | _ => .no) = _
    rw [fixed_nil]
  rw [e]; rfl
theorem iv_vals {ρ : Ev} : dLst (dCons (dC .non) (dCons (dC (.bl true)) (dCons (dC (.bl false)) (dCons (dC (.int 0)) (dCons (dC (.int 1)) (dCons (op2 (dC (.int 0)) (dC (.int 1)) subD) (dCons (dC (.int 7)) (dCons (op2 (dC (.int 10)) (dC (.int 59)) powD) (dCons (dC (.str "")) (dCons (dC (.str "a")) (dCons (dC (.str "z")) (dCons (dC (.str "abcdefgh")) (dCons (dC (.str "abcdefghi")) (dCons (dC (.str "A")) (dCons (dC (.str "a b")) (dCons (dC (.str "a1")) (dCons (dTup (dNil)) (dCons (dLst (dNil)) (dCons (dTup (dCons (dC (.int 1)) (dNil))) (dCons (dLst (dCons (dC (.int 1)) (dCons (dC (.int 2)) (dNil)))) (dCons (dLst (dCons (dC (.str "a")) (dNil))) (dCons (dTup (dCons (dC (.str "a")) (dCons (dC (.str "b")) (dNil)))) (dCons (dLst (dCons (dC (.str "b")) (dCons (dC (.str "a")) (dNil)))) (dCons (dLst (dCons (dC (.str "a")) (dCons (dC (.str "a")) (dNil)))) (dCons (dDNewK) (dCons (dDisp ((dC (.str "a"), dC (.int 1)) :: [])) (dCons (dMakeR 12 1 (M_Paper_uinitu) (dCons (dC (.str "p")) (dNil))) (dCons (dLst (dCons (dC .non) (dNil))) (dCons (dLst (dCons (dLst (dCons (dC (.str "a")) (dNil))) (dNil))) (dCons (dC (.str "ab")) (dNil))))))))))))))))))))))))))))))) ρ = .ok (.own true (.lst vals)) ρ := by
  have z : (0 : Nat) ≤ sizeLine := Nat.zero_le _
  have z1 : (1 : Nat) ≤ sizeLine := by decide
  have z2 : (2 : Nat) ≤ sizeLine := by decide
  refine ev_lst ?_ (by decide)
  refine iva_cons iv_c (iva_cons iv_c (iva_cons iv_c (iva_cons iv_c (iva_cons iv_c (iva_cons (iv_op2 is_c is_c sub_int' rfl) (iva_cons iv_c (iva_cons (iv_op2 is_c is_c (pow_ok (n := 4) (by decide) (by decide) (by decide) (by decide)) rfl) ?_)))))))
  refine iva_cons iv_c (iva_cons iv_c (iva_cons iv_c (iva_cons iv_c (iva_cons iv_c (iva_cons iv_c (iva_cons iv_c (iva_cons iv_c ?_)))))))
  refine iva_cons (iv_tup iva_nil z) (iva_cons (iv_lst iva_nil z) (iva_cons (iv_tup (iva_cons iv_c iva_nil) z1) (iva_cons (iv_lst (iva_cons iv_c (iva_cons iv_c iva_nil)) z2) ?_)))
  refine iva_cons (iv_lst (iva_cons iv_c iva_nil) z1) (iva_cons (iv_tup (iva_cons iv_c (iva_cons iv_c iva_nil)) z2) (iva_cons (iv_lst (iva_cons iv_c (iva_cons iv_c iva_nil)) z2) (iva_cons (iv_lst (iva_cons iv_c (iva_cons iv_c iva_nil)) z2) ?_)))
  refine iva_cons (.of (c := .own true (.dk [])) rfl rfl) (iva_cons (.of (c := .own true (.dk [(.inr "a", .int 1)])) rfl rfl) (iva_cons iv_paper ?_))
  exact iva_cons (iv_lst (iva_cons iv_c iva_nil) z1) (iva_cons (iv_lst (iva_cons (iv_lst (iva_cons iv_c iva_nil) z1) iva_nil) z1) (iva_cons iv_c iva_nil))
end Law
namespace Law
open PySem PySem.Spec PyProof.Rows L2 Dl
def signs9 : List D := [.str "a", .str "b", .str "j", .str "z", .str "q", .str "A", .str "-", .str "1", .str " "]
theorem signs9_one : ∀ d ∈ signs9, ∃ x, d = .str x ∧ x.length ≤ 1 := by
  refine memc ⟨_, rfl, by decide +kernel⟩ (memc ⟨_, rfl, by decide +kernel⟩ (memc ⟨_, rfl, by decide +kernel⟩ (memc ⟨_, rfl, by decide +kernel⟩ (memc ⟨_, rfl, by decide +kernel⟩ (memc ⟨_, rfl, by decide +kernel⟩ (memc ⟨_, rfl, by decide +kernel⟩ (memc ⟨_, rfl, by decide +kernel⟩ (mem1 ⟨_, rfl, by decide +kernel⟩))))))))
theorem strs_of {ds : List D} (h : ∀ d ∈ ds, d ∈ signs9) : ∃ zs : List Str, strsD ds = some zs ∧ (zs.map Str.length).sum ≤ ds.length ∧ zs.length = ds.length := by
  induction ds with
  | nil => exact ⟨[], rfl, Nat.le_refl _, rfl⟩
  | cons d ds ih =>
    obtain ⟨zs, e, h1, h2⟩ := ih fun x hx => h x (by simp [hx])
    obtain ⟨x, rfl, h3⟩ := signs9_one d (h d (by simp))
    refine ⟨x :: zs, by simp [strsD, e], ?_, by simp [h2]⟩
    simp only [List.map_cons, List.sum_cons, List.length_cons]
    omega
theorem join_len (zs : List Str) : (Txt.join "" zs).length ≤ (zs.map Str.length).sum := by
  have h : (Txt.join "" zs).length = (zs.map Str.length).sum + (zs.length - 1) * ("" : Str).length := PySem.size_glued "" zs
  have l0 : ("" : Str).length = 0 := by decide +kernel
  rw [h, l0]; omega
theorem gi {ρ : Ev} {d : D} {i : Nat} (h : gb ρ i = .val d) : Iv (dVar i) ρ d := iv_var h
def gWord : Ev → R Fl := (sSeq (sSet 15 (dRd1 "str" joinD (dC (.str "")) (dComp (iRng1 (dCons (dCallI 1 2 (S__law_draw) [] (dCons (dVar 1) (dCons (dC (.int 11)) (dNil)))) (dNil))) (.one 16) [16] (tTrue) (dCallI 1 2 (S__law_pick) [] (dCons (dVar 1) (dCons (dLst (dCons (dC (.str "a")) (dCons (dC (.str "b")) (dCons (dC (.str "j")) (dCons (dC (.str "z")) (dCons (dC (.str "q")) (dCons (dC (.str "A")) (dCons (dC (.str "-")) (dCons (dC (.str "1")) (dCons (dC (.str " ")) (dNil))))))))))) (dNil))))))) (sIf (dB (op2 (opN (dCons (dCall 1 (S_is_name) [] (dCons (dVar 15) (dNil))) (dNil)) (on1 reprD)) (opN (dCons (dCall 1 (S__law_is_name) [] (dCons (dVar 15) (dNil))) (dNil)) (on1 reprD)) neD)) (sRet (dC (.bl false))) (sNil)))
section
variable {s d : D} {o : O} {b2 b3 b4 b5 b6 b7 b8 b9 b10 b11 b14 b15 b17 : B} {n : Nat}
theorem word_ok (ho : PenOk (n + 20) o) : Wp (gWord (env s o b2 b3 b4 b5 b6 b7 b8 b9 b10 b11 b14 b15 b17)) (fun fl ρ' => fl = .nx ∧ ∃ o' b15, PenOk n o' ∧ ρ' = env s o' b2 b3 b4 b5 b6 b7 b8 b9 b10 b11 b14 b15 b17) := by
  unfold gWord
  obtain ⟨k, o1, e1, p1, k0, k1, _⟩ := ev_draw (n := n + 19) (ρ := env s o b2 b3 b4 b5 b6 b7 b8 b9 b10 b11 b14 b15 b17) (i := 1) (gg := true) draw_ok rfl ho (f := dC (.int 11)) iv_c (by decide)
  have k2 : k < 11 := k1 (by decide)
  have hit : iRng1 (dCons (dCallI 1 2 (S__law_draw) [] (dCons (dVar 1) (dCons (dC (.int 11)) (dNil)))) (dNil)) (env s o b2 b3 b4 b5 b6 b7 b8 b9 b10 b11 b14 b15 b17) = .ok (rngD 0 k.toNat) (env s o1 b2 b3 b4 b5 b6 b7 b8 b9 b10 b11 b14 b15 b17) := by
    show R.bind (R.bind (dCallI 1 2 _ _ _ _) _) _ = _
    rw [e1]
    show (if -(2 ^ 62) ≤ k ∧ k < 2 ^ 62 then R.ok (rngD 0 k.toNat) (env s o1 b2 b3 b4 b5 b6 b7 b8 b9 b10 b11 b14 b15 b17) else .no) = _
    rw [if_pos (by omega)]
  have rl : (rngD 0 k.toNat).length = k.toNat := by unfold rngD; simp
  obtain ⟨acc, ρ', a1, ⟨o2, a2, p2, rfl⟩, ec⟩ := ev_comp (ρ := env s o b2 b3 b4 b5 b6 b7 b8 b9 b10 b11 b14 b15 b17) (t := .one 16) (vs := [16]) (test := tTrue) (elt := dCallI 1 2 (S__law_pick) [] (dCons (dVar 1) (dCons (dLst (dCons (dC (.str "a")) (dCons (dC (.str "b")) (dCons (dC (.str "j")) (dCons (dC (.str "z")) (dCons (dC (.str "q")) (dCons (dC (.str "A")) (dCons (dC (.str "-")) (dCons (dC (.str "1")) (dCons (dC (.str " ")) (dNil))))))))))) (dNil))))
    (fun i acc ρ => ∃ o2, (∀ d ∈ acc, d ∈ signs9) ∧ PenOk (n + 19 - i) o2 ∧ ρ = env s o2 b2 b3 b4 b5 b6 b7 b8 b9 b10 b11 b14 b15 b17) hit ⟨o1, (fun _ h => nomatch h), p1, rfl⟩ (by rw [rl]; exact z100 (by omega)) (fun i hi acc ρ hl hI => by
      obtain ⟨o2, a2, p2, rfl⟩ := hI
      rw [rl] at hi
      obtain ⟨x, o3, m3, e3, p3⟩ := ev_pick (n := n + 19 - (i + 1)) (ρ := (env s o2 b2 b3 b4 b5 b6 b7 b8 b9 b10 b11 b14 b15 b17).set 16 (.val ((rngD 0 k.toNat)[i]))) (i := 1) (gg := true) rfl (p2.mono (by omega)) (f := dLst (dCons (dC (.str "a")) (dCons (dC (.str "b")) (dCons (dC (.str "j")) (dCons (dC (.str "z")) (dCons (dC (.str "q")) (dCons (dC (.str "A")) (dCons (dC (.str "-")) (dCons (dC (.str "1")) (dCons (dC (.str " ")) (dNil)))))))))))
        (iv_lst (ds := signs9) (iva_cons iv_c (iva_cons iv_c (iva_cons iv_c (iva_cons iv_c (iva_cons iv_c (iva_cons iv_c (iva_cons iv_c (iva_cons iv_c (iva_cons iv_c iva_nil))))))))) (by decide)) (by decide) (by decide)
      refine ⟨_, true, _, rfl, rfl, fun _ => ⟨_, _, x, _, e3, rfl, o3, ?_, p3, rfl⟩, fun z => by cases z⟩
      intro d hd
      rcases List.mem_append.mp hd with h | h
      · exact a2 d h
      · rw [List.mem_singleton] at h; rw [h]; exact m3)
  rw [rl] at a1 p2
  obtain ⟨zs, s1, s2, s3⟩ := strs_of a2
  have hj : (Txt.join "" zs).length ≤ 100 := by have := join_len zs; omega
  have ew : dRd1 "str" joinD (dC (.str "")) (dComp (iRng1 (dCons (dCallI 1 2 (S__law_draw) [] (dCons (dVar 1) (dCons (dC (.int 11)) (dNil)))) (dNil))) (.one 16) [16] (tTrue) (dCallI 1 2 (S__law_pick) [] (dCons (dVar 1) (dCons (dLst (dCons (dC (.str "a")) (dCons (dC (.str "b")) (dCons (dC (.str "j")) (dCons (dC (.str "z")) (dCons (dC (.str "q")) (dCons (dC (.str "A")) (dCons (dC (.str "-")) (dCons (dC (.str "1")) (dCons (dC (.str " ")) (dNil))))))))))) (dNil))))) (env s o b2 b3 b4 b5 b6 b7 b8 b9 b10 b11 b14 b15 b17) = .ok (.val (.str (Txt.join "" zs))) (env s o2 b2 b3 b4 b5 b6 b7 b8 b9 b10 b11 b14 b15 b17) := by
    show R.bind (dComp _ _ _ _ _ _) (fun b ρ2 => fin2 joinD (.val (.str "")) b ρ2) = _
    rw [ec]
    show (match joinD (.str "") (.lst acc) with
      | some c => R.ok c _
      | none => .no) = _
    have ej : joinD (.str "") (.lst acc) = some (.val (.str (Txt.join "" zs))) := by
      show (match strsD acc with
        | some (zs : List Str) => if (zs.map Str.length).sum + zs.length * ("" : Str).length ≤ 16777216 then some (B.val (.str (Txt.join "" zs))) else none
        | none => none) = _
      rw [s1]
      have l0 : ("" : Str).length = 0 := by decide +kernel
      simp only [l0]
      rw [if_pos (by omega)]
    rw [ej]; rfl
  refine wp_seq (wp_setB ew (by simp [cD]) ?_)
  have hd : Dom1 (.str (Txt.join "" zs)) := hj
  refine wp_F (isT_B (is_op2 (iv_on1 (iv_call (iva_cons (iv_var rfl) iva_nil) rfl (S_is_name_eq hd) rfl).is (show reprD (.bl (nameB (.str (Txt.join "" zs)))) = some (.val (.str (reprB (nameB (.str (Txt.join "" zs)))))) from rfl) rfl).is (iv_on1 (iv_call (iva_cons (iv_var rfl) iva_nil) rfl (S_law_is_name_eq hd) rfl).is (show reprD (.bl (nameB (.str (Txt.join "" zs)))) = some (.val (.str (reprB (nameB (.str (Txt.join "" zs)))))) from rfl) rfl).is ne_repr)) (by simp only [bb]) (wp_nil ?_)
  exact ⟨rfl, o2, _, p2.mono (by omega), rfl⟩
end
end Law
namespace Law
open PySem PySem.Spec PyProof.Rows L2 Dl
theorem strD_one {x : Str} {d : D} (h : d ∈ strD x) : ∃ c, c ∈ x.cps.toList ∧ d = .str ⟨#[c]⟩ := by
  unfold strD at h
  obtain ⟨c, hc, rfl⟩ := List.mem_map.mp h
  exact ⟨c, hc, rfl⟩
abbrev abc : Str := "abcdefghijklmnopqrstuvwxyz"
abbrev odd : Str := "`{\x40[/:_ \n"
/-- every letter is a name; none of the other signs behind a is one -/
theorem abc_names : ((strD abc).filter fun d => !nameB d) = [] := by decide +kernel
theorem odd_names : ((strD odd).filter fun d => match d with
    | .str x => nameB (.str ("a" ++ x))
    | _ => false) = [] := by decide +kernel
def gC1 : EF := dComp (iStrD (dC (.str "abcdefghijklmnopqrstuvwxyz"))) (.one 18) [18] (tNotD (dTr (dCall 1 (S_is_name) [] (dCons (dVar 18) (dNil))))) (dVar 18)
def gC2 : EF := dComp (iStrD (dC (.str "`{\x40[/:_ \n"))) (.one 18) [18] (dTr (dCall 1 (S_is_name) [] (dCons (op2 (dC (.str "a")) (dVar 18) addD) (dNil)))) (dVar 18)
def gE : Ev → R Fl := sSeq (sSet 17 (op2 gC1 gC2 addD)) (sRet (dAnd (op2 (dVar 17) (dLst (dNil)) eqD) (dAnd (op2 (dCall 1 (S_is_name) [] (dCons (dC (.str "jkqvwxyz")) (dNil))) (dC (.bl true)) isD) (op2 (dCall 3 (S_are_names) [.int 0, .non] (dCons (dLst (dNil)) (dNil))) (dC (.bl true)) isD))))
section
variable {s d : D} {o : O} {b2 b3 b4 b5 b6 b7 b8 b9 b10 b11 b14 b15 b17 : B} {n : Nat}
theorem c1_ok : Iv gC1 (env s o b2 b3 b4 b5 b6 b7 b8 b9 b10 b11 b14 b15 b17) (.lst []) := by
  have h := iv_comp (ρ := env s o b2 b3 b4 b5 b6 b7 b8 b9 b10 b11 b14 b15 b17) (t := .one 18) (vs := [18]) (test := tNotD (dTr (dCall 1 (S_is_name) [] (dCons (dVar 18) (dNil))))) (elt := dVar 18) (ρ1 := fun e => (env s o b2 b3 b4 b5 b6 b7 b8 b9 b10 b11 b14 b15 b17).set 18 (.val e)) (kk := fun d => !nameB d) (ee := fun d => d)
    (ii_str (f := dC (.str abc)) is_c) rfl (by decide +kernel) (fun e he => by
      obtain ⟨c, _, rfl⟩ := strD_one he
      exact ⟨rfl, rfl, isT_not (isT_TrV (iv_call (iva_cons (iv_var rfl) iva_nil) rfl (S_is_name_eq (d := .str ⟨#[c]⟩) (show (1 : Nat) ≤ 100 by decide)) rfl) rfl), fun _ => iv_var rfl⟩)
  rw [abc_names] at h
  exact h
theorem c2_ok : Iv gC2 (env s o b2 b3 b4 b5 b6 b7 b8 b9 b10 b11 b14 b15 b17) (.lst []) := by
  have h := iv_comp (ρ := env s o b2 b3 b4 b5 b6 b7 b8 b9 b10 b11 b14 b15 b17) (t := .one 18) (vs := [18]) (test := dTr (dCall 1 (S_is_name) [] (dCons (op2 (dC (.str "a")) (dVar 18) addD) (dNil)))) (elt := dVar 18) (ρ1 := fun e => (env s o b2 b3 b4 b5 b6 b7 b8 b9 b10 b11 b14 b15 b17).set 18 (.val e)) (kk := fun d => match d with
      | .str x => nameB (.str ("a" ++ x))
      | _ => false) (ee := fun d => d)
    (ii_str (f := dC (.str odd)) is_c) rfl (by decide +kernel) (fun e he => by
      obtain ⟨c, _, rfl⟩ := strD_one he
      have l2 : (("a" : Str) ++ (⟨#[c]⟩ : Str)).length = 2 := by
        show (("a" : Str).cps ++ #[c]).size = 2
        rw [Array.size_append]
        have : ("a" : Str).cps.size = 1 := by decide +kernel
        rw [this]; rfl
      have ea : addD (.str "a") (.str ⟨#[c]⟩) = some (.val (.str ("a" ++ ⟨#[c]⟩))) := by
        have : strAdd (.str "a") (.str ⟨#[c]⟩) = some (.val (.str ("a" ++ ⟨#[c]⟩))) := by
          unfold strAdd
          have h1 : ("a" : Str).length + (⟨#[c]⟩ : Str).length ≤ sizeLine := by
            have : ("a" : Str).length = 1 := by decide +kernel
            rw [this, sizeLine_eq]; show 1 + 1 ≤ _; decide
          simp only
          rw [if_pos h1]
        unfold addD orD
        simp only [iiD, this]
      have en : S_is_name [.str ("a" ++ ⟨#[c]⟩)] = .ok (.val (.bl (nameB (.str ("a" ++ ⟨#[c]⟩))))) := S_is_name_eq (show Str.length _ ≤ 100 by rw [l2]; decide)
      exact ⟨rfl, rfl, isT_TrV (iv_call (iva_cons (iv_op2 is_c (iv_var rfl).is ea rfl) iva_nil) rfl en rfl) rfl, fun _ => iv_var rfl⟩)
  rw [odd_names] at h
  exact h
theorem e17 : op2 gC1 gC2 addD (env s o b2 b3 b4 b5 b6 b7 b8 b9 b10 b11 b14 b15 b17) = .ok (.own true (.lst [])) (env s o b2 b3 b4 b5 b6 b7 b8 b9 b10 b11 b14 b15 b17) := by
  obtain ⟨b1, e1, f1, k1⟩ := c1_ok (s := s) (o := o) (b2 := b2) (b3 := b3) (b4 := b4) (b5 := b5) (b6 := b6) (b7 := b7) (b8 := b8) (b9 := b9) (b10 := b10) (b11 := b11) (b14 := b14) (b15 := b15) (b17 := b17)
  obtain ⟨b2', e2, f2, k2⟩ := c2_ok (s := s) (o := o) (b2 := b2) (b3 := b3) (b4 := b4) (b5 := b5) (b6 := b6) (b7 := b7) (b8 := b8) (b9 := b9) (b10 := b10) (b11 := b11) (b14 := b14) (b15 := b15) (b17 := b17)
  unfold op2; rw [e1]; simp only [R.bind]; rw [e2]; simp only; unfold fin2; rw [k1, k2]; rfl
theorem jn : nameB (.str "jkqvwxyz") = true := by decide +kernel
theorem q1 {ρ : Ev} (h : gb ρ 17 = .own true (.lst [])) : Iv (op2 (dVar 17) (dLst (dNil)) eqD) ρ (.bl true) := iv_op2 (is_own h rfl) (iv_lst iva_nil (Nat.zero_le _)).is (eq_nil_ints []) rfl
theorem q2 {ρ : Ev} : Iv (op2 (dCall 1 (S_is_name) [] (dCons (dC (.str "jkqvwxyz")) (dNil))) (dC (.bl true)) isD) ρ (.bl true) := by
  have e : S_is_name ([.str "jkqvwxyz"] ++ []) = .ok (.val (.bl true)) := by
    show S_is_name [.str "jkqvwxyz"] = _
    rw [S_is_name_eq (d := .str "jkqvwxyz") (by decide +kernel : (("jkqvwxyz" : Str)).length ≤ 100), jn]
  exact iv_op2 (iv_call (iva_cons iv_c iva_nil) rfl e rfl).is is_c (show isD (.bl true) (.bl true) = some (.val (.bl true)) from rfl) rfl
theorem q3 {ρ : Ev} : Iv (op2 (dCall 3 (S_are_names) [.int 0, .non] (dCons (dLst (dNil)) (dNil))) (dC (.bl true)) isD) ρ (.bl true) := by
  have e : S_are_names ([.lst []] ++ [.int 0, .non]) = .ok (.val (.bl true)) := by
    show S_are_names [.lst [], .int 0, .non] = _
    rw [S_are_names_eq (d := .lst []) (few := 0) (m := .non) (dom_lst (by decide) (fun _ h => nomatch h)) (.inl rfl)]
    rfl
  exact iv_op2 (iv_call (iva_cons (iv_lst iva_nil (Nat.zero_le _)) iva_nil) rfl e rfl).is is_c (show isD (.bl true) (.bl true) = some (.val (.bl true)) from rfl) rfl
theorem end_ok : Wp (gE (env s o b2 b3 b4 b5 b6 b7 b8 b9 b10 b11 b14 b15 b17)) (fun fl _ => fl = .rt (.val (.bl true))) := by
  unfold gE
  have e := e17 (s := s) (o := o) (b2 := b2) (b3 := b3) (b4 := b4) (b5 := b5) (b6 := b6) (b7 := b7) (b8 := b8) (b9 := b9) (b10 := b10) (b11 := b11) (b14 := b14) (b15 := b15) (b17 := b17)
  generalize op2 gC1 gC2 addD = ff at *
  refine wp_seq ?_
  refine wp_setB e (by simp [cD, O.toD]) ?_
  simp only [seqK]
  exact wp_ret (iv_andT (q1 rfl) rfl (iv_andT q2 rfl q3)).is rfl rfl
end
theorem law_true (ns : List Int) (hn : ns.length ≤ 63) : S_law [.kl (ns.map D.int)] = .ok (.val (.bl true)) := by
  suffices w : Wp (g_law (.val (.kl (ns.map D.int)) :: List.replicate 18 .un)) (fun fl _ => fl = .rt (.val (.bl true))) by
    obtain ⟨fl, ρ', e, rfl⟩ := wp_get w
    exact fnD_val e
  obtain ⟨cs, ep⟩ := pen_eq hn
  unfold g_law
  refine wp_seq (wp_setB (c := .own true (pen cs 0 0)) (ρ' := .val (.kl (ns.map D.int)) :: List.replicate 18 .un) ?_ (by simp [cD, pen, O.toD]) ?_)
  · show (if ([D.kl (ns.map D.int)] ++ []).length = 1 then outD (S__law_pen ([D.kl (ns.map D.int)] ++ [])) _ else .no) = _
    rw [if_pos (show ([D.kl (ns.map D.int)] ++ ([] : List D)).length = 1 from rfl)]
    show outD (S__law_pen [D.kl (ns.map D.int)]) _ = _
    rw [ep]; rfl
  refine wp_seq (wp_setB iv_vals (by simp [cD, O.toD]) ?_)
  have p0 : PenOk (4 * 30 + 20 * 20) (pen cs 0 0) := ⟨cs, 0, 0, rfl, by decide, by decide, by decide⟩
  refine wp_seq (wp_for (ds := vals) (ρ1 := env (.kl (ns.map D.int)) (pen cs 0 0) (.val (.lst vals)) .un .un .un .un .un .un .un .un .un .un .un .un)
    (fun i ρ => ∃ o b3 b4 b5 b6 b7 b8 b9 b10 b11, PenOk (4 * (30 - i) + 20 * 20) o ∧ ρ = env (.kl (ns.map D.int)) o (.val (.lst vals)) b3 b4 b5 b6 b7 b8 b9 b10 b11 .un .un .un) rfl ⟨_, _, _, _, _, _, _, _, _, _, p0, rfl⟩ (fun i hi ρ hI => ?_) (fun ρ hI => ?_))
  · obtain ⟨o, b3, b4, b5, b6, b7, b8, b9, b10, b11, hp, rfl⟩ := hI
    have hi : i < 30 := hi
    refine ⟨_, rfl, ?_⟩
    refine wp_mono (body_ok (n := 4 * (30 - (i + 1)) + 20 * 20) (vals_dom _ (List.getElem_mem hi)) (hp.mono (by omega))) fun fl ρ' h => ?_
    obtain ⟨h1, o', b4, b5, b6, b7, b8, b9, b10, b11, hp', rfl⟩ := h
    exact ⟨.inl h1, o', _, _, _, _, _, _, _, _, _, hp', rfl⟩
  · obtain ⟨o, b3, b4, b5, b6, b7, b8, b9, b10, b11, hp, rfl⟩ := hI
    have hr : iRng1 (dCons (dC (.int 20)) (dNil)) (env (.kl (ns.map D.int)) o (.val (.lst vals)) b3 b4 b5 b6 b7 b8 b9 b10 b11 .un .un .un) = .ok (rngD 0 20) (env (.kl (ns.map D.int)) o (.val (.lst vals)) b3 b4 b5 b6 b7 b8 b9 b10 b11 .un .un .un) := ii_rng1 is_c (by decide) (by decide)
    refine wp_seq (wp_for (ds := rngD 0 20) (fun i ρ => ∃ o b14 b15, PenOk (20 * (20 - i)) o ∧ ρ = env (.kl (ns.map D.int)) o (.val (.lst vals)) b3 b4 b5 b6 b7 b8 b9 b10 b11 b14 b15 .un) hr ⟨_, _, _, hp.mono (by omega), rfl⟩ (fun i hi ρ hI => ?_) (fun ρ hI => ?_))
    · obtain ⟨o, b14, b15, hp, rfl⟩ := hI
      have hi : i < 20 := hi
      refine ⟨_, rfl, ?_⟩
      refine wp_mono (word_ok (n := 20 * (20 - (i + 1))) (b14 := .val ((rngD 0 20)[i])) (hp.mono (by omega))) fun fl ρ' h => ?_
      obtain ⟨h1, o', b15, hp', rfl⟩ := h
      exact ⟨.inl h1, o', _, _, hp', rfl⟩
    · obtain ⟨o, b14, b15, hp, rfl⟩ := hI
      have e := end_ok (s := .kl (ns.map D.int)) (o := o) (b2 := .val (.lst vals)) (b3 := b3) (b4 := b4) (b5 := b5) (b6 := b6) (b7 := b7) (b8 := b8) (b9 := b9) (b10 := b10) (b11 := b11) (b14 := b14) (b15 := b15) (b17 := .un)
      unfold gE gC1 gC2 at e
      simp only [seqK]
      exact e
end Law
namespace Law
open PySem PySem.Spec PyProof.Rows L2 Dl
def df_fixed : He.DefD := ⟨("fixed", none), "fixed", "fixed", defArgs sd_fixed, defBody sd_fixed, defScope sd_fixed, [], []⟩
def df_Paper_uinitu : He.DefD := ⟨("Paper", some "__init__"), "__init__", "Paper.__init__", defArgs sd_Paper_uinitu, defBody sd_Paper_uinitu, defScope sd_Paper_uinitu, [], []⟩
def df__law_draw : He.DefD := ⟨("_law_draw", none), "_law_draw", "_law_draw", defArgs sd__law_draw, defBody sd__law_draw, defScope sd__law_draw, [], []⟩
def df__law_is_name : He.DefD := ⟨("_law_is_name", none), "_law_is_name", "_law_is_name", defArgs sd__law_is_name, defBody sd__law_is_name, defScope sd__law_is_name, [], []⟩
def df__law_pen : He.DefD := ⟨("_law_pen", none), "_law_pen", "_law_pen", defArgs sd__law_pen, defBody sd__law_pen, defScope sd__law_pen, [], []⟩
def df__law_pick : He.DefD := ⟨("_law_pick", none), "_law_pick", "_law_pick", defArgs sd__law_pick, defBody sd__law_pick, defScope sd__law_pick, [], []⟩
def df_is_listed : He.DefD := ⟨("is_listed", none), "is_listed", "is_listed", defArgs sd_is_listed, defBody sd_is_listed, defScope sd_is_listed, [.int 0, .non], []⟩
def df_is_name : He.DefD := ⟨("is_name", none), "is_name", "is_name", defArgs sd_is_name, defBody sd_is_name, defScope sd_is_name, [], []⟩
def df_are_names : He.DefD := ⟨("are_names", none), "are_names", "are_names", defArgs sd_are_names, defBody sd_are_names, defScope sd_are_names, [.int 0, .non], []⟩
def df_is_integer : He.DefD := ⟨("is_integer", none), "is_integer", "is_integer", defArgs sd_is_integer, defBody sd_is_integer, defScope sd_is_integer, [], []⟩
def df_is_within : He.DefD := ⟨("is_within", none), "is_within", "is_within", defArgs sd_is_within, defBody sd_is_within, defScope sd_is_within, [], []⟩
def df_law : He.DefD := ⟨("law", none), "law", "law", defArgs sd_law, defBody sd_law, defScope sd_law, [], []⟩
def fn : List He.DefD := [df_fixed, df_Paper_uinitu, df__law_draw, df__law_is_name, df__law_pen, df__law_pick, df_is_listed, df_is_name, df_are_names, df_is_integer, df_is_within, df_law]
def fa : List He.Fa := [.glo "fixed", .glo "_law_draw", .glo "_law_is_name", .glo "_law_pen", .glo "_law_pick", .glo "is_listed", .glo "is_name", .glo "are_names", .glo "is_integer", .glo "is_within", .glo "law", .glo "Paper", .mkr "Paper", .free "abs", .free "all", .free "bool", .free "int", .free "isinstance", .free "len", .free "list", .free "range", .free "repr", .free "str", .free "tuple", .free "zip", .str "LETTERS" "abcdefghijklmnopqrstuvwxyz"]
def exs (K : PySem.W.Frag) : List Bool := [(ci.all fun q => instB K (ca K q.1)), (ci.all fun q => kitB2 K q.1 ["bool"] q.2), (ci.all fun q => kitB2 K q.1 ["int"] q.2), (ci.all fun q => kitB2 K q.1 ["list", "tuple"] q.2), (ci.all fun q => kitB2 K q.1 ["str"] q.2), (ci.all fun q => kitB2 K q.1 ["tuple"] q.2), (cs_parts.all fun C => He.eqO (PySem.W.findIn K (.ref (ca K C)) "parts") (some none)), (cs_word.all fun C => He.eqO (PySem.W.findIn K (.ref (ca K C)) "word") (some none))]
def exF (K : PySem.W.Frag) : Bool := (exs K).all id
abbrev Rw : PySem.W.OpenRow := PySem.W.OpenLaw.row PySem.Challenge.rw_pastsayings_k01_kinds_of_values
abbrev hk : PySem.W.Hook := hookQ 6 fa fn exF
def ob (s : PySem.W.SharedT) : He.AlD × Bool := allFacts 6 fa fn exF (HandSHeadRun.getT s)
theorem ob_eq (s : PySem.W.SharedT) : ob s = hk.obs s.abs := allFacts_eq (HandSHeadRun.getT_eq s)
def loose : List PySem.Str := (["LETTERS", "is_integer", "is_within", "is_listed", "is_name", "are_names", "fixed", "are_alike", "Paper", "_law_pen", "_law_draw", "_law_pick", "_law_is_name"] : List String).map PySem.Str.ofString
set_option maxHeartbeats 0 in
theorem run (w : World) : HandSHeadRun.RunEq Rw (PySem.W.view Rw.prog [16]) hk ob 4000 loose w := by
  intro os
  kernel_rfl
theorem facts {P : Program} {w : World} {K : PySem.W.Frag} {h : Heap} {mg : Str → Option Value} (X : K.In h) (G : h.Ns mainGlobals mg) (hc : He.SaysD fa fn K) (hx : exF K = true) : Nonempty (Fs P w K mg) := by
  obtain ⟨d_fixed, F_fixed⟩ := hc.def_ 0 (d := df_fixed) rfl
  obtain ⟨d_Paper_uinitu, F_Paper_uinitu⟩ := hc.def_ 1 (d := df_Paper_uinitu) rfl
  obtain ⟨d__law_draw, F__law_draw⟩ := hc.def_ 2 (d := df__law_draw) rfl
  obtain ⟨d__law_is_name, F__law_is_name⟩ := hc.def_ 3 (d := df__law_is_name) rfl
  obtain ⟨d__law_pen, F__law_pen⟩ := hc.def_ 4 (d := df__law_pen) rfl
  obtain ⟨d__law_pick, F__law_pick⟩ := hc.def_ 5 (d := df__law_pick) rfl
  obtain ⟨d_is_listed, F_is_listed⟩ := hc.def_ 6 (d := df_is_listed) rfl
  obtain ⟨d_is_name, F_is_name⟩ := hc.def_ 7 (d := df_is_name) rfl
  obtain ⟨d_are_names, F_are_names⟩ := hc.def_ 8 (d := df_are_names) rfl
  obtain ⟨d_is_integer, F_is_integer⟩ := hc.def_ 9 (d := df_is_integer) rfl
  obtain ⟨d_is_within, F_is_within⟩ := hc.def_ 10 (d := df_is_within) rfl
  obtain ⟨d_law, F_law⟩ := hc.def_ 11 (d := df_law) rfl
  have e0 : (ci.all fun q => instB K (ca K q.1)) = true := List.all_eq_true.mp hx _ (List.mem_of_getElem? (l := exs K) (i := 0) rfl)
  have e1 : (ci.all fun q => kitB2 K q.1 ["bool"] q.2) = true := List.all_eq_true.mp hx _ (List.mem_of_getElem? (l := exs K) (i := 1) rfl)
  have e2 : (ci.all fun q => kitB2 K q.1 ["int"] q.2) = true := List.all_eq_true.mp hx _ (List.mem_of_getElem? (l := exs K) (i := 2) rfl)
  have e3 : (ci.all fun q => kitB2 K q.1 ["list", "tuple"] q.2) = true := List.all_eq_true.mp hx _ (List.mem_of_getElem? (l := exs K) (i := 3) rfl)
  have e4 : (ci.all fun q => kitB2 K q.1 ["str"] q.2) = true := List.all_eq_true.mp hx _ (List.mem_of_getElem? (l := exs K) (i := 4) rfl)
  have e5 : (ci.all fun q => kitB2 K q.1 ["tuple"] q.2) = true := List.all_eq_true.mp hx _ (List.mem_of_getElem? (l := exs K) (i := 5) rfl)
  have e6 : (cs_parts.all fun C => He.eqO (PySem.W.findIn K (.ref (ca K C)) "parts") (some none)) = true := List.all_eq_true.mp hx _ (List.mem_of_getElem? (l := exs K) (i := 6) rfl)
  have e7 : (cs_word.all fun C => He.eqO (PySem.W.findIn K (.ref (ca K C)) "word") (some none)) = true := List.all_eq_true.mp hx _ (List.mem_of_getElem? (l := exs K) (i := 7) rfl)
  exact ⟨{
    d_fixed := d_fixed
    F_fixed := F_fixed
    g_fixed := He.glo_ok X G (hc.fact 0 (f := .glo "fixed") rfl)
    d_Paper_uinitu := d_Paper_uinitu
    F_Paper_uinitu := F_Paper_uinitu
    d__law_draw := d__law_draw
    F__law_draw := F__law_draw
    g__law_draw := He.glo_ok X G (hc.fact 1 (f := .glo "_law_draw") rfl)
    d__law_is_name := d__law_is_name
    F__law_is_name := F__law_is_name
    g__law_is_name := He.glo_ok X G (hc.fact 2 (f := .glo "_law_is_name") rfl)
    d__law_pen := d__law_pen
    F__law_pen := F__law_pen
    g__law_pen := He.glo_ok X G (hc.fact 3 (f := .glo "_law_pen") rfl)
    d__law_pick := d__law_pick
    F__law_pick := F__law_pick
    g__law_pick := He.glo_ok X G (hc.fact 4 (f := .glo "_law_pick") rfl)
    d_is_listed := d_is_listed
    F_is_listed := F_is_listed
    g_is_listed := He.glo_ok X G (hc.fact 5 (f := .glo "is_listed") rfl)
    d_is_name := d_is_name
    F_is_name := F_is_name
    g_is_name := He.glo_ok X G (hc.fact 6 (f := .glo "is_name") rfl)
    d_are_names := d_are_names
    F_are_names := F_are_names
    g_are_names := He.glo_ok X G (hc.fact 7 (f := .glo "are_names") rfl)
    d_is_integer := d_is_integer
    F_is_integer := F_is_integer
    g_is_integer := He.glo_ok X G (hc.fact 8 (f := .glo "is_integer") rfl)
    d_is_within := d_is_within
    F_is_within := F_is_within
    g_is_within := He.glo_ok X G (hc.fact 9 (f := .glo "is_within") rfl)
    d_law := d_law
    F_law := F_law
    g_law := He.glo_ok X G (hc.fact 10 (f := .glo "law") rfl)
    g_Paper := He.glo_ok X G (hc.fact 11 (f := .glo "Paper") rfl)
    k_Paper := He.mkr_ok (hc.fact 12 (f := .mkr "Paper") rfl)
    n_abs := He.free_ok X G (hc.fact 13 (f := .free "abs") rfl)
    n_all := He.free_ok X G (hc.fact 14 (f := .free "all") rfl)
    n_bool := He.free_ok X G (hc.fact 15 (f := .free "bool") rfl)
    n_int := He.free_ok X G (hc.fact 16 (f := .free "int") rfl)
    n_isinstance := He.free_ok X G (hc.fact 17 (f := .free "isinstance") rfl)
    n_len := He.free_ok X G (hc.fact 18 (f := .free "len") rfl)
    n_list := He.free_ok X G (hc.fact 19 (f := .free "list") rfl)
    n_range := He.free_ok X G (hc.fact 20 (f := .free "range") rfl)
    n_repr := He.free_ok X G (hc.fact 21 (f := .free "repr") rfl)
    n_str := He.free_ok X G (hc.fact 22 (f := .free "str") rfl)
    n_tuple := He.free_ok X G (hc.fact 23 (f := .free "tuple") rfl)
    n_zip := He.free_ok X G (hc.fact 24 (f := .free "zip") rfl)
    t_LETTERS := He.str_ok X G (hc.fact 25 (f := .str "LETTERS" "abcdefghijklmnopqrstuvwxyz") rfl)
    ki_bool := cls_facts (p := fun C k => Inst K (ca K C) ∧ PySem.W.kitAny K (.ref (ca K C)) (["bool"].map Value.type) = some k) fun q hq => ⟨inst_of (List.all_eq_true.mp e0 q hq), of_decide_eq_true (List.all_eq_true.mp e1 q hq)⟩
    ki_int := cls_facts (p := fun C k => Inst K (ca K C) ∧ PySem.W.kitAny K (.ref (ca K C)) (["int"].map Value.type) = some k) fun q hq => ⟨inst_of (List.all_eq_true.mp e0 q hq), of_decide_eq_true (List.all_eq_true.mp e2 q hq)⟩
    ki_list_tuple := cls_facts (p := fun C k => Inst K (ca K C) ∧ PySem.W.kitAny K (.ref (ca K C)) (["list", "tuple"].map Value.type) = some k) fun q hq => ⟨inst_of (List.all_eq_true.mp e0 q hq), of_decide_eq_true (List.all_eq_true.mp e3 q hq)⟩
    ki_str := cls_facts (p := fun C k => Inst K (ca K C) ∧ PySem.W.kitAny K (.ref (ca K C)) (["str"].map Value.type) = some k) fun q hq => ⟨inst_of (List.all_eq_true.mp e0 q hq), of_decide_eq_true (List.all_eq_true.mp e4 q hq)⟩
    ki_tuple := cls_facts (p := fun C k => Inst K (ca K C) ∧ PySem.W.kitAny K (.ref (ca K C)) (["tuple"].map Value.type) = some k) fun q hq => ⟨inst_of (List.all_eq_true.mp e0 q hq), of_decide_eq_true (List.all_eq_true.mp e5 q hq)⟩
    f_parts := fun C hC => fld_of (inst_of (by have := List.all_eq_true.mp e0 (C, false) (by revert hC; simp [cs_parts, ci])  ; exact this)) (List.all_eq_true.mp e6 C hC)
    f_word := fun C hC => fld_of (inst_of (by have := List.all_eq_true.mp e0 (C, false) (by revert hC; simp [cs_word, ci])  ; exact this)) (List.all_eq_true.mp e7 C hC) }⟩
end Law
open PySem PySem.W PySem.Calls PyProof.Rows
set_option maxHeartbeats 0 in
theorem PySem.Challenge.cw_pastsayings_k01_kinds_of_values_holds : PySem.Challenge.rw_pastsayings_k01_kinds_of_values.Holds := by
  w_on; o_law
  refine HandSHeadRun.head_any (r := OpenLaw.row PySem.Challenge.rw_pastsayings_k01_kinds_of_values) (q := view (OpenLaw.row PySem.Challenge.rw_pastsayings_k01_kinds_of_values).prog [16]) (H := Law.hk) (ob := Law.ob) (M := 4000) (loose := Law.loose) (d := HandSHeadRun.topDef (OpenLaw.row PySem.Challenge.rw_pastsayings_k01_kinds_of_values).prog 16) (kwd := []) Law.ob_eq
    (by kernel_rfl) (fun s => by kernel_rfl) Law.run (by kernel_rfl) (by kernel_rfl) (by kernel_rfl) (by rfl) (by first | assumption | decide +kernel) (by decide +kernel) ⟨rfl, rfl, rfl, rfl, rfl, by decide +kernel⟩ ?hw ?hc
  case hw => w_witness2
  case hc =>
    refine Dl.walk_ofQ (l := PySem.Challenge.rw_pastsayings_k01_kinds_of_values) (n := 63) (k := 44) (x := "script") rfl (by decide) (by kernel_rfl) ⟨rfl, by decide, by decide⟩ fun w mg fa h Y G hmg0 => ?_
    obtain ⟨K, KX, c, ex⟩ := Y
    have hmg : mg ("law" : PySem.Str) = some (.ref fa) := by
      have e : (HandSHeadRun.topDef (OpenLaw.row PySem.Challenge.rw_pastsayings_k01_kinds_of_values).prog 16).name = ("law" : PySem.Str) := by kernel_rfl
      rw [← e]
      exact hmg0
    obtain ⟨cc⟩ := Law.facts (P := (PySem.Challenge.rw_pastsayings_k01_kinds_of_values).prog) (w := w) KX G c ex
    have e := hmg.symm.trans cc.g_law
    cases e
    exact ⟨K, cc.d_law, Law.S_law, KX, fun s v => L2.FunD.bindsA (ps := (["script"] : List PySem.Str)) cc.F_law (fun _ _ _ _ _ _ us hl => match us, hl with | [_], _ => rfl) s [v] rfl, Law.law_true, fun base => Law.ok_law cc⟩

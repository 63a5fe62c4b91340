import PyProof.Rows.All
import Wide.All
import OpenK.AllK
import Wide.FinOn
import HandS.Base
import HandS.Call
import HandS.List
import HandS.Comp
import HandS.Ends
import HandS.Dict
import HandS.Iter
import HandS.Text
import HandS.Words
import HandS.SortInts
import HandS.Exc
import HandS.Lambda
import HandS.TupLe
import HandS.Deep
import HandS.TupAny
import HandS.IsInst
import HandS.Walk
import HandS.Style
import HandS.Conv
import HandS.More
import HandS.ExcCtx
import HandS.CallSlots
import HandS.Zip
import HandS.Small
import HandS.TryOnly
import HandS.WordsExc
import HandS.Defaults
import KE.GoesMore
import KE.GoesEnum
import KE.GoesZip
import HandS.Hot
import HandS.HotCalls
import HandS.ExcIs
import HandS.ExcOwn
import HandS.HeadWalk
import HandS.NestedK
import KE.KStateDown
import HandS.Head0
import HandS.Head1
import HandS.Head2
import HandS.HeadEnd
import HandS.HeadHook1
import HandS.HeadHook2
import HandS.HeadHook4
import PySem.Challenge.RW_clockcards_k25_errors_of_weeks_and_limit
set_option Elab.async false
set_option linter.all false
set_option maxRecDepth 100000
set_option maxHeartbeats 0
/-! data trees over the abstract heap -/
namespace DL
open PySem PySem.Spec PyProof.Rows L2

/-- the tables of code objects, by the names that they bear -/
class TB where
  T : List (Addr × Str)
variable [TB]
abbrev Tbs (H : Hp) : Prop := LamX.Tabs TB.T H
/-- data as a tree -/
inductive D where
  | non | bl (b : Bool) | int (i : Int) | str (x : Str)
  | tup (ds : List D) | ktup (ds : List D) | lst (ds : List D)
  | dK (kvs : List (Key × D)) | dT (kvs : List (List Key × D))
  | fn (j : Nat)

abbrev AP' := Addr → Prop

/-- a tuple of the written part -/
def KTup (K : PySem.W.Frag) (a : Addr) (xs : List V) : Prop :=
  ∃ (o : Obj) (its : Array Value) (n : Nat), K.lookup a = some o ∧ o.cls = .type "tuple" ∧ o.data = .seq its n ∧ its.size ≤ sizeLine ∧ Vals xs its.toList

variable (K : PySem.W.Frag) (fa : Nat → Option Addr)
mutual
inductive Rep (H : Hp) (F : AP') : V → D → Prop
  | non : Rep H F .non .non
  | bl (b : Bool) : Rep H F (.bl b) (.bl b)
  | int (i : Int) : Rep H F (.int i) (.int i)
  | str (x : Str) : Rep H F (.str x) (.str x)
  | tup {a : Addr} {xs : List V} {ds : List D} : H a = some (.tup xs) → RepL H F xs ds → Rep H F (.ref a) (.tup ds)
  | ktup {a : Addr} {xs : List V} {ds : List D} : KTup K a xs → RepL H F xs ds → Rep H F (.ref a) (.ktup ds)
  | lst {a : Addr} {xs : List V} {ds : List D} : F a → Rd H a (.lst xs) → RepL H F xs ds → Rep H F (.ref a) (.lst ds)
  | dK {a : Addr} {kvs : List (Key × V)} {kds : List (Key × D)} : F a → Rd H a (.dK kvs) → kvs.map Prod.fst = kds.map Prod.fst → RepL H F (kvs.map Prod.snd) (kds.map Prod.snd) → Rep H F (.ref a) (.dK kds)
  | dT {a : Addr} {kvs : List (List Key × V)} {kds : List (List Key × D)} : F a → Rd H a (.dT kvs) → kvs.map Prod.fst = kds.map Prod.fst → RepL H F (kvs.map Prod.snd) (kds.map Prod.snd) → Rep H F (.ref a) (.dT kds)
  | fn {j : Nat} {a : Addr} : fa j = some a → Rep H F (.ref a) (.fn j)
inductive RepL (H : Hp) (F : AP') : List V → List D → Prop
  | nil : RepL H F [] []
  | cons {v : V} {vs : List V} {d : D} {ds : List D} : Rep H F v d → RepL H F vs ds → RepL H F (v :: vs) (d :: ds)
end

variable {K : PySem.W.Frag} {fa : Nat → Option Addr}
section
variable {H H' : Hp} {F F' : AP'}
/-- what readings lean on stands -/
structure Stays (H : Hp) (F : AP') (H' : Hp) (F' : AP') : Prop where
  tup : ∀ a xs, H a = some (.tup xs) → H' a = some (.tup xs)
  rd : ∀ a u, F a → (∀ ps, u ≠ .tbl ps) → Rd H a u → Rd H' a u
  fr : ∀ a, F a → F' a
  fz : ∀ a ob u, H a = some (.frz ob u) → H' a = some (.frz ob u)
mutual
theorem Rep.stays (s : Stays H F H' F') : ∀ {v : V} {d : D}, Rep K fa H F v d → Rep K fa H' F' v d
  | _, _, .non => .non
  | _, _, .bl b => .bl b
  | _, _, .int i => .int i
  | _, _, .str x => .str x
  | _, _, .tup h r => .tup (s.tup _ _ h) (RepL.stays s r)
  | _, _, .ktup h r => .ktup h (RepL.stays s r)
  | _, _, .lst f h r => .lst (s.fr _ f) (s.rd _ _ f (fun _ z => by cases z) h) (RepL.stays s r)
  | _, _, .dK f h e r => .dK (s.fr _ f) (s.rd _ _ f (fun _ z => by cases z) h) e (RepL.stays s r)
  | _, _, .dT f h e r => .dT (s.fr _ f) (s.rd _ _ f (fun _ z => by cases z) h) e (RepL.stays s r)
  | _, _, .fn h => .fn h
theorem RepL.stays (s : Stays H F H' F') : ∀ {v : List V} {d : List D}, RepL K fa H F v d → RepL K fa H' F' v d
  | _, _, .nil => .nil
  | _, _, .cons h r => .cons (Rep.stays s h) (RepL.stays s r)
end
theorem RepL.length : ∀ {vs : List V} {ds : List D}, RepL K fa H F vs ds → vs.length = ds.length
  | _, _, .nil => rfl
  | _, _, .cons _ r => by rw [List.length_cons, List.length_cons, RepL.length r]
theorem RepL.get : ∀ {vs : List V} {ds : List D} {i : Nat} {d : D}, RepL K fa H F vs ds → ds[i]? = some d → ∃ v, vs[i]? = some v ∧ Rep K fa H F v d
  | _, _, _, _, .nil, e => by simp at e
  | _, _, 0, _, .cons h _, e => by simp at e; subst e; exact ⟨_, rfl, h⟩
  | _, _, i + 1, _, .cons _ r, e => by
    obtain ⟨v, h1, h2⟩ := RepL.get (i := i) r (by simpa using e)
    exact ⟨v, by simpa using h1, h2⟩
theorem RepL.get' : ∀ {vs : List V} {ds : List D} {i : Nat} {v : V}, RepL K fa H F vs ds → vs[i]? = some v → ∃ d, ds[i]? = some d ∧ Rep K fa H F v d
  | _, _, _, _, .nil, e => by simp at e
  | _, _, 0, _, .cons h _, e => by simp at e; subst e; exact ⟨_, rfl, h⟩
  | _, _, i + 1, _, .cons _ r, e => by
    obtain ⟨v, h1, h2⟩ := RepL.get' (i := i) r (by simpa using e)
    exact ⟨v, by simpa using h1, h2⟩
theorem RepL.append : ∀ {vs ws : List V} {ds es : List D}, RepL K fa H F vs ds → RepL K fa H F ws es → RepL K fa H F (vs ++ ws) (ds ++ es)
  | _, _, _, _, .nil, s => s
  | _, _, _, _, .cons h r, s => .cons h (RepL.append r s)
theorem RepL.take : ∀ {vs : List V} {ds : List D} (n : Nat), RepL K fa H F vs ds → RepL K fa H F (vs.take n) (ds.take n)
  | _, _, 0, _ => .nil
  | _, _, _ + 1, .nil => .nil
  | _, _, n + 1, .cons h r => .cons h (RepL.take n r)
theorem RepL.drop : ∀ {vs : List V} {ds : List D} (n : Nat), RepL K fa H F vs ds → RepL K fa H F (vs.drop n) (ds.drop n)
  | _, _, 0, r => r
  | _, _, _ + 1, .nil => .nil
  | _, _, n + 1, .cons _ r => RepL.drop n r
theorem RepL.set : ∀ {vs : List V} {ds : List D} (i : Nat) {v : V} {d : D}, RepL K fa H F vs ds → Rep K fa H F v d → RepL K fa H F (vs.set i v) (ds.set i d)
  | _, _, _, _, _, .nil, _ => .nil
  | _, _, 0, _, _, .cons _ r, h => .cons h r
  | _, _, i + 1, _, _, .cons h r, g => .cons h (RepL.set i r g)
theorem RepL.snoc {vs : List V} {ds : List D} {v : V} {d : D} (r : RepL K fa H F vs ds) (h : Rep K fa H F v d) : RepL K fa H F (vs ++ [v]) (ds ++ [d]) := r.append (.cons h .nil)
theorem RepL.reverse : ∀ {vs : List V} {ds : List D}, RepL K fa H F vs ds → RepL K fa H F vs.reverse ds.reverse
  | _, _, .nil => .nil
  | _, _, .cons h r => by rw [List.reverse_cons, List.reverse_cons]; exact (RepL.reverse r).snoc h
theorem RepL.rep_flat {k : Nat} {vs : List V} {ds : List D} (r : RepL K fa H F vs ds) : RepL K fa H F (List.replicate k vs).flatten (List.replicate k ds).flatten := by
  induction k with
  | zero => exact .nil
  | succ k ih => rw [List.replicate_succ, List.replicate_succ, List.flatten_cons, List.flatten_cons]; exact r.append ih
end

/-- a slot's content: data; a list or dict of this frame's own; one lent by the caller -/
inductive SV where
  | dat (d : D) | own (d : D) | bor (d : D)
abbrev Env' := List (Option SV)
def SV.d : SV → D
  | .dat d => d
  | .own d => d
  | .bor d => d
def SV.mine : SV → Bool
  | .dat _ => false
  | _ => true
def SV.lent : SV → Bool
  | .bor _ => true
  | _ => false

/-- the entries of a dict -/
def DRep {κ : Type} (K : PySem.W.Frag) (fa : Nat → Option Addr) (H : Hp) (F : AP') (kvs : List (κ × V)) (kds : List (κ × D)) : Prop :=
  kvs.map Prod.fst = kds.map Prod.fst ∧ RepL K fa H F (kvs.map Prod.snd) (kds.map Prod.snd)
/-- a thing that may be written: at a there stands d, its items frozen -/
inductive OwnAt (K : PySem.W.Frag) (fa : Nat → Option Addr) (H : Hp) (F : AP') (a : Addr) : D → Prop
  | lst {xs : List V} {ds : List D} : H a = some (.lst xs) → RepL K fa H F xs ds → OwnAt K fa H F a (.lst ds)
  | dK {kvs : List (Key × V)} {kds : List (Key × D)} : H a = some (.dK kvs) → DRep K fa H F kvs kds → OwnAt K fa H F a (.dK kds)
  | dT {kvs : List (List Key × V)} {kds : List (List Key × D)} : H a = some (.dT kvs) → DRep K fa H F kvs kds → OwnAt K fa H F a (.dT kds)

def RepS (K : PySem.W.Frag) (fa : Nat → Option Addr) (H : Hp) (F : AP') (v : V) : SV → Prop
  | .dat d => Rep K fa H F v d
  | .own d => ∃ a, v = .ref a ∧ ¬ F a ∧ OwnAt K fa H F a d
  | .bor d => ∃ a, v = .ref a ∧ ¬ F a ∧ OwnAt K fa H F a d

/-- the addresses that the slots own (or have on loan) -/
def Own (σ : L2.St) (ρ : Env') (a : Addr) : Prop := ∃ (i : Nat) (sv : SV), ρ[i]? = some (some sv) ∧ sv.mine = true ∧ σ[i]? = some (some (.ref a))
def Bor (σ : L2.St) (ρ : Env') (a : Addr) : Prop := ∃ (i : Nat) (sv : SV), ρ[i]? = some (some sv) ∧ sv.lent = true ∧ σ[i]? = some (some (.ref a))

structure EnvOk (K : PySem.W.Frag) (fa : Nat → Option Addr) (H : Hp) (F : AP') (σ : L2.St) (ρ : Env') : Prop where
  len : σ.length = ρ.length
  slot : ∀ (i : Nat) (sv : SV), ρ[i]? = some (some sv) → ∃ v, σ[i]? = some (some v) ∧ RepS K fa H F v sv
  apart : ∀ (i j : Nat) (sv sw : SV) (a : Addr), ρ[i]? = some (some sv) → ρ[j]? = some (some sw) → sv.mine = true → sw.mine = true → σ[i]? = some (some (.ref a)) → σ[j]? = some (some (.ref a)) → i = j
  fd : ∀ a, F a → H a ≠ none
  tb : Tbs H

/-- a dict -/
def dicO : HO → Prop
  | .dK _ => True
  | .dT _ => True
  | _ => False
/-- a step: what was not our own is kept (a frozen dict may be locked); what is newly frozen is new, or was our own and not lent -/
structure Step (H : Hp) (F O B : AP') (H' : Hp) (F' O' B' : AP') : Prop where
  keep : ∀ a o, H a = some o → ¬ O a → (∀ ps, o ≠ .tbl ps) → H' a = some o ∨ (F a ∧ dicO o ∧ ∃ ob, H' a = some (.frz ob o))
  fmono : ∀ a, F a → F' a
  fnew : ∀ a, F' a → F a ∨ H a = none ∨ (O a ∧ ¬ B a)
  onew : ∀ a, O' a → O a ∨ H a = none
  bor : ∀ a, B' a ↔ B a
  dom : ∀ a, H' a = none → H a = none
  tabs : Tbs H → Tbs H'

theorem Step.refl {H : Hp} {F O B : AP'} : Step H F O B H F O B :=
  ⟨fun _ _ h _ _ => .inl h, fun _ h => h, fun _ h => .inl h, fun _ h => .inl h, fun _ => Iff.rfl, fun _ h => h, fun h => h⟩
theorem Step.trans {H H1 H2 : Hp} {F F1 F2 O O1 O2 B B1 B2 : AP'} (s : Step H F O B H1 F1 O1 B1) (t : Step H1 F1 O1 B1 H2 F2 O2 B2) : Step H F O B H2 F2 O2 B2 where
  keep := fun a o h no nt => by
    have no1 : ¬ O1 a := fun z => by
      rcases s.onew a z with z | z
      · exact no z
      · rw [h] at z; cases z
    rcases s.keep a o h no nt with h1 | ⟨f, d, ob, h1⟩
    · rcases t.keep a o h1 no1 nt with h2 | ⟨f, d, ob, h2⟩
      · exact .inl h2
      · refine .inr ⟨?_, d, ob, h2⟩
        rcases s.fnew a f with f | f | ⟨f, _⟩
        · exact f
        · rw [h] at f; cases f
        · exact absurd f no
    · rcases t.keep a _ h1 no1 (fun _ z => by cases z) with h2 | ⟨_, d2, _⟩
      · exact .inr ⟨f, d, ob, h2⟩
      · exact d2.elim
  fmono := fun a h => t.fmono a (s.fmono a h)
  fnew := fun a h => by
    rcases t.fnew a h with h | h | ⟨h, nb⟩
    · exact s.fnew a h
    · exact .inr (.inl (s.dom a h))
    · rcases s.onew a h with h | h
      · exact .inr (.inr ⟨h, fun z => nb ((s.bor a).mpr z)⟩)
      · exact .inr (.inl h)
  onew := fun a h => by
    rcases t.onew a h with h | h
    · exact s.onew a h
    · exact .inr (s.dom a h)
  bor := fun a => (t.bor a).trans (s.bor a)
  dom := fun a h => s.dom a (t.dom a h)
  tabs := fun h => t.tabs (s.tabs h)

section
variable {H H' : Hp} {F F' O B O' B' : AP'} {σ : L2.St} {ρ : Env'}
theorem EnvOk.own_nf (ok : EnvOk K fa H F σ ρ) {a : Addr} (h : Own σ ρ a) : ¬ F a := by
  obtain ⟨i, sv, e, m, e2⟩ := h
  obtain ⟨v, e3, r⟩ := ok.slot i sv e
  rw [e2] at e3; cases e3
  cases sv with
  | dat d => cases m
  | own d => obtain ⟨b, eb, nf, _⟩ := r; cases eb; exact nf
  | bor d => obtain ⟨b, eb, nf, _⟩ := r; cases eb; exact nf
theorem OwnAt.some {a : Addr} {d : D} (h : OwnAt K fa H F a d) : ∃ o, H a = some o ∧ (∀ xs, o ≠ .tup xs) ∧ (∀ ob u, o ≠ .frz ob u) ∧ (∀ ps, o ≠ .tbl ps) ∧ ∀ b q, o ≠ LamX.CodeO b q := by
  cases h with
  | lst e _ => exact ⟨_, e, (by intro _ z; cases z), (by intro _ _ z; cases z), (by intro _ z; cases z), (by intro _ _ z; unfold LamX.CodeO at z; cases z)⟩
  | dK e _ => exact ⟨_, e, (by intro _ z; cases z), (by intro _ _ z; cases z), (by intro _ z; cases z), (by intro _ _ z; unfold LamX.CodeO at z; cases z)⟩
  | dT e _ => exact ⟨_, e, (by intro _ z; cases z), (by intro _ _ z; cases z), (by intro _ z; cases z), (by intro _ _ z; unfold LamX.CodeO at z; cases z)⟩
theorem EnvOk.own_at (ok : EnvOk K fa H F σ ρ) {a : Addr} (h : Own σ ρ a) : ∃ o, H a = some o ∧ (∀ xs, o ≠ .tup xs) ∧ (∀ ob u, o ≠ .frz ob u) ∧ (∀ ps, o ≠ .tbl ps) ∧ ∀ b q, o ≠ LamX.CodeO b q := by
  obtain ⟨i, sv, e, m, e2⟩ := h
  obtain ⟨v, e3, r⟩ := ok.slot i sv e
  rw [e2] at e3; cases e3
  cases sv with
  | dat d => cases m
  | own d => obtain ⟨b, eb, nf, q⟩ := r; cases eb; exact q.some
  | bor d => obtain ⟨b, eb, nf, q⟩ := r; cases eb; exact q.some
/-- readings stand through a step of ours -/
theorem Step.stays (ok : EnvOk K fa H F σ ρ) (s : Step H F (Own σ ρ) B H' F' O' B') : Stays H F H' F' where
  tup := fun a xs h => by
    have no : ¬ Own σ ρ a := fun z => by
      obtain ⟨o, e, n1, n2⟩ := ok.own_at z
      rw [e] at h; exact n1 _ (Option.some.inj h)
    rcases s.keep _ _ h no (fun _ z => by cases z) with h | ⟨_, d, _⟩
    · exact h
    · exact d.elim
  rd := fun a u f nt h => by
    have no : ¬ Own σ ρ a := fun z => ok.own_nf z f
    rcases h with h | ⟨ob, h⟩
    · rcases s.keep _ _ h no nt with h | ⟨_, _, ob, h⟩
      · exact .inl h
      · exact .inr ⟨ob, h⟩
    · rcases s.keep _ _ h no (fun _ z => by cases z) with h | ⟨_, d, _⟩
      · exact .inr ⟨ob, h⟩
      · exact d.elim
  fr := s.fmono
  fz := fun a ob u h => by
    have no : ¬ Own σ ρ a := fun z => by
      obtain ⟨o, e, n1, n2⟩ := ok.own_at z
      rw [e] at h; exact n2.1 _ _ (Option.some.inj h)
    rcases s.keep _ _ h no (fun _ z => by cases z) with h | ⟨_, d, _⟩
    · exact h
    · exact d.elim
end

/-! ### what comes out -/
/-- an exception: the class by its number, and its field -/
structure Exn where
  cls : Nat
  fld : Option D
inductive Res (α : Type) where
  | ok (a : α) (ρ : Env')
  | exc (x : Exn) (ρ : Env')
  | stuck
@[reducible] def Res.bind {α β : Type} (r : Res α) (g : α → Env' → Res β) : Res β := match r with
  | .ok a ρ => g a ρ
  | .exc x ρ => .exc x ρ
  | .stuck => .stuck

/-- an exception as it lies: EX says it of the class value, the dict and the heap -/
abbrev ExR := Exn → Value → Option Addr → Hp → Prop

/-- the result's own address is new and no slot's -/
def ResOk (K : PySem.W.Frag) (fa : Nat → Option Addr) (H0 H : Hp) (F : AP') (σ : L2.St) (ρ : Env') (v : V) (sv : SV) : Prop :=
  RepS K fa H F v sv ∧ match sv with
    | .dat _ => True
    | .own _ => ∃ a, v = .ref a ∧ H0 a = none ∧ ¬ Own σ ρ a
    | .bor _ => False

/-- behind an expression that began at H0, F0, ρ0 -/
def PostE (K : PySem.W.Frag) (fa : Nat → Option Addr) (EX : ExR) (W : WX) (σ : L2.St) (H0 : Hp) (F0 : AP') (ρ0 : Env') (r : Res SV) (Q : VK) : Prop := match r with
  | .ok sv ρ' => ∀ v H' F', Step H0 F0 (Own σ ρ0) (Bor σ ρ0) H' F' (Own σ ρ') (Bor σ ρ') → EnvOk K fa H' F' σ ρ' → ResOk K fa H0 H' F' σ ρ' v sv → Q v H'
  | .exc x ρ' => ∀ cls d H' F', Step H0 F0 (Own σ ρ0) (Bor σ ρ0) H' F' (Own σ ρ') (Bor σ ρ') → EnvOk K fa H' F' σ ρ' → EX x cls d H' → W cls d σ H'
  | .stuck => False
def tE (K : PySem.W.Frag) (fa : Nat → Option Addr) (EX : ExR) (W : WX) (f : Env' → Res SV) : TE := fun σ H Q => ∃ F ρ, EnvOk K fa H F σ ρ ∧ PostE K fa EX W σ H F ρ (f ρ) Q

theorem PE.weak {X : Cx} {e : Expr} {t t' : TE} (h : PE X e t) (w : ∀ σ H Q, t' σ H Q → t σ H Q) : PE X e t' := ⟨fun pins s σ H Q I hq => h.run pins s σ H Q I (w σ H Q hq)⟩
end DL

namespace DL
open PySem PySem.Spec PyProof.Rows L2
variable [TB]

/-! ### data as PyData -/
mutual
def D.py : D → PyData
  | .non => .none
  | .bl b => .bool b
  | .int i => .int i
  | .str x => .str x
  | .tup ds => .tuple (pyL ds)
  | .ktup ds => .tuple (pyL ds)
  | .lst ds => .list (pyL ds)
  | .dK _ => .dict []
  | .dT _ => .dict []
  | .fn _ => .dict []
def pyL : List D → List PyData
  | [] => []
  | d :: ds => d.py :: pyL ds
end
theorem pyL_map : ∀ ds : List D, pyL ds = ds.map D.py
  | [] => rfl
  | d :: ds => by rw [pyL, List.map_cons, pyL_map ds]

section
variable {K : PySem.W.Frag} {fa : Nat → Option Addr} {H : Hp} {F : AP'}
theorem KTup.sq {a : Addr} {xs : List V} (h : KTup K a xs) : SqT K H a xs := by
  obtain ⟨o, its, n, h1, h2, h3, h4, h5⟩ := h
  exact .inr ⟨o, its, n, h1, h2, h3, h4, h5⟩
mutual
theorem Rep.dp : ∀ {v : V} {d : D}, Rep K fa H F v d → d.py.canLay0 = true → Dp K H v d.py
  | _, _, .non, _ => .non
  | _, _, .bl b, _ => .bl b
  | _, _, .int i, _ => .int i
  | _, _, .str x, _ => .str x
  | _, _, .tup h r, c => .tup (.inl (.inl h)) (RepL.dp r (by simpa [D.py, PyData.canLay0] using c))
  | _, _, .ktup h r, c => .tup h.sq (RepL.dp r (by simpa [D.py, PyData.canLay0] using c))
  | _, _, .lst f h r, c => .lst (.inl h) (RepL.dp r (by simpa [D.py, PyData.canLay0] using c))
  | _, _, .dK _ _ _ _, c => by simp [D.py, PyData.canLay0] at c
  | _, _, .dT _ _ _ _, c => by simp [D.py, PyData.canLay0] at c
  | _, _, .fn _, c => by simp [D.py, PyData.canLay0] at c
theorem RepL.dp : ∀ {vs : List V} {ds : List D}, RepL K fa H F vs ds → PyData.canLayAll0 (pyL ds) = true → DpAll K H vs (pyL ds)
  | _, _, .nil, _ => .nil
  | _, _, .cons h r, c => by
    have c' := Bool.and_eq_true_iff.mp (by simpa [pyL, PyData.canLayAll0] using c)
    exact .cons (Rep.dp h c'.1) (RepL.dp r c'.2)
end

/-! ### what is read -/
/-- x reads as d: frozen, or a thing of our own -/
def RdF (K : PySem.W.Frag) (fa : Nat → Option Addr) (H : Hp) (F : AP') (x : V) (d : D) : Prop := Rep K fa H F x d ∨ ∃ a, x = .ref a ∧ OwnAt K fa H F a d
theorem RdF.dp {x : V} {d : D} (h : RdF K fa H F x d) (c : d.py.canLay0 = true) : Dp K H x d.py := by
  rcases h with h | ⟨a, rfl, h⟩
  · exact h.dp c
  · cases h with
    | lst e r => exact .lst (.inl (.inl e)) (r.dp (by simpa [D.py, PyData.canLay0] using c))
    | dK _ _ => simp [D.py, PyData.canLay0] at c
    | dT _ _ => simp [D.py, PyData.canLay0] at c
theorem RdF.int {x : V} {i : Int} (h : RdF K fa H F x (.int i)) : x = .int i := by
  rcases h with h | ⟨a, rfl, h⟩
  · cases h; rfl
  · cases h
theorem RdF.bl {x : V} {i : Bool} (h : RdF K fa H F x (.bl i)) : x = .bl i := by
  rcases h with h | ⟨a, rfl, h⟩
  · cases h; rfl
  · cases h
theorem RdF.non {x : V} (h : RdF K fa H F x .non) : x = .non := by
  rcases h with h | ⟨a, rfl, h⟩
  · cases h; rfl
  · cases h
theorem RdF.str {x : V} {i : Str} (h : RdF K fa H F x (.str i)) : x = .str i := by
  rcases h with h | ⟨a, rfl, h⟩
  · cases h; rfl
  · cases h
theorem RdF.tup {x : V} {ds : List D} (h : RdF K fa H F x (.tup ds)) : ∃ a xs, x = .ref a ∧ H a = some (.tup xs) ∧ RepL K fa H F xs ds := by
  rcases h with h | ⟨a, rfl, h⟩
  · cases h with
    | tup e r => exact ⟨_, _, rfl, e, r⟩
  · cases h
theorem RdF.ktup {x : V} {ds : List D} (h : RdF K fa H F x (.ktup ds)) : ∃ a xs, x = .ref a ∧ KTup K a xs ∧ RepL K fa H F xs ds := by
  rcases h with h | ⟨a, rfl, h⟩
  · cases h with
    | ktup e r => exact ⟨_, _, rfl, e, r⟩
  · cases h
theorem RdF.fn {x : V} {j : Nat} (h : RdF K fa H F x (.fn j)) : ∃ a, x = .ref a ∧ fa j = some a := by
  rcases h with h | ⟨a, rfl, h⟩
  · cases h with
    | fn e => exact ⟨_, rfl, e⟩
  · cases h
theorem RdF.lst {x : V} {ds : List D} (h : RdF K fa H F x (.lst ds)) : ∃ a xs, x = .ref a ∧ Rd H a (.lst xs) ∧ RepL K fa H F xs ds := by
  rcases h with h | ⟨a, rfl, h⟩
  · cases h with
    | lst f e r => exact ⟨_, _, rfl, e, r⟩
  · cases h with
    | lst e r => exact ⟨a, _, rfl, .inl e, r⟩
theorem RdF.dK {x : V} {kds : List (Key × D)} (h : RdF K fa H F x (.dK kds)) : ∃ a kvs, x = .ref a ∧ Rd H a (.dK kvs) ∧ DRep K fa H F kvs kds := by
  rcases h with h | ⟨a, rfl, h⟩
  · cases h with
    | dK f e k r => exact ⟨_, _, rfl, e, k, r⟩
  · cases h with
    | dK e r => exact ⟨a, _, rfl, .inl e, r⟩
theorem RdF.dT {x : V} {kds : List (List Key × D)} (h : RdF K fa H F x (.dT kds)) : ∃ a kvs, x = .ref a ∧ Rd H a (.dT kvs) ∧ DRep K fa H F kvs kds := by
  rcases h with h | ⟨a, rfl, h⟩
  · cases h with
    | dT f e k r => exact ⟨_, _, rfl, e, k, r⟩
  · cases h with
    | dT e r => exact ⟨a, _, rfl, .inl e, r⟩
/-- a sequence of any kind -/
def D.seq? : D → Option (List D)
  | .tup ds => some ds
  | .ktup ds => some ds
  | .lst ds => some ds
  | _ => none
theorem RdF.seq {x : V} {d : D} {ds : List D} (h : RdF K fa H F x d) (e : d.seq? = some ds) : ∃ a xs, x = .ref a ∧ (SqL K H a xs ∨ SqT K H a xs) ∧ RepL K fa H F xs ds := by
  cases d with
  | tup es => cases e; obtain ⟨a, xs, h1, h2, h3⟩ := h.tup; exact ⟨a, xs, h1, .inr (.inl (.inl h2)), h3⟩
  | ktup es => cases e; obtain ⟨a, xs, h1, h2, h3⟩ := h.ktup; exact ⟨a, xs, h1, .inr h2.sq, h3⟩
  | lst es => cases e; obtain ⟨a, xs, h1, h2, h3⟩ := h.lst; exact ⟨a, xs, h1, .inl (.inl h2), h3⟩
  | _ => cases e

/-! ### look-ups in dicts -/
def lookD {κ : Type} [DecidableEq κ] (kds : List (κ × D)) (k : κ) : Option D := (kds.find? fun kv => decide (kv.1 = k)).map (·.2)
def putD {κ : Type} [DecidableEq κ] (kds : List (κ × D)) (k : κ) (d : D) : List (κ × D) :=
  if (kds.any fun kv => decide (kv.1 = k)) = true then kds.map (fun kv => if kv.1 = k then (kv.1, d) else kv) else kds ++ [(k, d)]
theorem DRep.look {κ : Type} [DecidableEq κ] : ∀ {kvs : List (κ × V)} {kds : List (κ × D)} (k : κ), DRep K fa H F kvs kds →
    (∃ v d, valV kvs k = some v ∧ lookD kds k = some d ∧ Rep K fa H F v d) ∨ (valV kvs k = none ∧ lookD kds k = none)
  | [], [], _, _ => .inr ⟨rfl, rfl⟩
  | [], _ :: _, _, h => by have := h.1; simp at this
  | _ :: _, [], _, h => by have := h.1; simp at this
  | p :: kvs, q :: kds, k, h => by
    obtain ⟨h1, h2⟩ := h
    simp only [List.map_cons, List.cons.injEq] at h1
    cases h2 with
    | cons hv hr =>
      by_cases e : p.1 = k
      · refine .inl ⟨p.2, q.2, valV_pos e, ?_, hv⟩
        simp [lookD, List.find?_cons, ← h1.1, e]
      · rcases DRep.look k (show DRep K fa H F kvs kds from ⟨h1.2, hr⟩) with ⟨v, d, a1, a2, a3⟩ | ⟨a1, a2⟩
        · refine .inl ⟨v, d, by rw [valV_neg e]; exact a1, ?_, a3⟩
          simpa [lookD, List.find?_cons, ← h1.1, e] using a2
        · refine .inr ⟨by rw [valV_neg e]; exact a1, ?_⟩
          simpa [lookD, List.find?_cons, ← h1.1, e] using a2
theorem DRep.length {κ : Type} {kvs : List (κ × V)} {kds : List (κ × D)} (h : DRep K fa H F kvs kds) : kvs.length = kds.length := by
  have := congrArg List.length h.1
  simpa using this
theorem drep_map {κ : Type} [DecidableEq κ] {k : κ} {v : V} {d : D} (hv : Rep K fa H F v d) : ∀ {kvs : List (κ × V)} {kds : List (κ × D)}, DRep K fa H F kvs kds →
    DRep K fa H F (kvs.map fun kv => if kv.1 = k then (kv.1, v) else kv) (kds.map fun kv => if kv.1 = k then (kv.1, d) else kv)
  | [], [], _ => ⟨rfl, .nil⟩
  | [], _ :: _, h => by have := h.1; simp at this
  | _ :: _, [], h => by have := h.1; simp at this
  | p :: kvs, q :: kds, h => by
    obtain ⟨h1, h2⟩ := h
    simp only [List.map_cons, List.cons.injEq] at h1
    cases h2 with
    | cons hp hr =>
      obtain ⟨g1, g2⟩ := drep_map (k := k) hv (show DRep K fa H F kvs kds from ⟨h1.2, hr⟩)
      by_cases e : p.1 = k
      · refine ⟨?_, ?_⟩
        · simp only [List.map_cons, ← h1.1, e, if_true, List.cons.injEq, true_and]; exact g1
        · simp only [List.map_cons, ← h1.1, e, if_true]; exact .cons hv g2
      · refine ⟨?_, ?_⟩
        · simp only [List.map_cons, ← h1.1, e, if_false, List.cons.injEq, true_and]; first | exact g1 | exact ⟨h1.1, g1⟩
        · simp only [List.map_cons, ← h1.1, e, if_false]; exact .cons hp g2
theorem drep_any {κ : Type} [DecidableEq κ] {k : κ} : ∀ {kvs : List (κ × V)} {kds : List (κ × D)}, kvs.map Prod.fst = kds.map Prod.fst → (kvs.any fun kv => decide (kv.1 = k)) = kds.any fun kv => decide (kv.1 = k)
  | [], [], _ => rfl
  | [], _ :: _, h => by simp at h
  | _ :: _, [], h => by simp at h
  | p :: kvs, q :: kds, h => by
    simp only [List.map_cons, List.cons.injEq] at h
    rw [List.any_cons, List.any_cons, h.1, drep_any h.2]
theorem DRep.put {κ : Type} [DecidableEq κ] {kvs : List (κ × V)} {kds : List (κ × D)} {k : κ} {v : V} {d : D} (h : DRep K fa H F kvs kds) (hv : Rep K fa H F v d) : DRep K fa H F (putK kvs k v) (putD kds k d) := by
  unfold putK putD
  rw [drep_any h.1]
  split
  · exact drep_map hv h
  · refine ⟨by simp [h.1], ?_⟩
    rw [List.map_append, List.map_append]
    exact h.2.append (.cons hv .nil)

/-! ### keys -/
def keyOf : D → Option Key
  | .int i => some (.inl i)
  | .str x => some (.inr x)
  | _ => none
theorem keyOf_ok {x : V} {d : D} {k : Key} (h : Rep K fa H F x d) (e : keyOf d = some k) : x = kV k := by
  cases h <;> first | (cases e; rfl) | cases e
def keysOf : List D → Option (List Key)
  | [] => some []
  | d :: ds => match keyOf d, keysOf ds with
    | some k, some ks => some (k :: ks)
    | _, _ => none
theorem keysOf_ok : ∀ {xs : List V} {ds : List D} {ks : List Key}, RepL K fa H F xs ds → keysOf ds = some ks → xs = ks.map kV
  | _, _, _, .nil, e => by cases e; rfl
  | _, _, _, .cons (d := d) (ds := ds) h r, e => by
    unfold keysOf at e
    split at e
    · rename_i k ks' e1 e2
      cases e
      rw [keyOf_ok h e1, keysOf_ok r e2]; rfl
    · cases e
end

/-! ### growing -/
structure Grow (H : Hp) (F : AP') (H' : Hp) (F' : AP') : Prop where
  keep : ∀ a o, H a = some o → (∀ ps, o ≠ .tbl ps) → H' a = some o ∨ (F a ∧ dicO o ∧ ∃ ob, H' a = some (.frz ob o))
  fmono : ∀ a, F a → F' a
  fnew : ∀ a, F' a → F a ∨ H a = none
  fd : ∀ a, F' a → H' a ≠ none
  dom : ∀ a, H' a = none → H a = none
  tabs : Tbs H → Tbs H'
theorem Grow.refl {H : Hp} {F : AP'} (fd : ∀ a, F a → H a ≠ none) : Grow H F H F := ⟨fun _ _ h _ => .inl h, fun _ h => h, fun _ h => .inl h, fd, fun _ h => h, fun h => h⟩
theorem Grow.step {H H' : Hp} {F F' O B : AP'} (g : Grow H F H' F') : Step H F O B H' F' O B :=
  ⟨fun a o h _ nt => g.keep a o h nt, g.fmono, fun a h => (g.fnew a h).elim .inl fun z => .inr (.inl z), fun _ h => .inl h, fun _ => Iff.rfl, g.dom, g.tabs⟩
theorem Grow.stays {H H' : Hp} {F F' : AP'} (g : Grow H F H' F') : Stays H F H' F' :=
  ⟨fun a xs h => (g.keep _ _ h (fun _ z => by cases z)).resolve_right fun z => z.2.1, fun a u _ nt h => h.elim (fun z => (g.keep _ _ z nt).elim .inl fun ⟨_, _, z⟩ => .inr z) fun ⟨o, z⟩ => .inr ⟨o, (g.keep _ _ z (fun _ z => by cases z)).resolve_right fun z => z.2.1⟩, g.fmono, fun a _ _ h => (g.keep _ _ h (fun _ z => by cases z)).resolve_right fun z => z.2.1⟩
/-- the tables stand where a thing that is no table and no code object is written -/
theorem tabs_upd {H : Hp} {a : Addr} {u o : HO} (t : Tbs H) (h : H a = some u) (n1 : ∀ ps, u ≠ .tbl ps) (n2 : ∀ q, u ≠ LamX.CodeO a q) : Tbs (upd H a o) := fun p hp => by
  obtain ⟨ps, h1, h2, h3⟩ := t p hp
  refine ⟨ps, by rw [upd_ne (fun z => n1 ps (by rw [z, h] at h1; exact Option.some.inj h1))]; exact h1, h2, fun pos cv hc => ?_⟩
  obtain ⟨c, e1, e2⟩ := h3 pos cv hc
  exact ⟨c, e1, by rw [upd_ne (fun z => n2 p.2 (by rw [z, h] at e2; have := Option.some.inj e2; rw [this]))]; exact e2⟩
section
variable {K : PySem.W.Frag} {fa : Nat → Option Addr} {H H' : Hp} {F F' : AP'} {σ : L2.St} {ρ : Env'}
theorem OwnAt.stays {a : Addr} {d : D} (h : OwnAt K fa H F a d) (e : H' a = H a) (s : Stays H F H' F') : OwnAt K fa H' F' a d := by
  cases h with
  | lst q r => exact .lst (e.trans q) (r.stays s)
  | dK q r => exact .dK (e.trans q) ⟨r.1, r.2.stays s⟩
  | dT q r => exact .dT (e.trans q) ⟨r.1, r.2.stays s⟩
theorem EnvOk.grow (ok : EnvOk K fa H F σ ρ) (g : Grow H F H' F') : EnvOk K fa H' F' σ ρ := by
  refine ⟨ok.len, fun i sv e => ?_, ok.apart, g.fd, g.tabs ok.tb⟩
  obtain ⟨v, e2, r⟩ := ok.slot i sv e
  refine ⟨v, e2, ?_⟩
  have far : ∀ a d, v = .ref a → ¬ F a → OwnAt K fa H F a d → ¬ F' a ∧ OwnAt K fa H' F' a d := fun a d _ nf q => by
    obtain ⟨o, ho, _, _, nt, _⟩ := q.some
    refine ⟨fun z => ?_, q.stays (((g.keep a o ho nt).resolve_right fun z => nf z.1).trans ho.symm) g.stays⟩
    rcases g.fnew a z with z | z
    · exact nf z
    · rw [ho] at z; cases z
  cases sv with
  | dat d => exact Rep.stays g.stays r
  | own d => obtain ⟨a, e3, nf, q⟩ := r; exact ⟨a, e3, far a d e3 nf q⟩
  | bor d => obtain ⟨a, e3, nf, q⟩ := r; exact ⟨a, e3, far a d e3 nf q⟩
/-- a new object -/
theorem Grow.new {p : Addr} {o : HO} (fd : ∀ a, F a → H a ≠ none) (hp : H p = none) : Grow H F (upd H p o) F :=
  ⟨fun a u h _ => by rw [upd_ne (ne_of_none h hp)]; exact .inl h, fun _ h => h, fun _ h => .inl h, fun a h z => by
    by_cases e : a = p
    · subst e; exact fd _ h hp
    · rw [upd_ne e] at z; exact fd _ h z, fun a h => by
    by_cases e : a = p
    · subst e; exact hp
    · rw [upd_ne e] at h; exact h, fun t => t.ext fun b u e => by rw [upd_ne (ne_of_none e hp)]; exact e⟩
theorem Grow.trans {H1 : Hp} {F1 : AP'} (a : Grow H F H1 F1) (b : Grow H1 F1 H' F') : Grow H F H' F' :=
  ⟨fun x o h nt => by
    rcases a.keep x o h nt with h1 | ⟨f, d, ob, h1⟩
    · rcases b.keep x o h1 nt with h2 | ⟨f1, d, ob, h2⟩
      · exact .inl h2
      · refine .inr ⟨(a.fnew x f1).resolve_right fun z => ?_, d, ob, h2⟩
        rw [h] at z; cases z
    · exact .inr ⟨f, d, ob, (b.keep x _ h1 (fun _ z => by cases z)).resolve_right fun z => z.2.1⟩, fun x h => b.fmono x (a.fmono x h), fun x h => (b.fnew x h).elim (a.fnew x) fun z => .inr (a.dom x z), b.fd, fun x h => a.dom x (b.dom x h), fun t => b.tabs (a.tabs t)⟩
end

/-- what an operation hands back: the heap has grown; the result reads as sv, a thing of one's own is new -/
def Made (K : PySem.W.Frag) (fa : Nat → Option Addr) (H : Hp) (F : AP') (sv : SV) (z : V) (H' : Hp) : Prop :=
  ∃ F', Grow H F H' F' ∧ RepS K fa H' F' z sv ∧ match sv with
    | .dat _ => True
    | .own _ => ∃ a, z = .ref a ∧ H a = none
    | .bor _ => False
section
variable {K : PySem.W.Frag} {fa : Nat → Option Addr} {H H' : Hp} {F F' : AP'}
theorem made_dat {z : V} {d : D} (fd : ∀ a, F a → H a ≠ none) (r : Rep K fa H F z d) : Made K fa H F (.dat d) z H := ⟨F, Grow.refl fd, r, trivial⟩
theorem made_tup {p : Addr} {xs : List V} {ds : List D} (fd : ∀ a, F a → H a ≠ none) (hp : H p = none) (r : RepL K fa H F xs ds) : Made K fa H F (.dat (.tup ds)) (.ref p) (upd H p (.tup xs)) :=
  ⟨F, Grow.new fd hp, .tup upd_same (r.stays (Grow.new fd hp).stays), trivial⟩
theorem made_lst {p : Addr} {xs : List V} {ds : List D} (fd : ∀ a, F a → H a ≠ none) (hp : H p = none) (r : RepL K fa H F xs ds) : Made K fa H F (.own (.lst ds)) (.ref p) (upd H p (.lst xs)) :=
  ⟨F, Grow.new fd hp, ⟨p, rfl, fun z => fd p z hp, .lst upd_same (r.stays (Grow.new fd hp).stays)⟩, p, rfl, hp⟩
theorem made_dK {p : Addr} {kvs : List (Key × V)} {kds : List (Key × D)} (fd : ∀ a, F a → H a ≠ none) (hp : H p = none) (r : DRep K fa H F kvs kds) : Made K fa H F (.own (.dK kds)) (.ref p) (upd H p (.dK kvs)) :=
  ⟨F, Grow.new fd hp, ⟨p, rfl, fun z => fd p z hp, .dK upd_same ⟨r.1, r.2.stays (Grow.new fd hp).stays⟩⟩, p, rfl, hp⟩
theorem made_dT {p : Addr} {kvs : List (List Key × V)} {kds : List (List Key × D)} (fd : ∀ a, F a → H a ≠ none) (hp : H p = none) (r : DRep K fa H F kvs kds) : Made K fa H F (.own (.dT kds)) (.ref p) (upd H p (.dT kvs)) :=
  ⟨F, Grow.new fd hp, ⟨p, rfl, fun z => fd p z hp, .dT upd_same ⟨r.1, r.2.stays (Grow.new fd hp).stays⟩⟩, p, rfl, hp⟩
end
end DL

namespace DL
open PySem PySem.Spec PyProof.Rows L2
variable [TB]

def Z24 : Nat := 16777216
theorem z24 : sizeLine = Z24 := sizeLine_eq

/-! ### operators -/
def binP (o : Operator) (d e : D) : Option SV := match o, d, e with
  | .Add, .int i, .int j => some (.dat (.int (i + j)))
  | .Add, .str x, .str y => if x.length + y.length ≤ Z24 then some (.dat (.str (x ++ y))) else none
  | .Add, .tup xs, .tup ys => if xs.length + ys.length ≤ Z24 then some (.dat (.tup (xs ++ ys))) else none
  | .Add, .lst xs, .lst ys => if xs.length + ys.length ≤ Z24 then some (.own (.lst (xs ++ ys))) else none
  | .Sub, .int i, .int j => some (.dat (.int (i - j)))
  | .Mult, .int i, .int j => if (-(2 ^ 64) < i ∧ i < 2 ^ 64) ∨ (-(2 ^ 64) < j ∧ j < 2 ^ 64) then some (.dat (.int (i * j))) else none
  | .FloorDiv, .int i, .int j => if j ≠ 0 ∧ j.natAbs < 1073741824 then some (.dat (.int (i.fdiv j))) else none
  | .Mod, .int i, .int j => if j ≠ 0 then some (.dat (.int (i.fmod j))) else none
  | .Pow, .int i, .int j => if 0 ≤ j ∧ j ≤ 1000000 ∧ i.natAbs < 2 ^ 64 then some (.dat (.int (i ^ j.toNat))) else none
  | .Add, .bl a, .int j => some (.dat (.int ((if a = true then 1 else 0) + j)))
  | _, _, _ => none

/-! ### comparisons -/
def eqD (d e : D) : Option Bool := if SeqAt.shaped d.py = true ∧ SeqAt.shaped e.py = true then some (PyData.eqv d.py e.py) else none
def memD (d : D) (ds : List D) : Option Bool := if SeqAt.shaped d.py = true ∧ SeqAt.shaped (.list (pyL ds)) = true then some ((pyL ds).any fun z => PyData.eqv z d.py) else none
def inP (d e : D) : Option Bool := match e with
  | .tup ds => memD d ds
  | .ktup ds => memD d ds
  | .lst ds => memD d ds
  | .str z => (match d with
    | .str x => if x.cps.size = 1 then some (decide (x.cps.getD 0 0 ∈ z.cps.toList)) else none
    | _ => none)
  | .dK kds => (keyOf d).map fun k => (lookD kds k).isSome
  | .dT kds => (match d with
    | .tup ks => (keysOf ks).map fun k => (lookD kds k).isSome
    | _ => none)
  | _ => none
def isP (d e : D) : Option Bool := match d, e with
  | .non, .non => some true
  | _, .non => some false
  | .bl a, .bl b => some (decide (a = b))
  | _, _ => none
def cmpP (o : CmpOp) (d e : D) : Option Bool := match o, d, e with
  | .Eq, d, e => eqD d e
  | .NotEq, d, e => (eqD d e).map not
  | .Lt, .int i, .int j => some (decide (i < j))
  | .LtE, .int i, .int j => some (decide (i ≤ j))
  | .Gt, .int i, .int j => some (decide (j < i))
  | .GtE, .int i, .int j => some (decide (j ≤ i))
  | .In, d, e => inP d e
  | .NotIn, d, e => (inP d e).map not
  | .Is, d, e => isP d e
  | .IsNot, d, e => (isP d e).map not
  | _, _, _ => none

section
variable {X : Cx} {fa : Nat → Option Addr} {F : AP'} {pins : List (Addr × Obj)} {s : Shared} {σ : L2.St} {H : Hp} {x y : V} {v u : Value} {Q : VK}

/-- the sum of two lists that are read -/
theorem op_catR : OpR X (binaryOp .Add) (fun x y H Q => ∃ l b xs zs, x = .ref l ∧ y = .ref b ∧ Rd H l (.lst xs) ∧ Rd H b (.lst zs) ∧ xs.length + zs.length ≤ sizeLine ∧ ∀ p, H p = none → Q (.ref p) (upd H p (.lst (xs ++ zs)))) := by
  rintro pins s σ H x y v u Q I rx ry ⟨l, b, xs, zs, rfl, rfl, h1, h2, hz, q⟩
  cases rx
  cases ry
  obtain ⟨_, us, n, r, e⟩ := h1.ok I.hok
  obtain ⟨_, ws, m, t, g⟩ := h2.ok I.hok
  have a1 := r.length
  have a2 := t.length
  refine PySem.P.add_list e g ?_ (by simp only [List.size_toArray]; omega)
  rw [show us.toArray ++ ws.toArray = (us ++ ws).toArray by simp]
  exact ⟨.ref _, _, I.lnew (t' := s.toks) (r.append t) (by simp only [List.length_append]; omega), rfl, q _ I.fresh⟩

theorem bin_ok {o : Operator} {d e : D} {sv : SV} (h : binP o d e = some sv) (I : Inv X pins σ H s) (rx : RelV x v) (ry : RelV y u) (hd : RdF X.K fa H F x d) (he : RdF X.K fa H F y e) (fd : ∀ a, F a → H a ≠ none)
    (q : ∀ z H', Made X.K fa H F sv z H' → Q z H') : wpAny (model X.prog X.w) X.A (binaryOp o v u) (EP X pins σ Q) X.xe s := by
  unfold binP at h
  split at h
  · cases h; cases hd.int; cases he.int
    exact op_add pins s σ H _ _ v u Q I rx ry ⟨_, _, rfl, rfl, q _ _ (made_dat fd (.int _))⟩
  · split at h
    · rename_i hl
      cases h; cases hd.str; cases he.str
      exact op_add_str pins s σ H _ _ v u Q I rx ry ⟨_, _, rfl, rfl, by rw [z24]; exact hl, q _ _ (made_dat fd (.str _))⟩
    · cases h
  · rename_i ds es
    split at h
    · rename_i hl
      cases h
      obtain ⟨a, xs, rfl, ha, ra⟩ := hd.tup
      obtain ⟨b, ys, rfl, hb, rb⟩ := he.tup
      refine op_catA pins s σ H _ _ v u Q I rx ry ⟨a, b, xs, ys, rfl, rfl, .inl (.inl ha), .inl (.inl hb), ?_, fun e1 => ?_, fun _ e2 => ?_, fun _ _ p hp => ?_⟩
      · rw [ra.length, rb.length, z24]; exact hl
      · subst e1
        cases ra
        exact q _ _ (made_dat fd (.tup hb rb))
      · subst e2
        cases rb
        rw [List.append_nil] at q
        exact q _ _ (made_dat fd (.tup ha ra))
      · exact q _ _ (made_tup fd hp (ra.append rb))
    · cases h
  · split at h
    · rename_i hl
      cases h
      obtain ⟨a, xs, rfl, ha, ra⟩ := hd.lst
      obtain ⟨b, ys, rfl, hb, rb⟩ := he.lst
      refine op_catR pins s σ H _ _ v u Q I rx ry ⟨a, b, xs, ys, rfl, rfl, ha, hb, ?_, fun p hp => ?_⟩
      · rw [ra.length, rb.length, z24]; exact hl
      · exact q _ _ (made_lst fd hp (ra.append rb))
    · cases h
  · cases h; cases hd.int; cases he.int
    exact op_sub pins s σ H _ _ v u Q I rx ry ⟨_, _, rfl, rfl, q _ _ (made_dat fd (.int _))⟩
  · split at h
    · rename_i hl
      cases h; cases hd.int; cases he.int
      exact op_mul pins s σ H _ _ v u Q I rx ry ⟨_, _, rfl, rfl, hl, q _ _ (made_dat fd (.int _))⟩
    · cases h
  · split at h
    · rename_i hl
      cases h; cases hd.int; cases he.int
      exact op_fdivN pins s σ H _ _ v u Q I rx ry ⟨_, _, rfl, rfl, hl, q _ _ (made_dat fd (.int _))⟩
    · cases h
  · split at h
    · rename_i hl
      cases h; cases hd.int; cases he.int
      exact op_modN pins s σ H _ _ v u Q I rx ry ⟨_, _, rfl, rfl, hl, q _ _ (made_dat fd (.int _))⟩
    · cases h
  · split at h
    · rename_i hl
      cases h; cases hd.int; cases he.int
      exact op_pow pins s σ H _ _ v u Q I rx ry ⟨_, _, rfl, rfl, hl, q _ _ (made_dat fd (.int _))⟩
    · cases h
  · cases h; cases hd.bl; cases he.int
    cases (show v = Value.bool _ from rx)
    obtain ⟨t', rfl⟩ := ry
    exact PySem.IntBool.add_bool_int ⟨.int _, H, I.tok _, ⟨_, rfl⟩, q _ _ (made_dat fd (.int _))⟩
  · cases h

/-! ### comparisons by values -/
theorem can_of_shaped {d : PyData} (h : SeqAt.shaped d = true) : d.canLay0 = true := SeqAt.canLay_of_shaped h
theorem eq_ok {d e : D} {b : Bool} (h : eqD d e = some b) (hu : X.A.units + 64 < cLine) (I : Inv X pins σ H s) (rx : RelV x v) (ry : RelV y u) (hd : RdF X.K fa H F x d) (he : RdF X.K fa H F y e)
    (q : Q (.bl b) H) : wpAny (model X.prog X.w) X.A (compareOp .Eq v u) (EP X pins σ Q) X.xe s := by
  unfold eqD at h
  split at h
  · rename_i c
    cases h
    exact op_eqD hu pins s σ H x y v u Q I rx ry ⟨_, _, hd.dp (can_of_shaped c.1), he.dp (can_of_shaped c.2), c.1, c.2, q⟩
  · cases h
theorem ne_ok {d e : D} {b : Bool} (h : eqD d e = some b) (hu : X.A.units + 64 < cLine) (I : Inv X pins σ H s) (rx : RelV x v) (ry : RelV y u) (hd : RdF X.K fa H F x d) (he : RdF X.K fa H F y e)
    (q : Q (.bl (!b)) H) : wpAny (model X.prog X.w) X.A (compareOp .NotEq v u) (EP X pins σ Q) X.xe s := by
  unfold eqD at h
  split at h
  · rename_i c
    cases h
    exact op_neD hu pins s σ H x y v u Q I rx ry ⟨_, _, hd.dp (can_of_shaped c.1), he.dp (can_of_shaped c.2), c.1, c.2, q⟩
  · cases h

/-- membership in a tuple of data -/
theorem op_inT (hu : X.A.units + 65 < cLine) : OpR X (compareOp .In) (fun x y H Q => ∃ d ds, Dp X.K H x d ∧ Dp X.K H y (.tuple ds) ∧ SeqAt.shaped d = true ∧ SeqAt.shaped (.tuple ds) = true ∧ Q (.bl (ds.any fun z => PyData.eqv z d)) H) := by
  rintro pins s σ H x y v u Q I rx ry ⟨d, ds, h1, h2, c1, c2, q⟩
  obtain ⟨_, g1⟩ := Dp.reads I d x v h1 rx
  obtain ⟨_, g2⟩ := Dp.reads I (.tuple ds) y u h2 ry
  exact SeqAt.in_tuple_reads g2 g1 (SeqAt.canLay_of_shaped c2) (SeqAt.canLay_of_shaped c1) (room_in_shaped (xs := ds) c1 hu) ⟨.bl _, H, I, rfl, q⟩
theorem op_notInT (hu : X.A.units + 65 < cLine) : OpR X (compareOp .NotIn) (fun x y H Q => ∃ d ds, Dp X.K H x d ∧ Dp X.K H y (.tuple ds) ∧ SeqAt.shaped d = true ∧ SeqAt.shaped (.tuple ds) = true ∧ Q (.bl (!ds.any fun z => PyData.eqv z d)) H) := by
  rintro pins s σ H x y v u Q I rx ry ⟨d, ds, h1, h2, c1, c2, q⟩
  obtain ⟨_, g1⟩ := Dp.reads I d x v h1 rx
  obtain ⟨_, g2⟩ := Dp.reads I (.tuple ds) y u h2 ry
  exact SeqAt.notIn_tuple_reads g2 g1 (SeqAt.canLay_of_shaped c2) (SeqAt.canLay_of_shaped c1) (room_in_shaped (xs := ds) c1 hu) ⟨.bl _, H, I, rfl, q⟩

theorem mem_ok {d : D} {ds : List D} {b : Bool} {e : D} (h : memD d ds = some b) (he : e = .tup ds ∨ e = .ktup ds ∨ e = .lst ds) (hu : X.A.units + 65 < cLine) (I : Inv X pins σ H s) (rx : RelV x v) (ry : RelV y u)
    (hd : RdF X.K fa H F x d) (hy : RdF X.K fa H F y e) : (Q (.bl b) H → wpAny (model X.prog X.w) X.A (compareOp .In v u) (EP X pins σ Q) X.xe s) ∧ (Q (.bl (!b)) H → wpAny (model X.prog X.w) X.A (compareOp .NotIn v u) (EP X pins σ Q) X.xe s) := by
  unfold memD at h
  split at h
  · rename_i c
    cases h
    have c2 : SeqAt.shaped (.tuple (pyL ds)) = true := c.2
    have cl : (PyData.list (pyL ds)).canLay0 = true := can_of_shaped c.2
    rcases he with rfl | rfl | rfl
    · have hy' := hy.dp (d := .tup ds) (by simpa [D.py, PyData.canLay0] using cl)
      exact ⟨fun q => op_inT hu pins s σ H x y v u Q I rx ry ⟨_, _, hd.dp (can_of_shaped c.1), hy', c.1, c2, q⟩, fun q => op_notInT hu pins s σ H x y v u Q I rx ry ⟨_, _, hd.dp (can_of_shaped c.1), hy', c.1, c2, q⟩⟩
    · have hy' := hy.dp (d := .ktup ds) (by simpa [D.py, PyData.canLay0] using cl)
      exact ⟨fun q => op_inT hu pins s σ H x y v u Q I rx ry ⟨_, _, hd.dp (can_of_shaped c.1), hy', c.1, c2, q⟩, fun q => op_notInT hu pins s σ H x y v u Q I rx ry ⟨_, _, hd.dp (can_of_shaped c.1), hy', c.1, c2, q⟩⟩
    · have hy' := hy.dp (d := .lst ds) (by simpa [D.py, PyData.canLay0] using cl)
      exact ⟨fun q => op_inD hu pins s σ H x y v u Q I rx ry ⟨_, _, hd.dp (can_of_shaped c.1), hy', c.1, c.2, q⟩, fun q => op_notInD hu pins s σ H x y v u Q I rx ry ⟨_, _, hd.dp (can_of_shaped c.1), hy', c.1, c.2, q⟩⟩
  · cases h

theorem dget_K {kds : List (Key × D)} {k : Key} {d : D} (hy : RdF X.K fa H F y (.dK kds)) (hd : RdF X.K fa H F x d) (e : keyOf d = some k) :
    ∃ a o, y = .ref a ∧ DGet H a x o ∧ ((∃ w z, o = some w ∧ lookD kds k = some z ∧ Rep X.K fa H F w z) ∨ (o = none ∧ lookD kds k = none)) := by
  obtain ⟨a, kvs, rfl, ha, r⟩ := hy.dK
  have ex : x = kV k := by
    cases d with
    | int i => cases e; exact hd.int
    | str z => cases e; exact hd.str
    | _ => cases e
  refine ⟨a, valV kvs k, rfl, .inl ⟨kvs, k, ha, ex, rfl⟩, ?_⟩
  rcases r.look k with ⟨w, z, a1, a2, a3⟩ | ⟨a1, a2⟩
  · exact .inl ⟨w, z, a1, a2, a3⟩
  · exact .inr ⟨a1, a2⟩
theorem dget_T {kds : List (List Key × D)} {ds : List D} {ks : List Key} (hy : RdF X.K fa H F y (.dT kds)) (hd : RdF X.K fa H F x (.tup ds)) (e : keysOf ds = some ks) :
    ∃ a o, y = .ref a ∧ DGet H a x o ∧ ((∃ w z, o = some w ∧ lookD kds ks = some z ∧ Rep X.K fa H F w z) ∨ (o = none ∧ lookD kds ks = none)) := by
  obtain ⟨a, kvs, rfl, ha, r⟩ := hy.dT
  obtain ⟨b, xs, rfl, hb, rb⟩ := hd.tup
  have ex := keysOf_ok rb e
  subst ex
  refine ⟨a, valV kvs ks, rfl, .inr ⟨kvs, ks, b, ha, rfl, hb, rfl⟩, ?_⟩
  rcases r.look ks with ⟨w, z, a1, a2, a3⟩ | ⟨a1, a2⟩
  · exact .inl ⟨w, z, a1, a2, a3⟩
  · exact .inr ⟨a1, a2⟩

theorem in_ok {d e : D} {b : Bool} (h : inP d e = some b) (hu : X.A.units + 65 < cLine) (I : Inv X pins σ H s) (rx : RelV x v) (ry : RelV y u) (hd : RdF X.K fa H F x d) (he : RdF X.K fa H F y e) :
    (Q (.bl b) H → wpAny (model X.prog X.w) X.A (compareOp .In v u) (EP X pins σ Q) X.xe s) ∧ (Q (.bl (!b)) H → wpAny (model X.prog X.w) X.A (compareOp .NotIn v u) (EP X pins σ Q) X.xe s) := by
  unfold inP at h
  have hu1 : X.A.units + 1 < cLine := by omega
  have byD : ∀ a o, y = .ref a → DGet H a x o → (o.isSome = b) → (Q (.bl b) H → wpAny (model X.prog X.w) X.A (compareOp .In v u) (EP X pins σ Q) X.xe s) ∧ (Q (.bl (!b)) H → wpAny (model X.prog X.w) X.A (compareOp .NotIn v u) (EP X pins σ Q) X.xe s) := by
    intro a o ea g eb
    subst ea
    cases ry
    exact ⟨fun q => d_in hu1 I g rx fun s3 I3 => ⟨.bl o.isSome, H, I3, rfl, by rw [eb]; exact q⟩, fun q => d_notIn hu1 I g rx fun s3 I3 => ⟨.bl (!o.isSome), H, I3, rfl, by rw [eb]; exact q⟩⟩
  split at h
  · exact mem_ok h (.inl rfl) hu I rx ry hd he
  · exact mem_ok h (.inr (.inl rfl)) hu I rx ry hd he
  · exact mem_ok h (.inr (.inr rfl)) hu I rx ry hd he
  · split at h
    · split at h
      · rename_i z _ x1 hs
        cases h
        cases hd.str
        cases he.str
        obtain ⟨l⟩ := x1
        obtain ⟨c, hc⟩ : ∃ c, l = #[c] := by
          match l, hs with
          | ⟨[c]⟩, _ => exact ⟨c, rfl⟩
        subst hc
        refine ⟨fun q => op_in_sign pins s σ H _ _ v u Q I rx ry ⟨c, _, rfl, rfl, ?_⟩, fun q => op_notIn_sign pins s σ H _ _ v u Q I rx ry ⟨c, _, rfl, rfl, ?_⟩⟩
        · simpa using q
        · simpa using q
      · cases h
    · cases h
  · rename_i kds
    cases ek : keyOf d with
    | none => rw [ek] at h; cases h
    | some k =>
      rw [ek] at h
      cases h
      obtain ⟨a, o, ea, g, r⟩ := dget_K he hd ek
      refine byD a o ea g ?_
      show o.isSome = (lookD kds k).isSome
      rcases r with ⟨w, z, a1, a2, _⟩ | ⟨a1, a2⟩
      · rw [a1, a2]; rfl
      · rw [a1, a2]; rfl
  · split at h
    · rename_i kds _ ks
      cases ek : keysOf ks with
      | none => rw [ek] at h; cases h
      | some k =>
        rw [ek] at h
        cases h
        obtain ⟨a, o, ea, g, r⟩ := dget_T he hd ek
        refine byD a o ea g ?_
        show o.isSome = (lookD kds k).isSome
        rcases r with ⟨w, z, a1, a2, _⟩ | ⟨a1, a2⟩
        · rw [a1, a2]; rfl
        · rw [a1, a2]; rfl
    · cases h
  · cases h

theorem is_ok {d e : D} {b : Bool} (h : isP d e = some b) (I : Inv X pins σ H s) (rx : RelV x v) (ry : RelV y u) (hd : RdF X.K fa H F x d) (he : RdF X.K fa H F y e) :
    (Q (.bl b) H → wpAny (model X.prog X.w) X.A (compareOp .Is v u) (EP X pins σ Q) X.xe s) ∧ (Q (.bl (!b)) H → wpAny (model X.prog X.w) X.A (compareOp .IsNot v u) (EP X pins σ Q) X.xe s) := by
  unfold isP at h
  split at h
  · cases h
    cases hd.non
    cases he.non
    exact ⟨fun q => op_isN pins s σ H _ _ v u Q I rx ry ⟨rfl, by simpa using q⟩, fun q => op_notN pins s σ H _ _ v u Q I rx ry ⟨rfl, by simpa using q⟩⟩
  · rename_i nn
    cases h
    cases he.non
    have ne : x ≠ .non := fun z => by
      subst z
      rcases hd with hd | ⟨a, z, _⟩
      · cases hd; exact nn rfl
      · cases z
    exact ⟨fun q => op_isN pins s σ H _ _ v u Q I rx ry ⟨rfl, by simpa [ne] using q⟩, fun q => op_notN pins s σ H _ _ v u Q I rx ry ⟨rfl, by simpa [ne] using q⟩⟩
  · cases h
    cases hd.bl
    cases he.bl
    exact ⟨fun q => op_is_bl pins s σ H _ _ v u Q I rx ry ⟨_, _, rfl, rfl, q⟩, fun q => op_isnot_bl pins s σ H _ _ v u Q I rx ry ⟨_, _, rfl, rfl, q⟩⟩
  · cases h

theorem cmp_ok {o : CmpOp} {d e : D} {b : Bool} (h : cmpP o d e = some b) (hu : X.A.units + 65 < cLine) (I : Inv X pins σ H s) (rx : RelV x v) (ry : RelV y u) (hd : RdF X.K fa H F x d) (he : RdF X.K fa H F y e)
    (q : Q (.bl b) H) : wpAny (model X.prog X.w) X.A (compareOp o v u) (EP X pins σ Q) X.xe s := by
  have hu' : X.A.units + 64 < cLine := by omega
  unfold cmpP at h
  split at h
  · exact eq_ok h hu' I rx ry hd he q
  · obtain ⟨b', h1, rfl⟩ := Option.map_eq_some_iff.mp h
    exact ne_ok h1 hu' I rx ry hd he q
  · cases h; cases hd.int; cases he.int
    exact op_lt pins s σ H _ _ v u Q I rx ry ⟨_, _, rfl, rfl, q⟩
  · cases h; cases hd.int; cases he.int
    exact op_le pins s σ H _ _ v u Q I rx ry ⟨_, _, rfl, rfl, q⟩
  · cases h; cases hd.int; cases he.int
    exact op_gt pins s σ H _ _ v u Q I rx ry ⟨_, _, rfl, rfl, q⟩
  · cases h; cases hd.int; cases he.int
    exact op_ge pins s σ H _ _ v u Q I rx ry ⟨_, _, rfl, rfl, q⟩
  · exact (in_ok h hu I rx ry hd he).1 q
  · obtain ⟨b', h1, rfl⟩ := Option.map_eq_some_iff.mp h
    exact (in_ok h1 hu I rx ry hd he).2 q
  · exact (is_ok h I rx ry hd he).1 q
  · obtain ⟨b', h1, rfl⟩ := Option.map_eq_some_iff.mp h
    exact (is_ok h1 I rx ry hd he).2 q
  · cases h
end
end DL

namespace DL
open PySem PySem.Spec PyProof.Rows L2
variable [TB]

/-! ### subscripts -/
section
variable {K : PySem.W.Frag} {fa : Nat → Option Addr} {H : Hp} {F : AP'}
theorem RepL.atI {xs : List V} {ds : List D} {i : Int} {d : D} (r : RepL K fa H F xs ds) (e : L2.atI ds i = some d) : ∃ v, L2.atI xs i = some v ∧ Rep K fa H F v d := by
  unfold L2.atI at e ⊢
  rw [r.length]
  cases q : ixN ds.length i with
  | none => rw [q] at e; cases e
  | some j =>
    rw [q] at e
    obtain ⟨v, h1, h2⟩ := r.get (show ds[j]? = some d from e)
    exact ⟨v, h1, h2⟩
end
def idxP (d e : D) : Option D := match d, e with
  | .dK kds, e => (keyOf e).bind (lookD kds)
  | .dT kds, .tup ks => (keysOf ks).bind (lookD kds)
  | .str z, .int i => if z.length ≤ Z24 then (atI z.cps.toList i).map fun c => .str ⟨#[c]⟩ else none
  | .tup ds, .int i => atI ds i
  | .ktup ds, .int i => atI ds i
  | .lst ds, .int i => atI ds i
  | _, _ => none
section
variable {X : Cx} {fa : Nat → Option Addr} {F : AP'} {pins : List (Addr × Obj)} {s : Shared} {σ : L2.St} {H : Hp} {x y : V} {v u : Value} {Q : VK}
theorem idx_ok {d e z : D} (h : idxP d e = some z) (hu : X.A.units + 1 < cLine) (value slice : Expr) (I : Inv X pins σ H s) (rx : RelV x v) (ry : RelV y u) (hd : RdF X.K fa H F x d) (he : RdF X.K fa H F y e)
    (hs : subscripted slice false v u = operate [v, u] (getItem v u)) (q : ∀ w, Rep X.K fa H F w z → Q w H) : wpAny (model X.prog X.w) X.A (subscriptTail value slice v u) (EP X pins σ Q) X.xe s := by
  have byD : ∀ (a : Addr) (o : Option V) (w : V), x = .ref a → DGet H a y o → o = some w → Rep X.K fa H F w z → wpAny (model X.prog X.w) X.A (subscriptTail value slice v u) (EP X pins σ Q) X.xe s := by
    intro a o w ea g eo rw'
    subst ea eo
    cases rx
    exact tail_any (dict_typeIs I g) PySem.F.slot_dict_getitem.lookup (d_getItem hu I g ry fun w' s3 I3 r3 => ⟨w, H, I3, r3, q w rw'⟩) hs
  unfold idxP at h
  split at h
  · rename_i kds
    cases ek : keyOf e with
    | none => rw [ek] at h; cases h
    | some k =>
      rw [ek] at h
      obtain ⟨a, o, ea, g, r⟩ := dget_K hd he ek
      rcases r with ⟨w, z', a1, a2, a3⟩ | ⟨a1, a2⟩
      · rw [show lookD kds k = some z from h] at a2; cases a2
        exact byD a o w ea g a1 a3
      · rw [show lookD kds k = some z from h] at a2; cases a2
  · rename_i kds ks
    cases ek : keysOf ks with
    | none => rw [ek] at h; cases h
    | some k =>
      rw [ek] at h
      obtain ⟨a, o, ea, g, r⟩ := dget_T hd he ek
      rcases r with ⟨w, z', a1, a2, a3⟩ | ⟨a1, a2⟩
      · rw [show lookD kds k = some z from h] at a2; cases a2
        exact byD a o w ea g a1 a3
      · rw [show lookD kds k = some z from h] at a2; cases a2
  · split at h
    · rename_i zz i hl
      cases hd.str
      cases he.int
      cases e1 : atI zz.cps.toList i with
      | none => rw [e1] at h; cases h
      | some c =>
        rw [e1] at h
        cases h
        exact ix_str value slice pins s σ H _ _ v u Q I rx ry ⟨zz, i, c, rfl, rfl, by rw [z24]; exact hl, e1, q _ (.str _)⟩ hs
    · cases h
  · cases he.int
    obtain ⟨a, xs, rfl, ha, ra⟩ := hd.tup
    obtain ⟨w, h1, h2⟩ := ra.atI h
    exact ix_tup value slice pins s σ H _ _ v u Q I rx ry ⟨a, xs, _, w, rfl, rfl, .inl (.inl ha), h1, q w h2⟩ hs
  · cases he.int
    obtain ⟨a, xs, rfl, ha, ra⟩ := hd.ktup
    obtain ⟨w, h1, h2⟩ := ra.atI h
    exact ix_tup value slice pins s σ H _ _ v u Q I rx ry ⟨a, xs, _, w, rfl, rfl, ha.sq, h1, q w h2⟩ hs
  · cases he.int
    obtain ⟨a, xs, rfl, ha, ra⟩ := hd.lst
    obtain ⟨w, h1, h2⟩ := ra.atI h
    exact ix_list value slice pins s σ H _ _ v u Q I rx ry ⟨a, xs, _, w, rfl, rfl, .inl ha, h1, q w h2⟩ hs
  · cases h
end

/-! ### slices -/
def cutD (ds : List D) (lo hi : Option Int) : List D := (ds.drop (HT.sIx ds.length 0 lo)).take (HT.sIx ds.length ds.length hi - HT.sIx ds.length 0 lo)
def slP (d : D) (lo hi : Option Int) : Option SV := match d with
  | .tup ds => some (.dat (.tup (cutD ds lo hi)))
  | .lst ds => some (.own (.lst (cutD ds lo hi)))
  | .str z => if z.length ≤ Z24 then some (.dat (.str (cutS z lo hi))) else none
  | _ => none
section
variable {K : PySem.W.Frag} {fa : Nat → Option Addr} {H : Hp} {F : AP'}
theorem RepL.cut {xs : List V} {ds : List D} (r : RepL K fa H F xs ds) (lo hi : Option Int) : RepL K fa H F (cutV xs lo hi) (cutD ds lo hi) := by
  unfold cutV cutD
  rw [r.length]
  exact (r.drop _).take _
theorem cutD_whole {ds : List D} {lo hi : Option Int} (h1 : HT.sIx ds.length 0 lo = 0) (h2 : HT.sIx ds.length ds.length hi = ds.length) : cutD ds lo hi = ds := by
  unfold cutD
  rw [h1, h2, List.drop_zero, Nat.sub_zero, List.take_length]
end
def SlOk (X : Cx) (fa : Nat → Option Addr) (F : AP') (d : D) (sv : SV) : V → Option Int → Option Int → Hp → VK → Prop := fun x lo hi H Q => slP d lo hi = some sv ∧ RdF X.K fa H F x d ∧ (∀ a, F a → H a ≠ none) ∧ ∀ z H', Made X.K fa H F sv z H' → Q z H'
theorem sl_ok {X : Cx} {fa : Nat → Option Addr} : SlR X (fun x lo hi H Q => ∃ F d sv, SlOk X fa F d sv x lo hi H Q) := by
  rintro pins s σ H x v vl vu lo hi sl Q I rx hs pl pu ⟨F, d, sv, h, hd, fd, q⟩
  unfold slP at h
  split at h
  · rename_i ds
    cases h
    obtain ⟨a, xs, rfl, ha, ra⟩ := hd.tup
    refine sl_tupA pins s σ H _ v vl vu lo hi sl Q I rx hs pl pu ⟨a, xs, rfl, .inl (.inl ha), fun hw => ?_, fun _ p hp => ?_⟩
    · rw [ra.length] at hw
      rw [cutD_whole hw.1 hw.2] at q
      exact q _ _ (made_dat fd (.tup ha ra))
    · exact q _ _ (made_tup fd hp (ra.cut lo hi))
  · cases h
    obtain ⟨a, xs, rfl, ha, ra⟩ := hd.lst
    exact sl_list pins s σ H _ v vl vu lo hi sl Q I rx hs pl pu ⟨a, xs, rfl, .inl ha, fun p hp => q _ _ (made_lst fd hp (ra.cut lo hi))⟩
  · split at h
    · rename_i hl
      cases h
      cases hd.str
      exact sl_str pins s σ H _ v vl vu lo hi sl Q I rx hs pl pu ⟨_, rfl, by rw [z24]; exact hl, q _ _ (made_dat fd (.str _))⟩
    · cases h
  · cases h

/-! ### built-in functions -/
inductive BI where
  | len | abs | int | str | tuple | list | sum | max | min | all | any | sorted
def intsOf : List D → Option (List Int)
  | [] => some []
  | .int i :: ds => (intsOf ds).map (i :: ·)
  | _ :: _ => none
def boolsOf : List D → Option (List Bool)
  | [] => some []
  | .bl i :: ds => (boolsOf ds).map (i :: ·)
  | _ :: _ => none
section
variable {K : PySem.W.Frag} {fa : Nat → Option Addr} {H : Hp} {F : AP'}
theorem intsOf_ok : ∀ {xs : List V} {ds : List D} {ns : List Int}, RepL K fa H F xs ds → intsOf ds = some ns → xs = ns.map V.int
  | _, _, _, .nil, e => by cases e; rfl
  | _, _, _, .cons h r, e => by
    unfold intsOf at e
    split at e
    · rename_i heq; cases heq
    · rename_i heq
      cases heq
      obtain ⟨ms, e2, rfl⟩ := Option.map_eq_some_iff.mp e
      cases h
      rw [intsOf_ok r e2]; rfl
    · cases e
theorem boolsOf_ok : ∀ {xs : List V} {ds : List D} {ns : List Bool}, RepL K fa H F xs ds → boolsOf ds = some ns → xs = ns.map V.bl
  | _, _, _, .nil, e => by cases e; rfl
  | _, _, _, .cons h r, e => by
    unfold boolsOf at e
    split at e
    · rename_i heq; cases heq
    · rename_i heq
      cases heq
      obtain ⟨ms, e2, rfl⟩ := Option.map_eq_some_iff.mp e
      cases h
      rw [boolsOf_ok r e2]; rfl
    · cases e
theorem repL_ints : ∀ ns : List Int, RepL K fa H F (ns.map V.int) (ns.map D.int)
  | [] => .nil
  | n :: ns => .cons (.int n) (repL_ints ns)
end
/-- the greatest, the smallest of a list that is not empty -/
def maxI : Int → List Int → Int
  | m, [] => m
  | m, n :: ns => maxI (if n > m then n else m) ns
def minI : Int → List Int → Int
  | m, [] => m
  | m, n :: ns => minI (if n < m then n else m) ns
theorem maxI_mem : ∀ (ns : List Int) (m : Int), maxI m ns ∈ m :: ns
  | [], m => by simp [maxI]
  | n :: ns, m => by
    have := maxI_mem ns (if n > m then n else m)
    rw [maxI]
    split at this <;> rename_i c
    · rw [if_pos c]; exact List.mem_cons_of_mem _ this
    · rw [if_neg c]
      rcases List.mem_cons.mp this with e | e
      · rw [e]; exact List.mem_cons_self
      · exact List.mem_cons_of_mem _ (List.mem_cons_of_mem _ e)
theorem maxI_ge : ∀ (ns : List Int) (m : Int), m ≤ maxI m ns ∧ ∀ n ∈ ns, n ≤ maxI m ns
  | [], m => by simp [maxI]
  | n :: ns, m => by
    obtain ⟨h1, h2⟩ := maxI_ge ns (if n > m then n else m)
    rw [maxI]
    refine ⟨?_, fun k hk => ?_⟩
    · split at h1 <;> rename_i c
      · rw [if_pos c]; omega
      · rw [if_neg c]; exact h1
    · rcases List.mem_cons.mp hk with e | e
      · subst e
        split at h1 <;> rename_i c
        · rw [if_pos c]; exact h1
        · rw [if_neg c]; omega
      · exact h2 k e
theorem minI_mem : ∀ (ns : List Int) (m : Int), minI m ns ∈ m :: ns
  | [], m => by simp [minI]
  | n :: ns, m => by
    have := minI_mem ns (if n < m then n else m)
    rw [minI]
    split at this <;> rename_i c
    · rw [if_pos c]; exact List.mem_cons_of_mem _ this
    · rw [if_neg c]
      rcases List.mem_cons.mp this with e | e
      · rw [e]; exact List.mem_cons_self
      · exact List.mem_cons_of_mem _ (List.mem_cons_of_mem _ e)
theorem minI_le : ∀ (ns : List Int) (m : Int), minI m ns ≤ m ∧ ∀ n ∈ ns, minI m ns ≤ n
  | [], m => by simp [minI]
  | n :: ns, m => by
    obtain ⟨h1, h2⟩ := minI_le ns (if n < m then n else m)
    rw [minI]
    refine ⟨?_, fun k hk => ?_⟩
    · split at h1 <;> rename_i c
      · rw [if_pos c]; omega
      · rw [if_neg c]; exact h1
    · rcases List.mem_cons.mp hk with e | e
      · subst e
        split at h1 <;> rename_i c
        · rw [if_pos c]; exact h1
        · rw [if_neg c]; omega
      · exact h2 k e
def leB (a b : Int) : Bool := decide (a ≤ b)
def sortI (ns : List Int) : List Int := ns.mergeSort leB
theorem sortI_perm (ns : List Int) : (sortI ns).Perm ns := List.mergeSort_perm ns leB
theorem sortI_sorted (ns : List Int) : (sortI ns).Pairwise (· ≤ ·) := by
  have h := List.pairwise_mergeSort (le := leB) (fun a b c h1 h2 => decide_eq_true (Int.le_trans (of_decide_eq_true h1) (of_decide_eq_true h2)))
    (fun a b => by rcases Int.le_total a b with h | h <;> simp [leB, h]) ns
  exact h.imp fun q => of_decide_eq_true q
theorem sorted_one : ∀ {as bs : List Int}, as.Perm bs → as.Pairwise (· ≤ ·) → bs.Pairwise (· ≤ ·) → as = bs := fun p a b => p.eq_of_pairwise (fun x y _ _ h1 h2 => Int.le_antisymm h1 h2) a b

def callP (b : BI) (ds : List D) : Option SV := match b, ds with
  | .len, [.str z] => if z.length ≤ Z24 then some (.dat (.int z.length)) else none
  | .len, [d] => d.seq?.map fun es => .dat (.int es.length)
  | .abs, [.int i] => some (.dat (.int (if i < 0 then -i else i)))
  | .int, [.int i] => some (.dat (.int i))
  | .int, [.bl k] => some (.dat (.int (if k then 1 else 0)))
  | .str, [.int i] => if i.natAbs.log2 < 1920 then some (.dat (.str (toString i))) else none
  | .tuple, [.lst es] => some (.dat (.tup es))
  | .tuple, [.tup es] => some (.dat (.tup es))
  | .list, [d] => d.seq?.map fun es => .own (.lst es)
  | .sum, [.lst es] => (intsOf es).map fun ns => .dat (.int ns.sum)
  | .max, [.int i, .int j] => some (.dat (.int (if j > i then j else i)))
  | .max, [.lst es] => (intsOf es).bind fun ns => match ns with
    | [] => none
    | n :: r => some (.dat (.int (maxI n r)))
  | .min, [.int i, .int j] => some (.dat (.int (if j < i then j else i)))
  | .min, [.lst es] => (intsOf es).bind fun ns => match ns with
    | [] => none
    | n :: r => some (.dat (.int (minI n r)))
  | .all, [.lst es] => (boolsOf es).map fun bs => .dat (.bl (bs.all id))
  | .any, [.lst es] => (boolsOf es).map fun bs => .dat (.bl (bs.any id))
  | .sorted, [.lst es] => (intsOf es).map fun ns => .own (.lst ((sortI ns).map D.int))
  | _, _ => none
def BI.name : BI → Str
  | .len => "len" | .abs => "abs" | .int => "int" | .str => "str" | .tuple => "tuple" | .list => "list" | .sum => "sum" | .max => "max" | .min => "min" | .all => "all" | .any => "any" | .sorted => "sorted"
def BI.val : BI → Value
  | .len => .builtin "len" | .abs => .builtin "abs" | .int => .type "int" | .str => .type "str" | .tuple => .type "tuple" | .list => .type "list" | .sum => .builtin "sum" | .max => .builtin "max" | .min => .builtin "min"
  | .all => .builtin "all" | .any => .builtin "any" | .sorted => .builtin "sorted"

/-- all of them read -/
inductive RdFs (K : PySem.W.Frag) (fa : Nat → Option Addr) (H : Hp) (F : AP') : List V → List D → Prop
  | nil : RdFs K fa H F [] []
  | cons {v : V} {vs : List V} {d : D} {ds : List D} : RdF K fa H F v d → RdFs K fa H F vs ds → RdFs K fa H F (v :: vs) (d :: ds)
section
variable {K : PySem.W.Frag} {fa : Nat → Option Addr} {H : Hp} {F : AP'}
theorem RdFs.one {xs : List V} {d : D} (h : RdFs K fa H F xs [d]) : ∃ x, xs = [x] ∧ RdF K fa H F x d := by
  cases h with
  | cons a b => cases b; exact ⟨_, rfl, a⟩
theorem RdFs.two {xs : List V} {d e : D} (h : RdFs K fa H F xs [d, e]) : ∃ x y, xs = [x, y] ∧ RdF K fa H F x d ∧ RdF K fa H F y e := by
  cases h with
  | cons a b =>
    cases b with
    | cons c t => cases t; exact ⟨_, _, rfl, a, c⟩
end
section
variable {X : Cx} {fa : Nat → Option Addr} {F : AP'} {pins : List (Addr × Obj)} {s : Shared} {σ : L2.St} {H : Hp} {xs : List V} {us : List Value} {Q : VK}
theorem call_ok {b : BI} {ds : List D} {sv : SV} (h : callP b ds = some sv) (hc : X.calm = true) (I : Inv X pins σ H s) (r : Vals xs us) (hd : RdFs X.K fa H F xs ds) (fd : ∀ a, F a → H a ≠ none)
    (q : ∀ z H', Made X.K fa H F sv z H' → Q z H') : wpAny (model X.prog X.w) X.A (call b.val us) (EP X pins σ Q) X.xe s := by
  unfold callP at h
  split at h
  · split at h
    · rename_i hl
      cases h
      obtain ⟨x, rfl, h1⟩ := hd.one
      cases h1.str
      exact call_len_str pins s σ H _ us Q I r ⟨_, rfl, by rw [z24]; exact hl, q _ _ (made_dat fd (.int _))⟩
    · cases h
  · obtain ⟨x, rfl, h1⟩ := hd.one
    obtain ⟨es, e1, rfl⟩ := Option.map_eq_some_iff.mp h
    obtain ⟨a, ys, rfl, h2, h3⟩ := h1.seq e1
    refine call_len_seq pins s σ H _ us Q I r ⟨a, ys, rfl, h2, ?_⟩
    rw [h3.length]
    exact q _ _ (made_dat fd (.int _))
  · cases h
    obtain ⟨x, rfl, h1⟩ := hd.one
    cases h1.int
    exact call_abs pins s σ H _ us Q I r ⟨_, rfl, q _ _ (made_dat fd (.int _))⟩
  · cases h
    obtain ⟨x, rfl, h1⟩ := hd.one
    cases h1.int
    exact call_int1 pins s σ H _ us Q I r (.inl ⟨_, rfl, q _ _ (made_dat fd (.int _))⟩)
  · cases h
    obtain ⟨x, rfl, h1⟩ := hd.one
    cases h1.bl
    exact call_int1 pins s σ H _ us Q I r (.inr ⟨_, rfl, q _ _ (made_dat fd (.int _))⟩)
  · split at h
    · rename_i hl
      cases h
      obtain ⟨x, rfl, h1⟩ := hd.one
      cases h1.int
      exact call_str_int pins s σ H _ us Q I r ⟨_, rfl, hl, q _ _ (made_dat fd (.str _))⟩
    · cases h
  · cases h
    obtain ⟨x, rfl, h1⟩ := hd.one
    obtain ⟨a, ys, rfl, h2, h3⟩ := h1.lst
    exact call_tuple_of pins s σ H _ us Q I r ⟨a, ys, rfl, .inl ⟨.inl h2, fun p hp => q _ _ (made_tup fd hp h3)⟩⟩
  · cases h
    obtain ⟨x, rfl, h1⟩ := hd.one
    obtain ⟨a, ys, rfl, h2, h3⟩ := h1.tup
    exact call_tuple_of pins s σ H _ us Q I r ⟨a, ys, rfl, .inr ⟨.inl (.inl h2), q _ _ (made_dat fd (.tup h2 h3))⟩⟩
  · obtain ⟨x, rfl, h1⟩ := hd.one
    obtain ⟨es, e1, rfl⟩ := Option.map_eq_some_iff.mp h
    obtain ⟨a, ys, rfl, h2, h3⟩ := h1.seq e1
    exact call_list_of pins s σ H _ us Q I r ⟨a, ys, rfl, h2, fun p hp => q _ _ (made_lst fd hp h3)⟩
  · obtain ⟨x, rfl, h1⟩ := hd.one
    obtain ⟨ns, e1, rfl⟩ := Option.map_eq_some_iff.mp h
    obtain ⟨a, ys, rfl, h2, h3⟩ := h1.lst
    cases intsOf_ok h3 e1
    exact cr_sum hc pins s σ H _ us Q I r ⟨a, ns, rfl, .inl h2, q _ _ (made_dat fd (.int _))⟩
  · cases h
    obtain ⟨x, y, rfl, h1, h2⟩ := hd.two
    cases h1.int
    cases h2.int
    exact call_max2 hc pins s σ H _ us Q I r ⟨_, _, rfl, q _ _ (made_dat fd (.int _))⟩
  · obtain ⟨x, rfl, h1⟩ := hd.one
    obtain ⟨ns, e1, h⟩ := Option.bind_eq_some_iff.mp h
    obtain ⟨a, ys, rfl, h2, h3⟩ := h1.lst
    cases intsOf_ok h3 e1
    cases ns with
    | nil => cases h
    | cons n ms =>
      cases h
      refine cr_max hc pins s σ H _ us Q I r ⟨a, n :: ms, rfl, .inl h2, Nat.succ_pos _, fun m hm hle => ?_⟩
      have e : m = maxI n ms := by
        have g1 := hle _ (maxI_mem ms n)
        have g2 := maxI_ge ms n
        rcases List.mem_cons.mp hm with e | e
        · omega
        · have := g2.2 m e; omega
      rw [e]
      exact q _ _ (made_dat fd (.int _))
  · cases h
    obtain ⟨x, y, rfl, h1, h2⟩ := hd.two
    cases h1.int
    cases h2.int
    exact call_min2 hc pins s σ H _ us Q I r ⟨_, _, rfl, q _ _ (made_dat fd (.int _))⟩
  · obtain ⟨x, rfl, h1⟩ := hd.one
    obtain ⟨ns, e1, h⟩ := Option.bind_eq_some_iff.mp h
    obtain ⟨a, ys, rfl, h2, h3⟩ := h1.lst
    cases intsOf_ok h3 e1
    cases ns with
    | nil => cases h
    | cons n ms =>
      cases h
      refine cr_min hc pins s σ H _ us Q I r ⟨a, n :: ms, rfl, .inl h2, Nat.succ_pos _, fun m hm hle => ?_⟩
      have e : m = minI n ms := by
        have g1 := hle _ (minI_mem ms n)
        have g2 := minI_le ms n
        rcases List.mem_cons.mp hm with e | e
        · omega
        · have := g2.2 m e; omega
      rw [e]
      exact q _ _ (made_dat fd (.int _))
  · obtain ⟨x, rfl, h1⟩ := hd.one
    obtain ⟨ns, e1, rfl⟩ := Option.map_eq_some_iff.mp h
    obtain ⟨a, ys, rfl, h2, h3⟩ := h1.lst
    cases boolsOf_ok h3 e1
    exact cr_all hc pins s σ H _ us Q I r ⟨a, ns, rfl, .inl h2, q _ _ (made_dat fd (.bl _))⟩
  · obtain ⟨x, rfl, h1⟩ := hd.one
    obtain ⟨ns, e1, rfl⟩ := Option.map_eq_some_iff.mp h
    obtain ⟨a, ys, rfl, h2, h3⟩ := h1.lst
    cases boolsOf_ok h3 e1
    exact cr_any hc pins s σ H _ us Q I r ⟨a, ns, rfl, .inl h2, q _ _ (made_dat fd (.bl _))⟩
  · obtain ⟨x, rfl, h1⟩ := hd.one
    obtain ⟨ns, e1, rfl⟩ := Option.map_eq_some_iff.mp h
    obtain ⟨a, ys, rfl, h2, h3⟩ := h1.lst
    cases intsOf_ok h3 e1
    refine cr_sortedI pins s σ H _ us Q I r ⟨a, ns, rfl, .inl h2, fun ns' p hp hs hn => ?_⟩
    have e : ns' = sortI ns := sorted_one (hp.trans (sortI_perm ns).symm) hs (sortI_sorted ns)
    rw [e]
    exact q _ _ (made_lst fd hn (repL_ints _))
  · cases h

/-! ### isinstance -/
def tyN : D → Option String
  | .non => some "NoneType" | .bl _ => some "bool" | .int _ => some "int" | .str _ => some "str" | .tup _ => some "tuple" | .ktup _ => some "tuple" | .lst _ => some "list"
  | _ => none
/-- isinstance(d, T) -/
def instP (d : D) (T : String) : Option Bool := match d with
  | .non => if T ∈ ["bool", "int", "str", "tuple", "list"] then some false else none
  | .bl _ => if T ∈ ["bool", "int"] then some true else if T ∈ ["str", "tuple", "list"] then some false else none
  | .int _ => if T = "int" then some true else if T ∈ ["bool", "str", "tuple", "list"] then some false else none
  | .str _ => if T = "str" then some true else if T ∈ ["bool", "int", "tuple", "list"] then some false else none
  | .tup _ => if T = "tuple" then some true else if T ∈ ["bool", "int", "str", "list"] then some false else none
  | .ktup _ => if T = "tuple" then some true else if T ∈ ["bool", "int", "str", "list"] then some false else none
  | .lst _ => if T = "list" then some true else if T ∈ ["bool", "int", "str", "tuple"] then some false else none
  | _ => none
theorem kit_all : ∀ p ∈ [("NoneType", "bool", false), ("NoneType", "int", false), ("NoneType", "str", false), ("NoneType", "tuple", false), ("NoneType", "list", false), ("bool", "bool", true), ("bool", "int", true), ("bool", "str", false), ("bool", "tuple", false), ("bool", "list", false),
    ("int", "int", true), ("int", "bool", false), ("int", "str", false), ("int", "tuple", false), ("int", "list", false), ("str", "str", true), ("str", "bool", false), ("str", "int", false), ("str", "tuple", false), ("str", "list", false),
    ("tuple", "tuple", true), ("tuple", "bool", false), ("tuple", "int", false), ("tuple", "str", false), ("tuple", "list", false), ("list", "list", true), ("list", "bool", false), ("list", "int", false), ("list", "str", false), ("list", "tuple", false)], kitB p.1 p.2.1 = some p.2.2 := by
  decide +kernel
theorem inst_kit {d : D} {T : String} {b : Bool} (h : instP d T = some b) : ∃ t, tyN d = some t ∧ kitB t T = some b := by
  have k := kit_all
  unfold instP at h
  split at h
  all_goals try (cases h; done)
  all_goals refine ⟨_, rfl, ?_⟩
  all_goals (split at h)
  all_goals try (split at h)
  all_goals try (cases h; done)
  all_goals cases h
  all_goals (rename_i c)
  all_goals try simp only [List.mem_cons, List.not_mem_nil, or_false] at c
  all_goals first
    | (rcases c with rfl | rfl | rfl | rfl | rfl <;> exact k (_, _, _) (by decide))
    | (rcases c with rfl | rfl | rfl | rfl <;> exact k (_, _, _) (by decide))
    | (rcases c with rfl | rfl | rfl <;> exact k (_, _, _) (by decide))
    | (rcases c with rfl | rfl <;> exact k (_, _, _) (by decide))
    | (subst c; exact k (_, _, _) (by decide))
theorem tyX_of {x : V} {d : D} {t : String} (h : RdF X.K fa H F x d) (e : tyN d = some t) : TyX X.K H x (.type t) := by
  cases d with
  | non => cases e; cases h.non; exact .base .non
  | bl b => cases e; cases h.bl; exact .base (.bl _)
  | int i => cases e; cases h.int; exact .base (.int _)
  | str z => cases e; cases h.str; exact .base (.str _)
  | tup ds => cases e; obtain ⟨a, xs, rfl, h1, _⟩ := h.tup; exact .base (.tup h1)
  | ktup ds => cases e; obtain ⟨a, xs, rfl, ⟨o, _, _, h1, h2, _⟩, _⟩ := h.ktup; exact .kTuple h1 h2
  | lst ds =>
    cases e
    obtain ⟨a, xs, rfl, h1, _⟩ := h.lst
    rcases h1 with h1 | ⟨o, h1⟩
    · exact .base (.lst h1)
    · exact .base (.frz h1)
  | _ => cases e
theorem inst_ok {d : D} {T : String} {b : Bool} {x : V} (h : instP d T = some b) (I : Inv X pins σ H s) (r : Vals [x, .ty T] us) (hd : RdF X.K fa H F x d) (q : Q (.bl b) H) :
    wpAny (model X.prog X.w) X.A (call (.builtin "isinstance") us) (EP X pins σ Q) X.xe s := by
  obtain ⟨t, e1, e2⟩ := inst_kit h
  exact call_isi pins s σ H _ us Q I r ⟨x, .ty T, .type t, .type T, b, rfl, .ty T, tyX_of hd e1, kit_ty e2, q⟩
end
end DL

namespace DL
open PySem PySem.Spec PyProof.Rows L2
variable [TB]

/-! ### the small language -/
inductive Tg where
  | nm (i : Nat) | tup (ts : List Tg)
mutual
inductive Q where
  | var (i : Nat) | cst (d : D) | glb (j : Nat) | fnv (j : Nat)
  | tup (qs : List Q) | lst (qs : List Q) | lmul (qs : List Q) (b : Q)
  | dic (t : Bool) | dic1 (k v : Q)
  | bin (o : Operator) (a b : Q) | neg (a : Q) | cmp (o : CmpOp) (a b : Q) | chain (o o' : CmpOp) (a b c : Q)
  | and (a b : Q) | or (a b : Q) | not (a : Q) | ite (c a b : Q)
  | idx (a b : Q) | slc (a : Q) (lo hi : Option Q) | rev (a : Q)
  | call (j : Nat) (args : List Q) | callv (i : Nat) (args : List Q)
  | bi (b : BI) (args : List Q) | inst (a : Q) (T : String) | get (a k d : Q)
  | lrng (a : Q)
  | dcp (a : Q) | dprs (a : Q)
  | lc (own : List Nat) (tg : Tg) (it : It) (c : Option Q) (e : Q)
  | lc2 (own own1 : List Nat) (tg : Tg) (it : It) (tg1 : Tg) (it1 : It) (c : Option Q) (e : Q)
  | lc3 (own own1 own2 : List Nat) (tg : Tg) (it : It) (tg1 : Tg) (it1 : It) (tg2 : Tg) (it2 : It) (c : Option Q) (e : Q)
  | tri (q : Q)
inductive It where
  | seq (q : Q) | rng (a : Q) | rng2 (a b : Q) | enum (q : Q) | zip (a b : Q) | zip3 (a b c : Q) | items (q : Q)
end
inductive S where
  | set (i : Nat) (q : Q) | unp (ts : List Tg) (q : Q) | par (i j : Nat) (a b : Q) | parO (k : Bool) (i j : Nat) (a b : Q)
  | store (i : Nat) (k v : Q) | app (i : Nat) (q : Q) | expr (q : Q)
  | ifs (c : Q) (a b : List S) | for_ (tg : Tg) (it : It) (body : List S) | whil (m : Nat) (c : Q) (body : List S)
  | ret (q : Q) | retv (i : Nat) | retN | raise (c : Nat) | brk | cont | pass | never

/-- an operand: the name in a slot, or a value -/
inductive PV where
  | sl (i : Nat) | dd (d : D)
def cont (ρ : Env') : PV → Option D
  | .sl i => (match ρ[i]? with
    | some (some sv) => some sv.d
    | _ => none)
  | .dd d => some d
def conts (ρ : Env') : List PV → Option (List D)
  | [] => some []
  | p :: ps => match cont ρ p, conts ρ ps with
    | some d, some ds => some (d :: ds)
    | _, _ => none
def lift {α : Type} (o : Option α) (ρ : Env') : Res α := match o with
  | some a => .ok a ρ
  | none => .stuck

inductive FRes where
  | ok (sv : SV) (b : Option D) | exc (x : Exn) (b : Option D) | stuck
structure Cf where
  run : Nat → List SV → FRes
  lend : Nat → Bool
  gv : Nat → Option D

section
variable (ev' : Q → Env' → Res SV)
def opd (q : Q) (ρ : Env') : Res PV := match q with
  | .var i => (match ρ[i]? with
    | some (some _) => .ok (.sl i) ρ
    | _ => .stuck)
  | q => (ev' q ρ).bind fun sv ρ' => .ok (.dd sv.d) ρ'
def opds : List Q → Env' → Res (List PV)
  | [], ρ => .ok [] ρ
  | q :: qs, ρ => (opd ev' q ρ).bind fun p ρ1 => (opds qs ρ1).bind fun ps ρ2 => .ok (p :: ps) ρ2
/-- values, frozen -/
def vals : List Q → Env' → Res (List D)
  | [], ρ => .ok [] ρ
  | q :: qs, ρ => (ev' q ρ).bind fun sv ρ1 => (vals qs ρ1).bind fun ds ρ2 => .ok (sv.d :: ds) ρ2
/-- two operands, then f of what they hold -/
def op2 {α : Type} (f : D → D → Option α) (a b : Q) (ρ : Env') : Res α :=
  (opd ev' a ρ).bind fun p ρ1 => (opd ev' b ρ1).bind fun r ρ2 => match cont ρ2 p, cont ρ2 r with
    | some d, some e => lift (f d e) ρ2
    | _, _ => .stuck
end

def tru : D → Option Bool
  | .non => some false
  | .bl b => some b
  | .int i => some (i != 0)
  | _ => none
def D.flat : D → Bool
  | .non => true | .bl _ => true | .int _ => true | .str _ => true
  | _ => false

def isDic : Option D → Bool
  | some (.dK _) => true
  | some (.dT _) => true
  | _ => false

/-! ### targets -/
mutual
def asg : Tg → D → Env' → Option Env'
  | .nm i, d, ρ => (match ρ[i]? with
    | some none => some (ρ.set i (some (.dat d)))
    | some (some sv) => if sv.lent then none else some (ρ.set i (some (.dat d)))
    | none => none)
  | .tup ts, d, ρ => (match d with
    | .tup ds => asgs ts ds ρ
    | .ktup ds => asgs ts ds ρ
    | .lst ds => asgs ts ds ρ
    | _ => none)
def asgs : List Tg → List D → Env' → Option Env'
  | [], [], ρ => some ρ
  | t :: ts, d :: ds, ρ => (asg t d ρ).bind fun ρ1 => asgs ts ds ρ1
  | _, _, _ => none
end

/-! ### calls -/
/-- the slots of our own (or lent to us) that the callee reads -/
def sharedSl (ρ : Env') : List PV → List Nat
  | [] => []
  | .sl i :: ps => (match ρ[i]? with
    | some (some (.dat _)) => sharedSl ρ ps
    | _ => i :: sharedSl ρ ps)
  | .dd _ :: ps => sharedSl ρ ps
/-- they are lists -/
def shLst (ρ : Env') : List Nat → Bool
  | [] => true
  | i :: is => (match ρ[i]? with
    | some (some (.own (.lst _))) => shLst ρ is
    | some (some (.bor (.lst _))) => shLst ρ is
    | _ => false)
/-- they are frozen -/
def freezeSl (ρ : Env') : List Nat → Option Env'
  | [] => some ρ
  | i :: is => (match ρ[i]? with
    | some (some (.own d)) => freezeSl (ρ.set i (some (.dat d))) is
    | some (some (.dat _)) => freezeSl ρ is
    | _ => none)
/-- the lent thing's new content -/
def putBack (ρ : Env') (i : Nat) (d : D) : Option Env' := match ρ[i]? with
  | some (some (.own _)) => some (ρ.set i (some (.own d)))
  | some (some (.bor _)) => some (ρ.set i (some (.bor d)))
  | _ => none
def lentOf (ρ : Env') : List PV → Option (Nat × D × List PV)
  | .sl i :: ps => (match ρ[i]? with
    | some (some (.own d)) => some (i, d, ps)
    | some (some (.bor d)) => some (i, d, ps)
    | _ => none)
  | _ => none
def callR (cf : Cf) (j : Nat) (ps : List PV) (ρ : Env') : Res SV :=
  if cf.lend j = true then match lentOf ρ ps with
    | none => .stuck
    | some (i, d, rest) => match conts ρ rest, freezeSl ρ (sharedSl ρ rest) with
      | some ds, some ρ1 => (match cf.run j (.bor d :: ds.map .dat) with
        | .ok sv (some d') => (match putBack ρ1 i d' with
          | some ρ2 => .ok sv ρ2
          | none => .stuck)
        | .exc x (some d') => (match putBack ρ1 i d' with
          | some ρ2 => .exc x ρ2
          | none => .stuck)
        | _ => .stuck)
      | _, _ => .stuck
  else match conts ρ ps with
    | none => .stuck
    | some ds => match cf.run j (ds.map .dat) with
      | .ok sv none => if (sv.d.flat && shLst ρ (sharedSl ρ ps)) = true then .ok (.dat sv.d) ρ else (match freezeSl ρ (sharedSl ρ ps) with
        | some ρ2 => .ok sv ρ2
        | none => .stuck)
      | .exc x none => (match freezeSl ρ (sharedSl ρ ps) with
        | some ρ2 => .exc x ρ2
        | none => .stuck)
      | _ => .stuck
def pairsK : List D → Option (List (Key × D))
  | [] => some []
  | .tup [k, v] :: ds => (match keyOf k, pairsK ds with
    | some kk, some r => some ((kk, v) :: r)
    | _, _ => none)
  | _ :: _ => none

/-! ### what is walked -/
def keyD : Key → D
  | .inl i => .int i
  | .inr x => .str x
def zipD : List D → List D → List D
  | a :: as, b :: bs => .tup [a, b] :: zipD as bs
  | _, _ => []
def zipP (a b : D) : Option (List D) := match a, b with
  | .lst xs, .lst ys => some (zipD xs ys)
  | .tup xs, .tup ys => some (zipD xs ys)
  | .ktup xs, .tup ys => some (zipD xs ys)
  | .tup xs, .ktup ys => some (zipD xs ys)
  | .ktup xs, .ktup ys => some (zipD xs ys)
  | _, _ => none
def zip3D : List D → List D → List D → List D
  | a :: as, b :: bs, c :: cs => .tup [a, b, c] :: zip3D as bs cs
  | _, _, _ => []
def enumD : Nat → List D → List D
  | _, [] => []
  | n, a :: as => .tup [.int (n : Nat), a] :: enumD (n + 1) as
def rangeD (lo : Int) (n : Nat) : List D := (List.range n).map fun i => .int (lo + (i : Nat))
def walkOf : D → Option (List D)
  | .tup ds => some ds
  | .ktup ds => some ds
  | .lst ds => some ds
  | .dK kds => some (kds.map fun kv => keyD kv.1)
  | .dT kds => some (kds.map fun kv => .tup (kv.1.map keyD))
  | _ => none
def itemsOf : D → Option (List D)
  | .dK kds => some (kds.map fun kv => .tup [keyD kv.1, kv.2])
  | _ => none
def small62 (i : Int) : Bool := decide (-(2 ^ 62) ≤ i) && decide (i < 2 ^ 62)
section
variable (ev' : Q → Env' → Res SV)
def evIt (it : It) (ρ : Env') : Res (List D) := match it with
  | .seq q => (ev' q ρ).bind fun sv ρ1 => lift sv.d.seq? ρ1
  | .rng a => (ev' a ρ).bind fun sv ρ1 => (match sv.d with
    | .int j => if small62 j = true then .ok (rangeD 0 j.toNat) ρ1 else .stuck
    | _ => .stuck)
  | .rng2 a b => (ev' a ρ).bind fun sv ρ1 => (ev' b ρ1).bind fun sw ρ2 => (match sv.d, sw.d with
    | .int i, .int j => if (small62 i && small62 j) = true then .ok (rangeD i (j - i).toNat) ρ2 else .stuck
    | _, _ => .stuck)
  | .enum q => (ev' q ρ).bind fun sv ρ1 => (match sv.d with
    | .lst ds => .ok (enumD 0 ds) ρ1
    | .tup ds => .ok (enumD 0 ds) ρ1
    | _ => .stuck)
  | .zip a b => (ev' a ρ).bind fun sv ρ1 => (ev' b ρ1).bind fun sw ρ2 => lift (zipP sv.d sw.d) ρ2
  | .zip3 a b c => (ev' a ρ).bind fun sv ρ1 => (ev' b ρ1).bind fun sw ρ2 => (ev' c ρ2).bind fun sz ρ3 => (match sv.d, sw.d, sz.d with
    | .lst xs, .lst ys, .lst zs => .ok (zip3D xs ys zs) ρ3
    | _, _, _ => .stuck)
  | .items q => (ev' q ρ).bind fun sv ρ1 => lift (itemsOf sv.d) ρ1
end

/-! ### comprehensions -/
def wipeR (ρ : Env') : List Nat → Env'
  | [] => ρ
  | i :: is => (wipeR ρ is).set i none
/-- a comprehension's own slots as they were -/
def backR (ρ0 : Env') (ρ : Env') : List Nat → Env'
  | [] => ρ
  | i :: is => (backR ρ0 ρ is).set i ((ρ0[i]?).getD none)
def tame (ρ : Env') (own : List Nat) : Bool := own.all fun i => match ρ[i]? with
  | some none => true
  | some (some (.dat _)) => true
  | _ => false
/-- in a comprehension nothing may be raised -/
@[reducible] def Res.bindN {α β : Type} (r : Res α) (g : α → Env' → Res β) : Res β := match r with
  | .ok a ρ => g a ρ
  | _ => .stuck
def testO (evT' : Q → Env' → Res Bool) (c : Option Q) (ρ : Env') : Res Bool := match c with
  | none => .ok true ρ
  | some q => evT' q ρ
/-- the last clause -/
def lcGo (fe : Env' → Res SV) (ft : Env' → Res Bool) (own : List Nat) (tg : Tg) : List D → List D → Env' → Res (List D)
  | [], acc, ρ => .ok acc ρ
  | d :: ds, acc, ρ => match asg tg d ρ with
    | none => .stuck
    | some ρ1 => (ft ρ1).bindN fun b ρ2 =>
      if b = true then (fe ρ2).bindN fun sv ρ3 => if acc.length < Z24 ∧ tame ρ3 own = true then lcGo fe ft own tg ds (acc ++ [sv.d]) (wipeR ρ3 own) else .stuck
      else if tame ρ2 own = true then lcGo fe ft own tg ds acc (wipeR ρ2 own) else .stuck
/-- a clause with more behind it -/
def lcOut (own own1 : List Nat) (tg : Tg) (fi : Env' → Res (List D)) (inner : List D → List D → Env' → Res (List D)) : List D → List D → Env' → Res (List D)
  | [], acc, ρ => .ok acc ρ
  | d :: ds, acc, ρ => match asg tg d ρ with
    | none => .stuck
    | some ρ1 => (fi ρ1).bindN fun items ρ2 => if tame ρ2 own1 = true then
        (inner items acc (wipeR ρ2 own1)).bindN fun acc' ρ3 => if tame ρ3 own = true then lcOut own own1 tg fi inner ds acc' (wipeR ρ3 own) else .stuck
      else .stuck
def lcFin (own : List Nat) (fi : Env' → Res (List D)) (go : List D → List D → Env' → Res (List D)) (ρ : Env') : Res SV :=
  (fi ρ).bind fun items ρ1 => if tame ρ1 own = true then (go items [] (wipeR ρ1 own)).bind fun acc ρ2 => .ok (.own (.lst acc)) (backR ρ1 ρ2 own) else .stuck

/-- what _law_name_of calls an exception -/
def nmT : Nat → Str
  | 0 => "Manner+"
  | 1 => "Time+"
  | 2 => "Day+"
  | 3 => "Week+"
  | 4 => "Number+"
  | 5 => "Seen+"
  | 6 => "Part+"
  | 7 => "Punch+"
  | 8 => "Undo+"
  | 9 => "Many+"
  | _ => "Text+"
/-- _law_try -/
def triR (r : Res SV) : Res SV := match r with
  | .ok sv ρ => .ok (.dat (.tup [.str "told", sv.d])) ρ
  | .exc x ρ => .ok (.dat (.str (nmT x.cls))) ρ
  | .stuck => .stuck
/-! ### the evaluator -/
mutual
def ev (cf : Cf) : Nat → Q → Env' → Res SV
  | 0, _, _ => .stuck
  | n + 1, q, ρ => match q with
    | .var i => (match ρ[i]? with
      | some (some (.dat d)) => .ok (.dat d) ρ
      | some (some (.own d)) => .ok (.dat d) (ρ.set i (some (.dat d)))
      | _ => .stuck)
    | .cst d => .ok (.dat d) ρ
    | .glb j => (match cf.gv j with
      | some d => .ok (.dat d) ρ
      | none => .stuck)
    | .fnv j => .ok (.dat (.fn j)) ρ
    | .tup qs => (vals (ev cf n) qs ρ).bind fun ds ρ1 => if ds.length ≤ Z24 then .ok (.dat (.tup ds)) ρ1 else .stuck
    | .lst qs => (vals (ev cf n) qs ρ).bind fun ds ρ1 => if ds.length ≤ Z24 then .ok (.own (.lst ds)) ρ1 else .stuck
    | .lmul qs b => (vals (ev cf n) qs ρ).bind fun ds ρ1 => if ds.length ≤ Z24 then (ev cf n b ρ1).bind fun sv ρ2 => (match sv.d with
      | .int k => if (-(2 ^ 63) ≤ k ∧ k < 2 ^ 63) ∧ ds.length * k.toNat ≤ Z24 then .ok (.own (.lst (List.replicate k.toNat ds).flatten)) ρ2 else .stuck
      | _ => .stuck) else .stuck
    | .dic false => .ok (.own (.dK [])) ρ
    | .dic true => .ok (.own (.dT [])) ρ
    | .dic1 k v => (ev cf n k ρ).bind fun sk ρ1 => (ev cf n v ρ1).bind fun sv ρ2 => (match keyOf sk.d with
      | some kk => .ok (.own (.dK [(kk, sv.d)])) ρ2
      | none => .stuck)
    | .bin o a b => op2 (ev cf n) (binP o) a b ρ
    | .neg a => (ev cf n a ρ).bind fun sv ρ1 => (match sv.d with
      | .int i => .ok (.dat (.int (-i))) ρ1
      | _ => .stuck)
    | .cmp o a b => (op2 (ev cf n) (cmpP o) a b ρ).bind fun c ρ1 => .ok (.dat (.bl c)) ρ1
    | .chain o o' a b c => (ev cf n a ρ).bind fun sa ρ1 => (ev cf n b ρ1).bind fun sb ρ2 => (match cmpP o sa.d sb.d with
      | some true => (ev cf n c ρ2).bind fun sc ρ3 => (match cmpP o' sb.d sc.d with
        | some r => .ok (.dat (.bl r)) ρ3
        | none => .stuck)
      | some false => .ok (.dat (.bl false)) ρ2
      | none => .stuck)
    | .and a b => (ev cf n a ρ).bind fun sa ρ1 => (match sa.d with
      | .bl true => (ev cf n b ρ1).bind fun sb ρ2 => .ok (.dat sb.d) ρ2
      | .bl false => .ok (.dat (.bl false)) ρ1
      | _ => .stuck)
    | .or a b => (ev cf n a ρ).bind fun sa ρ1 => (match sa.d with
      | .bl false => (ev cf n b ρ1).bind fun sb ρ2 => .ok (.dat sb.d) ρ2
      | .bl true => .ok (.dat (.bl true)) ρ1
      | _ => .stuck)
    | .not a => (ev cf n a ρ).bind fun sa ρ1 => (match sa.d with
      | .bl b => .ok (.dat (.bl (!b))) ρ1
      | _ => .stuck)
    | .ite c a b => (evT cf n c ρ).bind fun t ρ1 => if t = true then ev cf n a ρ1 else ev cf n b ρ1
    | .idx a b => (op2 (ev cf n) idxP a b ρ).bind fun d ρ1 => .ok (.dat d) ρ1
    | .slc a lo hi => (opd (ev cf n) a ρ).bind fun p ρ1 => (part cf n lo ρ1).bind fun l ρ2 => (part cf n hi ρ2).bind fun h ρ3 => (match cont ρ3 p with
      | some d => lift (slP d l h) ρ3
      | none => .stuck)
    | .rev a => (opd (ev cf n) a ρ).bind fun p ρ1 => (match cont ρ1 p with
      | some (.tup ds) => .ok (.dat (.tup ds.reverse)) ρ1
      | some (.lst ds) => .ok (.own (.lst ds.reverse)) ρ1
      | _ => .stuck)
    | .call j args => (opds (ev cf n) args ρ).bind fun ps ρ1 => callR cf j ps ρ1
    | .callv i args => (match ρ[i]? with
      | some (some (.dat (.fn j))) => (opds (ev cf n) args ρ).bind fun ps ρ1 => callR cf j ps ρ1
      | _ => .stuck)
    | .bi b args => (opds (ev cf n) args ρ).bind fun ps ρ1 => (match conts ρ1 ps with
      | some ds => lift (callP b ds) ρ1
      | none => .stuck)
    | .inst a T => (opd (ev cf n) a ρ).bind fun p ρ1 => (match cont ρ1 p with
      | some d => (match instP d T with
        | some b => .ok (.dat (.bl b)) ρ1
        | none => .stuck)
      | none => .stuck)
    | .get a k d => (opd (ev cf n) a ρ).bind fun p ρ1 => if isDic (cont ρ1 p) = true then (ev cf n k ρ1).bind fun sk ρ2 => (ev cf n d ρ2).bind fun sd ρ3 => (match cont ρ3 p with
      | some (.dK kds) => (match keyOf sk.d with
        | some kk => .ok (.dat ((lookD kds kk).getD sd.d)) ρ3
        | none => .stuck)
      | some (.dT kds) => (match sk.d with
        | .tup ks => (match keysOf ks with
          | some kk => .ok (.dat ((lookD kds kk).getD sd.d)) ρ3
          | none => .stuck)
        | _ => .stuck)
      | _ => .stuck) else .stuck
    | .lrng a => (ev cf n a ρ).bind fun sa ρ1 => (match sa.d with
      | .int j => if 0 ≤ j ∧ j ≤ Z24 then .ok (.own (.lst (rangeD 0 j.toNat))) ρ1 else .stuck
      | _ => .stuck)
    | .dcp a => (opd (ev cf n) a ρ).bind fun p ρ1 => (match cont ρ1 p with
      | some (.dK kds) => .ok (.own (.dK kds)) ρ1
      | _ => .stuck)
    | .dprs a => (opd (ev cf n) a ρ).bind fun p ρ1 => (match cont ρ1 p with
      | some (.lst es) => (match pairsK es with
        | some kds => .ok (.own (.dK (kds.foldl (fun acc kv => putD acc kv.1 kv.2) []))) ρ1
        | none => .stuck)
      | _ => .stuck)
    | .lc own tg it c e => lcFin own (evIt (ev cf n) it) (lcGo (ev cf n e) (testO (evT cf n) c) own tg) ρ
    | .lc2 own own1 tg it tg1 it1 c e => lcFin own (evIt (ev cf n) it) (lcOut own own1 tg (evIt (ev cf n) it1) (lcGo (ev cf n e) (testO (evT cf n) c) own1 tg1)) ρ
    | .lc3 own own1 own2 tg it tg1 it1 tg2 it2 c e => lcFin own (evIt (ev cf n) it) (lcOut own own1 tg (evIt (ev cf n) it1) (lcOut own1 own2 tg1 (evIt (ev cf n) it2) (lcGo (ev cf n e) (testO (evT cf n) c) own2 tg2))) ρ
    | .tri q => triR (ev cf n q ρ)
def evT (cf : Cf) : Nat → Q → Env' → Res Bool
  | 0, _, _ => .stuck
  | n + 1, q, ρ => match q with
    | .and a b => (evT cf n a ρ).bind fun t ρ1 => if t = true then evT cf n b ρ1 else .ok false ρ1
    | .or a b => (evT cf n a ρ).bind fun t ρ1 => if t = true then .ok true ρ1 else evT cf n b ρ1
    | .not a => (evT cf n a ρ).bind fun t ρ1 => .ok (!t) ρ1
    | q => (ev cf n q ρ).bind fun sv ρ1 => lift (tru sv.d) ρ1
def part (cf : Cf) : Nat → Option Q → Env' → Res (Option Int)
  | 0, _, _ => .stuck
  | _ + 1, none, ρ => .ok none ρ
  | n + 1, some q, ρ => (ev cf n q ρ).bind fun sv ρ1 => (match sv.d with
    | .int i => .ok (some i) ρ1
    | _ => .stuck)
end

/-! ### statements -/
inductive SRes where
  | nx (ρ : Env') | rt (sv : SV) (ρ : Env') | bk (ρ : Env') | ct (ρ : Env') | exc (x : Exn) (ρ : Env') | stuck
@[reducible] def Res.sb {α : Type} (r : Res α) (g : α → Env' → SRes) : SRes := match r with
  | .ok a ρ => g a ρ
  | .exc x ρ => .exc x ρ
  | .stuck => .stuck
@[reducible] def SRes.sq (r : SRes) (g : Env' → SRes) : SRes := match r with
  | .nx ρ => g ρ
  | .rt sv ρ => .rt sv ρ
  | .bk ρ => .bk ρ
  | .ct ρ => .ct ρ
  | .exc x ρ => .exc x ρ
  | .stuck => .stuck
/-- kept our own, or frozen -/
def keepO (k : Bool) (sv : SV) : SV := if k = true then sv else .dat sv.d
/-- a name is stored -/
def setS (i : Nat) (sv : SV) (ρ : Env') : SRes := if sv.lent = true then .stuck else match ρ[i]? with
  | some none => .nx (ρ.set i (some sv))
  | some (some sw) => if sw.lent = true then .stuck else .nx (ρ.set i (some sv))
  | none => .stuck
def unpS (T : Tg) (d : D) (ρ : Env') : SRes := match asg T d ρ with
  | some ρ1 => .nx ρ1
  | none => .stuck
/-- a thing of ours is written -/
def putAt (d k v : D) : Option D := match d with
  | .lst ds => (match k with
    | .int i => (ixN ds.length i).map fun j => .lst (ds.set j v)
    | _ => none)
  | .dK kds => if kds.length < Z24 then (keyOf k).map fun kk => .dK (putD kds kk v) else none
  | .dT kds => if kds.length < Z24 then (match k with
    | .tup ks => (keysOf ks).map fun kk => .dT (putD kds kk v)
    | _ => none) else none
  | _ => none
def hasSlot (ρ : Env') (i : Nat) : Bool := match ρ[i]? with
  | some (some _) => true
  | _ => false
def hasLst (ρ : Env') (i : Nat) : Bool := match ρ[i]? with
  | some (some (.own (.lst _))) => true
  | some (some (.bor (.lst _))) => true
  | _ => false
def pushAt (d v : D) : Option D := match d with
  | .lst ds => if ds.length < Z24 then some (.lst (ds ++ [v])) else none
  | _ => none
def modS (i : Nat) (g : D → Option D) (ρ : Env') : SRes := match ρ[i]? with
  | some (some (.own d)) => (match g d with
    | some d' => .nx (ρ.set i (some (.own d')))
    | none => .stuck)
  | some (some (.bor d)) => (match g d with
    | some d' => .nx (ρ.set i (some (.bor d')))
    | none => .stuck)
  | _ => .stuck
def retvS (i : Nat) (ρ : Env') : SRes := match ρ[i]? with
  | some (some (.own d)) => .rt (.own d) ρ
  | some (some (.dat d)) => .rt (.dat d) ρ
  | _ => .stuck
def forGo (body : Env' → SRes) (T : Tg) : List D → Env' → SRes
  | [], ρ => .nx ρ
  | d :: ds, ρ => match asg T d ρ with
    | none => .stuck
    | some ρ1 => match body ρ1 with
      | .nx ρ2 => forGo body T ds ρ2
      | .ct ρ2 => forGo body T ds ρ2
      | .bk ρ2 => .nx ρ2
      | .rt sv ρ2 => .rt sv ρ2
      | .exc x ρ2 => .exc x ρ2
      | .stuck => .stuck
def whGo (c : Env' → Res Bool) (body : Env' → SRes) : Nat → Env' → SRes
  | 0, _ => .stuck
  | m + 1, ρ => (c ρ).sb fun b ρ1 => if b = true then match body ρ1 with
      | .nx ρ2 => whGo c body m ρ2
      | .ct ρ2 => whGo c body m ρ2
      | .bk ρ2 => .nx ρ2
      | .rt sv ρ2 => .rt sv ρ2
      | .exc x ρ2 => .exc x ρ2
      | .stuck => .stuck
    else .nx ρ1
mutual
def exS (cf : Cf) : Nat → S → Env' → SRes
  | 0, _, _ => .stuck
  | n + 1, s, ρ => match s with
    | .set i q => (ev cf n q ρ).sb fun sv ρ1 => setS i sv ρ1
    | .unp ts q => (ev cf n q ρ).sb fun sv ρ1 => unpS (.tup ts) sv.d ρ1
    | .par i j a b => (ev cf n a ρ).sb fun sv ρ1 => (ev cf n b ρ1).sb fun sw ρ2 => (setS i (.dat sv.d) ρ2).sq fun ρ3 => setS j (.dat sw.d) ρ3
    | .parO k i j a b => (ev cf n a ρ).sb fun sv ρ1 => (ev cf n b ρ1).sb fun sw ρ2 => (setS i (keepO k sv) ρ2).sq fun ρ3 => setS j sw ρ3
    | .store i k v => (ev cf n v ρ).sb fun sv ρ1 => if hasSlot ρ1 i = true then (ev cf n k ρ1).sb fun sk ρ2 => modS i (fun d => putAt d sk.d sv.d) ρ2 else .stuck
    | .app i q => if hasLst ρ i = true then (ev cf n q ρ).sb fun sv ρ1 => modS i (fun d => pushAt d sv.d) ρ1 else .stuck
    | .expr q => (ev cf n q ρ).sb fun _ ρ1 => .nx ρ1
    | .ifs c a b => (evT cf n c ρ).sb fun t ρ1 => if t = true then exSs cf n a ρ1 else exSs cf n b ρ1
    | .for_ T it body => (evIt (ev cf n) it ρ).sb fun items ρ1 => forGo (exSs cf n body) T items ρ1
    | .whil m c body => whGo (evT cf n c) (exSs cf n body) m ρ
    | .ret q => (ev cf n q ρ).sb fun sv ρ1 => .rt sv ρ1
    | .retv i => retvS i ρ
    | .retN => .rt (.dat .non) ρ
    | .raise c => .exc ⟨c, none⟩ ρ
    | .brk => .bk ρ
    | .cont => .ct ρ
    | .pass => .nx ρ
    | .never => .stuck
def exSs (cf : Cf) : Nat → List S → Env' → SRes
  | 0, _, _ => .stuck
  | _ + 1, [], ρ => .nx ρ
  | n + 1, s :: ss, ρ => (exS cf n s ρ).sq fun ρ1 => exSs cf n ss ρ1
end
/-- a def -/
structure Fd where
  np : Nat
  nl : Nat
  lend : Bool
  body : List S
def backOf (ρ : Env') : Option D := match ρ with
  | some (.bor d) :: _ => some d
  | _ => none
def endF (lend : Bool) (ρ : Env') (g : Option D → FRes) : FRes := if lend = true then match backOf ρ with
  | some d => g (some d)
  | none => .stuck else g none
def finF (lend : Bool) (r : SRes) : FRes := match r with
  | .nx ρ => endF lend ρ fun b => .ok (.dat .non) b
  | .rt sv ρ => endF lend ρ fun b => .ok sv b
  | .exc x ρ => endF lend ρ fun b => .exc x b
  | _ => .stuck
def isLent : List SV → Bool
  | .bor _ :: _ => true
  | _ => false
/-- what def j computes with k calls deep, n the fuel of a body -/
def semK (defs : Nat → Option Fd) (gv : Nat → Option D) (n : Nat) : Nat → Nat → List SV → FRes
  | 0, _, _ => .stuck
  | k + 1, j, svs => match defs j with
    | none => .stuck
    | some fd => if svs.length = fd.np ∧ isLent svs = fd.lend then
        finF fd.lend (exSs ⟨semK defs gv n k, fun i => match defs i with
          | some g => g.lend
          | none => false, gv⟩ n fd.body (svs.map some ++ List.replicate (fd.nl - fd.np) none))
      else .stuck
end DL

namespace DL
open PySem PySem.Spec PyProof.Rows L2
variable [TB]

section
variable {K : PySem.W.Frag} {fa : Nat → Option Addr} {H H' H0 H1 H2 : Hp} {F F' F0 F1 : AP'} {σ : L2.St} {ρ ρ' ρ0 : Env'}

abbrev StepE (H : Hp) (F : AP') (σ : L2.St) (ρ : Env') (H' : Hp) (F' : AP') (σ' : L2.St) (ρ' : Env') : Prop := Step H F (Own σ ρ) (Bor σ ρ) H' F' (Own σ' ρ') (Bor σ' ρ')

theorem set_get {α : Type} {l : List α} {i j : Nat} {x y : α} (h : (l.set i x)[j]? = some y) : (i = j ∧ y = x) ∨ (i ≠ j ∧ l[j]? = some y) := by
  by_cases e : i = j
  · subst e
    by_cases hi : i < l.length
    · rw [List.getElem?_set_self hi] at h; cases h; exact .inl ⟨rfl, rfl⟩
    · rw [List.getElem?_eq_none (by simpa using hi)] at h; cases h
  · rw [List.getElem?_set_ne e] at h; exact .inr ⟨e, h⟩
theorem get_lt {α : Type} {l : List α} {i : Nat} {x : α} (h : l[i]? = some x) : i < l.length := (List.getElem?_eq_some_iff.mp h).1

/-- a name of our own is frozen -/
theorem EnvOk.freeze {i : Nat} {d : D} {a : Addr} (ok : EnvOk K fa H F σ ρ) (e : ρ[i]? = some (some (.own d))) (es : σ[i]? = some (some (.ref a))) :
    EnvOk K fa H (fun b => F b ∨ b = a) σ (ρ.set i (some (.dat d))) ∧ StepE H F σ ρ H (fun b => F b ∨ b = a) σ (ρ.set i (some (.dat d))) ∧ Rep K fa H (fun b => F b ∨ b = a) (.ref a) d := by
  obtain ⟨v, e2, b, e3, nf, ow⟩ := ok.slot i _ e
  rw [es] at e2; cases e2; cases e3
  have st : Stays H F H (fun b => F b ∨ b = a) := ⟨fun _ _ h => h, fun _ _ _ _ h => h, fun _ h => .inl h, fun _ _ _ h => h⟩
  have rep : Rep K fa H (fun b => F b ∨ b = a) (.ref a) d := by
    cases ow with
    | lst q r => exact .lst (.inr rfl) (.inl q) (r.stays st)
    | dK q r => exact .dK (.inr rfl) (.inl q) r.1 (r.2.stays st)
    | dT q r => exact .dT (.inr rfl) (.inl q) r.1 (r.2.stays st)
  have own' : ∀ b, Own σ (ρ.set i (some (.dat d))) b → Own σ ρ b ∧ b ≠ a := fun b ⟨j, sv, h1, h2, h3⟩ => by
    rcases set_get h1 with ⟨_, h⟩ | ⟨ne, h⟩
    · cases h; cases h2
    · refine ⟨⟨j, sv, h, h2, h3⟩, fun z => ?_⟩
      subst z
      exact ne (ok.apart i j _ _ b e h rfl h2 es h3)
  refine ⟨⟨by rw [List.length_set]; exact ok.len, fun j sv h => ?_, fun j k sv sw b h1 h2 m1 m2 s1 s2 => ?_, fun b h => ?_, ok.tb⟩, ⟨fun _ _ h _ _ => .inl h, fun _ h => .inl h, fun b h => ?_, fun b h => .inl (own' b h).1, fun b => ?_, fun _ h => h, fun h => h⟩, rep⟩
  · rcases set_get h with ⟨rfl, g⟩ | ⟨ne, h⟩
    · cases g; exact ⟨_, es, rep⟩
    · obtain ⟨w, h1, h2⟩ := ok.slot j sv h
      refine ⟨w, h1, ?_⟩
      have far : ∀ c d', w = .ref c → ¬ F c → sv.mine = true → OwnAt K fa H F c d' → ¬ (F c ∨ c = a) ∧ OwnAt K fa H (fun b => F b ∨ b = a) c d' := fun c d' ew nc m q => by
        refine ⟨fun z => ?_, q.stays rfl st⟩
        rcases z with z | z
        · exact nc z
        · subst z ew
          exact ne (ok.apart i j _ _ c e h rfl m es h1)
      cases sv with
      | dat d' => exact Rep.stays st h2
      | own d' => obtain ⟨c, ew, nc, q⟩ := h2; exact ⟨c, ew, far c d' ew nc rfl q⟩
      | bor d' => obtain ⟨c, ew, nc, q⟩ := h2; exact ⟨c, ew, far c d' ew nc rfl q⟩
  · rcases set_get h1 with ⟨_, h⟩ | ⟨ne, h⟩
    · cases h; cases m1
    · rcases set_get h2 with ⟨_, h'⟩ | ⟨ne', h'⟩
      · cases h'; cases m2
      · exact ok.apart j k sv sw b h h' m1 m2 s1 s2
  · rcases h with h | h
    · exact ok.fd b h
    · subst h
      obtain ⟨o, ho, _⟩ := ow.some
      rw [ho]; exact fun z => nomatch z
  · rcases h with h | h
    · exact .inl h
    · subst h
      refine .inr (.inr ⟨⟨i, _, e, rfl, es⟩, fun ⟨j, sv, h1, h2, h3⟩ => ?_⟩)
      have hj := ok.apart i j _ _ b e h1 rfl (by cases sv <;> first | rfl | cases h2) es h3
      subst hj
      rw [e] at h1; cases h1; cases h2
  · constructor
    · rintro ⟨j, sv, h1, h2, h3⟩
      rcases set_get h1 with ⟨_, h⟩ | ⟨ne, h⟩
      · cases h; cases h2
      · exact ⟨j, sv, h, h2, h3⟩
    · rintro ⟨j, sv, h1, h2, h3⟩
      refine ⟨j, sv, ?_, h2, h3⟩
      rw [List.getElem?_set_ne ?_]
      · exact h1
      · intro z; subst z; rw [e] at h1; cases h1; cases h2

/-- the names of the frame, whatever the heap: a slot is stored anew -/
structure CanSet (K : PySem.W.Frag) (fa : Nat → Option Addr) (H : Hp) (F : AP') (σ : L2.St) (ρ : Env') (v : V) (sv : SV) : Prop where
  rep : RepS K fa H F v sv
  new : ∀ a, v = .ref a → sv.mine = true → ¬ Own σ ρ a
  nolend : sv.lent = false
theorem EnvOk.setSlot {i : Nat} {v : V} {sv : SV} (ok : EnvOk K fa H F σ ρ) (hi : i < ρ.length) (nl : ∀ sw, ρ[i]? = some (some sw) → sw.lent = false) (c : CanSet K fa H F σ ρ v sv) :
    EnvOk K fa H F (σ.set i (some v)) (ρ.set i (some sv)) ∧ (∀ a, Own (σ.set i (some v)) (ρ.set i (some sv)) a → Own σ ρ a ∨ (v = .ref a ∧ sv.mine = true)) ∧ ∀ a, Bor (σ.set i (some v)) (ρ.set i (some sv)) a ↔ Bor σ ρ a := by
  have hiσ : i < σ.length := by rw [ok.len]; exact hi
  refine ⟨⟨by rw [List.length_set, List.length_set]; exact ok.len, fun j sw h => ?_, fun j k sw sz b h1 h2 m1 m2 s1 s2 => ?_, ok.fd, ok.tb⟩, fun a ⟨j, sw, h1, h2, h3⟩ => ?_, fun a => ⟨fun ⟨j, sw, h1, h2, h3⟩ => ?_, fun ⟨j, sw, h1, h2, h3⟩ => ?_⟩⟩
  · rcases set_get h with ⟨rfl, g⟩ | ⟨ne, h⟩
    · cases g
      exact ⟨v, by rw [List.getElem?_set_self hiσ], c.rep⟩
    · obtain ⟨w, q1, q2⟩ := ok.slot j sw h
      exact ⟨w, by rw [List.getElem?_set_ne ne]; exact q1, q2⟩
  · rcases set_get h1 with ⟨rfl, g1⟩ | ⟨n1, g1⟩
    · rcases set_get h2 with ⟨rfl, g2⟩ | ⟨n2, g2⟩
      · rfl
      · cases g1
        rw [List.getElem?_set_self hiσ] at s1
        rw [List.getElem?_set_ne n2] at s2
        have e1 : v = .ref b := Option.some.inj (Option.some.inj s1)
        exact absurd ⟨k, sz, g2, m2, s2⟩ (c.new b e1 m1)
    · rw [List.getElem?_set_ne n1] at s1
      rcases set_get h2 with ⟨rfl, g2⟩ | ⟨n2, g2⟩
      · cases g2
        rw [List.getElem?_set_self hiσ] at s2
        have e1 : v = .ref b := Option.some.inj (Option.some.inj s2)
        exact absurd ⟨j, sw, g1, m1, s1⟩ (c.new b e1 m2)
      · rw [List.getElem?_set_ne n2] at s2
        exact ok.apart j k sw sz b g1 g2 m1 m2 s1 s2
  · rcases set_get h1 with ⟨rfl, g⟩ | ⟨ne, g⟩
    · cases g
      rw [List.getElem?_set_self hiσ] at h3
      exact .inr ⟨Option.some.inj (Option.some.inj h3), h2⟩
    · rw [List.getElem?_set_ne ne] at h3
      exact .inl ⟨j, sw, g, h2, h3⟩
  · rcases set_get h1 with ⟨rfl, g⟩ | ⟨ne, g⟩
    · cases g
      rw [c.nolend] at h2; cases h2
    · rw [List.getElem?_set_ne ne] at h3
      exact ⟨j, sw, g, h2, h3⟩
  · have ne : i ≠ j := by
      intro z; subst z
      rw [nl sw h1] at h2; cases h2
    exact ⟨j, sw, by rw [List.getElem?_set_ne ne]; exact h1, h2, by rw [List.getElem?_set_ne ne]; exact h3⟩

/-- what we own is written -/
theorem EnvOk.mutate {i : Nat} {sv sw : SV} {a : Addr} {o : HO} {d : D} (ok : EnvOk K fa H F σ ρ) (e : ρ[i]? = some (some sv)) (m : sv.mine = true) (es : σ[i]? = some (some (.ref a)))
    (hs : (sv.lent = false ∧ sw = .own d) ∨ (sv.lent = true ∧ sw = .bor d)) (hw : OwnAt K fa (upd H a o) F a d) :
    EnvOk K fa (upd H a o) F σ (ρ.set i (some sw)) ∧ StepE H F σ ρ (upd H a o) F σ (ρ.set i (some sw)) := by
  have oa : Own σ ρ a := ⟨i, sv, e, m, es⟩
  have nfa : ¬ F a := ok.own_nf oa
  obtain ⟨o0, ho0, nt, nz⟩ := ok.own_at oa
  have hi := get_lt e
  have mw : sw.mine = true := by rcases hs with ⟨_, rfl⟩ | ⟨_, rfl⟩ <;> rfl
  have lw : sw.lent = sv.lent := by rcases hs with ⟨h, rfl⟩ | ⟨h, rfl⟩ <;> rw [h] <;> rfl
  have own' : ∀ b, Own σ (ρ.set i (some sw)) b → Own σ ρ b := fun b ⟨j, sz, h1, h2, h3⟩ => by
    rcases set_get h1 with ⟨rfl, g⟩ | ⟨ne, g⟩
    · exact ⟨i, sv, e, m, h3⟩
    · exact ⟨j, sz, g, h2, h3⟩
  have tbu : Tbs (upd H a o) := tabs_upd ok.tb ho0 nz.2.1 (nz.2.2 a)
  have st : Stays H F (upd H a o) F := by
    refine ⟨fun b xs h => ?_, fun b u f _ h => ?_, fun _ h => h, fun b o u h => by
      have ne : b ≠ a := by intro z; subst z; rw [ho0] at h; exact nz.1 _ _ (Option.some.inj h)
      rw [upd_ne ne]; exact h⟩
    · have ne : b ≠ a := by intro z; subst z; rw [ho0] at h; exact nt _ (Option.some.inj h)
      rw [upd_ne ne]; exact h
    · have ne : b ≠ a := by intro z; subst z; exact nfa f
      unfold Rd
      rw [upd_ne ne]; exact h
  refine ⟨⟨by rw [List.length_set]; exact ok.len, fun j sz h => ?_, fun j k sz sy b h1 h2 m1 m2 s1 s2 => ?_, fun b f => ?_, tbu⟩, ⟨fun b u h no _ => ?_, fun _ h => h, fun _ h => .inl h, fun b h => .inl (own' b h), fun b => ?_, fun b h => ?_, fun _ => tbu⟩⟩
  · rcases set_get h with ⟨rfl, g⟩ | ⟨ne, g⟩
    · cases g
      refine ⟨_, es, ?_⟩
      rcases hs with ⟨_, rfl⟩ | ⟨_, rfl⟩ <;> exact ⟨a, rfl, nfa, hw⟩
    · obtain ⟨w, q1, q2⟩ := ok.slot j sz g
      refine ⟨w, q1, ?_⟩
      have far : ∀ c d', w = .ref c → sz.mine = true → OwnAt K fa H F c d' → OwnAt K fa (upd H a o) F c d' := fun c d' ew mz q => by
        have nc : c ≠ a := by
          intro z; subst z ew
          exact ne (ok.apart i j _ _ c e g m mz es q1)
        exact q.stays (upd_ne nc) st
      cases sz with
      | dat d' => exact Rep.stays st q2
      | own d' => obtain ⟨c, ew, nc, q⟩ := q2; exact ⟨c, ew, nc, far c d' ew rfl q⟩
      | bor d' => obtain ⟨c, ew, nc, q⟩ := q2; exact ⟨c, ew, nc, far c d' ew rfl q⟩
  · have low : ∀ (j : Nat) (sz : SV), (ρ.set i (some sw))[j]? = some (some sz) → sz.mine = true → ∃ sz' : SV, ρ[j]? = some (some sz') ∧ sz'.mine = true := fun j sz h mz => by
      rcases set_get h with ⟨rfl, g⟩ | ⟨ne, g⟩
      · exact ⟨sv, e, m⟩
      · exact ⟨sz, g, mz⟩
    obtain ⟨z1, g1, n1⟩ := low j sz h1 m1
    obtain ⟨z2, g2, n2⟩ := low k sy h2 m2
    exact ok.apart j k z1 z2 b g1 g2 n1 n2 s1 s2
  · by_cases z : b = a
    · subst z; rw [upd_same]; exact fun q => nomatch q
    · rw [upd_ne z]; exact ok.fd b f
  · have ne : b ≠ a := by intro z; subst z; exact no oa
    rw [upd_ne ne]; exact .inl h
  · constructor
    · rintro ⟨j, sz, h1, h2, h3⟩
      rcases set_get h1 with ⟨rfl, g⟩ | ⟨ne, g⟩
      · cases g
        exact ⟨i, sv, e, by rw [← lw]; exact h2, h3⟩
      · exact ⟨j, sz, g, h2, h3⟩
    · rintro ⟨j, sz, h1, h2, h3⟩
      by_cases ne : i = j
      · subst ne
        rw [e] at h1; cases h1
        exact ⟨i, sw, by rw [List.getElem?_set_self hi], by rw [lw]; exact h2, h3⟩
      · exact ⟨j, sz, by rw [List.getElem?_set_ne ne]; exact h1, h2, h3⟩
  · by_cases z : b = a
    · subst z; rw [upd_same] at h; cases h
    · rw [upd_ne z] at h; exact h

/-- a result that nobody owns yet is frozen -/
theorem ResOk.freeze {v : V} {sv : SV} (ok : EnvOk K fa H F σ ρ) (r : ResOk K fa H0 H F σ ρ v sv) : ∃ F1, EnvOk K fa H F1 σ ρ ∧ Rep K fa H F1 v sv.d ∧ (∀ b, F b → F1 b) ∧ ∀ b, F1 b → F b ∨ H0 b = none := by
  obtain ⟨r1, r2⟩ := r
  cases sv with
  | dat d => exact ⟨F, ok, r1, fun _ h => h, fun _ h => .inl h⟩
  | own d =>
    obtain ⟨a, rfl, nf, ow⟩ := r1
    obtain ⟨b, eb, nn, no⟩ := r2
    cases eb
    have st : Stays H F H (fun b => F b ∨ b = a) := ⟨fun _ _ h => h, fun _ _ _ _ h => h, fun _ h => .inl h, fun _ _ _ h => h⟩
    refine ⟨fun b => F b ∨ b = a, ⟨ok.len, fun j sz h => ?_, ok.apart, fun b f => ?_, ok.tb⟩, ?_, fun _ h => .inl h, fun b h => ?_⟩
    · obtain ⟨w, q1, q2⟩ := ok.slot j sz h
      refine ⟨w, q1, ?_⟩
      have far : ∀ c d', w = .ref c → sz.mine = true → ¬ F c → OwnAt K fa H F c d' → ¬ (F c ∨ c = a) ∧ OwnAt K fa H (fun b => F b ∨ b = a) c d' := fun c d' ew mz nc q => by
        refine ⟨fun z => ?_, q.stays rfl st⟩
        rcases z with z | z
        · exact nc z
        · subst z ew
          exact no ⟨j, sz, h, mz, q1⟩
      cases sz with
      | dat d' => exact Rep.stays st q2
      | own d' => obtain ⟨c, ew, nc, q⟩ := q2; exact ⟨c, ew, far c d' ew rfl nc q⟩
      | bor d' => obtain ⟨c, ew, nc, q⟩ := q2; exact ⟨c, ew, far c d' ew rfl nc q⟩
    · rcases f with f | f
      · exact ok.fd b f
      · subst f
        obtain ⟨o, ho, _⟩ := ow.some
        rw [ho]; exact fun z => nomatch z
    · cases ow with
      | lst q r => exact .lst (.inr rfl) (.inl q) (r.stays st)
      | dK q r => exact .dK (.inr rfl) (.inl q) r.1 (r.2.stays st)
      | dT q r => exact .dT (.inr rfl) (.inl q) r.1 (r.2.stays st)
    · rcases h with h | h
      · exact .inl h
      · subst h; exact .inr nn
  | bor d => exact r2.elim
/-- the step behind which more is frozen, new since H0 -/
theorem Step.more {O B O' B' : AP'} (s : Step H0 F0 O B H F O' B') (h1 : ∀ b, F b → F1 b) (h2 : ∀ b, F1 b → F b ∨ H0 b = none) : Step H0 F0 O B H F1 O' B' :=
  ⟨s.keep, fun b h => h1 b (s.fmono b h), fun b h => (h2 b h).elim (s.fnew b) fun z => .inr (.inl z), s.onew, s.bor, s.dom, s.tabs⟩
end

/-! ### operands -/
def PVok (K : PySem.W.Frag) (fa : Nat → Option Addr) (H : Hp) (F : AP') (σ : L2.St) (x : V) : PV → Prop
  | .sl i => σ[i]? = some (some x)
  | .dd d => Rep K fa H F x d
section
variable {K : PySem.W.Frag} {fa : Nat → Option Addr} {H H' : Hp} {F F' : AP'} {σ : L2.St} {ρ : Env'}
theorem PVok.stays {x : V} {p : PV} (h : PVok K fa H F σ x p) (s : Stays H F H' F') : PVok K fa H' F' σ x p := by
  cases p with
  | sl i => exact h
  | dd d => exact Rep.stays s h
theorem RepS.rd {v : V} {sv : SV} (h : RepS K fa H F v sv) : RdF K fa H F v sv.d := by
  cases sv with
  | dat d => exact .inl h
  | own d => obtain ⟨a, e, _, q⟩ := h; exact .inr ⟨a, e, q⟩
  | bor d => obtain ⟨a, e, _, q⟩ := h; exact .inr ⟨a, e, q⟩
theorem PVok.read {x : V} {p : PV} {d : D} (h : PVok K fa H F σ x p) (ok : EnvOk K fa H F σ ρ) (e : cont ρ p = some d) : RdF K fa H F x d := by
  cases p with
  | sl i =>
    unfold cont at e
    dsimp only at e
    split at e
    · rename_i sv h1
      cases e
      obtain ⟨v, h2, h3⟩ := ok.slot i sv h1
      rw [show σ[i]? = some (some x) from h] at h2
      cases h2
      exact h3.rd
    · cases e
  | dd d' => cases e; exact .inl h
inductive PVs (K : PySem.W.Frag) (fa : Nat → Option Addr) (H : Hp) (F : AP') (σ : L2.St) : List V → List PV → Prop
  | nil : PVs K fa H F σ [] []
  | cons {x : V} {xs : List V} {p : PV} {ps : List PV} : PVok K fa H F σ x p → PVs K fa H F σ xs ps → PVs K fa H F σ (x :: xs) (p :: ps)
theorem PVs.stays (s : Stays H F H' F') : ∀ {xs : List V} {ps : List PV}, PVs K fa H F σ xs ps → PVs K fa H' F' σ xs ps
  | _, _, .nil => .nil
  | _, _, .cons h r => .cons (h.stays s) (PVs.stays s r)
theorem PVs.read (ok : EnvOk K fa H F σ ρ) : ∀ {xs : List V} {ps : List PV} {ds : List D}, PVs K fa H F σ xs ps → conts ρ ps = some ds → RdFs K fa H F xs ds
  | _, _, _, .nil, e => by cases e; exact .nil
  | _, _, _, .cons h r, e => by
    unfold conts at e
    split at e
    · rename_i d ds e1 e2
      cases e
      exact .cons (h.read ok e1) (PVs.read ok r e2)
    · cases e
end
end DL

namespace DL
open PySem PySem.Spec PyProof.Rows L2
variable [TB]

/-- what is fixed: the functions' addresses, how an exception lies, the wish about it -/
structure Fix where
  fa : Nat → Option Addr
  EX : ExR
  W : WX

section
variable (K : PySem.W.Frag) (Z : Fix)
/-- behind a reading that began at H0, F0, ρ0; R: how a result lies -/
def PostG {α β : Type} (R : Hp → α → β → Hp → AP' → L2.St → Env' → Prop) (σ : L2.St) (H0 : Hp) (F0 : AP') (ρ0 : Env') (r : Res α) (Q : β → Hp → Prop) : Prop := match r with
  | .ok a ρ' => ∀ b H' F', StepE H0 F0 σ ρ0 H' F' σ ρ' → EnvOk K Z.fa H' F' σ ρ' → R H0 a b H' F' σ ρ' → Q b H'
  | .exc x ρ' => ∀ cls d H' F', StepE H0 F0 σ ρ0 H' F' σ ρ' → EnvOk K Z.fa H' F' σ ρ' → Z.EX x cls d H' → Z.W cls d σ H'
  | .stuck => False
/-- R looks at its beginning only for what is new -/
def Late {α β : Type} (R : Hp → α → β → Hp → AP' → L2.St → Env' → Prop) : Prop := ∀ H0 H1 a b H' F' σ ρ', (∀ x, H1 x = none → H0 x = none) → R H1 a b H' F' σ ρ' → R H0 a b H' F' σ ρ'
def RSV : Hp → SV → V → Hp → AP' → L2.St → Env' → Prop := fun H0 sv v H F σ ρ => ResOk K Z.fa H0 H F σ ρ v sv
def RD : Hp → D → V → Hp → AP' → L2.St → Env' → Prop := fun _ d v H F _ _ => Rep K Z.fa H F v d
def RPV : Hp → PV → V → Hp → AP' → L2.St → Env' → Prop := fun _ p v H F σ _ => PVok K Z.fa H F σ v p
def RPVs : Hp → List PV → List V → Hp → AP' → L2.St → Env' → Prop := fun _ p v H F σ _ => PVs K Z.fa H F σ v p
def RDs : Hp → List D → List V → Hp → AP' → L2.St → Env' → Prop := fun _ d v H F _ _ => RepL K Z.fa H F v d
def RB : Hp → Bool → Bool → Hp → AP' → L2.St → Env' → Prop := fun _ b c _ _ _ _ => b = c
def RPt : Hp → Option Int → Option Int → Hp → AP' → L2.St → Env' → Prop := fun _ b c _ _ _ _ => b = c
end
section
variable {K : PySem.W.Frag} {Z : Fix} {α β α' β' : Type} {R : Hp → α → β → Hp → AP' → L2.St → Env' → Prop} {R' : Hp → α' → β' → Hp → AP' → L2.St → Env' → Prop}
variable {σ : L2.St} {H0 H1 : Hp} {F0 F1 : AP'} {ρ0 ρ1 : Env'}
theorem late_RSV : Late (RSV K Z) := fun H0 H1 sv v H' F' σ ρ' d h => by
  obtain ⟨h1, h2⟩ := h
  refine ⟨h1, ?_⟩
  cases sv with
  | dat _ => trivial
  | own _ => obtain ⟨a, e, n, o⟩ := h2; exact ⟨a, e, d a n, o⟩
  | bor _ => exact h2
theorem late_RD : Late (RD K Z) := fun _ _ _ _ _ _ _ _ _ h => h
theorem late_RPV : Late (RPV K Z) := fun _ _ _ _ _ _ _ _ _ h => h
theorem late_RPVs : Late (RPVs K Z) := fun _ _ _ _ _ _ _ _ _ h => h
theorem late_RDs : Late (RDs K Z) := fun _ _ _ _ _ _ _ _ _ h => h
theorem late_RB : Late RB := fun _ _ _ _ _ _ _ _ _ h => h
theorem late_RPt : Late RPt := fun _ _ _ _ _ _ _ _ _ h => h
theorem PostG.after {r : Res α} {Q : β → Hp → Prop} (l : Late R) (st : StepE H0 F0 σ ρ0 H1 F1 σ ρ1) (h : PostG K Z R σ H0 F0 ρ0 r Q) : PostG K Z R σ H1 F1 ρ1 r Q := by
  cases r with
  | ok a ρ' => exact fun b H' F' s ok r => h b H' F' (st.trans s) ok (l _ _ _ _ _ _ _ _ st.dom r)
  | exc x ρ' => exact fun cls d H' F' s ok r => h cls d H' F' (st.trans s) ok r
  | stuck => exact h
/-- one reading, then another -/
theorem PostG.bind {f : Res α} {g : α → Env' → Res α'} {Q : β' → Hp → Prop} (l : Late R') (h : PostG K Z R' σ H0 F0 ρ0 (f.bind g) Q) :
    PostG K Z R σ H0 F0 ρ0 f (fun b H1 => ∃ a F1 ρ1, EnvOk K Z.fa H1 F1 σ ρ1 ∧ StepE H0 F0 σ ρ0 H1 F1 σ ρ1 ∧ R H0 a b H1 F1 σ ρ1 ∧ PostG K Z R' σ H1 F1 ρ1 (g a ρ1) Q) := by
  cases f with
  | ok a ρ' => exact fun b H' F' s ok r => ⟨a, F', ρ', ok, s, r, PostG.after l s h⟩
  | exc x ρ' => exact h
  | stuck => exact h
/-- .. the value frozen -/
theorem PostG.bindF {f : Res SV} {g : SV → Env' → Res α'} {Q : β' → Hp → Prop} (l : Late R') (h : PostG K Z R' σ H0 F0 ρ0 (f.bind g) Q) :
    PostG K Z (RSV K Z) σ H0 F0 ρ0 f (fun v H1 => ∃ sv F1 ρ1, EnvOk K Z.fa H1 F1 σ ρ1 ∧ StepE H0 F0 σ ρ0 H1 F1 σ ρ1 ∧ Rep K Z.fa H1 F1 v sv.d ∧ PostG K Z R' σ H1 F1 ρ1 (g sv ρ1) Q) := by
  cases f with
  | ok sv ρ' =>
    intro v H' F' s ok r
    obtain ⟨F1, ok1, rep, m1, m2⟩ := ResOk.freeze ok r
    exact ⟨sv, F1, ρ', ok1, s.more m1 m2, rep, PostG.after l (s.more m1 m2) h⟩
  | exc x ρ' => exact h
  | stuck => exact h
theorem PostG.imp {r : Res α} {Q Q' : β → Hp → Prop} (h : PostG K Z R σ H0 F0 ρ0 r Q) (i : ∀ b H, Q b H → Q' b H) : PostG K Z R σ H0 F0 ρ0 r Q' := by
  cases r with
  | ok a ρ' => exact fun b H' F' s ok r => i _ _ (h b H' F' s ok r)
  | exc x ρ' => exact h
  | stuck => exact h
theorem RSV.of_made {sv : SV} {z : V} {H' : Hp} (ok : EnvOk K Z.fa H0 F0 σ ρ0) (m : Made K Z.fa H0 F0 sv z H') : ∃ F', StepE H0 F0 σ ρ0 H' F' σ ρ0 ∧ EnvOk K Z.fa H' F' σ ρ0 ∧ ResOk K Z.fa H0 H' F' σ ρ0 z sv := by
  obtain ⟨F', g, r, n⟩ := m
  refine ⟨F', g.step, ok.grow g, r, ?_⟩
  cases sv with
  | dat _ => trivial
  | own _ =>
    obtain ⟨a, e, nn⟩ := n
    refine ⟨a, e, nn, fun o => ?_⟩
    obtain ⟨u, hu, _⟩ := ok.own_at o
    rw [nn] at hu; cases hu
  | bor _ => exact n
/-- a value made at the end -/
theorem PostG.made {sv : SV} {z : V} {H' : Hp} {Q : VK} (ok : EnvOk K Z.fa H0 F0 σ ρ0) (h : PostG K Z (RSV K Z) σ H0 F0 ρ0 (.ok sv ρ0) Q) (m : Made K Z.fa H0 F0 sv z H') : Q z H' := by
  obtain ⟨F', s, ok', r⟩ := RSV.of_made ok m
  exact h z H' F' s ok' r
theorem PostG.rep {z : V} {d : D} {Q : VK} (ok : EnvOk K Z.fa H0 F0 σ ρ0) (h : PostG K Z (RSV K Z) σ H0 F0 ρ0 (.ok (.dat d) ρ0) Q) (r : Rep K Z.fa H0 F0 z d) : Q z H0 := h.made ok (made_dat ok.fd r)
theorem PostG.test {b : Bool} {Q : Bool → Hp → Prop} (ok : EnvOk K Z.fa H0 F0 σ ρ0) (h : PostG K Z RB σ H0 F0 ρ0 (.ok b ρ0) Q) : Q b H0 := h b H0 F0 Step.refl ok rfl
end

/-! ### the judgements over data -/
section
variable (X : Cx) (Z : Fix)
def tD {α β : Type} (R : Hp → α → β → Hp → AP' → L2.St → Env' → Prop) (f : Env' → Res α) : L2.St → Hp → (β → Hp → Prop) → Prop :=
  fun σ H Q => ∃ F ρ, EnvOk X.K Z.fa H F σ ρ ∧ PostG X.K Z R σ H F ρ (f ρ) Q
abbrev PEd (e : Expr) (f : Env' → Res SV) : Prop := PE X e (tD X Z (RSV X.K Z) f)
abbrev POd (e : Expr) (f : Env' → Res PV) : Prop := PE X e (tD X Z (RPV X.K Z) f)
abbrev PTd (e : Expr) (f : Env' → Res Bool) : Prop := PT X e (tD X Z RB f)
abbrev PWd (e : Expr) (f : Env' → Res Bool) : Prop := PW X e (tD X Z RB f)
abbrev PAd (es : List Expr) (f : Env' → Res (List PV)) : Prop := PA X es (tD X Z (RPVs X.K Z) f)
abbrev PVd (es : List Expr) (f : Env' → Res (List D)) : Prop := PA X es (tD X Z (RDs X.K Z) f)
end
section
variable {X : Cx} {Z : Fix} {e a b c : Expr} {pos : Pos}

/-! ### names and constants -/
theorem pd_var {i : Nat} {x : Str} (hN : X.N[i]? = some x) (hv : Vis X.env.scope x) (hd : (x == ("__debug__" : Str)) = false) (hcd : (x == ("__classdict__" : Str)) = false) :
    PEd X Z (.Name x pos) (fun ρ => match ρ[i]? with
      | some (some (.dat d)) => .ok (.dat d) ρ
      | some (some (.own d)) => .ok (.dat d) (ρ.set i (some (.dat d)))
      | _ => .stuck) := by
  refine PE.weak (pe_var hN hv hd hcd) ?_
  rintro σ H Q ⟨F, ρ, ok, h⟩
  dsimp only at h
  split at h
  · rename_i d e1
    obtain ⟨v, e2, r⟩ := ok.slot i _ e1
    exact ⟨v, e2, h.rep ok r⟩
  · rename_i d e1
    obtain ⟨v, e2, a, ea, nf, ow⟩ := ok.slot i _ e1
    subst ea
    obtain ⟨ok', st, rep⟩ := ok.freeze e1 e2
    exact ⟨_, e2, h _ _ _ st ok' ⟨rep, trivial⟩⟩
  · exact h.elim
theorem po_var {i : Nat} {x : Str} (hN : X.N[i]? = some x) (hv : Vis X.env.scope x) (hd : (x == ("__debug__" : Str)) = false) (hcd : (x == ("__classdict__" : Str)) = false) :
    POd X Z (.Name x pos) (fun ρ => match ρ[i]? with
      | some (some _) => .ok (.sl i) ρ
      | _ => .stuck) := by
  refine PE.weak (pe_var hN hv hd hcd) ?_
  rintro σ H Q ⟨F, ρ, ok, h⟩
  dsimp only at h
  split at h
  · rename_i sv e1
    obtain ⟨v, e2, r⟩ := ok.slot i _ e1
    exact ⟨v, e2, h v H F Step.refl ok e2⟩
  · exact h.elim
theorem po_val {f : Env' → Res SV} (h : PEd X Z e f) : POd X Z e (fun ρ => (f ρ).bind fun sv ρ' => .ok (.dd sv.d) ρ') := by
  refine PE.weak h ?_
  rintro σ H Q ⟨F, ρ, ok, h⟩
  refine ⟨F, ρ, ok, (PostG.bindF late_RPV h).imp ?_⟩
  rintro v H1 ⟨sv, F1, ρ1, ok1, st, rep, h1⟩
  exact h1 v H1 F1 Step.refl ok1 rep
/-- a constant of any kind by its reading -/
theorem pd_con {v : V} {d : D} (h : PE X e (tC v)) (r : ∀ H F, Rep X.K Z.fa H F v d) : PEd X Z e (fun ρ => .ok (.dat d) ρ) := by
  refine PE.weak h ?_
  rintro σ H Q ⟨F, ρ, ok, h⟩
  exact h.rep ok (r H F)

/-! ### two operands -/
theorem PEd.run2 {α β : Type} {R : Hp → α → β → Hp → AP' → L2.St → Env' → Prop} {f1 f2 : Env' → Res PV} {g : D → D → Option α} {pins : List (Addr × Obj)} {s : Shared} {σ : L2.St} {H : Hp} {F : AP'} {ρ : Env'} {Q : β → Hp → Prop} {P : Value → Shared → Prop} {k : Value → Value → Sem Value}
    (l : Late R) (ha : POd X Z a f1) (hb : POd X Z b f2) (I : Inv X pins σ H s) (ok : EnvOk X.K Z.fa H F σ ρ)
    (h : PostG X.K Z R σ H F ρ ((f1 ρ).bind fun p ρ1 => (f2 ρ1).bind fun r ρ2 => match cont ρ2 p, cont ρ2 r with
      | some d, some e => lift (g d e) ρ2
      | _, _ => .stuck) Q)
    (hk : ∀ v u s2 x y H2 F2 ρ2 d e z, Inv X pins σ H2 s2 → RelV x v → RelV y u → EnvOk X.K Z.fa H2 F2 σ ρ2 → RdF X.K Z.fa H2 F2 x d → RdF X.K Z.fa H2 F2 y e → g d e = some z → PostG X.K Z R σ H2 F2 ρ2 (.ok z ρ2) Q →
      wpAny (model X.prog X.w) X.A (k v u) P X.xe s2) :
    wpAny (model X.prog X.w) X.A (eval a X.env) (fun v s₁ => wpAny (model X.prog X.w) X.A (eval b X.env) (fun u s₂ => wpAny (model X.prog X.w) X.A (k v u) P X.xe s₂) X.xe s₁) X.xe s := by
  refine binT ha hb (R := fun x y H2 => ∃ F2 ρ2 d e z, EnvOk X.K Z.fa H2 F2 σ ρ2 ∧ RdF X.K Z.fa H2 F2 x d ∧ RdF X.K Z.fa H2 F2 y e ∧ g d e = some z ∧ PostG X.K Z R σ H2 F2 ρ2 (.ok z ρ2) Q) I ?_ ?_
  · refine ⟨F, ρ, ok, (PostG.bind l h).imp ?_⟩
    rintro x H1 ⟨p, F1, ρ1, ok1, st1, r1, h1⟩
    refine ⟨F1, ρ1, ok1, (PostG.bind l h1).imp ?_⟩
    rintro y H2 ⟨r, F2, ρ2, ok2, st2, r2, h2⟩
    have r1' : PVok X.K Z.fa H2 F2 σ x p := PVok.stays r1 (st2.stays ok1)
    split at h2
    · rename_i d e e1 e2
      unfold lift at h2
      split at h2
      · rename_i z e3
        exact ⟨F2, ρ2, d, e, z, ok2, r1'.read ok2 e1, PVok.read r2 ok2 e2, e3, h2⟩
      · exact h2.elim
    · exact h2.elim
  · rintro v u s2 x y H2 I2 rx ry ⟨F2, ρ2, d, e, z, ok2, q1, q2, q3, q4⟩
    exact hk v u s2 x y H2 F2 ρ2 d e z I2 rx ry ok2 q1 q2 q3 q4
theorem pd_bin {o : Operator} {f1 f2 : Env' → Res PV} (ha : POd X Z a f1) (hb : POd X Z b f2) :
    PEd X Z (.BinOp a o b pos) (fun ρ => (f1 ρ).bind fun p ρ1 => (f2 ρ1).bind fun r ρ2 => match cont ρ2 p, cont ρ2 r with
      | some d, some e => lift (binP o d e) ρ2
      | _, _ => .stuck) := by
  refine ⟨?_⟩
  rintro pins s σ H Q I ⟨F, ρ, ok, h⟩
  refine wpAny_BinOp (PEd.run2 late_RSV ha hb I ok h ?_)
  intro v u s2 x y H2 F2 ρ2 d e z I2 rx ry ok2 q1 q2 q3 q4
  exact bin_ok q3 I2 rx ry q1 q2 ok2.fd fun w H' m => q4.made ok2 m
theorem pd_idx {f1 f2 : Env' → Res PV} (hu : X.A.units + 1 < cLine) (ha : POd X Z a f1) (hb : POd X Z b f2) (hs : PlainIx b) :
    PEd X Z (.Subscript a b pos) (fun ρ => ((f1 ρ).bind fun p ρ1 => (f2 ρ1).bind fun r ρ2 => match cont ρ2 p, cont ρ2 r with
      | some d, some e => lift (idxP d e) ρ2
      | _, _ => .stuck).bind fun d ρ1 => .ok (.dat d) ρ1) := by
  refine ⟨?_⟩
  rintro pins s σ H Q I ⟨F, ρ, ok, h⟩
  refine Subscript_ (PEd.run2 (R := RD X.K Z) (g := idxP) (Q := Q) late_RD ha hb I ok ?_ ?_)
  · have h1 := PostG.bind (R := RD X.K Z) late_RSV h
    refine h1.imp ?_
    rintro v H1 ⟨d, F1, ρ1, ok1, st, r, h2⟩
    exact h2.rep ok1 r
  · intro v u s2 x y H2 F2 ρ2 d e z I2 rx ry ok2 q1 q2 q3 q4
    exact idx_ok q3 hu a b I2 rx ry q1 q2 (hs _ _) fun w r => q4 w H2 F2 Step.refl ok2 r

/-! ### comparisons -/
theorem pc_cmp {o : CmpOp} {f1 f2 : Env' → Res PV} (hu : X.A.units + 65 < cLine) (ha : POd X Z a f1) (hb : POd X Z b f2) {pins : List (Addr × Obj)} {s : Shared} {σ : L2.St} {H : Hp} {F : AP'} {ρ : Env'} {Q : Bool → Hp → Prop} (I : Inv X pins σ H s) (ok : EnvOk X.K Z.fa H F σ ρ)
    (h : PostG X.K Z RB σ H F ρ ((f1 ρ).bind fun p ρ1 => (f2 ρ1).bind fun r ρ2 => match cont ρ2 p, cont ρ2 r with
      | some d, some e => lift (cmpP o d e) ρ2
      | _, _ => .stuck) Q) :
    wpAny (model X.prog X.w) X.A (eval a X.env) (fun v s₁ => wpAny (model X.prog X.w) X.A (eval b X.env) (fun u s₂ => wpAny (model X.prog X.w) X.A (compareOp o v u) (EP X pins σ fun v H => ∃ k, v = .bl k ∧ Q k H) X.xe s₂) X.xe s₁) X.xe s := by
  refine PEd.run2 late_RB ha hb I ok h ?_
  intro v u s2 x y H2 F2 ρ2 d e z I2 rx ry ok2 q1 q2 q3 q4
  exact cmp_ok q3 hu I2 rx ry q1 q2 ⟨z, rfl, q4.test ok2⟩
theorem pd_cmp {o : CmpOp} {f1 f2 : Env' → Res PV} (hu : X.A.units + 65 < cLine) (ha : POd X Z a f1) (hb : POd X Z b f2) (hm : behindInMarks o b = false) :
    PEd X Z (.Compare a [o] [b] pos) (fun ρ => ((f1 ρ).bind fun p ρ1 => (f2 ρ1).bind fun r ρ2 => match cont ρ2 p, cont ρ2 r with
      | some d, some e => lift (cmpP o d e) ρ2
      | _, _ => .stuck).bind fun c ρ1 => .ok (.dat (.bl c)) ρ1) := by
  refine ⟨?_⟩
  rintro pins s σ H Q I ⟨F, ρ, ok, h⟩
  refine wpAny_Compare1 (thn (pc_cmp hu ha hb (Q := fun k H => Q (.bl k) H) I ok ?_) fun v s1 h1 => thn h1 fun u s2 h2 => thn h2 ?_) hm
  · refine (PostG.bind (R := RB) late_RSV h).imp ?_
    rintro k H1 ⟨k', F1, ρ1, ok1, st, r, h2⟩
    cases r
    exact h2.rep ok1 (.bl _)
  · rintro w s3 ⟨x, H', I', rx, k, rfl, q⟩
    exact ⟨_, H', I', rx, q⟩
theorem ptd_cmp {o : CmpOp} {f1 f2 : Env' → Res PV} (hu : X.A.units + 65 < cLine) (ha : POd X Z a f1) (hb : POd X Z b f2) (hm : behindInMarks o b = false) :
    PTd X Z (.Compare a [o] [b] pos) (fun ρ => (f1 ρ).bind fun p ρ1 => (f2 ρ1).bind fun r ρ2 => match cont ρ2 p, cont ρ2 r with
      | some d, some e => lift (cmpP o d e) ρ2
      | _, _ => .stuck) := by
  refine ⟨?_⟩
  rintro pins s σ H Q I ⟨F, ρ, ok, h⟩
  refine wpAny_isTrue_Compare1 (thn (pc_cmp hu ha hb I ok h) fun v s1 h1 => thn h1 fun u s2 h2 => thn h2 ?_) hm
  rintro w s3 ⟨x, H', I', rx, k, rfl, q⟩
  cases rx
  exact wpAny_truthy_bool ⟨H', I', q⟩
end
end DL

namespace DL
open PySem PySem.Spec PyProof.Rows L2
variable [TB]

section
variable {X : Cx} {Z : Fix} {e a b c : Expr} {es rest : List Expr} {pos : Pos}

/-! ### values by truth -/
theorem pd_neg {f : Env' → Res SV} (ha : PEd X Z a f) : PEd X Z (.UnaryOp .USub a pos) (fun ρ => (f ρ).bind fun sv ρ1 => (match sv.d with
      | .int i => .ok (.dat (.int (-i))) ρ1
      | _ => .stuck)) := by
  refine PE.weak (pe_un un_neg ha) ?_
  rintro σ H Q ⟨F, ρ, ok, h⟩
  refine ⟨F, ρ, ok, (PostG.bindF late_RSV h).imp ?_⟩
  rintro v H1 ⟨sv, F1, ρ1, ok1, st, r, h1⟩
  split at h1
  · rename_i i e1
    rw [e1] at r
    cases r
    exact ⟨_, rfl, h1.rep ok1 (.int _)⟩
  · exact h1.elim
theorem pd_and {f g : Env' → Res SV} (ha : PEd X Z a f) (hb : PEd X Z (.BoolOp .And (b :: rest) pos) g) : PEd X Z (.BoolOp .And (a :: b :: rest) pos) (fun ρ => (f ρ).bind fun sa ρ1 => (match sa.d with
      | .bl true => (g ρ1).bind fun sb ρ2 => .ok (.dat sb.d) ρ2
      | .bl false => .ok (.dat (.bl false)) ρ1
      | _ => .stuck)) := by
  refine PE.weak (pe_and ha hb) ?_
  rintro σ H Q ⟨F, ρ, ok, h⟩
  refine ⟨F, ρ, ok, (PostG.bindF late_RSV h).imp ?_⟩
  rintro v H1 ⟨sv, F1, ρ1, ok1, st, r, h1⟩
  split at h1
  · rename_i e1
    rw [e1] at r
    cases r
    refine ⟨true, rfl, ?_⟩
    rw [if_pos rfl]
    refine ⟨F1, ρ1, ok1, (PostG.bindF late_RSV h1).imp ?_⟩
    rintro w H2 ⟨sw, F2, ρ2, ok2, st2, r2, h2⟩
    exact h2.rep ok2 r2
  · rename_i e1
    rw [e1] at r
    cases r
    exact ⟨false, rfl, h1.rep ok1 (.bl _)⟩
  · exact h1.elim
theorem pd_or {f g : Env' → Res SV} (ha : PEd X Z a f) (hb : PEd X Z (.BoolOp .Or (b :: rest) pos) g) : PEd X Z (.BoolOp .Or (a :: b :: rest) pos) (fun ρ => (f ρ).bind fun sa ρ1 => (match sa.d with
      | .bl false => (g ρ1).bind fun sb ρ2 => .ok (.dat sb.d) ρ2
      | .bl true => .ok (.dat (.bl true)) ρ1
      | _ => .stuck)) := by
  refine PE.weak (pe_or ha hb) ?_
  rintro σ H Q ⟨F, ρ, ok, h⟩
  refine ⟨F, ρ, ok, (PostG.bindF late_RSV h).imp ?_⟩
  rintro v H1 ⟨sv, F1, ρ1, ok1, st, r, h1⟩
  split at h1
  · rename_i e1
    rw [e1] at r
    cases r
    refine ⟨false, rfl, ?_⟩
    rw [if_neg (by decide)]
    refine ⟨F1, ρ1, ok1, (PostG.bindF late_RSV h1).imp ?_⟩
    rintro w H2 ⟨sw, F2, ρ2, ok2, st2, r2, h2⟩
    exact h2.rep ok2 r2
  · rename_i e1
    rw [e1] at r
    cases r
    exact ⟨true, rfl, h1.rep ok1 (.bl _)⟩
  · exact h1.elim
theorem pd_not {f : Env' → Res SV} (ha : PEd X Z a f) : PEd X Z (.UnaryOp .Not a pos) (fun ρ => (f ρ).bind fun sa ρ1 => (match sa.d with
      | .bl b => .ok (.dat (.bl (!b))) ρ1
      | _ => .stuck)) := by
  refine PE.weak (pe_not ha) ?_
  rintro σ H Q ⟨F, ρ, ok, h⟩
  refine ⟨F, ρ, ok, (PostG.bindF late_RSV h).imp ?_⟩
  rintro v H1 ⟨sv, F1, ρ1, ok1, st, r, h1⟩
  split at h1
  · rename_i k e1
    rw [e1] at r
    cases r
    exact ⟨k, rfl, h1.rep ok1 (.bl _)⟩
  · exact h1.elim
theorem pd_ite {t : Env' → Res Bool} {f g : Env' → Res SV} (hc : PTd X Z c t) (ha : PEd X Z a f) (hb : PEd X Z b g) : PEd X Z (.IfExp c a b pos) (fun ρ => (t ρ).bind fun k ρ1 => if k = true then f ρ1 else g ρ1) := by
  refine PE.weak (pe_ifExp hc ha hb) ?_
  rintro σ H Q ⟨F, ρ, ok, h⟩
  refine ⟨F, ρ, ok, (PostG.bind late_RSV h).imp ?_⟩
  rintro k H1 ⟨k', F1, ρ1, ok1, st, r, h1⟩
  cases r
  split at h1 <;> rename_i e1
  · rw [if_pos e1]; exact ⟨F1, ρ1, ok1, h1⟩
  · rw [if_neg e1]; exact ⟨F1, ρ1, ok1, h1⟩

/-! ### tests -/
theorem ptd_val {f : Env' → Res SV} (ha : PEd X Z a f) (he : ∀ whole, isTrue a X.env whole = (do let v ← whole; standAt a.pos; holding [v] (truthy v))) :
    PTd X Z a (fun ρ => (f ρ).bind fun sv ρ1 => lift (tru sv.d) ρ1) := by
  refine ⟨?_⟩
  rintro pins s σ H Q I ⟨F, ρ, ok, h⟩
  refine isTrue_plain (thn (ha.run pins s σ H _ I ⟨F, ρ, ok, PostG.bindF late_RB h⟩) ?_) (he _)
  rintro v s1 ⟨x, H1, I1, rx, sv, F1, ρ1, ok1, st, r, h1⟩
  unfold lift at h1
  split at h1
  · rename_i k e1
    refine tru_ok pins s1 σ H1 x v Q I1 rx ⟨k, ?_, h1.test ok1⟩
    unfold tru at e1
    split at e1
    · rename_i e2
      rw [e2] at r
      cases r
      cases e1
      rfl
    · rename_i e2
      rw [e2] at r
      cases r
      cases e1
      rfl
    · rename_i e2
      rw [e2] at r
      cases r
      cases e1
      rfl
    · cases e1
  · exact h1.elim
theorem pwd_and1 {f : Env' → Res Bool} (ha : PTd X Z a f) : PWd X Z (.BoolOp .And [a] pos) f := pw_and1 ha
theorem pwd_or1 {f : Env' → Res Bool} (ha : PTd X Z a f) : PWd X Z (.BoolOp .Or [a] pos) f := pw_or1 ha
theorem PW.weak {t t' : TT} (h : PW X e t) (w : ∀ σ H Q, t' σ H Q → t σ H Q) : PW X e t' := ⟨fun wh pins s σ H Q I hq => h.run wh pins s σ H Q I (w σ H Q hq)⟩
theorem PT.weak {t t' : TT} (h : PT X e t) (w : ∀ σ H Q, t' σ H Q → t σ H Q) : PT X e t' := ⟨fun pins s σ H Q I hq => h.run pins s σ H Q I (w σ H Q hq)⟩
theorem pwd_and {f g : Env' → Res Bool} (ha : PTd X Z a f) (hb : PWd X Z (.BoolOp .And (b :: rest) pos) g) : PWd X Z (.BoolOp .And (a :: b :: rest) pos) (fun ρ => (f ρ).bind fun t ρ1 => if t = true then g ρ1 else .ok false ρ1) := by
  refine PW.weak (pw_and ha hb) ?_
  rintro σ H Q ⟨F, ρ, ok, h⟩
  refine ⟨F, ρ, ok, (PostG.bind late_RB h).imp ?_⟩
  rintro k H1 ⟨k', F1, ρ1, ok1, st, r, h1⟩
  cases r
  split at h1 <;> rename_i e1
  · rw [if_pos e1]; exact ⟨F1, ρ1, ok1, h1⟩
  · rw [if_neg e1]; exact h1.test ok1
theorem pwd_or {f g : Env' → Res Bool} (ha : PTd X Z a f) (hb : PWd X Z (.BoolOp .Or (b :: rest) pos) g) : PWd X Z (.BoolOp .Or (a :: b :: rest) pos) (fun ρ => (f ρ).bind fun t ρ1 => if t = true then .ok true ρ1 else g ρ1) := by
  refine PW.weak (pw_or ha hb) ?_
  rintro σ H Q ⟨F, ρ, ok, h⟩
  refine ⟨F, ρ, ok, (PostG.bind late_RB h).imp ?_⟩
  rintro k H1 ⟨k', F1, ρ1, ok1, st, r, h1⟩
  cases r
  split at h1 <;> rename_i e1
  · rw [if_pos e1]; exact h1.test ok1
  · rw [if_neg e1]; exact ⟨F1, ρ1, ok1, h1⟩
theorem ptd_not {f : Env' → Res Bool} (ha : PTd X Z a f) : PTd X Z (.UnaryOp .Not a pos) (fun ρ => (f ρ).bind fun t ρ1 => .ok (!t) ρ1) := by
  refine PT.weak (pt_not ha) ?_
  rintro σ H Q ⟨F, ρ, ok, h⟩
  refine ⟨F, ρ, ok, (PostG.bind late_RB h).imp ?_⟩
  rintro k H1 ⟨k', F1, ρ1, ok1, st, r, h1⟩
  cases r
  exact h1.test ok1

/-! ### chains of two comparisons -/
theorem op_cmpD {o : CmpOp} (hu : X.A.units + 65 < cLine) : OpR X (compareOp o) (fun x y H Q => ∃ F d e b, cmpP o d e = some b ∧ RdF X.K Z.fa H F x d ∧ RdF X.K Z.fa H F y e ∧ Q (.bl b) H) := by
  rintro pins s σ H x y v u Q I rx ry ⟨F, d, e, b, h, q1, q2, q⟩
  exact cmp_ok h hu I rx ry q1 q2 q
theorem pd_chain {o o' : CmpOp} {f g k : Env' → Res SV} (hu : X.A.units + 65 < cLine) (ha : PEd X Z a f) (hb : PEd X Z b g) (hc : PEd X Z c k) (hm : lastMarks [o, o'] [b, c] = false) :
    PEd X Z (.Compare a [o, o'] [b, c] pos) (fun ρ => (f ρ).bind fun sa ρ1 => (g ρ1).bind fun sb ρ2 => (match cmpP o sa.d sb.d with
      | some true => (k ρ2).bind fun sc ρ3 => (match cmpP o' sb.d sc.d with
        | some r => .ok (.dat (.bl r)) ρ3
        | none => .stuck)
      | some false => .ok (.dat (.bl false)) ρ2
      | none => .stuck)) := by
  refine PE.weak (pe_chain (op_cmpD (Z := Z) hu) (op_cmpD (Z := Z) hu) ha hb hc hm) ?_
  rintro σ H Q ⟨F, ρ, ok, h⟩
  refine ⟨F, ρ, ok, (PostG.bindF late_RSV h).imp ?_⟩
  rintro v1 H1 ⟨sa, F1, ρ1, ok1, st1, r1, h1⟩
  refine ⟨F1, ρ1, ok1, (PostG.bindF late_RSV h1).imp ?_⟩
  rintro v2 H2 ⟨sb, F2, ρ2, ok2, st2, r2, h2⟩
  have r1' := Rep.stays (st2.stays ok1) r1
  split at h2
  · rename_i e1
    refine ⟨F2, _, _, true, e1, .inl r1', .inl r2, true, rfl, ?_⟩
    rw [if_pos rfl]
    refine ⟨F2, ρ2, ok2, (PostG.bindF late_RSV h2).imp ?_⟩
    rintro v3 H3 ⟨sc, F3, ρ3, ok3, st3, r3, h3⟩
    split at h3
    · rename_i r e2
      exact ⟨F3, _, _, r, e2, .inl (Rep.stays (st3.stays ok2) r2), .inl r3, h3.rep ok3 (.bl _)⟩
    · exact h3.elim
  · rename_i e1
    refine ⟨F2, _, _, false, e1, .inl r1', .inl r2, false, rfl, ?_⟩
    rw [if_neg (by decide)]
    exact h2.rep ok2 (.bl _)
  · exact h2.elim
theorem PostG.bool {σ : L2.St} {H0 : Hp} {F0 : AP'} {ρ0 : Env'} {r : Res SV} {Q : Bool → Hp → Prop} (hb : ∀ sv ρ', r = .ok sv ρ' → ∃ k, sv = .dat (.bl k)) (h : PostG X.K Z RB σ H0 F0 ρ0 (r.bind fun sv ρ1 => lift (tru sv.d) ρ1) Q) :
    PostG X.K Z (RSV X.K Z) σ H0 F0 ρ0 r (fun v H1 => ∃ k, v = .bl k ∧ Q k H1) := by
  cases r with
  | ok sv ρ' =>
    obtain ⟨k, rfl⟩ := hb sv ρ' rfl
    intro v H' F' s ok rr
    have r1 : Rep X.K Z.fa H' F' v (.bl k) := rr.1
    cases r1
    exact ⟨k, rfl, h k H' F' s ok rfl⟩
  | exc x ρ' => exact h
  | stuck => exact h
theorem bind_ok {α β : Type} {r : Res α} {g : α → Env' → Res β} {b : β} {ρ' : Env'} (h : r.bind g = .ok b ρ') : ∃ a ρ1, r = .ok a ρ1 ∧ g a ρ1 = .ok b ρ' := by
  cases r with
  | ok a ρ1 => exact ⟨a, ρ1, rfl, h⟩
  | exc x ρ1 => cases h
  | stuck => cases h
theorem ptd_chain {o o' : CmpOp} {f g k : Env' → Res SV} (hu : X.A.units + 65 < cLine) (ha : PEd X Z a f) (hb : PEd X Z b g) (hc : PEd X Z c k) (hm : lastMarks [o, o'] [b, c] = false) :
    PTd X Z (.Compare a [o, o'] [b, c] pos) (fun ρ => Res.bind (α := SV) ((f ρ).bind fun sa ρ1 => (g ρ1).bind fun sb ρ2 => (match cmpP o sa.d sb.d with
      | some true => (k ρ2).bind fun sc ρ3 => (match cmpP o' sb.d sc.d with
        | some r => .ok (.dat (.bl r)) ρ3
        | none => .stuck)
      | some false => .ok (.dat (.bl false)) ρ2
      | none => .stuck)) fun sv ρ1 => lift (tru sv.d) ρ1) := by
  refine PT.weak (pt_chain (op_cmpD (Z := Z) hu) (op_cmpD (Z := Z) hu) ha hb hc hm) ?_
  rintro σ H Q ⟨F, ρ, ok, h⟩
  have h' := PostG.bool (fun sv ρ' e => by
    obtain ⟨sa, ρ1, _, e⟩ := bind_ok e
    obtain ⟨sb, ρ2, _, e⟩ := bind_ok e
    split at e
    · obtain ⟨sc, ρ3, _, e⟩ := bind_ok e
      split at e
      · cases e; exact ⟨_, rfl⟩
      · cases e
    · cases e; exact ⟨_, rfl⟩
    · cases e) h
  refine ⟨F, ρ, ok, (PostG.bindF late_RSV h').imp ?_⟩
  rintro v1 H1 ⟨sa, F1, ρ1, ok1, st1, r1, h1⟩
  refine ⟨F1, ρ1, ok1, (PostG.bindF late_RSV h1).imp ?_⟩
  rintro v2 H2 ⟨sb, F2, ρ2, ok2, st2, r2, h2⟩
  have r1' := Rep.stays (st2.stays ok1) r1
  split at h2
  · rename_i e1
    refine ⟨F2, _, _, true, e1, .inl r1', .inl r2, true, rfl, ?_⟩
    rw [if_pos rfl]
    refine ⟨F2, ρ2, ok2, (PostG.bindF late_RSV h2).imp ?_⟩
    rintro v3 H3 ⟨sc, F3, ρ3, ok3, st3, r3, h3⟩
    split at h3
    · rename_i r e2
      exact ⟨F3, _, _, r, e2, .inl (Rep.stays (st3.stays ok2) r2), .inl r3, h3.rep ok3 (.bl _)⟩
    · exact h3.elim
  · rename_i e1
    refine ⟨F2, _, _, false, e1, .inl r1', .inl r2, false, rfl, ?_⟩
    rw [if_neg (by decide)]
    exact h2.rep ok2 (.bl _)
  · exact h2.elim

/-! ### lists of operands, of values -/
def plainE : Expr → Bool
  | .Starred _ _ => false
  | _ => true
theorem star_plain {env : Env} (h : plainE e = true) : starEach (e :: es) env = (false, eval e env) :: starEach es env := by
  cases e <;> first | rfl | cases h
theorem back_plain {env : Env} {p : Pos} : ∀ {es : List Expr}, es.all plainE = true → (backTo p (starEach es env)).any (·.1) = false
  | [], _ => rfl
  | e :: es, h => by
    rw [List.all_cons, Bool.and_eq_true] at h
    rw [star_plain h.1]
    have ih := back_plain (env := env) (p := p) h.2
    unfold backTo at ih ⊢
    rw [List.map_cons, List.any_cons, ih]
    rfl
theorem PA.weak {t t' : TA} (h : PA X es t) (w : ∀ σ H Q, t' σ H Q → t σ H Q) : PA X es t' := ⟨fun p pins s σ H Q I hq => h.run p pins s σ H Q I (w σ H Q hq)⟩
theorem pad_nil : PAd X Z [] (fun ρ => .ok [] ρ) := by
  refine PA.weak pa_nil ?_
  rintro σ H Q ⟨F, ρ, ok, h⟩
  exact h [] H F Step.refl ok .nil
theorem pad_cons {f : Env' → Res PV} {g : Env' → Res (List PV)} (ha : POd X Z e f) (hr : PAd X Z es g) (hs : plainE e = true) : PAd X Z (e :: es) (fun ρ => (f ρ).bind fun p ρ1 => (g ρ1).bind fun ps ρ2 => .ok (p :: ps) ρ2) := by
  refine PA.weak (pa_cons ha hr (star_plain hs)) ?_
  rintro σ H Q ⟨F, ρ, ok, h⟩
  refine ⟨F, ρ, ok, (PostG.bind late_RPVs h).imp ?_⟩
  rintro v H1 ⟨p, F1, ρ1, ok1, st1, r1, h1⟩
  refine ⟨F1, ρ1, ok1, (PostG.bind late_RPVs h1).imp ?_⟩
  rintro vs H2 ⟨ps, F2, ρ2, ok2, st2, r2, h2⟩
  exact h2 (v :: vs) H2 F2 Step.refl ok2 (.cons (PVok.stays r1 (st2.stays ok1)) r2)
theorem pvd_nil : PVd X Z [] (fun ρ => .ok [] ρ) := by
  refine PA.weak pa_nil ?_
  rintro σ H Q ⟨F, ρ, ok, h⟩
  exact h [] H F Step.refl ok .nil
theorem pvd_cons {f : Env' → Res SV} {g : Env' → Res (List D)} (ha : PEd X Z e f) (hr : PVd X Z es g) (hs : plainE e = true) : PVd X Z (e :: es) (fun ρ => (f ρ).bind fun sv ρ1 => (g ρ1).bind fun ds ρ2 => .ok (sv.d :: ds) ρ2) := by
  refine PA.weak (pa_cons ha hr (star_plain hs)) ?_
  rintro σ H Q ⟨F, ρ, ok, h⟩
  refine ⟨F, ρ, ok, (PostG.bindF late_RDs h).imp ?_⟩
  rintro v H1 ⟨sv, F1, ρ1, ok1, st1, r1, h1⟩
  refine ⟨F1, ρ1, ok1, (PostG.bind late_RDs h1).imp ?_⟩
  rintro vs H2 ⟨ds, F2, ρ2, ok2, st2, r2, h2⟩
  exact h2 (v :: vs) H2 F2 Step.refl ok2 (.cons (Rep.stays (st2.stays ok1) r1) r2)

/-! ### displays -/
theorem pd_tup {k : Nat} {f : Env' → Res (List D)} (h : PVd X Z es f) : PEd X Z (.Tuple es k pos) (fun ρ => (f ρ).bind fun ds ρ1 => if ds.length ≤ Z24 then .ok (.dat (.tup ds)) ρ1 else .stuck) := by
  refine PE.weak (pe_tup h) ?_
  rintro σ H Q ⟨F, ρ, ok, h⟩
  refine ⟨F, ρ, ok, (PostG.bind late_RSV h).imp ?_⟩
  rintro vs H1 ⟨ds, F1, ρ1, ok1, st1, r1, h1⟩
  split at h1
  · rename_i hl
    refine ⟨by rw [RepL.length r1, z24]; exact hl, fun p hp => h1.made ok1 (made_tup ok1.fd hp r1)⟩
  · exact h1.elim
theorem pd_lst {f : Env' → Res (List D)} (h : PVd X Z es f) : PEd X Z (.List es pos) (fun ρ => (f ρ).bind fun ds ρ1 => if ds.length ≤ Z24 then .ok (.own (.lst ds)) ρ1 else .stuck) := by
  refine PE.weak (pe_lst h) ?_
  rintro σ H Q ⟨F, ρ, ok, h⟩
  refine ⟨F, ρ, ok, (PostG.bind late_RSV h).imp ?_⟩
  rintro vs H1 ⟨ds, F1, ρ1, ok1, st1, r1, h1⟩
  split at h1
  · rename_i hl
    refine ⟨by rw [RepL.length r1, z24]; exact hl, fun p hp => h1.made ok1 (made_lst ok1.fd hp r1)⟩
  · exact h1.elim
theorem pd_dicK : PEd X Z (.Dict [] [] pos) (fun ρ => .ok (.own (.dK [])) ρ) := by
  refine PE.weak pe_dnewK ?_
  rintro σ H Q ⟨F, ρ, ok, h⟩
  exact fun p hp => h.made ok (made_dK ok.fd hp ⟨rfl, .nil⟩)
theorem pd_dicT : PEd X Z (.Dict [] [] pos) (fun ρ => .ok (.own (.dT [])) ρ) := by
  refine PE.weak pe_dnewT ?_
  rintro σ H Q ⟨F, ρ, ok, h⟩
  exact fun p hp => h.made ok (made_dT ok.fd hp ⟨rfl, .nil⟩)
/-- [..] * b -/
theorem pd_lmul {f : Env' → Res (List D)} {g : Env' → Res SV} {p2 : Pos} (h : PVd X Z es f) (hb : PEd X Z b g) : PEd X Z (.BinOp (.List es p2) .Mult b pos) (fun ρ => (f ρ).bind fun ds ρ1 => if ds.length ≤ Z24 then (g ρ1).bind fun sv ρ2 => (match sv.d with
      | .int k => if (-(2 ^ 63) ≤ k ∧ k < 2 ^ 63) ∧ ds.length * k.toNat ≤ Z24 then .ok (.own (.lst (List.replicate k.toNat ds).flatten)) ρ2 else .stuck
      | _ => .stuck) else .stuck) := by
  refine PE.weak (pe_op op_rep (pe_lst h) hb) ?_
  rintro σ H Q ⟨F, ρ, ok, h⟩
  refine ⟨F, ρ, ok, (PostG.bind late_RSV h).imp ?_⟩
  rintro vs H1 ⟨ds, F1, ρ1, ok1, st1, r1, h1⟩
  split at h1
  · rename_i hl
    refine ⟨by rw [RepL.length r1, z24]; exact hl, fun p hp => ?_⟩
    have gr : Grow H1 F1 (upd H1 p (.lst vs)) F1 := Grow.new ok1.fd hp
    have ok1' := ok1.grow gr
    have nop : ¬ Own σ ρ1 p := fun o => by
      obtain ⟨u, hu, _⟩ := ok1.own_at o
      rw [hp] at hu; cases hu
    refine ⟨F1, ρ1, ok1', (PostG.bindF late_RSV (PostG.after late_RSV gr.step h1)).imp ?_⟩
    rintro v H2 ⟨sv, F2, ρ2, ok2, st2, r2, h2⟩
    split at h2
    · rename_i k e2
      rw [e2] at r2
      cases r2
      split at h2
      · rename_i hk
        have hp2 : H2 p = some (.lst vs) := (st2.keep p _ upd_same nop (fun _ z => by cases z)).resolve_right fun z => z.2.1
        have r1' := RepL.stays (st2.stays ok1') (RepL.stays gr.stays r1)
        refine ⟨p, k, vs, rfl, rfl, hp2, hk.1.1, hk.1.2, by rw [RepL.length r1, z24]; exact hk.2, fun q hq => ?_⟩
        exact h2.made ok2 (made_lst ok2.fd hq r1'.rep_flat)
      · exact h2.elim
    · exact h2.elim
  · exact h1.elim
end
end DL

namespace DL
open PySem PySem.Spec PyProof.Rows L2
variable [TB]

/-! ### tuples backwards -/
section
variable {prog : Program} {w : World} {A : Around} {E : Value → Shared → Prop} {s : Shared}
theorem fm_congr {α β : Type} {f g : α → Option β} : ∀ {l : List α}, (∀ x ∈ l, f x = g x) → l.filterMap f = l.filterMap g
  | [], _ => rfl
  | x :: l, h => by
    rw [List.filterMap_cons, List.filterMap_cons, h x List.mem_cons_self, fm_congr fun y hy => h y (List.mem_cons_of_mem _ hy)]
theorem back_pick (xs : Array Value) : ((List.range xs.size).filterMap fun (m : Nat) => xs[((xs.size : Int) - 1 + (m : Int) * (-1)).toNat]?).toArray = xs.toList.reverse.toArray := by
  have e : ∀ m ∈ List.range xs.size, xs[((xs.size : Int) - 1 + (m : Int) * (-1)).toNat]? = xs[xs.size - 1 - m]? := fun m hm => by
    have := List.mem_range.mp hm
    rw [show ((xs.size : Int) - 1 + (m : Int) * (-1)).toNat = xs.size - 1 - m by omega]
  rw [fm_congr e]
  have q := PySem.W.krv_all xs
  rw [← q, ← List.filterMap_reverse, ← PySem.W.krv_range, List.filterMap_map]
  rfl
theorem sliceApplied_back {sl : Addr} {vl vu : Value} {t : Tok} {n : Nat} {Q : Int × Int × Nat → Shared → Prop} (hs : s.heap.IsSliceOf sl .none .none (.int (-1) t))
    (h : Q ((n : Int) - 1, -1, n) s) : wpAny (model prog w) A (Builtin.Slice.sliceApplied (.ref sl) (pure (n : Int))) Q E s := by
  obtain ⟨os, hos, hcs, hds⟩ := id hs
  unfold Builtin.Slice.sliceApplied Builtin.Slice.sliceFields
  refine wpAny_bind (wpAny_bind (wpAny_field hos hds (x := .none) rfl (wpAny_bind (wpAny_field hos hds (x := .none) rfl (wpAny_bind (wpAny_field hos hds (x := .int (-1) t) rfl (wpAny_pure ?_)))))))
  refine wpAny_bind (HT.slicePart_ (.int (-1) t) ?_)
  show wpAny _ _ (if ((-1 : Int) == 0) = true then _ else _) _ _ s
  rw [if_neg (by decide)]
  refine wpAny_bind (HT.slicePart_ .none (wpAny_bind (HT.slicePart_ .none (wpAny_bind (wpAny_pure ?_)))))
  show wpAny _ _ (match Builtin.Slice.sliceAdjust none none (-1) (n : Int) with | (lo, hi) => pure (lo, (-1 : Int), Builtin.Slice.slicePlaces lo hi (-1))) _ _ s
  have e : Builtin.Slice.sliceAdjust none none (-1) (n : Int) = ((n : Int) - 1, -1) := by
    unfold Builtin.Slice.sliceAdjust
    rfl
  have e2 : Builtin.Slice.slicePlaces ((n : Int) - 1) (-1) (-1) = n := by
    unfold Builtin.Slice.slicePlaces
    have h1 : ¬ ((-1 : Int) > 0) := by omega
    simp only [h1, if_false]
    split <;> simp <;> omega
  rw [e]
  show wpAny _ _ (pure ((n : Int) - 1, (-1 : Int), Builtin.Slice.slicePlaces ((n : Int) - 1) (-1) (-1))) _ _ s
  rw [e2]
  exact wpAny_pure h
theorem getItem_tuple_back {t sl : Addr} {items : Array Value} {tk : Tok} {Q : Value → Shared → Prop} (ht : IsTup s.heap t items) (hs : s.heap.IsSliceOf sl .none .none (.int (-1) tk))
    (h : Q (.ref s.heap.objs.size) { s with heap := s.heap.push { cls := .type "tuple", data := .seq items.toList.reverse.toArray } }) (hsz : items.size ≤ sizeLine) : wpAny (model prog w) A (getItem (.ref t) (.ref sl)) Q E s := by
  have hk : sizeOk (.seq items.toList.reverse.toArray) := by
    show items.toList.reverse.toArray.size ≤ sizeLine
    rw [List.size_toArray, List.length_reverse, Array.length_toList]
    exact hsz
  obtain ⟨os, hos, hcs, hds⟩ := id hs
  have hT : s.TypeIs (.ref sl) "slice" := ⟨os, hos, hcs⟩
  unfold getItem
  try with_reducible refine wpAny_holding ?_
  first | refine wpAny_bind (wpAny_pure ?_) | skip
  refine wpAny_bind (wpAny_sequenceKey ht.typeIs (by decide) ?_)
  refine wpAny_bind (wpAny_callSpecial?_slot (name := Str.ofString "__getitem__") ht.typeIs PyProof.Rows.slot_tuple_getitem (wpAny_call_entry PyProof.Rows.slot_tuple_getitem ht.typeIs entry_tuple_getitem ?_ (args_tuple_getitem _ _)))
  show wpAny _ _ (Builtin.Tuple.tupleItemsOf (.ref t) >>= _) _ _ s
  refine wpAny_bind (tupleItemsOf_ ht ?_)
  refine wpAny_bind (wpAny_typeOf hT ?_)
  rw [if_pos (by decide)]
  refine wpAny_bind (sliceApplied_back (vl := .none) (vu := .none) hs ?_)
  show wpAny _ _ (if (((items.size : Int) - 1) == 0 && (-1 : Int) == 1 && items.size == items.size) = true then _ else _) _ _ s
  rw [if_neg (by simp), back_pick]
  first
    | exact wpAny_bind (m := Builtin.Tuple.tupleExact _) (wpAny_newObj_type (wpAny_pure ⟨_, rfl, wpAny_pure h⟩) hk)
    | exact wpAny_bind (m := Builtin.Tuple.tupleExact _) (wpAny_newObj_type (wpAny_bind (wpAny_pure (wpAny_pure ⟨_, rfl, wpAny_pure h⟩))) hk)
    | exact wpAny_bind (wpAny_bind (m := Builtin.Tuple.tupleExact _) (wpAny_newObj_type (wpAny_pure (wpAny_pure ⟨_, rfl, wpAny_pure h⟩)) hk))
    | exact wpAny_bind (wpAny_bind (m := Builtin.Tuple.tupleExact _) (wpAny_newObj_type (wpAny_pure ⟨_, rfl, wpAny_pure h⟩) hk))
end

section
variable {X : Cx} {Z : Fix} {e a b c : Expr} {es rest : List Expr} {pos p p2 : Pos}
/-! ### slices -/
theorem PO.weak {o : Option Expr} {t t' : TO} (h : PO X o t) (w : ∀ σ H Q, t' σ H Q → t σ H Q) : PO X o t' := ⟨fun pins s σ H Q I hq => h.run pins s σ H Q I (w σ H Q hq)⟩
abbrev POpt (X : Cx) (Z : Fix) (o : Option Expr) (f : Env' → Res (Option Int)) : Prop := PO X o (tD X Z RPt f)
theorem pod_none : POpt X Z none (fun ρ => .ok none ρ) := by
  refine PO.weak po_none ?_
  rintro σ H Q ⟨F, ρ, ok, h⟩
  exact h none H F Step.refl ok rfl
theorem pod_some {f : Env' → Res SV} (h : PEd X Z e f) : POpt X Z (some e) (fun ρ => (f ρ).bind fun sv ρ1 => (match sv.d with
    | .int i => .ok (some i) ρ1
    | _ => .stuck)) := by
  refine PO.weak (po_some h) ?_
  rintro σ H Q ⟨F, ρ, ok, h⟩
  refine ⟨F, ρ, ok, (PostG.bindF late_RPt h).imp ?_⟩
  rintro v H1 ⟨sv, F1, ρ1, ok1, st, r, h1⟩
  split at h1
  · rename_i i e1
    rw [e1] at r
    cases r
    exact ⟨i, rfl, h1 (some i) H1 F1 Step.refl ok1 rfl⟩
  · exact h1.elim
theorem pd_slc {lo hi : Option Expr} {f : Env' → Res PV} {g k : Env' → Res (Option Int)} (ha : POd X Z a f) (hl : POpt X Z lo g) (hh : POpt X Z hi k) :
    PEd X Z (.Subscript a (.Slice lo hi none p2) pos) (fun ρ => (f ρ).bind fun p ρ1 => (g ρ1).bind fun l ρ2 => (k ρ2).bind fun h ρ3 => (match cont ρ3 p with
      | some d => lift (slP d l h) ρ3
      | none => .stuck)) := by
  refine PE.weak (pe_slice (sl_ok (fa := Z.fa)) ha hl hh) ?_
  rintro σ H Q ⟨F, ρ, ok, h⟩
  refine ⟨F, ρ, ok, (PostG.bind late_RSV h).imp ?_⟩
  rintro v H1 ⟨pv, F1, ρ1, ok1, st1, r1, h1⟩
  refine ⟨F1, ρ1, ok1, (PostG.bind late_RSV h1).imp ?_⟩
  rintro l H2 ⟨l', F2, ρ2, ok2, st2, r2, h2⟩
  cases r2
  refine ⟨F2, ρ2, ok2, (PostG.bind late_RSV h2).imp ?_⟩
  rintro u H3 ⟨u', F3, ρ3, ok3, st3, r3, h3⟩
  cases r3
  have r1' := PVok.stays (PVok.stays r1 (st2.stays ok1)) (st3.stays ok2)
  split at h3
  · rename_i d e1
    unfold lift at h3
    split at h3
    · rename_i sv e2
      exact ⟨F3, d, sv, e2, r1'.read ok3 e1, ok3.fd, fun z H' m => h3.made ok3 m⟩
    · exact h3.elim
  · exact h3.elim
/-- e[::-1] -/
theorem pd_rev {k : Nat} {p3 p4 : Pos} {f : Env' → Res PV} (ha : POd X Z a f) : PEd X Z (.Subscript a (.Slice none none (some (.UnaryOp .USub (.Constant (.int 1) k p3) p4)) p2) pos) (fun ρ => (f ρ).bind fun p ρ1 => (match cont ρ1 p with
      | some (.tup ds) => .ok (.dat (.tup ds.reverse)) ρ1
      | some (.lst ds) => .ok (.own (.lst ds.reverse)) ρ1
      | _ => .stuck)) := by
  refine ⟨?_⟩
  rintro pins s σ H Q I ⟨F, ρ, ok, h⟩
  refine Subscript_ (thn (ha.run pins s σ H _ I ⟨F, ρ, ok, PostG.bind late_RSV h⟩) ?_)
  rintro v s1 ⟨x, H1, I1, rx, pv, F1, ρ1, ok1, st1, r1, h1⟩
  have hst : PO X (some (.UnaryOp .USub (.Constant (.int 1) k p3) p4)) (tPart (tUn (rU fun i => .int (-i)) (tC (.int 1)))) := po_some (pe_un un_neg pe_int)
  refine wpAny_Slice (thn (po_none.run pins s1 σ H1 (fun o H2 => o = none ∧ H2 = H1) I1 ⟨rfl, rfl⟩) ?_)
  rintro vl s2 ⟨l, H2, I2, pl, rfl, rfl⟩
  refine thn (po_none.run pins s2 σ H2 (fun o H3 => o = none ∧ H3 = H2) I2 ⟨rfl, rfl⟩) ?_
  rintro vu s3 ⟨u, H3, I3, pu, rfl, rfl⟩
  refine thn (hst.run pins s3 σ H3 (fun o H4 => o = some (-1) ∧ H4 = H3) I3 ⟨1, rfl, -1, rfl, rfl, rfl⟩) ?_
  rintro vs s4 ⟨o, H4, I4, ps, rfl, rfl⟩
  have I5 : Inv X pins σ H4 { s4 with heap := s4.heap.push { cls := .type "slice", data := .fields #[vl, vu, vs] } } := I4.kept (t' := s4.toks) fun b ob q => Heap.get?_push_of_some _ q
  have sl := Heap.IsSliceOf.new s4.heap vl vu vs
  split at h1
  · rename_i ds e1
    obtain ⟨t, xs, rfl, ht, rt⟩ := (PVok.read r1 ok1 e1).tup
    cases rx
    cases pl
    cases pu
    cases ps
    obtain ⟨its, r, tt, hz⟩ := I5.tuple (.inl (.inl ht))
    refine tail_any (ops := [.ref t, .ref s4.heap.objs.size]) tt.typeIs PyProof.Rows.slot_tuple_getitem.lookup ?_ (by with_unfolding_all rfl)
    refine getItem_tuple_back tt sl ?_ (by rw [List.size_toArray, ← r.length]; exact hz)
    refine ⟨.ref _, _, I5.laid (t' := s4.toks) (o := .tup xs.reverse) (fun b ob q => Heap.get?_push_of_some _ q) (Nat.le_refl _) ?_, rfl, ?_⟩
    · exact ⟨by rw [List.length_reverse]; exact hz, _, r.reverse, IsTup.new _ _⟩
    · exact h1.made ok1 (made_tup ok1.fd (I5.hok.fresh (Nat.le_refl _)) rt.reverse)
  · rename_i ds e1
    obtain ⟨t, xs, rfl, ht, rt⟩ := (PVok.read r1 ok1 e1).lst
    cases rx
    obtain ⟨its, r, tt, hz⟩ := I5.list (.inl ht)
    refine tail_any (ops := [.ref t, .ref s4.heap.objs.size]) tt.isList.typeIs PySem.slot_list_getitem.lookup ?_ (by with_unfolding_all rfl)
    have hl := r.length
    refine wpAny_getItem_list_slice tt.isList sl pl pu ps (by decide) ?_ (by rw [List.size_toArray]; omega)
    rw [PySem.W.krv_pick]
    refine ⟨.ref _, _, I5.laid (t' := s4.toks) (o := .lst xs.reverse) (fun b ob q => Heap.get?_push_of_some _ q) (Nat.le_refl _) ?_, rfl, ?_⟩
    · exact ⟨by rw [List.length_reverse]; exact hz, _, 0, r.reverse, Heap.get?_push_size _ rfl⟩
    · exact h1.made ok1 (made_lst ok1.fd (I5.hok.fresh (Nat.le_refl _)) rt.reverse)
  · exact h1.elim

/-! ### built-in functions -/
theorem callR_D {f : Value} {r : List V → Hp → VK → Prop} : True := trivial
def rBI (X : Cx) (fa : Nat → Option Addr) (b : BI) : List V → Hp → VK → Prop := fun xs H Q => ∃ F ds sv, callP b ds = some sv ∧ RdFs X.K fa H F xs ds ∧ (∀ a, F a → H a ≠ none) ∧ ∀ z H', Made X.K fa H F sv z H' → Q z H'
theorem cr_bi {bi : BI} {fa : Nat → Option Addr} (hc : X.calm = true) : CallR X bi.val (rBI X fa bi) := by
  rintro pins s σ H xs us Q I r ⟨F, ds, sv, h, hd, fd, q⟩
  exact call_ok h hc I r hd fd q
theorem bi_boot (bi : BI) : bootBuiltins bi.name = some bi.val := by cases bi <;> decide +kernel
theorem bi_name (bi : BI) : bi.name ≠ "__name__" ∧ (bi.name == ("__debug__" : Str)) = false := by cases bi <;> decide
theorem pe_bi {bi : BI} {fa : Nat → Option Addr} {t : TA} (hc : X.calm = true) (hg : Gl X bi.name) (hm : X.mg bi.name = none) (ha : PA X (e :: es) t) (hs : (e :: es).all plainE = true) : PE X (.Call (.Name bi.name p) (e :: es) [] pos) (tCB (rBI X fa bi) t) := by
  rw [List.all_cons, Bool.and_eq_true] at hs
  have hr : CallR X bi.val (rBI X fa bi) := cr_bi hc
  have h1 := bi_boot bi
  have h2 := bi_name bi
  cases bi with
  | len => exact pe_callB hr hg hm h1 ha h2.1 h2.2 (star_plain hs.1) (back_plain hs.2)
  | abs => exact pe_callB hr hg hm h1 ha h2.1 h2.2 (star_plain hs.1) (back_plain hs.2)
  | int => exact pe_callTy hr hg hm h1 ha h2.1 h2.2 (star_plain hs.1) (back_plain hs.2)
  | str => exact pe_callTy hr hg hm h1 ha h2.1 h2.2 (star_plain hs.1) (back_plain hs.2)
  | tuple => exact pe_callTy hr hg hm h1 ha h2.1 h2.2 (star_plain hs.1) (back_plain hs.2)
  | list => exact pe_callTy hr hg hm h1 ha h2.1 h2.2 (star_plain hs.1) (back_plain hs.2)
  | sum => exact pe_callB hr hg hm h1 ha h2.1 h2.2 (star_plain hs.1) (back_plain hs.2)
  | max => exact pe_callB hr hg hm h1 ha h2.1 h2.2 (star_plain hs.1) (back_plain hs.2)
  | min => exact pe_callB hr hg hm h1 ha h2.1 h2.2 (star_plain hs.1) (back_plain hs.2)
  | all => exact pe_callB hr hg hm h1 ha h2.1 h2.2 (star_plain hs.1) (back_plain hs.2)
  | any => exact pe_callB hr hg hm h1 ha h2.1 h2.2 (star_plain hs.1) (back_plain hs.2)
  | sorted => exact pe_callB hr hg hm h1 ha h2.1 h2.2 (star_plain hs.1) (back_plain hs.2)
theorem pd_bi {bi : BI} {f : Env' → Res (List PV)} (hc : X.calm = true) (hg : Gl X bi.name) (hm : X.mg bi.name = none) (ha : PAd X Z (e :: es) f) (hs : (e :: es).all plainE = true) :
    PEd X Z (.Call (.Name bi.name p) (e :: es) [] pos) (fun ρ => (f ρ).bind fun ps ρ1 => (match conts ρ1 ps with
      | some ds => lift (callP bi ds) ρ1
      | none => .stuck)) := by
  refine PE.weak (pe_bi (fa := Z.fa) hc hg hm ha hs) ?_
  rintro σ H Q ⟨F, ρ, ok, h⟩
  refine ⟨F, ρ, ok, (PostG.bind late_RSV h).imp ?_⟩
  rintro vs H1 ⟨ps, F1, ρ1, ok1, st1, r1, h1⟩
  split at h1
  · rename_i ds e1
    unfold lift at h1
    split at h1
    · rename_i sv e2
      exact ⟨F1, ds, sv, e2, PVs.read ok1 r1 e1, ok1.fd, fun z H' m => h1.made ok1 m⟩
    · exact h1.elim
  · exact h1.elim
/-- isinstance(e, T) -/
def rIn1 (X : Cx) (fa : Nat → Option Addr) (T : String) : List V → Hp → VK → Prop := fun xs H Q => ∃ F x d b, xs = [x, .ty T] ∧ instP d T = some b ∧ RdF X.K fa H F x d ∧ Q (.bl b) H
theorem cr_inst {T : String} {fa : Nat → Option Addr} : CallR X (.builtin "isinstance") (rIn1 X fa T) := by
  rintro pins s σ H xs us Q I r ⟨F, x, d, b, rfl, h, hd, q⟩
  exact inst_ok h I r hd q
theorem pd_inst {T : String} {x2 : Str} {p3 : Pos} {f : Env' → Res PV} (hg : Gl X "isinstance") (hm : X.mg "isinstance" = none) (hg2 : Gl X x2) (hm2 : X.mg x2 = none) (hv2 : bootBuiltins x2 = some (.type T)) (hn2 : x2 ≠ "__name__") (hd2 : (x2 == ("__debug__" : Str)) = false)
    (ha : POd X Z a f) (hs : plainE a = true) :
    PEd X Z (.Call (.Name "isinstance" p) [a, .Name x2 p3] [] pos) (fun ρ => (f ρ).bind fun p ρ1 => (match cont ρ1 p with
      | some d => (match instP d T with
        | some b => .ok (.dat (.bl b)) ρ1
        | none => .stuck)
      | none => .stuck)) := by
  have hty : PE X (.Name x2 p3) (tC (.ty T)) := pe_bltn hg2 hm2 hv2 rfl hn2 hd2
  refine PE.weak (pe_callB (cr_inst (fa := Z.fa) (T := T)) hg hm (by decide +kernel) (pa_cons ha (pa_cons hty pa_nil (star_plain rfl)) (star_plain hs)) (by decide) (by decide) (star_plain hs) (back_plain (es := [.Name x2 p3]) rfl)) ?_
  rintro σ H Q ⟨F, ρ, ok, h⟩
  refine ⟨F, ρ, ok, (PostG.bind late_RSV h).imp ?_⟩
  rintro v H1 ⟨pv, F1, ρ1, ok1, st1, r1, h1⟩
  split at h1
  · rename_i d e1
    split at h1
    · rename_i b e2
      exact ⟨F1, v, d, b, rfl, e2, PVok.read r1 ok1 e1, h1.rep ok1 (.bl _)⟩
    · exact h1.elim
  · exact h1.elim
/-- list(range(a)) -/
theorem rgV_rep {K : PySem.W.Frag} {fa : Nat → Option Addr} {H : Hp} {F : AP'} (lo : Int) (n : Nat) : RepL K fa H F ((List.range n).map fun i => V.int (lo + (i : Nat))) (rangeD lo n) := by
  unfold rangeD
  induction (List.range n) with
  | nil => exact .nil
  | cons i l ih => exact .cons (.int _) ih
theorem pd_lrng {p3 : Pos} {f : Env' → Res SV} (hc : X.calm = true) (hg : Gl X "list") (hm : X.mg "list" = none) (hg2 : Gl X "range") (hm2 : X.mg "range" = none) (ha : PEd X Z a f) (hs : plainE a = true) :
    PEd X Z (.Call (.Name "list" p) [.Call (.Name "range" p2) [a] [] p3] [] pos) (fun ρ => (f ρ).bind fun sa ρ1 => (match sa.d with
      | .int j => if 0 ≤ j ∧ j ≤ Z24 then .ok (.own (.lst (rangeD 0 j.toNat))) ρ1 else .stuck
      | _ => .stuck)) := by
  refine PE.weak (pe_listRg hc hg hm (prg_1 hg2 hm2 ha (star_plain hs)) (star_plain rfl)) ?_
  rintro σ H Q ⟨F, ρ, ok, h⟩
  refine ⟨F, ρ, ok, (PostG.bindF late_RSV h).imp ?_⟩
  rintro v H1 ⟨sv, F1, ρ1, ok1, st1, r1, h1⟩
  split at h1
  · rename_i j e1
    rw [e1] at r1
    cases r1
    split at h1
    · rename_i hj
      have hz : (Z24 : Int) = 16777216 := rfl
      refine ⟨j, rfl, RgOk.of_le (Int.le_refl 0) (by omega) (by omega) hj.1, fun q hq => ?_⟩
      refine h1.made ok1 (made_lst ok1.fd hq ?_)
      unfold rgV
      rw [Int.sub_zero]
      exact rgV_rep 0 _
    · exact h1.elim
  · exact h1.elim

/-! ### dicts -/
def rDcp (X : Cx) (fa : Nat → Option Addr) : List V → Hp → VK → Prop := fun xs H Q => ∃ F x kds, xs = [x] ∧ RdF X.K fa H F x (.dK kds) ∧ (∀ a, F a → H a ≠ none) ∧ ∀ z H', Made X.K fa H F (.own (.dK kds)) z H' → Q z H'
theorem cr_dcp {fa : Nat → Option Addr} : CallR X (.type "dict") (rDcp X fa) := by
  rintro pins s σ H xs us Q I r ⟨F, x, kds, rfl, hd, fd, q⟩
  obtain ⟨a, kvs, rfl, h1, h2⟩ := hd.dK
  exact call_dictD pins s σ H _ us Q I r ⟨a, kvs, rfl, h1, fun p hp => q _ _ (made_dK fd hp h2)⟩
theorem pd_dcp {f : Env' → Res PV} (hg : Gl X "dict") (hm : X.mg "dict" = none) (ha : POd X Z a f) (hs : plainE a = true) : PEd X Z (.Call (.Name "dict" p) [a] [] pos) (fun ρ => (f ρ).bind fun p ρ1 => (match cont ρ1 p with
      | some (.dK kds) => .ok (.own (.dK kds)) ρ1
      | _ => .stuck)) := by
  refine PE.weak (pe_callTy (cr_dcp (fa := Z.fa)) hg hm (by decide +kernel) (pa_cons ha pa_nil (star_plain hs)) (by decide) (by decide) (star_plain hs) (back_plain (es := []) rfl)) ?_
  rintro σ H Q ⟨F, ρ, ok, h⟩
  refine ⟨F, ρ, ok, (PostG.bind late_RSV h).imp ?_⟩
  rintro v H1 ⟨pv, F1, ρ1, ok1, st1, r1, h1⟩
  split at h1
  · rename_i kds e1
    exact ⟨F1, v, kds, rfl, PVok.read r1 ok1 e1, ok1.fd, fun z H' m => h1.made ok1 m⟩
  · exact h1.elim
theorem pairs_ok {K : PySem.W.Frag} {fa : Nat → Option Addr} {H : Hp} {F : AP'} : ∀ {xs : List V} {ds : List D} {kds : List (Key × D)}, RepL K fa H F xs ds → pairsK ds = some kds →
    ∃ (ps : List Addr) (kvs : List (Key × V)), xs = ps.map V.ref ∧ Paired (fun p kv => SqT K H p [kV kv.1, kv.2]) ps kvs ∧ DRep K fa H F kvs kds
  | _, _, _, .nil, e => by cases e; exact ⟨[], [], rfl, .nil, rfl, .nil⟩
  | _, _, _, .cons (ds := ds) h r, e => by
    unfold pairsK at e
    split at e
    · rename_i heq; cases heq
    · rename_i k v ds' heq
      cases heq
      split at e
      · rename_i kk rr e1 e2
        cases e
        obtain ⟨ps, kvs, a1, a2, a3⟩ := pairs_ok r e2
        cases h with
        | tup ht hr =>
          rename_i a xs'
          cases hr with
          | cons hk hr2 =>
            cases hr2 with
            | cons hv hr3 =>
              cases hr3
              have := keyOf_ok hk e1
              subst this
              refine ⟨a :: ps, (kk, _) :: kvs, by rw [a1]; rfl, .cons (.inl (.inl ht)) a2, by simp [a3.1], .cons hv a3.2⟩
      · cases e
    · cases e
theorem merge_rep {K : PySem.W.Frag} {fa : Nat → Option Addr} {H : Hp} {F : AP'} : ∀ {kvs : List (Key × V)} {kds : List (Key × D)} {acc : List (Key × V)} {dac : List (Key × D)}, DRep K fa H F kvs kds → DRep K fa H F acc dac →
    DRep K fa H F (mergeK acc kvs) (kds.foldl (fun a kv => putD a kv.1 kv.2) dac)
  | [], [], _, _, _, q => q
  | [], _ :: _, _, _, h, _ => by have := h.1; simp at this
  | _ :: _, [], _, _, h, _ => by have := h.1; simp at this
  | p :: kvs, q :: kds, acc, dac, h, g => by
    obtain ⟨h1, h2⟩ := h
    simp only [List.map_cons, List.cons.injEq] at h1
    cases h2 with
    | cons hv hr =>
      have g' := g.put (k := q.1) hv
      rw [List.foldl_cons]
      have := merge_rep (show DRep K fa H F kvs kds from ⟨h1.2, hr⟩) g'
      rw [← h1.1] at this
      rw [← h1.1]
      exact this
def rDpr (X : Cx) (fa : Nat → Option Addr) : List V → Hp → VK → Prop := fun xs H Q => ∃ F x es kds, xs = [x] ∧ RdF X.K fa H F x (.lst es) ∧ pairsK es = some kds ∧ (∀ a, F a → H a ≠ none) ∧ ∀ z H', Made X.K fa H F (.own (.dK (kds.foldl (fun acc kv => putD acc kv.1 kv.2) []))) z H' → Q z H'
theorem cr_dpr {fa : Nat → Option Addr} (hc : X.calm = true) : CallR X (.type "dict") (rDpr X fa) := by
  rintro pins s σ H xs us Q I r ⟨F, x, es, kds, rfl, hd, hp, fd, q⟩
  obtain ⟨a, ys, rfl, h1, h2⟩ := hd.lst
  obtain ⟨ps, kvs, rfl, a2, a3⟩ := pairs_ok h2 hp
  exact call_dictP hc pins s σ H _ us Q I r ⟨a, ps, kvs, rfl, .inl h1, a2, fun p hp => q _ _ (made_dK fd hp (merge_rep a3 ⟨rfl, .nil⟩))⟩
theorem pd_dprs {f : Env' → Res PV} (hc : X.calm = true) (hg : Gl X "dict") (hm : X.mg "dict" = none) (ha : POd X Z a f) (hs : plainE a = true) : PEd X Z (.Call (.Name "dict" p) [a] [] pos) (fun ρ => (f ρ).bind fun p ρ1 => (match cont ρ1 p with
      | some (.lst es) => (match pairsK es with
        | some kds => .ok (.own (.dK (kds.foldl (fun acc kv => putD acc kv.1 kv.2) []))) ρ1
        | none => .stuck)
      | _ => .stuck)) := by
  refine PE.weak (pe_callTy (cr_dpr (fa := Z.fa) hc) hg hm (by decide +kernel) (pa_cons ha pa_nil (star_plain hs)) (by decide) (by decide) (star_plain hs) (back_plain (es := []) rfl)) ?_
  rintro σ H Q ⟨F, ρ, ok, h⟩
  refine ⟨F, ρ, ok, (PostG.bind late_RSV h).imp ?_⟩
  rintro v H1 ⟨pv, F1, ρ1, ok1, st1, r1, h1⟩
  split at h1
  · rename_i es e1
    split at h1
    · rename_i kds e2
      exact ⟨F1, v, es, kds, rfl, PVok.read r1 ok1 e1, e2, ok1.fd, fun z H' m => h1.made ok1 m⟩
    · exact h1.elim
  · exact h1.elim
theorem PostG.bindX {K : PySem.W.Frag} {Z : Fix} {α' β' : Type} {R' : Hp → α' → β' → Hp → AP' → L2.St → Env' → Prop} {σ : L2.St} {H0 Hs : Hp} {F0 Fs : AP'} {ρ0 ρs : Env'} {f : Res SV} {g : SV → Env' → Res α'} {Q : β' → Hp → Prop}
    (st : StepE H0 F0 σ ρ0 Hs Fs σ ρs) (h : PostG K Z R' σ H0 F0 ρ0 (f.bind g) Q) :
    PostG K Z (RSV K Z) σ Hs Fs ρs f (fun v H1 => ∃ sv F1 ρ1, EnvOk K Z.fa H1 F1 σ ρ1 ∧ StepE Hs Fs σ ρs H1 F1 σ ρ1 ∧ Rep K Z.fa H1 F1 v sv.d ∧ PostG K Z R' σ H0 F0 ρ0 (g sv ρ1) Q) := by
  cases f with
  | ok sv ρ' =>
    intro v H' F' s ok r
    obtain ⟨F1, ok1, rep, m1, m2⟩ := ResOk.freeze ok r
    exact ⟨sv, F1, ρ', ok1, s.more m1 m2, rep, h⟩
  | exc x ρ' => exact fun cls d H' F' s ok r => h cls d H' F' (st.trans s) ok r
  | stuck => exact h
/-- {k: v} -/
theorem pd_dic1 {f g : Env' → Res SV} (ha : PEd X Z a f) (hb : PEd X Z b g) : PEd X Z (.Dict [some a] [b] pos) (fun ρ => (f ρ).bind fun sk ρ1 => (g ρ1).bind fun sv ρ2 => (match keyOf sk.d with
      | some kk => .ok (.own (.dK [(kk, sv.d)])) ρ2
      | none => .stuck)) := by
  refine PE.weak (pe_disp (pps_cons ha hb pps_nil) rfl rfl (fun z => by cases z) (Nat.le_add_left 1 14)) ?_
  rintro σ H Q ⟨F, ρ, ok, h⟩
  intro p hp
  -- the dict is laid ahead of its entries
  have gr : Grow H F (upd H p (.dK [])) F := Grow.new ok.fd hp
  have ok' := ok.grow gr
  have nop : ∀ {ρ1 : Env'}, (∀ x, Own σ ρ1 x → Own σ ρ x ∨ upd H p (.dK []) x = none) → ¬ Own σ ρ1 p := fun {ρ1} hn o => by
    rcases hn p o with o | o
    · obtain ⟨u, hu, _⟩ := ok.own_at o
      rw [hp] at hu; cases hu
    · rw [upd_same] at o; cases o
  refine ⟨F, ρ, ok', (PostG.bindX gr.step h).imp ?_⟩
  rintro v H1 ⟨sk, F1, ρ1, ok1, st1, r1, h1⟩
  refine ⟨F1, ρ1, ok1, (PostG.bindX (gr.step.trans st1) h1).imp ?_⟩
  rintro w H2 ⟨sv, F2, ρ2, ok2, st2, r2, h2⟩
  split at h2
  · rename_i kk e1
    have r1' := Rep.stays (st2.stays ok1) r1
    have hk := keyOf_ok r1' e1
    subst hk
    have q1 : H1 p = some (.dK []) := (st1.keep p _ upd_same (nop fun x o => .inl o) (fun _ z => by cases z)).resolve_right fun z => ok.fd p z.1 hp
    have nF1 : ¬ F1 p := fun z => by
      rcases st1.fnew p z with z | z | ⟨z, _⟩
      · exact ok.fd p z hp
      · rw [upd_same] at z; cases z
      · exact nop (fun x o => .inl o) z
    have q2 : H2 p = some (.dK []) := (st2.keep p _ q1 (nop st1.onew) (fun _ z => by cases z)).resolve_right fun z => nF1 z.1
    refine ⟨q2, [(kk, w)], rfl, by simp, ?_⟩
    -- the dict at p, new since the beginning, is written
    have nF2 : ¬ F2 p := fun z => by
      rcases st2.fnew p z with z | z | ⟨z, _⟩
      · rcases st1.fnew p z with z | z | ⟨z, _⟩
        · exact ok.fd p z hp
        · rw [upd_same] at z; cases z
        · exact nop (fun x o => .inl o) z
      · rw [q1] at z; cases z
      · exact nop st1.onew z
    have no2 : ¬ Own σ ρ2 p := by
      refine nop fun x o => ?_
      rcases st2.onew x o with o | o
      · exact st1.onew x o
      · exact .inr (st1.dom x o)
    have sta : Stays H2 F2 (upd H2 p (.dK (mergeK [] [(kk, w)]))) F2 := by
      refine ⟨fun b xs hb => ?_, fun b u fb _ hb => ?_, fun _ z => z, fun b o u hb => by
        have ne : b ≠ p := by intro z; subst z; rw [q2] at hb; cases hb
        rw [upd_ne ne]; exact hb⟩
      · have ne : b ≠ p := by intro z; subst z; rw [q2] at hb; cases hb
        rw [upd_ne ne]; exact hb
      · have ne : b ≠ p := by intro z; subst z; exact nF2 fb
        unfold Rd
        rw [upd_ne ne]; exact hb
    have hmk : mergeK [] [(kk, w)] = [(kk, w)] := by simp [mergeK, putK]
    rw [hmk] at sta ⊢
    have tbu : Tbs (upd H2 p (.dK [(kk, w)])) := tabs_upd ok2.tb q2 (fun _ z => by cases z) (fun _ z => by unfold LamX.CodeO at z; cases z)
    have okE : EnvOk X.K Z.fa (upd H2 p (.dK [(kk, w)])) F2 σ ρ2 := by
      refine ⟨ok2.len, fun i sz e => ?_, ok2.apart, fun b fb => ?_, tbu⟩
      · obtain ⟨y, g1, g2⟩ := ok2.slot i sz e
        refine ⟨y, g1, ?_⟩
        have far : ∀ c d', y = .ref c → sz.mine = true → OwnAt X.K Z.fa H2 F2 c d' → OwnAt X.K Z.fa (upd H2 p (.dK [(kk, w)])) F2 c d' := fun c d' ey mz q => by
          have ne : c ≠ p := by
            intro z; subst z ey
            exact no2 ⟨i, sz, e, mz, g1⟩
          exact q.stays (upd_ne ne) sta
        cases sz with
        | dat d' => exact Rep.stays sta g2
        | own d' => obtain ⟨c, ey, nc, q⟩ := g2; exact ⟨c, ey, nc, far c d' ey rfl q⟩
        | bor d' => obtain ⟨c, ey, nc, q⟩ := g2; exact ⟨c, ey, nc, far c d' ey rfl q⟩
      · by_cases z : b = p
        · subst z; rw [upd_same]; exact fun q => nomatch q
        · rw [upd_ne z]; exact ok2.fd b fb
    have full : StepE H F σ ρ (upd H2 p (.dK [(kk, w)])) F2 σ ρ2 := by
      have st02 := (gr.step (O := Own σ ρ) (B := Bor σ ρ)).trans (st1.trans st2)
      refine ⟨fun b u hb no nt => ?_, st02.fmono, st02.fnew, st02.onew, st02.bor, fun b hb => ?_, fun _ => tbu⟩
      · have ne : b ≠ p := by intro z; subst z; rw [hp] at hb; cases hb
        rw [upd_ne ne]; exact st02.keep b u hb no nt
      · by_cases z : b = p
        · subst z; rw [upd_same] at hb; cases hb
        · rw [upd_ne z] at hb; exact st02.dom b hb
    exact h2 (.ref p) _ F2 full okE ⟨⟨p, rfl, nF2, .dK upd_same ⟨rfl, .cons (Rep.stays sta r2) .nil⟩⟩, p, rfl, hp, no2⟩
  · exact h2.elim
end
end DL

namespace DL
open PySem PySem.Spec PyProof.Rows L2
variable [TB]

/-! ### what a def promises -/
inductive RepSs (K : PySem.W.Frag) (fa : Nat → Option Addr) (H : Hp) (F : AP') : List V → List SV → Prop
  | nil : RepSs K fa H F [] []
  | cons {v : V} {vs : List V} {d : SV} {ds : List SV} : RepS K fa H F v d → RepSs K fa H F vs ds → RepSs K fa H F (v :: vs) (d :: ds)
/-- at most the first argument is lent -/
def ArgsOk : List SV → Prop
  | [] => True
  | s :: ss => (∀ d, s ≠ .own d) ∧ ∀ t ∈ ss, ∃ d, t = .dat d
def lentA : List V → List SV → Addr → Prop
  | v :: _, .bor _ :: _, a => v = .ref a
  | _, _, _ => False
def lentD : List SV → Option D
  | .bor d :: _ => some d
  | _ => none
def Back (K : PySem.W.Frag) (fa : Nat → Option Addr) (vs : List V) (svs : List SV) (b : Option D) (H : Hp) (F : AP') : Prop := match vs, svs, b with
  | v :: _, .bor _ :: _, some d => ∃ a, v = .ref a ∧ ¬ F a ∧ OwnAt K fa H F a d
  | _, .bor _ :: _, none => False
  | _, _, none => True
  | _, _, some _ => False
def PostF (K : PySem.W.Frag) (fa : Nat → Option Addr) (EX : ExR) (H : Hp) (F : AP') (vs : List V) (svs : List SV) (r : FRes) (Q : VK) (E : XK) : Prop := match r with
  | .ok sv b => ∀ v H' F', Step H F (lentA vs svs) (lentA vs svs) H' F' (lentA vs svs) (lentA vs svs) → (∀ a, F' a → H' a ≠ none) → RepS K fa H' F' v sv → (sv.mine = true → ∃ d a, sv = .own d ∧ v = .ref a ∧ H a = none) → Back K fa vs svs b H' F' → Q v H'
  | .exc x b => ∀ cls d H' F', Step H F (lentA vs svs) (lentA vs svs) H' F' (lentA vs svs) (lentA vs svs) → (∀ a, F' a → H' a ≠ none) → Back K fa vs svs b H' F' → EX x cls d H' → E cls d H'
  | .stuck => False
def spF (K : PySem.W.Frag) (fa : Nat → Option Addr) (EX : ExR) (g : List SV → FRes) : Sp := fun vs H Q E => ∃ F svs, ((∀ a, F a → H a ≠ none) ∧ Tbs H) ∧ RepSs K fa H F vs svs ∧ ArgsOk svs ∧ PostF K fa EX H F vs svs (g svs) Q E

section
variable {K : PySem.W.Frag} {fa : Nat → Option Addr} {H H' : Hp} {F F' : AP'} {σ : L2.St} {ρ ρ1 ρ2 : Env'}
/-! ### slots that a callee reads -/
def ShA (σ : L2.St) (ρ : Env') (sh : List Nat) (a : Addr) : Prop := ∃ i ∈ sh, (∃ sv : SV, ρ[i]? = some (some sv) ∧ sv.mine = true) ∧ σ[i]? = some (some (.ref a))
theorem shA_own {σ : L2.St} {ρ : Env'} {sh : List Nat} {a : Addr} (h : ShA σ ρ sh a) : Own σ ρ a := by
  obtain ⟨i, _, ⟨sv, e, m⟩, es⟩ := h
  exact ⟨i, sv, e, m, es⟩
theorem freezeSl_ok {K : PySem.W.Frag} {fa : Nat → Option Addr} {H : Hp} {σ : L2.St} {ρ2 : Env'} : ∀ {sh : List Nat} {ρ : Env'} {F : AP'}, EnvOk K fa H F σ ρ → freezeSl ρ sh = some ρ2 → EnvOk K fa H (fun a => F a ∨ ShA σ ρ sh a) σ ρ2 ∧ StepE H F σ ρ H (fun a => F a ∨ ShA σ ρ sh a) σ ρ2
  | [], ρ, F, ok, e => by
    cases e
    have eq : ∀ q, (fun a => F a ∨ ShA σ q [] a) = F := by
      intro q
      funext a
      exact propext ⟨fun h => h.elim id (fun ⟨i, hi, _⟩ => nomatch hi), .inl⟩
    rw [eq _]
    exact ⟨ok, Step.refl⟩
  | i :: is, ρ, F, ok, e => by
    unfold freezeSl at e
    split at e
    · rename_i d e1
      obtain ⟨v, es, a, ea, nf, ow⟩ := ok.slot i _ e1
      subst ea
      obtain ⟨ok1, st1, _⟩ := ok.freeze e1 es
      obtain ⟨ok2, st2⟩ := freezeSl_ok ok1 e
      have eq : (fun b => (F b ∨ b = a) ∨ ShA σ (ρ.set i (some (.dat d))) is b) = fun b => F b ∨ ShA σ ρ (i :: is) b := by
        funext b
        refine propext ⟨fun h => ?_, fun h => ?_⟩
        · rcases h with (h | h) | h
          · exact .inl h
          · subst h; exact .inr ⟨i, List.mem_cons_self, ⟨_, e1, rfl⟩, es⟩
          · obtain ⟨j, hj, ⟨sv, q1, q2⟩, q3⟩ := h
            rcases set_get q1 with ⟨rfl, q⟩ | ⟨ne, q⟩
            · cases q; cases q2
            · exact .inr ⟨j, List.mem_cons_of_mem _ hj, ⟨sv, q, q2⟩, q3⟩
        · rcases h with h | ⟨j, hj, ⟨sv, q1, q2⟩, q3⟩
          · exact .inl (.inl h)
          · by_cases ne : i = j
            · subst ne
              rw [es] at q3
              cases q3
              exact .inl (.inr rfl)
            · rcases List.mem_cons.mp hj with rfl | hj
              · exact absurd rfl ne
              · exact .inr ⟨j, hj, ⟨sv, by rw [List.getElem?_set_ne ne]; exact q1, q2⟩, q3⟩
      rw [eq] at ok2 st2
      exact ⟨ok2, st1.trans st2⟩
    · rename_i d e1
      obtain ⟨ok2, st2⟩ := freezeSl_ok ok e
      have eq : (fun b => F b ∨ ShA σ ρ is b) = fun b => F b ∨ ShA σ ρ (i :: is) b := by
        funext b
        refine propext ⟨fun h => ?_, fun h => ?_⟩
        · rcases h with h | ⟨j, hj, q⟩
          · exact .inl h
          · exact .inr ⟨j, List.mem_cons_of_mem _ hj, q⟩
        · rcases h with h | ⟨j, hj, ⟨sv, q1, q2⟩, q3⟩
          · exact .inl h
          · rcases List.mem_cons.mp hj with rfl | hj
            · rw [e1] at q1; cases q1; cases q2
            · exact .inr ⟨j, hj, ⟨sv, q1, q2⟩, q3⟩
      rw [eq] at ok2 st2
      exact ⟨ok2, st2⟩
    · cases e
/-- a frozen name is data from then on -/
theorem freezeSl_dat {ρ2 : Env'} : ∀ {sh : List Nat} {ρ : Env'}, freezeSl ρ sh = some ρ2 → (∀ i ∈ sh, ∃ d, ρ2[i]? = some (some (.dat d))) ∧ ∀ (i : Nat) (d : D), ρ[i]? = some (some (.dat d)) → ρ2[i]? = some (some (.dat d))
  | [], ρ, e => by cases e; exact ⟨fun _ h => (nomatch h), fun _ _ h => h⟩
  | i :: is, ρ, e => by
    unfold freezeSl at e
    split at e
    · rename_i d e1
      obtain ⟨h1, h2⟩ := freezeSl_dat e
      have hi : (ρ.set i (some (.dat d)))[i]? = some (some (.dat d)) := by rw [List.getElem?_set_self (get_lt e1)]
      refine ⟨fun j hj => ?_, fun j d' hj => ?_⟩
      · rcases List.mem_cons.mp hj with rfl | hj
        · exact ⟨d, h2 _ _ hi⟩
        · exact h1 j hj
      · refine h2 j d' ?_
        rw [List.getElem?_set_ne ?_]
        · exact hj
        · intro z; subst z; rw [e1] at hj; cases hj
    · rename_i d e1
      obtain ⟨h1, h2⟩ := freezeSl_dat e
      refine ⟨fun j hj => ?_, h2⟩
      rcases List.mem_cons.mp hj with rfl | hj
      · exact ⟨d, h2 _ _ e1⟩
      · exact h1 j hj
    · cases e
/-- other names stand -/
theorem freezeSl_other {ρ2 : Env'} : ∀ {sh : List Nat} {ρ : Env'} {i : Nat}, freezeSl ρ sh = some ρ2 → i ∉ sh → ρ2[i]? = ρ[i]?
  | [], ρ, i, e, _ => by cases e; rfl
  | k :: is, ρ, i, e, h => by
    have h1 : i ≠ k := fun z => h (z ▸ List.mem_cons_self)
    have h2 : i ∉ is := fun z => h (List.mem_cons_of_mem _ z)
    unfold freezeSl at e
    split at e
    · rw [freezeSl_other e h2, List.getElem?_set_ne (Ne.symm h1)]
    · exact freezeSl_other e h2
    · cases e

/-- the arguments that are read, as data, with the shared names frozen -/
theorem args_read (ok : EnvOk K fa H F σ ρ) : ∀ {xs : List V} {ps : List PV} {ds : List D} {G : AP'}, PVs K fa H F σ xs ps → conts ρ ps = some ds → (∀ a, F a → G a) → (∀ a, ShA σ ρ (sharedSl ρ ps) a → G a) → RepSs K fa H G xs (ds.map .dat)
  | _, _, _, _, .nil, e, _, _ => by cases e; exact .nil
  | x :: xs, p :: ps, _, G, .cons h r, e, hF, hS => by
    have st : Stays H F H G := ⟨fun _ _ h => h, fun _ _ _ _ h => h, hF, fun _ _ _ h => h⟩
    unfold conts at e
    split at e
    · rename_i d ds e1 e2
      cases e
      have tail : RepSs K fa H G xs (ds.map .dat) := args_read ok r e2 hF fun a ⟨i, hi, q⟩ => hS a ⟨i, by
        cases p with
        | dd d' => exact hi
        | sl j =>
          unfold sharedSl
          split
          · exact hi
          · exact List.mem_cons_of_mem _ hi, q⟩
      refine .cons ?_ tail
      cases p with
      | dd d' => cases e1; exact Rep.stays st h
      | sl i =>
        unfold cont at e1
        dsimp only at e1
        split at e1
        · rename_i sv hsv
          cases e1
          obtain ⟨v, q1, q2⟩ := ok.slot i sv hsv
          rw [show σ[i]? = some (some x) from h] at q1
          cases q1
          have own : ∀ d', sv.mine = true → (∃ a, x = .ref a ∧ ¬ F a ∧ OwnAt K fa H F a d') → Rep K fa H G x d' := fun d' m ⟨a, ea, nf, ow⟩ => by
            subst ea
            have ga : G a := hS a ⟨i, by
              unfold sharedSl
              split
              · rename_i d2 hd2; rw [hsv] at hd2; cases hd2; cases m
              · exact List.mem_cons_self, ⟨sv, hsv, m⟩, h⟩
            cases ow with
            | lst q r => exact .lst ga (.inl q) (r.stays st)
            | dK q r => exact .dK ga (.inl q) r.1 (r.2.stays st)
            | dT q r => exact .dT ga (.inl q) r.1 (r.2.stays st)
          cases sv with
          | dat d' => exact Rep.stays st q2
          | own d' => exact own d' rfl q2
          | bor d' => exact own d' rfl q2
        · cases e1
    · cases e
theorem flat_rep {v : V} {sv : SV} (h : RepS K fa H F v sv) (f : sv.d.flat = true) : ∀ H' F', Rep K fa H' F' v sv.d := by
  intro H' F'
  cases sv with
  | dat d =>
    cases (show Rep K fa H F v d from h) <;> first | exact .non | exact .bl _ | exact .int _ | exact .str _ | cases f
  | own d => obtain ⟨a, _, _, ow⟩ := h; cases ow <;> cases f
  | bor d => obtain ⟨a, _, _, ow⟩ := h; cases ow <;> cases f
/-- behind a call that had a thing of ours on loan -/
theorem EnvOk.lent {i : Nat} {sv sw : SV} {a : Addr} {d : D} {O : AP'} (ok : EnvOk K fa H F σ ρ) (e : ρ[i]? = some (some sv)) (m : sv.mine = true) (es : σ[i]? = some (some (.ref a)))
    (hs : (sv.lent = false ∧ sw = .own d) ∨ (sv.lent = true ∧ sw = .bor d)) (hO : ∀ b, O b → b = a) (st : Step H F O O H' F' O O) (fd : ∀ b, F' b → H' b ≠ none) (nf : ¬ F' a) (hw : OwnAt K fa H' F' a d) :
    EnvOk K fa H' F' σ (ρ.set i (some sw)) ∧ StepE H F σ ρ H' F' σ (ρ.set i (some sw)) ∧ ∀ b, Own σ (ρ.set i (some sw)) b → Own σ ρ b := by
  have oa : Own σ ρ a := ⟨i, sv, e, m, es⟩
  have hi := get_lt e
  have mw : sw.mine = true := by rcases hs with ⟨_, rfl⟩ | ⟨_, rfl⟩ <;> rfl
  have lw : sw.lent = sv.lent := by rcases hs with ⟨h, rfl⟩ | ⟨h, rfl⟩ <;> rw [h] <;> rfl
  have own' : ∀ b, Own σ (ρ.set i (some sw)) b → Own σ ρ b := fun b ⟨j, sz, h1, h2, h3⟩ => by
    rcases set_get h1 with ⟨rfl, g⟩ | ⟨ne, g⟩
    · exact ⟨i, sv, e, m, h3⟩
    · exact ⟨j, sz, g, h2, h3⟩
  have fnew : ∀ b, F' b → F b ∨ H b = none := fun b h => by
    rcases st.fnew b h with h | h | ⟨h, n⟩
    · exact .inl h
    · exact .inr h
    · exact absurd h n
  have sta : Stays H F H' F' := by
    refine ⟨fun b xs h => ?_, fun b u f ntu h => ?_, st.fmono, fun b o u h => (st.keep _ _ h (fun z => (fun ne : b ≠ a => ne (hO b z)) (by
      intro z; subst z
      obtain ⟨o0, ho0, _, nt⟩ := ok.own_at oa
      rw [ho0] at h; exact nt.1 _ _ (Option.some.inj h))) (fun _ z => by cases z)).resolve_right fun z => z.2.1⟩
    · have ne : b ≠ a := by
        intro z; subst z
        obtain ⟨o0, ho0, nt, _⟩ := ok.own_at oa
        rw [ho0] at h; exact nt _ (Option.some.inj h)
      exact (st.keep _ _ h (fun z => ne (hO b z)) (fun _ z => by cases z)).resolve_right fun z => z.2.1
    · have ne : b ≠ a := by intro z; subst z; exact ok.own_nf oa f
      rcases h with h | ⟨o, h⟩
      · exact (st.keep _ _ h (fun z => ne (hO b z)) ntu).elim .inl fun z => .inr z.2.2
      · exact .inr ⟨o, (st.keep _ _ h (fun z => ne (hO b z)) (fun _ z => by cases z)).resolve_right fun z => z.2.1⟩
  refine ⟨⟨by rw [List.length_set]; exact ok.len, fun j sz h => ?_, fun j k sz sy b h1 h2 m1 m2 s1 s2 => ?_, fd, st.tabs ok.tb⟩, ⟨fun b u h no nt => ?_, st.fmono, fun b h => ?_, fun b h => .inl (own' b h), fun b => ?_, st.dom, st.tabs⟩, own'⟩
  · rcases set_get h with ⟨rfl, g⟩ | ⟨ne, g⟩
    · cases g
      refine ⟨_, es, ?_⟩
      rcases hs with ⟨_, rfl⟩ | ⟨_, rfl⟩ <;> exact ⟨a, rfl, nf, hw⟩
    · obtain ⟨w, q1, q2⟩ := ok.slot j sz g
      refine ⟨w, q1, ?_⟩
      have far : ∀ c d', w = .ref c → sz.mine = true → ¬ F c → OwnAt K fa H F c d' → ¬ F' c ∧ OwnAt K fa H' F' c d' := fun c d' ew mz nc q => by
        have nca : c ≠ a := by
          intro z; subst z ew
          exact ne (ok.apart i j _ _ c e g m mz es q1)
        obtain ⟨o, ho, _, _, nt, _⟩ := q.some
        refine ⟨fun z => ?_, q.stays (((st.keep c o ho (fun z => nca (hO c z)) nt).resolve_right fun z => nc z.1).trans ho.symm) sta⟩
        rcases fnew c z with z | z
        · exact nc z
        · rw [ho] at z; cases z
      cases sz with
      | dat d' => exact Rep.stays sta q2
      | own d' => obtain ⟨c, ew, nc, q⟩ := q2; exact ⟨c, ew, far c d' ew rfl nc q⟩
      | bor d' => obtain ⟨c, ew, nc, q⟩ := q2; exact ⟨c, ew, far c d' ew rfl nc q⟩
  · have low : ∀ (j : Nat) (sz : SV), (ρ.set i (some sw))[j]? = some (some sz) → sz.mine = true → ∃ sz' : SV, ρ[j]? = some (some sz') ∧ sz'.mine = true := fun j sz h mz => by
      rcases set_get h with ⟨rfl, g⟩ | ⟨ne, g⟩
      · exact ⟨sv, e, m⟩
      · exact ⟨sz, g, mz⟩
    obtain ⟨z1, g1, n1⟩ := low j sz h1 m1
    obtain ⟨z2, g2, n2⟩ := low k sy h2 m2
    exact ok.apart j k z1 z2 b g1 g2 n1 n2 s1 s2
  · exact st.keep b u h (fun z => by rw [hO b z] at no; exact no oa) nt
  · exact (fnew b h).elim .inl fun z => .inr (.inl z)
  · constructor
    · rintro ⟨j, sz, h1, h2, h3⟩
      rcases set_get h1 with ⟨rfl, g⟩ | ⟨ne, g⟩
      · cases g
        exact ⟨i, sv, e, by rw [← lw]; exact h2, h3⟩
      · exact ⟨j, sz, g, h2, h3⟩
    · rintro ⟨j, sz, h1, h2, h3⟩
      by_cases ne : i = j
      · subst ne
        rw [e] at h1; cases h1
        exact ⟨i, sw, by rw [List.getElem?_set_self hi], by rw [lw]; exact h2, h3⟩
      · exact ⟨j, sz, by rw [List.getElem?_set_ne ne]; exact h1, h2, h3⟩
theorem datArgs : ∀ ds : List D, ArgsOk (ds.map SV.dat) ∧ (∀ vs a, ¬ lentA vs (ds.map SV.dat) a)
  | [] => ⟨trivial, (fun vs a h => by cases vs <;> exact h)⟩
  | d :: ds => ⟨⟨(fun _ z => nomatch z), (fun t ht => by obtain ⟨e, _, rfl⟩ := List.mem_map.mp ht; exact ⟨e, rfl⟩)⟩, (fun vs a h => by cases vs <;> exact h)⟩
theorem back_dat {vs : List V} {ds : List D} {b : Option D} (h : b = none) : Back K fa vs (ds.map SV.dat) b H F := by
  subst h
  cases ds <;> cases vs <;> trivial
end
end DL

namespace DL
open PySem PySem.Spec PyProof.Rows L2
variable [TB]

section
variable {K : PySem.W.Frag} {Z : Fix} {H : Hp} {F : AP'} {σ : L2.St} {ρ : Env'} {cf : Cf} {j : Nat}
theorem shA_fd {sh : List Nat} (ok : EnvOk K Z.fa H F σ ρ) : ∀ a, (F a ∨ ShA σ ρ sh a) → H a ≠ none := fun a h => h.elim (ok.fd a) fun h => by
  obtain ⟨o, ho, _⟩ := ok.own_at (shA_own h)
  rw [ho]; exact fun z => nomatch z
theorem lentOf_ok {ps rest : List PV} {i : Nat} {d : D} (h : lentOf ρ ps = some (i, d, rest)) : ps = .sl i :: rest ∧ ∃ sv : SV, ρ[i]? = some (some sv) ∧ sv.mine = true ∧ sv.d = d := by
  unfold lentOf at h
  split at h
  · split at h
    · rename_i e; cases h; exact ⟨rfl, _, e, rfl, rfl⟩
    · rename_i e; cases h; exact ⟨rfl, _, e, rfl, rfl⟩
    · cases h
  · cases h
theorem putBack_ok {ρ2 : Env'} {i : Nat} {d : D} (h : putBack ρ i d = some ρ2) : ∃ sv sw : SV, ρ[i]? = some (some sv) ∧ sv.mine = true ∧ ρ2 = ρ.set i (some sw) ∧ ((sv.lent = false ∧ sw = .own d) ∨ (sv.lent = true ∧ sw = .bor d)) := by
  unfold putBack at h
  split at h
  · rename_i e; cases h; exact ⟨_, _, e, rfl, rfl, .inl ⟨rfl, rfl⟩⟩
  · rename_i e; cases h; exact ⟨_, _, e, rfl, rfl, .inr ⟨rfl, rfl⟩⟩
  · cases h
theorem RepS.mineAt {v : V} {sv : SV} (h : RepS K Z.fa H F v sv) (m : sv.mine = true) : ∃ a, v = .ref a ∧ ¬ F a ∧ OwnAt K Z.fa H F a sv.d := by
  cases sv with
  | dat _ => cases m
  | own d => exact h
  | bor d => exact h
theorem shLst_ok {sh : List Nat} {a : Addr} {o : HO} (ok : EnvOk K Z.fa H F σ ρ) (h : shLst ρ sh = true) (s : ShA σ ρ sh a) (e : H a = some o) : ¬ dicO o := by
  obtain ⟨i, hi, ⟨sv, h1, m⟩, h2⟩ := s
  have h3 : ∃ ds, sv.d = .lst ds := by
    clear h2 m
    induction sh with
    | nil => cases hi
    | cons j js ih =>
      unfold shLst at h
      rcases List.mem_cons.mp hi with rfl | hi
      · rw [h1] at h
        split at h
        · rename_i z; cases z; exact ⟨_, rfl⟩
        · rename_i z; cases z; exact ⟨_, rfl⟩
        · cases h
      · split at h
        · exact ih h hi
        · exact ih h hi
        · cases h
  obtain ⟨ds, ed⟩ := h3
  obtain ⟨w, q1, q2⟩ := ok.slot i sv h1
  rw [h2] at q1; cases q1
  obtain ⟨b, eb, _, ow⟩ := RepS.mineAt q2 m
  cases eb
  rw [ed] at ow
  cases ow with
  | lst z _ => rw [e] at z; cases z; exact id
theorem grow_of {G F' : AP'} {H' : Hp} {vs : List V} {ds : List D} (st : Step H G (lentA vs (ds.map .dat)) (lentA vs (ds.map .dat)) H' F' (lentA vs (ds.map .dat)) (lentA vs (ds.map .dat))) (fd : ∀ a, F' a → H' a ≠ none) : Grow H G H' F' :=
  ⟨fun a o h nt => st.keep a o h ((datArgs ds).2 vs a) nt, st.fmono, fun a h => by
    rcases st.fnew a h with h | h | h
    · exact .inl h
    · exact .inr h
    · exact absurd h.1 ((datArgs ds).2 vs a), fd, st.dom, st.tabs⟩
theorem call_sp {vs : List V} {ps : List PV} {Q : VK} (r : PVs K Z.fa H F σ vs ps) (ok : EnvOk K Z.fa H F σ ρ) (h : PostG K Z (RSV K Z) σ H F ρ (callR cf j ps ρ) Q) : spF K Z.fa Z.EX (cf.run j) vs H Q (WE Z.W σ) := by
  unfold callR at h
  split at h
  · split at h
    · exact h.elim
    · rename_i i d rest e1
      obtain ⟨rfl, sv0, e2, m0, rfl⟩ := lentOf_ok e1
      cases r with
      | cons r0 rr =>
        rename_i v0 vs0
        have r0' : σ[i]? = some (some v0) := r0
        obtain ⟨w, q1, q2⟩ := ok.slot i sv0 e2
        rw [r0'] at q1; cases q1
        obtain ⟨a, rfl, nf, ow⟩ := q2.mineAt m0
        split at h
        · rename_i ds ρ1 e3 e4
          obtain ⟨ok1, st1⟩ := freezeSl_ok ok e4
          have sta : Stays H F H (fun b => F b ∨ ShA σ ρ (sharedSl ρ rest) b) := ⟨fun _ _ h => h, fun _ _ _ _ h => h, fun _ h => .inl h, fun _ _ _ h => h⟩
          have rest' := args_read ok rr e3 (G := fun b => F b ∨ ShA σ ρ (sharedSl ρ rest) b) (fun _ h => .inl h) (fun _ h => .inr h)
          have key : ∀ {d' : D} {ρ2 : Env'}, putBack ρ1 i d' = some ρ2 → ¬ (F a ∨ ShA σ ρ (sharedSl ρ rest) a) ∧ ∀ {H' : Hp} {F' : AP'}, Step H (fun b => F b ∨ ShA σ ρ (sharedSl ρ rest) b) (fun b => V.ref a = .ref b) (fun b => V.ref a = .ref b) H' F' (fun b => V.ref a = .ref b) (fun b => V.ref a = .ref b) → (∀ b, F' b → H' b ≠ none) → ¬ F' a → OwnAt K Z.fa H' F' a d' →
              EnvOk K Z.fa H' F' σ ρ2 ∧ StepE H F σ ρ H' F' σ ρ2 ∧ ∀ b, Own σ ρ2 b → H b ≠ none := by
            intro d' ρ2 e5
            obtain ⟨sv, sw, f1, f2, rfl, f4⟩ := putBack_ok e5
            refine ⟨ok1.own_nf ⟨i, sv, f1, f2, r0'⟩, fun st fd nf' hw => ?_⟩
            obtain ⟨g1, g2, g3⟩ := ok1.lent f1 f2 r0' f4 (O := fun b => V.ref a = .ref b) (fun b z => by cases z; rfl) st fd nf' hw
            refine ⟨g1, st1.trans g2, fun b hb => ?_⟩
            obtain ⟨o, ho, _⟩ := ok1.own_at (g3 b hb)
            rw [ho]; exact fun z => nomatch z
          have fd1 := And.intro ok1.fd ok1.tb
          split at h
          · rename_i sv d' hr
            split at h
            · rename_i ρ2 e5
              obtain ⟨nG, fin⟩ := key e5
              refine ⟨_, .bor sv0.d :: ds.map .dat, fd1, .cons ⟨a, rfl, nG, ow.stays rfl sta⟩ rest', ⟨(fun _ z => nomatch z), (fun t ht => by obtain ⟨e, _, rfl⟩ := List.mem_map.mp ht; exact ⟨e, rfl⟩)⟩, ?_⟩
              rw [hr]
              intro v H' F' st fd rep mine back
              obtain ⟨b, eb, nb, owb⟩ := back
              cases eb
              obtain ⟨g1, g2, g3⟩ := fin st fd nb owb
              refine h v H' F' g2 g1 ⟨rep, ?_⟩
              cases sv with
              | dat _ => trivial
              | own dd =>
                obtain ⟨d2, a2, e6, e7, e8⟩ := mine rfl
                exact ⟨a2, e7, e8, fun z => g3 a2 z e8⟩
              | bor dd =>
                obtain ⟨d2, a2, e6, e7, e8⟩ := mine rfl
                cases e6
            · exact h.elim
          · rename_i x d' hr
            split at h
            · rename_i ρ2 e5
              obtain ⟨nG, fin⟩ := key e5
              refine ⟨_, .bor sv0.d :: ds.map .dat, fd1, .cons ⟨a, rfl, nG, ow.stays rfl sta⟩ rest', ⟨(fun _ z => nomatch z), (fun t ht => by obtain ⟨e, _, rfl⟩ := List.mem_map.mp ht; exact ⟨e, rfl⟩)⟩, ?_⟩
              rw [hr]
              intro cls dd H' F' st fd back hx
              obtain ⟨b, eb, nb, owb⟩ := back
              cases eb
              obtain ⟨g1, g2, g3⟩ := fin st fd nb owb
              exact h cls dd H' F' g2 g1 hx
            · exact h.elim
          · exact h.elim
        · exact h.elim
  · split at h
    · exact h.elim
    · rename_i ds e3
      have rest' := args_read ok r e3 (G := fun b => F b ∨ ShA σ ρ (sharedSl ρ ps) b) (fun _ h => .inl h) (fun _ h => .inr h)
      have fd1 := And.intro (shA_fd (sh := sharedSl ρ ps) ok) ok.tb
      split at h
      · rename_i sv hr
        refine ⟨_, ds.map .dat, fd1, rest', (datArgs ds).1, ?_⟩
        rw [hr]
        intro v H' F' st fd rep mine back
        have gr := grow_of st fd
        split at h
        · rename_i fl
          have g2 : Grow H F H' F := ⟨fun b o e nt => (gr.keep b o e nt).elim .inl fun z => (z.1.elim (fun f => .inr ⟨f, z.2⟩) fun sh => absurd z.2.1 (shLst_ok ok (Bool.and_eq_true_iff.mp fl).2 sh e)), fun _ h => h, fun _ h => .inl h, fun b hb hn => ok.fd b hb (gr.dom b hn), gr.dom, gr.tabs⟩
          exact h v H' F g2.step (ok.grow g2) ⟨flat_rep rep (Bool.and_eq_true_iff.mp fl).1 H' F, trivial⟩
        · split at h
          · rename_i ρ2 e4
            obtain ⟨ok1, st1⟩ := freezeSl_ok ok e4
            refine h v H' F' (st1.trans gr.step) (ok1.grow gr) ⟨rep, ?_⟩
            cases sv with
            | dat _ => trivial
            | own dd =>
              obtain ⟨d2, a2, e6, e7, e8⟩ := mine rfl
              refine ⟨a2, e7, e8, fun z => ?_⟩
              obtain ⟨o, ho, _⟩ := ok1.own_at z
              rw [e8] at ho; cases ho
            | bor dd =>
              obtain ⟨d2, a2, e6, e7, e8⟩ := mine rfl
              cases e6
          · exact h.elim
      · rename_i x hr
        refine ⟨_, ds.map .dat, fd1, rest', (datArgs ds).1, ?_⟩
        rw [hr]
        intro cls dd H' F' st fd back hx
        have gr := grow_of st fd
        split at h
        · rename_i ρ2 e4
          obtain ⟨ok1, st1⟩ := freezeSl_ok ok e4
          exact h cls dd H' F' (st1.trans gr.step) (ok1.grow gr) hx
        · exact h.elim
      · exact h.elim
end
section
variable {X : Cx} {Z : Fix} {e : Expr} {es : List Expr} {pos p : Pos} {cf : Cf} {j k : Nat} {f : Addr} {fd : FuncData} {ps : List Str} {x : Str} {g : Env' → Res (List PV)}
theorem pd_call (F : FnOk X.prog X.w X.K X.mg X.base (L2N.CX X.prog X.w) k f fd ps (spF X.K Z.fa Z.EX (cf.run j))) (tk : L2N.Takes X Z.W) (hr : Room k X.A) (hg : Gl X x) (hm : X.mg x = some (.ref f)) (hk : PySem.W.keepIn X.K (.ref f) = true) (hb : Binds X.K fd ps [])
    (ha : PAd X Z (e :: es) g) (hdb : (x == ("__debug__" : Str)) = false) (he : starEach (e :: es) X.env = (false, eval e X.env) :: starEach es X.env) (hpl : (backTo pos (starEach es X.env)).any (·.1) = false) :
    PEd X Z (.Call (.Name x p) (e :: es) [] pos) (fun ρ => (g ρ).bind fun ps ρ1 => callR cf j ps ρ1) := by
  refine PE.weak (pe_callSD (dvs := []) (E := WE Z.W) F hr hg hm hk hb .nil (fun σ => L2N.passAt tk σ) ha hdb he hpl) ?_
  rintro σ H Q ⟨F, ρ, ok, h⟩
  refine ⟨F, ρ, ok, (PostG.bind late_RSV h).imp ?_⟩
  rintro vs H1 ⟨pv, F1, ρ1, ok1, st1, r1, h1⟩
  rw [List.append_nil]
  exact call_sp r1 ok1 h1
theorem pd_call0 (F : FnOk X.prog X.w X.K X.mg X.base (L2N.CX X.prog X.w) k f fd ps (spF X.K Z.fa Z.EX (cf.run j))) (tk : L2N.Takes X Z.W) (hr : Room k X.A) (hg : Gl X x) (hm : X.mg x = some (.ref f)) (hk : PySem.W.keepIn X.K (.ref f) = true) (hb : Binds X.K fd ps [])
    (hdb : (x == ("__debug__" : Str)) = false) :
    PEd X Z (.Call (.Name x p) [] [] pos) (fun ρ => callR cf j [] ρ) := by
  refine ⟨fun pins s σ H Q I h => ?_⟩
  obtain ⟨F', ρ, ok, h⟩ := h
  refine wpAny_Call_Name_kw (ld_glob I hg hm ?_ hdb)
  refine PySem.W.callWith_K0 I.kIn hk (run_fnSD (us := []) (dvs := []) (E := WE Z.W) F hr hb .nil (L2N.passAt tk σ) I .nil ?_)
  exact call_sp (ps := []) .nil ok h
/-- a name that holds a def -/
theorem pd_callv {i : Nat} (hN : X.N[i]? = some x) (hv : Vis X.env.scope x) (hcd : (x == ("__classdict__" : Str)) = false) (tk : L2N.Takes X Z.W)
    (hfv : ∀ j f, Z.fa j = some f → ∃ k fd ps, FnOk X.prog X.w X.K X.mg X.base (L2N.CX X.prog X.w) k f fd ps (spF X.K Z.fa Z.EX (cf.run j)) ∧ Room k X.A ∧ PySem.W.keepIn X.K (.ref f) = true ∧ Binds X.K fd ps [])
    (ha : PAd X Z (e :: es) g) (hdb : (x == ("__debug__" : Str)) = false) (he : starEach (e :: es) X.env = (false, eval e X.env) :: starEach es X.env) (hpl : (backTo pos (starEach es X.env)).any (·.1) = false) :
    PEd X Z (.Call (.Name x p) (e :: es) [] pos) (fun ρ => (match ρ[i]? with
      | some (some (.dat (.fn j))) => (g ρ).bind fun ps ρ1 => callR cf j ps ρ1
      | _ => .stuck)) := by
  refine ⟨fun pins s σ H Q I h => ?_⟩
  obtain ⟨F', ρ, ok, h⟩ := h
  dsimp only at h
  split at h
  · rename_i j e1
    obtain ⟨v, q1, q2⟩ := ok.slot i _ e1
    cases (show Rep X.K Z.fa H F' v (.fn j) from q2) with
    | fn ej =>
      rename_i f
      obtain ⟨k, fd, ps, F, hr, hk, hb⟩ := hfv j f ej
      refine wpAny_Call_Name_kw (thn ((pe_var (pos := p) hN hv hdb hcd).run pins s σ H (fun v H1 => v = .ref f ∧ H1 = H) I ⟨.ref f, q1, rfl, rfl⟩) fun u s1 ⟨v, H1, I1, r1, e⟩ => ?_)
      obtain ⟨rfl, rfl⟩ := e
      cases r1
      refine PySem.W.callWith_K (h₀ := X.base) I.ok.mod.kin hk (thn (ha.run pos pins s1 σ H1 (fun vs H2 => spF X.K Z.fa Z.EX (cf.run j) vs H2 Q (WE Z.W σ)) I1 ⟨F', ρ, ok, (PostG.bind late_RSV h).imp ?_⟩) fun us s2 ⟨vs, H2, I2, r, q⟩ => ⟨I2.kIn, ?_⟩) he hpl
      · rintro vs H2 ⟨pv, F1, ρ1, ok1, st1, r1, h1⟩
        exact call_sp r1 ok1 h1
      · exact run_fnSD (dvs := []) (ds := []) (E := WE Z.W) F hr hb .nil (L2N.passAt tk σ) I2 r (by rw [List.append_nil]; exact q)
  · exact h.elim
end
end DL

namespace DL
open PySem PySem.Spec PyProof.Rows L2
variable [TB]

theorem Stays.refl {H : Hp} {F : AP'} : Stays H F H F := ⟨fun _ _ h => h, fun _ _ _ _ h => h, fun _ h => h, fun _ _ _ h => h⟩
theorem Stays.trans {H H1 H2 : Hp} {F F1 F2 : AP'} (a : Stays H F H1 F1) (b : Stays H1 F1 H2 F2) : Stays H F H2 F2 :=
  ⟨fun x u h => b.tup x u (a.tup x u h), fun x u f nt h => b.rd x u (a.fr x f) nt (a.rd x u f nt h), fun x h => b.fr x (a.fr x h), fun x o u h => b.fz x o u (a.fz x o u h)⟩

/-! ### what is walked -/
structure WalkD (K : PySem.W.Frag) (fa : Nat → Option Addr) (J : L2.It) (items : List D) (H0 : Hp) (F0 : AP') : Prop where
  goes : ∀ i H F, Stays H0 F0 H F → i < items.length → J.go i H
  stops : ∀ i H F, Stays H0 F0 H F → items.length ≤ i → J.stop i H
  yields : ∀ i H F x H', Stays H0 F0 H F → (∀ a, F a → H a ≠ none) → i < items.length → J.yld i H x H' → ∃ d, items[i]? = some d ∧ Made K fa H F (.dat d) x H'
def RW (K : PySem.W.Frag) (Z : Fix) : Hp → List D → L2.It → Hp → AP' → L2.St → Env' → Prop := fun _ ds J H F _ _ => WalkD K Z.fa J ds H F
theorem late_RW {K : PySem.W.Frag} {Z : Fix} : Late (RW K Z) := fun _ _ _ _ _ _ _ _ _ h => h
abbrev PId (X : Cx) (Z : Fix) (tg e : Expr) (f : Env' → Res (List D)) : Prop := PI X tg e (tD X Z (RW X.K Z) f)
section
variable {K : PySem.W.Frag} {fa : Nat → Option Addr} {H : Hp} {F : AP'}
theorem get_of {α : Type} {l : List α} {i : Nat} (h : i < l.length) : l[i]? = some l[i] := List.getElem?_eq_getElem h
theorem walkD_lst {a : Addr} {xs : List V} {ds : List D} (f : F a) (h : Rd H a (.lst xs)) (r : RepL K fa H F xs ds) : WalkD K fa (Itl K a) ds H F where
  goes := fun i H' F' s hi => ⟨xs, xs[i]'(by rw [r.length]; exact hi), .inl (s.rd _ _ f (fun _ z => by cases z) h), get_of _⟩
  stops := fun i H' F' s hi => ⟨xs, .inl (s.rd _ _ f (fun _ z => by cases z) h), by rw [r.length]; exact hi⟩
  yields := fun i H' F' x H2 s fd hi y => by
    obtain ⟨rfl, y⟩ := y
    obtain ⟨d, h1, h2⟩ := (RepL.stays s r).get' (y xs (.inl (s.rd _ _ f (fun _ z => by cases z) h)))
    exact ⟨d, h1, made_dat fd h2⟩
theorem walkD_tup {a : Addr} {xs : List V} {ds : List D} (h : ∀ H' F', Stays H F H' F' → SqT K H' a xs) (r : RepL K fa H F xs ds) : WalkD K fa (Itt K a) ds H F where
  goes := fun i H' F' s hi => ⟨xs, xs[i]'(by rw [r.length]; exact hi), h _ _ s, get_of _⟩
  stops := fun i H' F' s hi => ⟨xs, h _ _ s, by rw [r.length]; exact hi⟩
  yields := fun i H' F' x H2 s fd hi y => by
    obtain ⟨rfl, y⟩ := y
    obtain ⟨d, h1, h2⟩ := (RepL.stays s r).get' (y xs (h _ _ s))
    exact ⟨d, h1, made_dat fd h2⟩
theorem rangeD_get {lo : Int} {n i : Nat} (h : i < n) : (rangeD lo n)[i]? = some (.int (lo + (i : Nat))) := by
  unfold rangeD
  rw [List.getElem?_map, List.getElem?_range h]; rfl
theorem rangeD_len {lo : Int} {n : Nat} : (rangeD lo n).length = n := by unfold rangeD; simp
theorem walkD_rng {lo : Int} {n : Nat} : WalkD K fa (Itr lo n) (rangeD lo n) H F where
  goes := fun i H' F' s hi => by rw [rangeD_len] at hi; exact hi
  stops := fun i H' F' s hi => by rw [rangeD_len] at hi; exact hi
  yields := fun i H' F' x H2 s fd hi y => by
    obtain ⟨rfl, rfl⟩ := y
    rw [rangeD_len] at hi
    exact ⟨_, rangeD_get hi, made_dat fd (.int _)⟩
theorem enumD_get : ∀ {ds : List D} {n i : Nat} {d : D}, ds[i]? = some d → (enumD n ds)[i]? = some (.tup [.int ((n + i : Nat)), d])
  | [], _, _, _, h => by simp at h
  | a :: as, n, 0, d, h => by simp at h; subst h; rfl
  | a :: as, n, i + 1, d, h => by
    have := enumD_get (ds := as) (n := n + 1) (i := i) (by simpa using h)
    rw [enumD, List.getElem?_cons_succ, this, show n + 1 + i = n + (i + 1) by omega]
theorem enumD_len : ∀ {ds : List D} {n : Nat}, (enumD n ds).length = ds.length
  | [], _ => rfl
  | a :: as, n => by rw [enumD, List.length_cons, List.length_cons, enumD_len]
theorem made_pair {T : Addr} {x y : V} {d e : D} (fd : ∀ a, F a → H a ≠ none) (hT : H T = none) (h1 : Rep K fa H F x d) (h2 : Rep K fa H F y e) : Made K fa H F (.dat (.tup [d, e])) (.ref T) (upd H T (.tup [x, y])) :=
  made_tup fd hT (.cons h1 (.cons h2 .nil))
theorem walkD_enum {a : Addr} {xs : List V} {ds : List D} (f : F a) (h : Rd H a (.lst xs)) (r : RepL K fa H F xs ds) : WalkD K fa (Ite K a) (enumD 0 ds) H F where
  goes := fun i H' F' s hi => ⟨xs, xs[i]'(by rw [r.length]; rw [enumD_len] at hi; exact hi), .inl (s.rd _ _ f (fun _ z => by cases z) h), get_of _⟩
  stops := fun i H' F' s hi => ⟨xs, .inl (s.rd _ _ f (fun _ z => by cases z) h), by rw [r.length]; rw [enumD_len] at hi; exact hi⟩
  yields := fun i H' F' x H2 s fd hi y => by
    obtain ⟨T, v, rfl, hT, rfl, y⟩ := y
    obtain ⟨d, h1, h2⟩ := (RepL.stays s r).get' (y xs (.inl (s.rd _ _ f (fun _ z => by cases z) h)))
    refine ⟨.tup [.int ((i : Nat)), d], by have := enumD_get (n := 0) h1; rwa [Nat.zero_add] at this, made_pair fd hT (.int _) h2⟩
theorem zipD_get : ∀ {ds es : List D} {i : Nat} {d e : D}, ds[i]? = some d → es[i]? = some e → (zipD ds es)[i]? = some (.tup [d, e])
  | [], _, _, _, _, h, _ => by simp at h
  | _ :: _, [], _, _, _, _, h => by simp at h
  | a :: as, b :: bs, 0, d, e, h, g => by simp at h g; subst h g; rfl
  | a :: as, b :: bs, i + 1, d, e, h, g => by
    rw [zipD, List.getElem?_cons_succ]
    exact zipD_get (by simpa using h) (by simpa using g)
theorem zipD_len : ∀ {ds es : List D}, (zipD ds es).length = min ds.length es.length
  | [], _ => by simp [zipD]
  | _ :: _, [] => by simp [zipD]
  | a :: as, b :: bs => by rw [zipD, List.length_cons, zipD_len, List.length_cons, List.length_cons]; omega
theorem walkD_zip {a b : Addr} {xs ys : List V} {ds es : List D} (h : ∀ H' F', Stays H F H' F' → SqL K H' a xs) (g : ∀ H' F', Stays H F H' F' → SqL K H' b ys) (r : RepL K fa H F xs ds) (q : RepL K fa H F ys es) : WalkD K fa (Itz K a b) (zipD ds es) H F where
  goes := fun i H' F' s hi => by
    rw [zipD_len, ← r.length, ← q.length] at hi
    exact ⟨xs, ys, xs[i]'(by omega), ys[i]'(by omega), h _ _ s, g _ _ s, get_of _, get_of _⟩
  stops := fun i H' F' s hi => ⟨xs, ys, h _ _ s, g _ _ s, by rw [zipD_len, ← r.length, ← q.length] at hi; omega⟩
  yields := fun i H' F' x H2 s fd hi y => by
    obtain ⟨T, v, w, rfl, hT, rfl, y, z⟩ := y
    obtain ⟨d, h1, h2⟩ := (RepL.stays s r).get' (y xs (h _ _ s))
    obtain ⟨e, g1, g2⟩ := (RepL.stays s q).get' (z ys (g _ _ s))
    exact ⟨_, zipD_get h1 g1, made_pair fd hT h2 g2⟩
theorem walkD_zipT {a b : Addr} {xs ys : List V} {ds es : List D} (h : ∀ H' F', Stays H F H' F' → SqT K H' a xs) (g : ∀ H' F', Stays H F H' F' → SqT K H' b ys) (r : RepL K fa H F xs ds) (q : RepL K fa H F ys es) : WalkD K fa (RZ.ItzT K a b) (zipD ds es) H F where
  goes := fun i H' F' s hi => by
    rw [zipD_len, ← r.length, ← q.length] at hi
    exact ⟨xs, ys, xs[i]'(by omega), ys[i]'(by omega), h _ _ s, g _ _ s, get_of _, get_of _⟩
  stops := fun i H' F' s hi => ⟨xs, ys, h _ _ s, g _ _ s, by rw [zipD_len, ← r.length, ← q.length] at hi; omega⟩
  yields := fun i H' F' x H2 s fd hi y => by
    obtain ⟨T, v, w, rfl, hT, rfl, y, z⟩ := y
    obtain ⟨d, h1, h2⟩ := (RepL.stays s r).get' (y xs (h _ _ s))
    obtain ⟨e, g1, g2⟩ := (RepL.stays s q).get' (z ys (g _ _ s))
    exact ⟨_, zipD_get h1 g1, made_pair fd hT h2 g2⟩
/-- a frozen tuple's items, whatever comes -/
theorem Rep.tupAt {v : V} {d : D} {ds : List D} (r : Rep K fa H F v d) (e : d = .tup ds ∨ d = .ktup ds) : ∃ a xs, v = .ref a ∧ (∀ H' F', Stays H F H' F' → SqT K H' a xs) ∧ RepL K fa H F xs ds := by
  rcases e with rfl | rfl
  · cases r with
    | tup h q => exact ⟨_, _, rfl, fun H' F' s => .inl (.inl (s.tup _ _ h)), q⟩
  · cases r with
    | ktup h q => exact ⟨_, _, rfl, fun H' F' s => h.sq, q⟩
theorem Rep.lstAt {v : V} {ds : List D} (r : Rep K fa H F v (.lst ds)) : ∃ a xs, v = .ref a ∧ F a ∧ Rd H a (.lst xs) ∧ RepL K fa H F xs ds := by
  cases r with
  | lst f h q => exact ⟨_, _, rfl, f, h, q⟩
end
section
variable {X : Cx} {Z : Fix} {tg a b e : Expr} {pos p : Pos}
theorem PI.weak {wi wi' : TI} (h : PI X tg e wi) (w : ∀ σ H R, wi' σ H R → wi σ H R) : PI X tg e wi' := ⟨fun pins s σ H R I hq => h.run pins s σ H R I (w σ H R hq)⟩
theorem PostG.bindF' {K : PySem.W.Frag} {Z : Fix} {α' β' : Type} {R' : Hp → α' → β' → Hp → AP' → L2.St → Env' → Prop} {σ : L2.St} {H0 : Hp} {F0 : AP'} {ρ0 : Env'} {f : Res SV} {g : SV → Env' → Res α'} {Q : β' → Hp → Prop} (l : Late R') (h : PostG K Z R' σ H0 F0 ρ0 (f.bind g) Q) :
    PostG K Z (RSV K Z) σ H0 F0 ρ0 f (fun v H1 => ∃ sv F1 ρ1, f = .ok sv ρ1 ∧ EnvOk K Z.fa H1 F1 σ ρ1 ∧ StepE H0 F0 σ ρ0 H1 F1 σ ρ1 ∧ Rep K Z.fa H1 F1 v sv.d ∧ PostG K Z R' σ H1 F1 ρ1 (g sv ρ1) Q) := by
  cases f with
  | ok sv ρ' =>
    intro v H' F' s ok r
    obtain ⟨F1, ok1, rep, m1, m2⟩ := ResOk.freeze ok r
    exact ⟨sv, F1, ρ', rfl, ok1, s.more m1 m2, rep, PostG.after l (s.more m1 m2) h⟩
  | exc x ρ' => exact h
  | stuck => exact h
theorem pid_seq {l : Expr} {f : Env' → Res SV} (hl : PEd X Z l f) : PId X Z tg l (fun ρ => (f ρ).bind fun sv ρ1 => lift sv.d.seq? ρ1) := by
  refine ⟨fun pins s σ H R I h => ?_⟩
  obtain ⟨F, ρ, ok, h⟩ := h
  have h2 := PostG.bindF' late_RW h
  have tupC : (∀ sv ρ1, f ρ = .ok sv ρ1 → ∀ ds, sv.d ≠ .lst ds) → wpAny (model X.prog X.w) X.A (eval l X.env) (fun v s1 => wpAny (model X.prog X.w) X.A (pyIter v) (PIE X pins σ tg R) X.xe s1) X.xe s := fun hc => by
    refine (pi_tup hl).run pins s σ H R I ⟨F, ρ, ok, h2.imp ?_⟩
    rintro v H1 ⟨sv, F1, ρ1, e, ok1, st, r, h1⟩
    unfold lift at h1
    split at h1
    · rename_i ds e2
      have : sv.d = .tup ds ∨ sv.d = .ktup ds := by
        have := hc sv ρ1 e
        cases hd : sv.d <;> rw [hd] at e2 <;> first | (cases e2; exact .inl rfl) | (cases e2; exact .inr rfl) | (cases e2; exact absurd hd (this _)) | cases e2
      obtain ⟨a, xs, rfl, sq, rl⟩ := r.tupAt this
      exact ⟨a, rfl, ⟨xs, sq _ _ Stays.refl⟩, h1 _ H1 F1 Step.refl ok1 (walkD_tup sq rl)⟩
    · exact h1.elim
  by_cases hc : ∃ sv ρ1 ds, f ρ = .ok sv ρ1 ∧ sv.d = .lst ds
  · obtain ⟨sv0, ρ10, ds, e0, ed⟩ := hc
    refine (pi_list hl).run pins s σ H R I ⟨F, ρ, ok, h2.imp ?_⟩
    rintro v H1 ⟨sv, F1, ρ1, e, ok1, st, r, h1⟩
    rw [e0] at e
    cases e
    rw [ed] at r h1
    obtain ⟨a, xs, rfl, fa, rd, rl⟩ := r.lstAt
    exact ⟨a, rfl, ⟨xs, .inl rd⟩, h1 _ H1 F1 Step.refl ok1 (walkD_lst fa rd rl)⟩
  · exact tupC fun sv ρ1 e ds ed => hc ⟨sv, ρ1, ds, e, ed⟩
theorem Rep.intAt {K : PySem.W.Frag} {fa : Nat → Option Addr} {H : Hp} {F : AP'} {v : V} {j : Int} (r : Rep K fa H F v (.int j)) : v = .int j := by cases r; rfl
theorem small_iff {j : Int} (h : small62 j = true) : -(2 ^ 62) ≤ j ∧ j < 2 ^ 62 := by
  unfold small62 at h
  simpa using h
theorem pid_rng {f : Env' → Res SV} (hg : Gl X "range") (hm : X.mg "range" = none) (ha : PEd X Z a f) (hs : starEach [a] X.env = (false, eval a X.env) :: starEach [] X.env) : PId X Z tg (.Call (.Name "range" p) [a] [] pos) (fun ρ => (f ρ).bind fun sv ρ1 => (match sv.d with
    | .int j => if small62 j = true then .ok (rangeD 0 j.toNat) ρ1 else .stuck
    | _ => .stuck)) := by
  refine PI.weak (pi_range1 hg hm (pa_cons ha pa_nil hs) (by rw [hs]; rfl)) ?_
  rintro σ H R ⟨F, ρ, ok, h⟩
  refine ⟨F, ρ, ok, (PostG.bindF late_RW h).imp ?_⟩
  rintro v H1 ⟨sv, F1, ρ1, ok1, st, r, h1⟩
  split at h1
  · rename_i j e1
    rw [e1] at r
    cases r
    split at h1
    · rename_i e2
      exact ⟨j, rfl, (small_iff e2).1, (small_iff e2).2, h1 _ H1 F1 Step.refl ok1 walkD_rng⟩
    · exact h1.elim
  · exact h1.elim
theorem pid_rng2 {f g : Env' → Res SV} (hg : Gl X "range") (hm : X.mg "range" = none) (ha : PEd X Z a f) (hb : PEd X Z b g) (hs : starEach [a, b] X.env = (false, eval a X.env) :: starEach [b] X.env) (hs2 : starEach [b] X.env = (false, eval b X.env) :: starEach [] X.env) :
    PId X Z tg (.Call (.Name "range" p) [a, b] [] pos) (fun ρ => (f ρ).bind fun sv ρ1 => (g ρ1).bind fun sw ρ2 => (match sv.d, sw.d with
    | .int i, .int j => if (small62 i && small62 j) = true then .ok (rangeD i (j - i).toNat) ρ2 else .stuck
    | _, _ => .stuck)) := by
  refine PI.weak (pi_range2 hg hm (pa_cons ha (pa_cons hb pa_nil hs2) hs) (by rw [hs, hs2]; rfl) (by rw [hs2]; rfl)) ?_
  rintro σ H R ⟨F, ρ, ok, h⟩
  refine ⟨F, ρ, ok, (PostG.bindF late_RW h).imp ?_⟩
  rintro v H1 ⟨sv, F1, ρ1, ok1, st, r, h1⟩
  refine ⟨F1, ρ1, ok1, (PostG.bindF late_RW h1).imp ?_⟩
  rintro w H2 ⟨sw, F2, ρ2, ok2, st2, r2, h2⟩
  split at h2
  · rename_i i j e1 e2
    rw [e1] at r
    rw [e2] at r2
    cases r
    cases r2
    split at h2
    · rename_i e3
      have e3' := Bool.and_eq_true_iff.mp e3
      exact ⟨i, j, rfl, ⟨(small_iff e3'.1).1, (small_iff e3'.1).2, (small_iff e3'.2).1, (small_iff e3'.2).2⟩, h2 _ H2 F2 Step.refl ok2 walkD_rng⟩
    · exact h2.elim
  · exact h2.elim
theorem pid_enum {elts : List Expr} {kk : Nat} {tpos : Pos} {f : Env' → Res SV} (hg : Gl X "enumerate") (hm : X.mg "enumerate" = none) (ha : PEd X Z a f) (hs : starEach [a] X.env = (false, eval a X.env) :: starEach [] X.env) :
    PId X Z (.Tuple elts kk tpos) (.Call (.Name "enumerate" p) [a] [] pos) (fun ρ => (f ρ).bind fun sv ρ1 => (match sv.d with
    | .lst ds => .ok (enumD 0 ds) ρ1
    | _ => .stuck)) := by
  refine PI.weak (pi_enum hg hm (pa_cons ha pa_nil hs) (by rw [hs]; rfl)) ?_
  rintro σ H R ⟨F, ρ, ok, h⟩
  refine ⟨F, ρ, ok, (PostG.bindF late_RW h).imp ?_⟩
  rintro v H1 ⟨sv, F1, ρ1, ok1, st, r, h1⟩
  split at h1
  · rename_i ds e1
    rw [e1] at r
    obtain ⟨a, xs, rfl, fa, rd, rl⟩ := r.lstAt
    exact ⟨a, xs, rfl, .inl rd, h1 _ H1 F1 Step.refl ok1 (walkD_enum fa rd rl)⟩
  · exact h1.elim
theorem pid_zip {elts : List Expr} {kk : Nat} {tpos : Pos} {f g : Env' → Res SV} (hg : Gl X "zip") (hm : X.mg "zip" = none) (ha : PEd X Z a f) (hb : PEd X Z b g) (hs : starEach [a, b] X.env = (false, eval a X.env) :: starEach [b] X.env) (hs2 : starEach [b] X.env = (false, eval b X.env) :: starEach [] X.env) :
    PId X Z (.Tuple elts kk tpos) (.Call (.Name "zip" p) [a, b] [] pos) (fun ρ => (f ρ).bind fun sv ρ1 => (g ρ1).bind fun sw ρ2 => lift (zipP sv.d sw.d) ρ2) := by
  refine PI.weak (RZ.pi_zipA hg hm (pa_cons ha (pa_cons hb pa_nil hs2) hs) hs (by rw [hs2]; rfl)) ?_
  rintro σ H R ⟨F, ρ, ok, h⟩
  refine ⟨F, ρ, ok, (PostG.bindF late_RW h).imp ?_⟩
  rintro v H1 ⟨sv, F1, ρ1, ok1, st, r, h1⟩
  refine ⟨F1, ρ1, ok1, (PostG.bindF late_RW h1).imp ?_⟩
  rintro w H2 ⟨sw, F2, ρ2, ok2, st2, r2, h2⟩
  have r' := Rep.stays (st2.stays ok1) r
  unfold lift at h2
  split at h2
  · rename_i ds e
    have tt : ∀ xs ys, (sv.d = .tup xs ∨ sv.d = .ktup xs) → (sw.d = .tup ys ∨ sw.d = .ktup ys) → ds = zipD xs ys → ∃ a b xs ys, [v, w] = [.ref a, .ref b] ∧ ((SqL X.K H2 a xs ∧ SqL X.K H2 b ys ∧ R (Itz X.K a b) H2) ∨ (SqT X.K H2 a xs ∧ SqT X.K H2 b ys ∧ R (RZ.ItzT X.K a b) H2)) := fun xs ys e1 e2 e3 => by
      obtain ⟨a, us, rfl, q1, q2⟩ := r'.tupAt e1
      obtain ⟨b, ws, rfl, q3, q4⟩ := r2.tupAt e2
      subst e3
      exact ⟨a, b, us, ws, rfl, .inr ⟨q1 _ _ Stays.refl, q3 _ _ Stays.refl, h2 _ H2 F2 Step.refl ok2 (walkD_zipT q1 q3 q2 q4)⟩⟩
    unfold zipP at e
    split at e
    · rename_i xs ys e1 e2
      cases e
      rw [e1] at r'
      rw [e2] at r2
      obtain ⟨a, us, rfl, f1, q1, q2⟩ := r'.lstAt
      obtain ⟨b, ws, rfl, f2, q3, q4⟩ := r2.lstAt
      exact ⟨a, b, us, ws, rfl, .inl ⟨.inl q1, .inl q3, h2 _ H2 F2 Step.refl ok2 (walkD_zip (fun H' F' s => .inl (s.rd _ _ f1 (fun _ z => by cases z) q1)) (fun H' F' s => .inl (s.rd _ _ f2 (fun _ z => by cases z) q3)) q2 q4)⟩⟩
    · rename_i xs ys e1 e2; cases e; exact tt xs ys (.inl e1) (.inl e2) rfl
    · rename_i xs ys e1 e2; cases e; exact tt xs ys (.inr e1) (.inl e2) rfl
    · rename_i xs ys e1 e2; cases e; exact tt xs ys (.inl e1) (.inr e2) rfl
    · rename_i xs ys e1 e2; cases e; exact tt xs ys (.inr e1) (.inr e2) rfl
    · cases e
  · exact h2.elim
end
end DL

namespace DL
open PySem PySem.Spec PyProof.Rows L2
variable [TB]

/-! ### targets -/
mutual
def Tg.sl : Tg → List Nat
  | .nm i => [i]
  | .tup ts => slL ts
def slL : List Tg → List Nat
  | [] => []
  | t :: ts => t.sl ++ slL ts
end
/-- only these slots are stored -/
def KeepT (vs : List Nat) (σ σ' : L2.St) : Prop := σ'.length = σ.length ∧ ∀ i, i ∉ vs → σ'[i]? = σ[i]?
theorem KeepT.refl {vs : List Nat} {σ : L2.St} : KeepT vs σ σ := ⟨rfl, fun _ _ => rfl⟩
theorem KeepT.trans {vs ws : List Nat} {σ σ1 σ2 : L2.St} (a : KeepT vs σ σ1) (b : KeepT ws σ1 σ2) : KeepT (vs ++ ws) σ σ2 :=
  ⟨b.1.trans a.1, fun i h => (b.2 i fun z => h (List.mem_append_right _ z)).trans (a.2 i fun z => h (List.mem_append_left _ z))⟩
theorem KeepT.set {σ : L2.St} {i : Nat} {v : Option V} : KeepT [i] σ (σ.set i v) := ⟨List.length_set, fun j h => List.getElem?_set_ne fun e => h (by rw [e]; exact List.mem_cons_self)⟩
section
variable (X : Cx) (Z : Fix)
def tG (T : Tg) : TG := fun v σ H Q => ∃ F ρ d ρ', EnvOk X.K Z.fa H F σ ρ ∧ Rep X.K Z.fa H F v d ∧ asg T d ρ = some ρ' ∧ ∀ σ', EnvOk X.K Z.fa H F σ' ρ' → StepE H F σ ρ H F σ' ρ' → KeepT T.sl σ σ' → Q σ' H
def tGs (T : List Tg) : TGs := fun vs σ H Q => ∃ F ρ ds ρ', EnvOk X.K Z.fa H F σ ρ ∧ RepL X.K Z.fa H F vs ds ∧ asgs T ds ρ = some ρ' ∧ ∀ σ', EnvOk X.K Z.fa H F σ' ρ' → StepE H F σ ρ H F σ' ρ' → KeepT (slL T) σ σ' → Q σ' H
abbrev PGd (e : Expr) (T : Tg) : Prop := PG X e (tG X Z T)
abbrev PGsd (es : List Expr) (T : List Tg) : Prop := PGs X es (tGs X Z T)
end
section
variable {X : Cx} {Z : Fix} {e : Expr} {es : List Expr} {pos : Pos}
theorem PG.weak {t t' : TG} (h : PG X e t) (w : ∀ v σ H Q, t' v σ H Q → t v σ H Q) : PG X e t' := ⟨fun pins s σ H v u Q I r hq => h.run pins s σ H v u Q I r (w v σ H Q hq)⟩
theorem PGs.weak {t t' : TGs} (h : PGs X es t) (w : ∀ v σ H Q, t' v σ H Q → t v σ H Q) : PGs X es t' := ⟨fun pins s σ H v u Q I r hq => h.run pins s σ H v u Q I r (w v σ H Q hq)⟩
theorem step_set {K : PySem.W.Frag} {fa : Nat → Option Addr} {H : Hp} {F : AP'} {σ : L2.St} {ρ : Env'} {i : Nat} {v : V} {d : D} (ok : EnvOk K fa H F σ ρ) (hi : i < ρ.length) (nl : ∀ sw, ρ[i]? = some (some sw) → sw.lent = false) (r : Rep K fa H F v d) :
    EnvOk K fa H F (σ.set i (some v)) (ρ.set i (some (.dat d))) ∧ StepE H F σ ρ H F (σ.set i (some v)) (ρ.set i (some (.dat d))) := by
  obtain ⟨h1, h2, h3⟩ := ok.setSlot (sv := .dat d) hi nl ⟨r, fun _ _ m => (by cases m), rfl⟩
  refine ⟨h1, fun _ _ h _ _ => .inl h, fun _ h => h, fun _ h => .inl h, fun a h => ?_, h3, fun _ h => h, fun h => h⟩
  rcases h2 a h with h | ⟨_, m⟩
  · exact .inl h
  · cases m
theorem pgd_name {i : Nat} {x : Str} (hN : X.N.Nodup) (hi : X.N[i]? = some x) (hx : Loc X.env.scope x) (hf : X.fn x = true ∨ X.env.scope.names.lookup x = some .local) : PGd X Z (.Name x pos) (.nm i) := by
  refine PG.weak (pg_name hN hi hx hf) ?_
  rintro v σ H Q ⟨F, ρ, d, ρ', ok, r, e, h⟩
  show Q (σ.set i (some v)) H
  unfold asg at e
  split at e
  · rename_i e1
    cases e
    obtain ⟨o, s⟩ := step_set (v := v) ok (get_lt e1) (fun sw z => by rw [e1] at z; cases z) r
    exact h _ o s KeepT.set
  · rename_i sv e1
    split at e
    · cases e
    · rename_i nl
      cases e
      obtain ⟨o, s⟩ := step_set (v := v) ok (get_lt e1) (fun sw z => by rw [e1] at z; cases z; simpa using nl) r
      exact h _ o s KeepT.set
  · cases e
theorem pgsd_nil : PGsd X Z [] [] := by
  refine PGs.weak pgs_nil ?_
  rintro vs σ H Q ⟨F, ρ, ds, ρ', ok, r, e, h⟩
  cases r with
  | nil => cases e; exact ⟨rfl, h _ ok Step.refl KeepT.refl⟩
  | cons _ _ => cases e
theorem pgsd_cons {T : Tg} {Ts : List Tg} (h1 : PGd X Z e T) (h2 : PGsd X Z es Ts) (hs : (assignEach (e :: es) X.env).map (·.2) = assign e X.env :: (assignEach es X.env).map (·.2)) : PGsd X Z (e :: es) (T :: Ts) := by
  refine PGs.weak (pgs_cons h1 h2 hs) ?_
  rintro vs σ H Q ⟨F, ρ, ds, ρ', ok, r, e, h⟩
  cases r with
  | nil => cases e
  | cons r0 rr =>
    rename_i v vs d ds
    unfold asgs at e
    cases e1 : asg T d ρ with
    | none => rw [e1] at e; cases e
    | some ρ1 =>
      rw [e1] at e
      refine ⟨_, _, rfl, F, ρ, d, ρ1, ok, r0, e1, fun σ1 ok1 st1 kp1 => ?_⟩
      exact ⟨F, ρ1, ds, ρ', ok1, rr, e, fun σ2 ok2 st2 kp2 => h σ2 ok2 (st1.trans st2) (kp1.trans kp2)⟩
theorem pgd_tup {k : Nat} {Ts : List Tg} (hc : X.calm = true) (h : PGsd X Z es Ts) (hl : es.length = Ts.length) (hn : (assignEach es X.env).length = es.length) (hst : (assignEach es X.env).findIdx? (·.1) = none) : PGd X Z (.Tuple es k pos) (.tup Ts) := by
  refine ⟨fun pins s σ H v u Q I rv hq => ?_⟩
  obtain ⟨F, ρ, d, ρ', ok, r, e, hk⟩ := hq
  have len : ∀ {Ts : List Tg} {ds : List D} {ρ ρ' : Env'}, asgs Ts ds ρ = some ρ' → ds.length = Ts.length := by
    intro Ts
    induction Ts with
    | nil => intro ds ρ ρ' e; cases ds <;> first | rfl | cases e
    | cons T Ts ih =>
      intro ds ρ ρ' e
      cases ds with
      | nil => cases e
      | cons d ds =>
        unfold asgs at e
        cases e1 : asg T d ρ with
        | none => rw [e1] at e; cases e
        | some ρ1 => rw [e1] at e; rw [List.length_cons, List.length_cons, ih e]
  have go : ∀ ds, (d = .tup ds ∨ d = .ktup ds) → asgs Ts ds ρ = some ρ' → gTup X.K es.length (tGs X Z Ts) v σ H Q := fun ds ed e => by
    obtain ⟨a, xs, rfl, sq, rl⟩ := r.tupAt ed
    exact ⟨a, xs, rfl, sq _ _ Stays.refl, by rw [rl.length, len e, hl], F, ρ, ds, ρ', ok, rl, e, hk⟩
  unfold asg at e
  split at e
  · exact (pg_tup hc h hn hst).run pins s σ H v u Q I rv (go _ (.inl rfl) e)
  · exact (pg_tup hc h hn hst).run pins s σ H v u Q I rv (go _ (.inr rfl) e)
  · refine (pg_lst (n := es.length) hc h hn hst).run pins s σ H v u Q I rv ?_
    obtain ⟨a, xs, rfl, _, rd, rl⟩ := r.lstAt
    exact ⟨a, xs, rfl, .inl rd, by rw [rl.length, len e, hl], F, ρ, _, ρ', ok, rl, e, hk⟩
  · cases e
end

/-! ### statements -/
section
variable (K : PySem.W.Frag) (Z : Fix)
def RetOk (H0 : Hp) (v : V) (sv : SV) (H : Hp) (F : AP') (σ : L2.St) (ρ : Env') : Prop := RepS K Z.fa H F v sv ∧ match sv with
  | .dat _ => True
  | .own _ => ∃ a, v = .ref a ∧ ¬ Bor σ ρ a ∧ (Own σ ρ a ∨ H0 a = none)
  | .bor _ => False
def PostS (σ : L2.St) (H : Hp) (F : AP') (ρ : Env') (r : SRes) (D : Ends) : Prop := match r with
  | .nx ρ' => ∀ σ' H' F', StepE H F σ ρ H' F' σ' ρ' → EnvOk K Z.fa H' F' σ' ρ' → D.nx σ' H'
  | .bk ρ' => ∀ σ' H' F', StepE H F σ ρ H' F' σ' ρ' → EnvOk K Z.fa H' F' σ' ρ' → D.bk σ' H'
  | .ct ρ' => ∀ σ' H' F', StepE H F σ ρ H' F' σ' ρ' → EnvOk K Z.fa H' F' σ' ρ' → D.ct σ' H'
  | .rt sv ρ' => ∀ v σ' H' F', StepE H F σ ρ H' F' σ' ρ' → EnvOk K Z.fa H' F' σ' ρ' → RetOk K Z H v sv H' F' σ' ρ' → D.rt v H'
  | .exc x ρ' => ∀ cls d σ' H' F', StepE H F σ ρ H' F' σ' ρ' → EnvOk K Z.fa H' F' σ' ρ' → Z.EX x cls d H' → Z.W cls d σ' H'
  | .stuck => False
end
section
variable {K : PySem.W.Frag} {Z : Fix} {σ σ1 : L2.St} {H H1 : Hp} {F F1 : AP'} {ρ ρ1 : Env'} {D : Ends} {r : SRes} {α β : Type} {R : Hp → α → β → Hp → AP' → L2.St → Env' → Prop}
theorem RetOk.early {v : V} {sv : SV} {H2 : Hp} {F2 : AP'} {σ2 : L2.St} {ρ2 : Env'} (st : ∀ a, H1 a = none → H a = none) (h : RetOk K Z H1 v sv H2 F2 σ2 ρ2) : RetOk K Z H v sv H2 F2 σ2 ρ2 := by
  obtain ⟨h1, h2⟩ := h
  refine ⟨h1, ?_⟩
  cases sv with
  | dat _ => trivial
  | own _ => obtain ⟨a, e, nb, o⟩ := h2; exact ⟨a, e, nb, o.elim .inl fun z => .inr (st a z)⟩
  | bor _ => exact h2
theorem PostS.after (st : StepE H F σ ρ H1 F1 σ1 ρ1) (h : PostS K Z σ H F ρ r D) : PostS K Z σ1 H1 F1 ρ1 r D := by
  cases r with
  | nx ρ' => exact fun σ' H' F' s ok => h σ' H' F' (st.trans s) ok
  | bk ρ' => exact fun σ' H' F' s ok => h σ' H' F' (st.trans s) ok
  | ct ρ' => exact fun σ' H' F' s ok => h σ' H' F' (st.trans s) ok
  | rt sv ρ' => exact fun v σ' H' F' s ok q => h v σ' H' F' (st.trans s) ok (q.early st.dom)
  | exc x ρ' => exact fun cls d σ' H' F' s ok q => h cls d σ' H' F' (st.trans s) ok q
  | stuck => exact h
theorem PostS.seq {g : Env' → SRes} (h : PostS K Z σ H F ρ (r.sq g) D) : PostS K Z σ H F ρ r { D with nx := fun σ1 H1 => ∃ F1 ρ1, EnvOk K Z.fa H1 F1 σ1 ρ1 ∧ PostS K Z σ1 H1 F1 ρ1 (g ρ1) D } := by
  cases r with
  | nx ρ' => exact fun σ' H' F' s ok => ⟨F', ρ', ok, PostS.after s h⟩
  | bk ρ' => exact h
  | ct ρ' => exact h
  | rt sv ρ' => exact h
  | exc x ρ' => exact h
  | stuck => exact h
/-- a reading, then a statement -/
theorem PostS.sb {f : Res α} {g : α → Env' → SRes} (h : PostS K Z σ H F ρ (f.sb g) D) :
    PostG K Z R σ H F ρ f (fun b H1 => ∃ a F1 ρ1, EnvOk K Z.fa H1 F1 σ ρ1 ∧ StepE H F σ ρ H1 F1 σ ρ1 ∧ R H a b H1 F1 σ ρ1 ∧ PostS K Z σ H1 F1 ρ1 (g a ρ1) D) := by
  cases f with
  | ok a ρ' => exact fun b H' F' s ok r => ⟨a, F', ρ', ok, s, r, PostS.after s h⟩
  | exc x ρ' => exact fun cls d H' F' s ok q => h cls d σ H' F' s ok q
  | stuck => exact h
theorem PostS.sbF {f : Res SV} {g : SV → Env' → SRes} (h : PostS K Z σ H F ρ (f.sb g) D) :
    PostG K Z (RSV K Z) σ H F ρ f (fun v H1 => ∃ sv F1 ρ1, EnvOk K Z.fa H1 F1 σ ρ1 ∧ StepE H F σ ρ H1 F1 σ ρ1 ∧ Rep K Z.fa H1 F1 v sv.d ∧ PostS K Z σ H1 F1 ρ1 (g sv ρ1) D) := by
  cases f with
  | ok sv ρ' =>
    intro v H' F' s ok r
    obtain ⟨F1, ok1, rep, m1, m2⟩ := ResOk.freeze ok r
    exact ⟨sv, F1, ρ', ok1, s.more m1 m2, rep, PostS.after (s.more m1 m2) h⟩
  | exc x ρ' => exact fun cls d H' F' s ok q => h cls d σ H' F' s ok q
  | stuck => exact h
theorem PostS.nx0 (ok : EnvOk K Z.fa H F σ ρ) (h : PostS K Z σ H F ρ (.nx ρ) D) : D.nx σ H := h σ H F Step.refl ok
end
section
variable (X : Cx) (Z : Fix)
def tSd (f : Env' → SRes) : TS := fun D σ H => ∃ F ρ, EnvOk X.K Z.fa H F σ ρ ∧ PostS X.K Z σ H F ρ (f ρ) D
abbrev PSd (st : Stmt) (f : Env' → SRes) : Prop := PS X st (tSd X Z f)
abbrev PSsd (st : List Stmt) (f : Env' → SRes) : Prop := PSs X st (tSd X Z f)
end
section
variable {X : Cx} {Z : Fix} {e c k : Expr} {st : Stmt} {sts body a b : List Stmt} {pos p p2 : Pos} {i j : Nat} {x y : Str}
theorem PS.weak {t t' : TS} (h : PS X st t) (w : ∀ D σ H, t' D σ H → t D σ H) : PS X st t' := ⟨fun pins s σ H D I hq => h.run pins s σ H D I (w D σ H hq)⟩
theorem PSs.weak {t t' : TS} (h : PSs X sts t) (w : ∀ D σ H, t' D σ H → t D σ H) : PSs X sts t' := ⟨fun pins s σ H D I hq => h.run pins s σ H D I (w D σ H hq)⟩
theorem pssd_nil : PSsd X Z [] (fun ρ => .nx ρ) := by
  refine PSs.weak pss_nil ?_
  rintro D σ H ⟨F, ρ, ok, h⟩
  exact h.nx0 ok
theorem pssd_cons {f g : Env' → SRes} (h1 : PSd X Z st f) (h2 : PSsd X Z sts g) : PSsd X Z (st :: sts) (fun ρ => (f ρ).sq g) := by
  refine PSs.weak (pss_cons h1 h2) ?_
  rintro D σ H ⟨F, ρ, ok, h⟩
  exact ⟨F, ρ, ok, PostS.seq h⟩
theorem psd_pass : PSd X Z (.Pass pos) (fun ρ => .nx ρ) := by
  refine PS.weak ps_pass ?_
  rintro D σ H ⟨F, ρ, ok, h⟩
  exact h.nx0 ok
theorem psd_brk : PSd X Z (.Break pos) (fun ρ => .bk ρ) := by
  refine PS.weak ps_break ?_
  rintro D σ H ⟨F, ρ, ok, h⟩
  exact h σ H F Step.refl ok
theorem psd_cont : PSd X Z (.Continue pos) (fun ρ => .ct ρ) := by
  refine PS.weak ps_continue ?_
  rintro D σ H ⟨F, ρ, ok, h⟩
  exact h σ H F Step.refl ok
theorem psd_never : PSd X Z st (fun _ => .stuck) := by
  refine PS.weak ps_never ?_
  rintro D σ H ⟨F, ρ, ok, h⟩
  exact h
theorem psd_expr {f : Env' → Res SV} (h : PEd X Z e f) (hs : swapsWith e none pos.line X.env = pure false) : PSd X Z (.Expr e pos) (fun ρ => (f ρ).sb fun _ ρ1 => .nx ρ1) := by
  refine PS.weak (ps_expr h hs) ?_
  rintro D σ H ⟨F, ρ, ok, h⟩
  refine ⟨F, ρ, ok, (PostS.sb h).imp ?_⟩
  rintro v H1 ⟨sv, F1, ρ1, ok1, st, r, h1⟩
  exact h1.nx0 ok1
theorem psd_ret {f : Env' → Res SV} (h : PEd X Z e f) : PSd X Z (.Return (some e) pos) (fun ρ => (f ρ).sb fun sv ρ1 => .rt sv ρ1) := by
  refine PS.weak (ps_ret h) ?_
  rintro D σ H ⟨F, ρ, ok, h⟩
  refine ⟨F, ρ, ok, ?_⟩
  cases hf : f ρ with
  | ok sv ρ' =>
    dsimp only at h
    rw [hf] at h
    refine fun v H' F' s ok r => h v σ H' F' s ok ⟨r.1, ?_⟩
    cases sv with
    | dat _ => trivial
    | own _ =>
      obtain ⟨a, e, n, no⟩ := r.2
      exact ⟨a, e, fun ⟨i, sv, h1, h2, h3⟩ => no ⟨i, sv, h1, (by cases sv <;> first | rfl | cases h2), h3⟩, .inr n⟩
    | bor _ => exact r.2
  | exc x ρ' => dsimp only at h; rw [hf] at h; exact fun cls d H' F' s ok q => h cls d σ H' F' s ok q
  | stuck => dsimp only at h; rw [hf] at h; exact h
theorem psd_retN : PSd X Z (.Return none pos) (fun ρ => .rt (.dat .non) ρ) := by
  refine PS.weak ps_retN ?_
  rintro D σ H ⟨F, ρ, ok, h⟩
  exact h _ σ H F Step.refl ok ⟨.non, trivial⟩
theorem psd_retv (hN : X.N[i]? = some x) (hv : Vis X.env.scope x) (hd : (x == ("__debug__" : Str)) = false) (hcd : (x == ("__classdict__" : Str)) = false) : PSd X Z (.Return (some (.Name x p)) pos) (retvS i) := by
  refine PS.weak (ps_ret (pe_var hN hv hd hcd)) ?_
  rintro D σ H ⟨F, ρ, ok, h⟩
  unfold retvS at h
  split at h
  · rename_i d e1
    obtain ⟨v, e2, a, rfl, nf, ow⟩ := ok.slot i _ e1
    refine ⟨_, e2, h _ σ H F Step.refl ok ⟨⟨a, rfl, nf, ow⟩, a, rfl, ?_, .inl ⟨i, _, e1, rfl, e2⟩⟩⟩
    rintro ⟨j, sv, h1, h2, h3⟩
    have := ok.apart i j _ sv a e1 h1 rfl (by cases sv <;> first | rfl | cases h2) e2 h3
    subst this
    rw [e1] at h1; cases h1; cases h2
  · rename_i d e1
    obtain ⟨v, e2, r⟩ := ok.slot i _ e1
    exact ⟨_, e2, h _ σ H F Step.refl ok ⟨r, trivial⟩⟩
  · exact h.elim
theorem psd_if {fc : Env' → Res Bool} {fa fb : Env' → SRes} (hc : PTd X Z c fc) (ha : PSsd X Z a fa) (hb : PSsd X Z b fb) : PSd X Z (.If c a b pos) (fun ρ => (fc ρ).sb fun t ρ1 => if t = true then fa ρ1 else fb ρ1) := by
  refine PS.weak (ps_if hc ha hb) ?_
  rintro D σ H ⟨F, ρ, ok, h⟩
  refine ⟨F, ρ, ok, (PostS.sb (R := RB) h).imp ?_⟩
  rintro t H1 ⟨t', F1, ρ1, ok1, st, rfl, h1⟩
  cases t' with
  | true => rw [if_pos rfl] at h1 ⊢; exact ⟨F1, ρ1, ok1, h1⟩
  | false => rw [if_neg Bool.false_ne_true] at h1 ⊢; exact ⟨F1, ρ1, ok1, h1⟩
/-- a result is stored -/
theorem set_core {K : PySem.W.Frag} {σ : L2.St} {H H1 : Hp} {F F1 : AP'} {ρ ρ1 : Env'} {v : V} {sv : SV} (ok1 : EnvOk K Z.fa H1 F1 σ ρ1) (r : ResOk K Z.fa H H1 F1 σ ρ1 v sv)
    (st : StepE H F σ ρ H1 F1 σ ρ1) : setS i sv ρ1 = .stuck ∨ ∃ ρ2, setS i sv ρ1 = .nx ρ2 ∧ EnvOk K Z.fa H1 F1 (σ.set i (some v)) ρ2 ∧ StepE H F σ ρ H1 F1 (σ.set i (some v)) ρ2 := by
  unfold setS
  split
  · exact .inl rfl
  · rename_i nl
    have nl' : sv.lent = false := by simpa using nl
    have go : i < ρ1.length → (∀ sw, ρ1[i]? = some (some sw) → sw.lent = false) → EnvOk K Z.fa H1 F1 (σ.set i (some v)) (ρ1.set i (some sv)) ∧ StepE H F σ ρ H1 F1 (σ.set i (some v)) (ρ1.set i (some sv)) := fun hi hl => by
      have can : CanSet K Z.fa H1 F1 σ ρ1 v sv := ⟨r.1, (fun a ea m => by
        cases sv with
        | dat _ => cases m
        | own _ => obtain ⟨b, eb, n, no⟩ := r.2; subst ea; cases eb; exact no
        | bor _ => cases nl'), nl'⟩
      obtain ⟨h1, h2, h3⟩ := ok1.setSlot hi hl can
      refine ⟨h1, st.keep, st.fmono, st.fnew, fun a z => ?_, fun a => (h3 a).trans (st.bor a), st.dom, st.tabs⟩
      rcases h2 a z with z | ⟨zz, m⟩
      · exact st.onew a z
      · cases sv with
        | dat _ => cases m
        | own _ => obtain ⟨b, eb, n, no⟩ := r.2; rw [zz] at eb; cases eb; exact .inr n
        | bor _ => cases nl'
    split
    · rename_i e1
      exact .inr ⟨_, rfl, go (get_lt e1) (fun sw z => by rw [e1] at z; cases z)⟩
    · rename_i sw e1
      split
      · exact .inl rfl
      · rename_i nsw
        exact .inr ⟨_, rfl, go (get_lt e1) (fun sw' z => by rw [e1] at z; cases z; simpa using nsw)⟩
    · exact .inl rfl
theorem set_step {K : PySem.W.Frag} {σ : L2.St} {H H1 : Hp} {F F1 : AP'} {ρ ρ1 : Env'} {D : Ends} {v : V} {sv : SV} (ok1 : EnvOk K Z.fa H1 F1 σ ρ1) (r : ResOk K Z.fa H H1 F1 σ ρ1 v sv)
    (h : PostS K Z σ H F ρ (setS i sv ρ1) D) (st : StepE H F σ ρ H1 F1 σ ρ1) : D.nx (σ.set i (some v)) H1 := by
  rcases set_core (i := i) ok1 r st with e | ⟨ρ2, e, ok2, st2⟩
  · rw [e] at h; exact h.elim
  · rw [e] at h; exact h _ H1 F1 st2 ok2
theorem psd_set {f : Env' → Res SV} (hN : X.N.Nodup) (hi : X.N[i]? = some x) (hx : Loc X.env.scope x) (hfn : X.fn x = true ∨ X.env.scope.names.lookup x = some .local) (h : PEd X Z e f) (hs : swapsWith e (some (.Name x p)) pos.line X.env = pure false) :
    PSd X Z (.Assign [.Name x p] e pos) (fun ρ => (f ρ).sb fun sv ρ1 => setS i sv ρ1) := by
  refine PS.weak (ps_set hN hi hx h hs hfn) ?_
  rintro D σ H ⟨F, ρ, ok, h⟩
  refine ⟨F, ρ, ok, ?_⟩
  cases hf : f ρ with
  | ok sv ρ' =>
    dsimp only at h
    rw [hf] at h
    exact fun v H' F' s ok r => set_step ok r h s
  | exc x ρ' => dsimp only at h; rw [hf] at h; exact fun cls d H' F' s ok q => h cls d σ H' F' s ok q
  | stuck => dsimp only at h; rw [hf] at h; exact h
theorem psd_unp {f : Env' → Res SV} {T : Tg} {tg : Expr} (h : PEd X Z e f) (hg : PGd X Z tg T) (hs : swapsWithSole [tg] e pos.line X.env = pure false) (hw : swappedStores [tg] e X.env = pure none)
    (h1 : (assignEach [tg] X.env).map (·.2) = [assign tg X.env]) : PSd X Z (.Assign [tg] e pos) (fun ρ => (f ρ).sb fun sv ρ1 => unpS T sv.d ρ1) := by
  refine PS.weak (ps_asg h hg hs hw h1) ?_
  rintro D σ H ⟨F, ρ, ok, h⟩
  refine ⟨F, ρ, ok, (PostS.sbF h).imp ?_⟩
  rintro v H1 ⟨sv, F1, ρ1, ok1, st, r, h1⟩
  unfold unpS at h1
  split at h1
  · rename_i ρ2 e2
    exact ⟨F1, ρ1, sv.d, ρ2, ok1, r, e2, fun σ' ok2 st2 _ => h1 σ' H1 F1 st2 ok2⟩
  · exact h1.elim
theorem psd_par {f g : Env' → Res SV} {a b : Expr} {px py pt pt2 : Pos} {kt k2} (hc : X.calm = true) (hN : X.N.Nodup) (hi : X.N[i]? = some x) (hj : X.N[j]? = some y) (hij : i ≠ j)
    (hx : X.env.scope.names.lookup x = some .local) (hy : X.env.scope.names.lookup y = some .local) (ha : PEd X Z a f) (hb : PEd X Z b g) (hs1 : starEach [a, b] X.env = (false, eval a X.env) :: starEach [b] X.env) (hs2 : starEach [b] X.env = (false, eval b X.env) :: starEach [] X.env)
    (hw : swappedStores [.Tuple [.Name x px, .Name y py] kt pt] (.Tuple [a, b] k2 pt2) X.env = pure (some [x, y]))
    (hs : swapsWithSole [.Tuple [.Name x px, .Name y py] kt pt] (.Tuple [a, b] k2 pt2) pos.line X.env = pure false) :
    PSd X Z (.Assign [.Tuple [.Name x px, .Name y py] kt pt] (.Tuple [a, b] k2 pt2) pos) (fun ρ => (f ρ).sb fun sv ρ1 => (g ρ1).sb fun sw ρ2 => (setS i (.dat sv.d) ρ2).sq fun ρ3 => setS j (.dat sw.d) ρ3) := by
  refine PS.weak (ps_par hc hN hi hj hij hx hy (pa_cons ha (pa_cons hb pa_nil hs2) hs1) hw hs) ?_
  rintro D σ H ⟨F, ρ, ok, h⟩
  refine ⟨F, ρ, ok, (PostS.sbF h).imp ?_⟩
  rintro v H1 ⟨sv, F1, ρ1, ok1, st, r, h1⟩
  refine ⟨F1, ρ1, ok1, (PostS.sbF h1).imp ?_⟩
  rintro w H2 ⟨sw, F2, ρ2, ok2, st2, r2, h2⟩
  refine ⟨v, w, rfl, ?_⟩
  have r' := Rep.stays (st2.stays ok1) r
  rcases set_core (i := i) ok2 (⟨r', trivial⟩ : ResOk X.K Z.fa H2 H2 F2 σ ρ2 v (.dat sv.d)) Step.refl with e3 | ⟨ρ3, e3, ok3, st3⟩
  · rw [e3] at h2; exact h2.elim
  · rw [e3] at h2
    have h3 : PostS X.K Z σ H2 F2 ρ2 (setS j (.dat sw.d) ρ3) D := h2
    rcases set_core (i := j) ok3 (⟨r2, trivial⟩ : ResOk X.K Z.fa H2 H2 F2 (σ.set i (some v)) ρ3 w (.dat sw.d)) Step.refl with e4 | ⟨ρ4, e4, ok4, st4⟩
    · rw [e4] at h3; exact h3.elim
    · rw [e4] at h3
      exact h3 _ H2 F2 (st3.trans st4) ok4
/-! ### loops -/
theorem psd_for {tg iter : Expr} {T : Tg} {f : Env' → Res (List D)} {g : Env' → SRes} (hp : PassesOwn (model X.prog X.w) X.A X.env X.xe) (hc : X.calm = true) (hi : PId X Z tg iter f) (hg : PGd X Z tg T) (hb : PSsd X Z body g) (hs : ∀ x, foldedSetIterable iter X.env x = pure x) :
    PSd X Z (.For tg iter body [] pos) (fun ρ => (f ρ).sb fun items ρ1 => forGo g T items ρ1) := by
  refine PS.weak (ps_for hp hc hi hg hb hs) ?_
  rintro D σ H ⟨F, ρ, ok, h⟩
  refine ⟨F, ρ, ok, (PostS.sb h).imp ?_⟩
  rintro J H1 ⟨items, F1, ρ1, ok1, st1, w, h1⟩
  refine ⟨fun i m σ' H' => m = items.length - i ∧ i ≤ items.length ∧ ∃ F' ρ', EnvOk X.K Z.fa H' F' σ' ρ' ∧ Stays H1 F1 H' F' ∧ PostS X.K Z σ' H' F' ρ' (forGo g T (items.drop i) ρ') D, ⟨_, rfl, Nat.zero_le _, F1, ρ1, ok1, Stays.refl, h1⟩, ?_⟩
  rintro i m σ' H' ⟨rfl, hi, F', ρ', ok', sy, h'⟩
  by_cases hlt : i < items.length
  · refine .inr ⟨w.goes i H' F' sy hlt, fun σ2 H2 => i + 1 ≤ items.length ∧ ∃ F2 ρ2, EnvOk X.K Z.fa H2 F2 σ2 ρ2 ∧ Stays H1 F1 H2 F2 ∧ PostS X.K Z σ2 H2 F2 ρ2 (forGo g T (items.drop (i + 1)) ρ2) D, fun σ2 H2 ⟨q1, q2⟩ => ⟨items.length - (i + 1), by omega, rfl, q1, q2⟩, fun x H2 y => ?_⟩
    obtain ⟨d, e1, F2, gr, rx, _⟩ := w.yields i H' F' x H2 sy ok'.fd hlt y
    have e2 : items.drop i = d :: items.drop (i + 1) := by
      obtain ⟨hh, e3⟩ := List.getElem?_eq_some_iff.mp e1
      rw [List.drop_eq_getElem_cons hh, e3]
    rw [e2] at h'
    unfold forGo at h'
    split at h'
    · exact h'.elim
    · rename_i ρ2 e3
      have ok2 := ok'.grow gr
      refine ⟨F2, ρ', d, ρ2, ok2, rx, e3, fun σ3 ok3 st3 _ => ⟨F2, ρ2, ok3, ?_⟩⟩
      have stp : StepE H' F' σ' ρ' H2 F2 σ3 ρ2 := Step.trans gr.step st3
      have fin : ∀ σ4 H4 F4 ρ4, StepE H2 F2 σ3 ρ2 H4 F4 σ4 ρ4 → EnvOk X.K Z.fa H4 F4 σ4 ρ4 → PostS X.K Z σ' H' F' ρ' (forGo g T (items.drop (i + 1)) ρ4) D → i + 1 ≤ items.length ∧ ∃ F2 ρ2, EnvOk X.K Z.fa H4 F2 σ4 ρ2 ∧ Stays H1 F1 H4 F2 ∧ PostS X.K Z σ4 H4 F2 ρ2 (forGo g T (items.drop (i + 1)) ρ2) D := fun σ4 H4 F4 ρ4 s4 ok4 h4 =>
        ⟨hlt, F4, ρ4, ok4, sy.trans ((stp.trans s4).stays ok'), PostS.after (stp.trans s4) h4⟩
      cases hg2 : g ρ2 with
      | nx ρ4 => rw [hg2] at h'; exact fun σ4 H4 F4 s4 ok4 => fin σ4 H4 F4 ρ4 s4 ok4 h'
      | ct ρ4 => rw [hg2] at h'; exact fun σ4 H4 F4 s4 ok4 => fin σ4 H4 F4 ρ4 s4 ok4 h'
      | bk ρ4 => rw [hg2] at h'; exact fun σ4 H4 F4 s4 ok4 => h' σ4 H4 F4 (stp.trans s4) ok4
      | rt sv ρ4 => rw [hg2] at h'; exact fun v σ4 H4 F4 s4 ok4 q => h' v σ4 H4 F4 (stp.trans s4) ok4 (q.early stp.dom)
      | exc x ρ4 => rw [hg2] at h'; exact fun cls d σ4 H4 F4 s4 ok4 q => h' cls d σ4 H4 F4 (stp.trans s4) ok4 q
      | stuck => rw [hg2] at h'; exact h'
  · have e : items.drop i = [] := List.drop_eq_nil_iff.mpr (by omega)
    rw [e] at h'
    exact .inl ⟨w.stops i H' F' sy (by omega), h'.nx0 ok'⟩
theorem psd_while {m : Nat} {fc : Env' → Res Bool} {g : Env' → SRes} (hp : PassesOwn (model X.prog X.w) X.A X.env X.xe) (hc : PTd X Z c fc) (hb : PSsd X Z body g) : PSd X Z (.While c body [] pos) (whGo fc g m) := by
  refine PS.weak (ps_while hp hc hb) ?_
  rintro D σ H ⟨F, ρ, ok, h⟩
  refine ⟨fun m σ H => ∃ F ρ, EnvOk X.K Z.fa H F σ ρ ∧ PostS X.K Z σ H F ρ (whGo fc g m ρ) D, ⟨m, F, ρ, ok, h⟩, ?_⟩
  rintro m σ H ⟨F, ρ, ok, h⟩
  cases m with
  | zero => exact h.elim
  | succ m =>
    unfold whGo at h
    refine ⟨F, ρ, ok, (PostS.sb (R := RB) h).imp ?_⟩
    rintro b H1 ⟨b', F1, ρ1, ok1, st1, rfl, h1⟩
    cases b' with
    | false => rw [if_neg Bool.false_ne_true] at h1 ⊢; exact h1.nx0 ok1
    | true =>
      rw [if_pos rfl] at h1 ⊢
      refine ⟨fun σ2 H2 => ∃ F2 ρ2, EnvOk X.K Z.fa H2 F2 σ2 ρ2 ∧ PostS X.K Z σ2 H2 F2 ρ2 (whGo fc g m ρ2) D, fun σ' H' q => ⟨m, Nat.lt_succ_self _, q⟩, F1, ρ1, ok1, ?_⟩
      cases hg2 : g ρ1 with
      | nx ρ4 => rw [hg2] at h1; exact fun σ4 H4 F4 s4 ok4 => ⟨F4, ρ4, ok4, PostS.after s4 h1⟩
      | ct ρ4 => rw [hg2] at h1; exact fun σ4 H4 F4 s4 ok4 => ⟨F4, ρ4, ok4, PostS.after s4 h1⟩
      | bk ρ4 => rw [hg2] at h1; exact h1
      | rt sv ρ4 => rw [hg2] at h1; exact h1
      | exc x ρ4 => rw [hg2] at h1; exact h1
      | stuck => rw [hg2] at h1; exact h1
end
end DL

namespace DL
open PySem PySem.Spec PyProof.Rows L2
variable [TB]

/-! ### a, b = x, y where what is made stays our own -/
section
variable {K : PySem.W.Frag} {Z : Fix} {σ : L2.St} {H H1 H2 : Hp} {F F1 F2 : AP'} {ρ ρ1 ρ2 : Env'} {v w : V} {sv sw : SV}
theorem set_core2 {i : Nat} {σ0 : L2.St} (ok1 : EnvOk K Z.fa H1 F1 σ ρ1) (r : ResOk K Z.fa H H1 F1 σ ρ1 v sv) (st : StepE H F σ0 ρ H1 F1 σ ρ1) : setS i sv ρ1 = .stuck ∨ ∃ ρ2, setS i sv ρ1 = .nx ρ2 ∧ EnvOk K Z.fa H1 F1 (σ.set i (some v)) ρ2 ∧ StepE H F σ0 ρ H1 F1 (σ.set i (some v)) ρ2 ∧ ∀ a, Own (σ.set i (some v)) ρ2 a → Own σ ρ1 a ∨ (v = .ref a ∧ sv.mine = true) := by
  unfold setS
  split
  · exact .inl rfl
  · rename_i nl
    have nl' : sv.lent = false := by simpa using nl
    have can : CanSet K Z.fa H1 F1 σ ρ1 v sv := ⟨r.1, (fun a ea m => by
      cases sv with
      | dat _ => cases m
      | own _ => obtain ⟨b, eb, n, no⟩ := r.2; subst ea; cases eb; exact no
      | bor _ => cases nl'), nl'⟩
    have go : i < ρ1.length → (∀ sw, ρ1[i]? = some (some sw) → sw.lent = false) → EnvOk K Z.fa H1 F1 (σ.set i (some v)) (ρ1.set i (some sv)) ∧ StepE H F σ0 ρ H1 F1 (σ.set i (some v)) (ρ1.set i (some sv)) ∧ ∀ a, Own (σ.set i (some v)) (ρ1.set i (some sv)) a → Own σ ρ1 a ∨ (v = .ref a ∧ sv.mine = true) := fun hi hl => by
      obtain ⟨h1, h2, h3⟩ := ok1.setSlot hi hl can
      refine ⟨h1, ⟨st.keep, st.fmono, st.fnew, fun a z => ?_, fun a => (h3 a).trans (st.bor a), st.dom, st.tabs⟩, h2⟩
      rcases h2 a z with z | ⟨zz, m⟩
      · exact st.onew a z
      · cases sv with
        | dat _ => cases m
        | own _ => obtain ⟨b, eb, n, no⟩ := r.2; rw [zz] at eb; cases eb; exact .inr n
        | bor _ => cases nl'
    split
    · rename_i e1
      exact .inr ⟨_, rfl, go (get_lt e1) (fun sw z => by rw [e1] at z; cases z)⟩
    · rename_i sw e1
      split
      · exact .inl rfl
      · rename_i nsw
        exact .inr ⟨_, rfl, go (get_lt e1) (fun sw' z => by rw [e1] at z; cases z; simpa using nsw)⟩
    · exact .inl rfl
/-- a result in the air while something else is computed -/
theorem ResOk.air (ok1 : EnvOk K Z.fa H1 F1 σ ρ1) (r : ResOk K Z.fa H H1 F1 σ ρ1 v sv) (st : StepE H1 F1 σ ρ1 H2 F2 σ ρ2) : ResOk K Z.fa H H2 F2 σ ρ2 v sv ∧ (∀ a, v = .ref a → sv.mine = true → H1 a ≠ none) := by
  obtain ⟨r1, r2⟩ := r
  cases sv with
  | dat d => exact ⟨⟨Rep.stays (st.stays ok1) r1, trivial⟩, fun a e m => by cases m⟩
  | own d =>
    obtain ⟨a, rfl, nf, ow⟩ := r1
    obtain ⟨a', e, n, no⟩ := r2
    cases e
    obtain ⟨o, ho, _, _, nt, _⟩ := ow.some
    have e2 : H2 a = some o := (st.keep a o ho no nt).resolve_right fun z => nf z.1
    refine ⟨⟨⟨a, rfl, fun z => ?_, ow.stays (e2.trans ho.symm) (st.stays ok1)⟩, a, rfl, n, fun z => ?_⟩, fun b e m => by cases e; rw [ho]; exact fun z => nomatch z⟩
    · rcases st.fnew a z with z | z | z
      · exact nf z
      · rw [ho] at z; cases z
      · exact no z.1
    · rcases st.onew a z with z | z
      · exact no z
      · rw [ho] at z; cases z
  | bor d => exact r2.elim
theorem ResOk.keepO {k : Bool} (ok1 : EnvOk K Z.fa H1 F1 σ ρ1) (r : ResOk K Z.fa H H1 F1 σ ρ1 v sv) : ∃ F2, EnvOk K Z.fa H1 F2 σ ρ1 ∧ ResOk K Z.fa H H1 F2 σ ρ1 v (DL.keepO k sv) ∧ ∀ {ρ0 : Env'} {F0 : AP'}, StepE H F0 σ ρ0 H1 F1 σ ρ1 → StepE H F0 σ ρ0 H1 F2 σ ρ1 := by
  unfold DL.keepO
  cases k with
  | true => exact ⟨F1, ok1, r, fun h => h⟩
  | false =>
    obtain ⟨F2, ok2, rep, m1, m2⟩ := ResOk.freeze ok1 r
    exact ⟨F2, ok2, ⟨rep, trivial⟩, fun s => s.more m1 m2⟩
/-- both stores -/
theorem par_core {i j : Nat} {D : Ends} (ok2 : EnvOk K Z.fa H2 F2 σ ρ2) (r1 : ResOk K Z.fa H H2 F2 σ ρ2 v sv) (r2 : ResOk K Z.fa H1 H2 F2 σ ρ2 w sw) (hd : ∀ x, H1 x = none → H x = none) (hne : ∀ a, v = .ref a → sv.mine = true → H1 a ≠ none) (st : StepE H F σ ρ H2 F2 σ ρ2)
    (h : PostS K Z σ H F ρ ((setS i sv ρ2).sq fun ρ3 => setS j sw ρ3) D) : D.nx ((σ.set i (some v)).set j (some w)) H2 := by
  rcases set_core2 (i := i) ok2 r1 st with e3 | ⟨ρ3, e3, ok3, st3, o3⟩
  · rw [e3] at h; exact h.elim
  · rw [e3] at h
    have h3 : PostS K Z σ H F ρ (setS j sw ρ3) D := h
    have r3 : ResOk K Z.fa H H2 F2 (σ.set i (some v)) ρ3 w sw := by
      obtain ⟨q1, q2⟩ := r2
      refine ⟨q1, ?_⟩
      cases sw with
      | dat _ => trivial
      | own d =>
        obtain ⟨b, e, n, no⟩ := q2
        refine ⟨b, e, hd b n, fun z => ?_⟩
        rcases o3 b z with z | ⟨z1, z2⟩
        · exact no z
        · exact hne b z1 z2 n
      | bor _ => exact q2
    rcases set_core2 (i := j) ok3 r3 st3 with e4 | ⟨ρ4, e4, ok4, st4, _⟩
    · rw [e4] at h3; exact h3.elim
    · rw [e4] at h3
      exact h3 _ H2 F2 st4 ok4
end
theorem PostS.sbK {K : PySem.W.Frag} {Z : Fix} {σ : L2.St} {H : Hp} {F : AP'} {ρ : Env'} {D : Ends} {f : Res SV} {g : SV → Env' → SRes} (k : Bool) (h : PostS K Z σ H F ρ (f.sb g) D) :
    PostG K Z (RSV K Z) σ H F ρ f (fun v H1 => ∃ sv F1 ρ1, EnvOk K Z.fa H1 F1 σ ρ1 ∧ StepE H F σ ρ H1 F1 σ ρ1 ∧ ResOk K Z.fa H H1 F1 σ ρ1 v (keepO k sv) ∧ PostS K Z σ H F ρ (g sv ρ1) D) := by
  cases f with
  | ok sv ρ' =>
    intro v H' F' s ok r
    obtain ⟨F2, ok2, r2, up⟩ := ResOk.keepO (k := k) ok r
    exact ⟨sv, F2, ρ', ok2, up s, r2, h⟩
  | exc x ρ' => exact fun cls d H' F' s ok q => h cls d σ H' F' s ok q
  | stuck => exact h
theorem PostS.sb2 {K : PySem.W.Frag} {Z : Fix} {σ : L2.St} {H H1 : Hp} {F F1 : AP'} {ρ ρ1 : Env'} {D : Ends} {f : Res SV} {g : SV → Env' → SRes} (st : StepE H F σ ρ H1 F1 σ ρ1) (h : PostS K Z σ H F ρ (f.sb g) D) :
    PostG K Z (RSV K Z) σ H1 F1 ρ1 f (fun v H2 => ∃ sv F2 ρ2, EnvOk K Z.fa H2 F2 σ ρ2 ∧ StepE H1 F1 σ ρ1 H2 F2 σ ρ2 ∧ ResOk K Z.fa H1 H2 F2 σ ρ2 v sv ∧ PostS K Z σ H F ρ (g sv ρ2) D) := by
  cases f with
  | ok sv ρ' => exact fun v H' F' s ok r => ⟨sv, F', ρ', ok, s, r, h⟩
  | exc x ρ' => exact fun cls d H' F' s ok q => h cls d σ H' F' (st.trans s) ok q
  | stuck => exact h
section
variable {X : Cx} {Z : Fix} {i j : Nat} {x y : Str} {pos : Pos}
theorem psd_parO {ka : Bool} {f g : Env' → Res SV} {a b : Expr} {px py pt pt2 : Pos} {kt k2} (hc : X.calm = true) (hN : X.N.Nodup) (hi : X.N[i]? = some x) (hj : X.N[j]? = some y) (hij : i ≠ j)
    (hx : X.env.scope.names.lookup x = some .local) (hy : X.env.scope.names.lookup y = some .local) (ha : PEd X Z a f) (hb : PEd X Z b g) (hs1 : starEach [a, b] X.env = (false, eval a X.env) :: starEach [b] X.env) (hs2 : starEach [b] X.env = (false, eval b X.env) :: starEach [] X.env)
    (hw : swappedStores [.Tuple [.Name x px, .Name y py] kt pt] (.Tuple [a, b] k2 pt2) X.env = pure (some [x, y]))
    (hs : swapsWithSole [.Tuple [.Name x px, .Name y py] kt pt] (.Tuple [a, b] k2 pt2) pos.line X.env = pure false) :
    PSd X Z (.Assign [.Tuple [.Name x px, .Name y py] kt pt] (.Tuple [a, b] k2 pt2) pos) (fun ρ => (f ρ).sb fun sv ρ1 => (g ρ1).sb fun sw ρ2 => (setS i (keepO ka sv) ρ2).sq fun ρ3 => setS j sw ρ3) := by
  refine PS.weak (ps_par hc hN hi hj hij hx hy (pa_cons ha (pa_cons hb pa_nil hs2) hs1) hw hs) ?_
  rintro D σ H ⟨F, ρ, ok, h⟩
  refine ⟨F, ρ, ok, (PostS.sbK ka h).imp ?_⟩
  rintro v H1 ⟨sv, F1, ρ1, ok1, st, r, h1⟩
  refine ⟨F1, ρ1, ok1, (PostS.sb2 st h1).imp ?_⟩
  rintro w H2 ⟨sw, F2, ρ2, ok2, st2, r2, h2⟩
  refine ⟨v, w, rfl, ?_⟩
  obtain ⟨r1, ne⟩ := r.air ok1 st2
  exact par_core ok2 r1 r2 st.dom ne (st.trans st2) h2
/-- .. unpacked from a tuple -/
theorem psd_parP {ka : Bool} {f g : Env' → Res SV} {a b : Expr} {px py pt pt2 : Pos} {kt k2} (hc : X.calm = true) (hN : X.N.Nodup) (hi : X.N[i]? = some x) (hj : X.N[j]? = some y) (hij : i ≠ j)
    (hx : Loc X.env.scope x) (hy : Loc X.env.scope y) (hfx : X.fn x = true ∨ X.env.scope.names.lookup x = some .local) (hfy : X.fn y = true ∨ X.env.scope.names.lookup y = some .local) (ha : PEd X Z a f) (hb : PEd X Z b g) (hs1 : starEach [a, b] X.env = (false, eval a X.env) :: starEach [b] X.env) (hs2 : starEach [b] X.env = (false, eval b X.env) :: starEach [] X.env)
    (hw : swappedStores [.Tuple [.Name x px, .Name y py] kt pt] (.Tuple [a, b] k2 pt2) X.env = pure none)
    (hs : swapsWithSole [.Tuple [.Name x px, .Name y py] kt pt] (.Tuple [a, b] k2 pt2) pos.line X.env = pure false) :
    PSd X Z (.Assign [.Tuple [.Name x px, .Name y py] kt pt] (.Tuple [a, b] k2 pt2) pos) (fun ρ => (f ρ).sb fun sv ρ1 => (g ρ1).sb fun sw ρ2 => (setS i (keepO ka sv) ρ2).sq fun ρ3 => setS j sw ρ3) := by
  refine PS.weak (ps_asg (pe_tup (pa_cons ha (pa_cons hb pa_nil hs2) hs1)) (pg_tup hc (pgs_cons (pg_name hN hi hx hfx) (pgs_cons (pg_name hN hj hy hfy) pgs_nil))) hs hw) ?_
  rintro D σ H ⟨F, ρ, ok, h⟩
  refine ⟨F, ρ, ok, (PostS.sbK ka h).imp ?_⟩
  rintro v H1 ⟨sv, F1, ρ1, ok1, st, r, h1⟩
  refine ⟨F1, ρ1, ok1, (PostS.sb2 st h1).imp ?_⟩
  rintro w H2 ⟨sw, F2, ρ2, ok2, st2, r2, h2⟩
  obtain ⟨r1, ne⟩ := r.air ok1 st2
  refine ⟨by rw [z24]; show 2 ≤ Z24; decide, fun p hp => ⟨p, [v, w], rfl, .inl (.inl upd_same), rfl, _, _, rfl, _, _, rfl, rfl, ?_⟩⟩
  have gr : Grow H2 F2 (upd H2 p (.tup [v, w])) F2 := Grow.new ok2.fd hp
  exact par_core (ok2.grow gr) (r1.air ok2 gr.step).1 (r2.air ok2 gr.step).1 st.dom ne ((st.trans st2).trans gr.step) h2
end
end DL

namespace DL
open PySem PySem.Spec PyProof.Rows L2
variable [TB]

/-! ### what is ours is written -/
section
variable {X : Cx} {Z : Fix} {e k : Expr} {st : Stmt} {pos p p2 : Pos} {i j : Nat} {x y : Str}
/-- a PSet of lists and dicts -/
def rPut : TSet := fun o i v H Q => rSetL o i v H Q ∨ rSetD o i v H Q
theorem set_put (hu : X.A.units + 1 < cLine) : PSet X rPut := by
  intro pins s σ H o i v ov iv u Q I ro ri rv h
  rcases h with h | h
  · exact set_list pins s σ H o i v ov iv u Q I ro ri rv h
  · exact set_dict hu pins s σ H o i v ov iv u Q I ro ri rv h
theorem modS_ok {K : PySem.W.Frag} {σ : L2.St} {H : Hp} {F : AP'} {ρ : Env'} {De : Ends} {g : D → Option D} (ok : EnvOk K Z.fa H F σ ρ) (h : PostS K Z σ H F ρ (modS i g ρ) De) :
    ∃ a d d', σ[i]? = some (some (.ref a)) ∧ g d = some d' ∧ OwnAt K Z.fa H F a d ∧ ¬ F a ∧ ∀ o, OwnAt K Z.fa (upd H a o) F a d' → De.nx σ (upd H a o) := by
  unfold modS at h
  split at h
  · rename_i d e1
    split at h
    · rename_i d' e2
      obtain ⟨v, e3, a, rfl, nf, ow⟩ := ok.slot i _ e1
      refine ⟨a, d, d', e3, e2, ow, nf, fun o how => ?_⟩
      obtain ⟨ok', st⟩ := ok.mutate (sw := .own d') e1 rfl e3 (.inl ⟨rfl, rfl⟩) how
      exact h σ _ F st ok'
    · exact h.elim
  · rename_i d e1
    split at h
    · rename_i d' e2
      obtain ⟨v, e3, a, rfl, nf, ow⟩ := ok.slot i _ e1
      refine ⟨a, d, d', e3, e2, ow, nf, fun o how => ?_⟩
      obtain ⟨ok', st⟩ := ok.mutate (sw := .bor d') e1 rfl e3 (.inr ⟨rfl, rfl⟩) how
      exact h σ _ F st ok'
    · exact h.elim
  · exact h.elim
theorem DRep.here {κ : Type} {K : PySem.W.Frag} {fa : Nat → Option Addr} {H H' : Hp} {F F' : AP'} {kvs : List (κ × V)} {kds : List (κ × D)} (s : Stays H F H' F') (h : DRep K fa H F kvs kds) : DRep K fa H' F' kvs kds := ⟨h.1, h.2.stays s⟩
/-- a write to what is ours leaves readings -/
theorem stays_upd {K : PySem.W.Frag} {fa : Nat → Option Addr} {H : Hp} {F : AP'} {a : Addr} {d : D} {o : HO} (ow : OwnAt K fa H F a d) (nf : ¬ F a) : Stays H F (upd H a o) F := by
  obtain ⟨o0, ho0, nt, nz⟩ := ow.some
  refine ⟨fun b xs h => ?_, fun b u f _ h => ?_, fun _ h => h, fun b o u h => by
    have ne : b ≠ a := by intro z; subst z; rw [ho0] at h; exact nz.1 _ _ (Option.some.inj h)
    rw [upd_ne ne]; exact h⟩
  · have ne : b ≠ a := by intro z; subst z; rw [ho0] at h; exact nt _ (Option.some.inj h)
    rw [upd_ne ne]; exact h
  · have ne : b ≠ a := by intro z; subst z; exact nf f
    unfold Rd
    rw [upd_ne ne]; exact h
theorem psd_store {fv fk : Env' → Res SV} (hu : X.A.units + 1 < cLine) (hN : X.N[i]? = some x) (hvs : Vis X.env.scope x) (hd : (x == ("__debug__" : Str)) = false) (hcd : (x == ("__classdict__" : Str)) = false) (hv : PEd X Z e fv) (hk : PEd X Z k fk)
    (hs : swapsWithSole [.Subscript (.Name x p) k p2] e pos.line X.env = pure false) (hw : swappedStores [.Subscript (.Name x p) k p2] e X.env = pure none)
    (ha : ∀ v, assign (.Subscript (.Name x p) k p2) X.env v = (do
      let ov ← holding [v] (eval (.Name x p) X.env)
      let iv ← holding [v, ov] (eval k X.env)
      standAt p2
      holding [v, ov, iv] (setItem ov iv v)
      release [v, ov, iv] []))
    (h1 : (assignEach [.Subscript (.Name x p) k p2] X.env).map (·.2) = [assign (.Subscript (.Name x p) k p2) X.env]) :
    PSd X Z (.Assign [.Subscript (.Name x p) k p2] e pos) (fun ρ => (fv ρ).sb fun sv ρ1 => if hasSlot ρ1 i = true then (fk ρ1).sb fun sk ρ2 => modS i (fun d => putAt d sk.d sv.d) ρ2 else .stuck) := by
  refine PS.weak (ps_asg hv (pg_sub (pe_var hN hvs hd hcd) hk (set_put hu) ha) hs hw h1) ?_
  rintro De σ H ⟨F, ρ, ok, h⟩
  refine ⟨F, ρ, ok, (PostS.sbF h).imp ?_⟩
  rintro v H1 ⟨sv, F1, ρ1, ok1, st, r, h1⟩
  split at h1
  · rename_i hsl
    have ex : ∃ o, σ[i]? = some (some o) := by
      unfold hasSlot at hsl
      split at hsl
      · rename_i sw e1
        obtain ⟨o, e2, _⟩ := ok1.slot i sw e1
        exact ⟨o, e2⟩
      · cases hsl
    obtain ⟨o, e0⟩ := ex
    refine ⟨o, e0, F1, ρ1, ok1, (PostS.sbF h1).imp ?_⟩
    rintro y H2 ⟨sk, F2, ρ2, ok2, st2, r2, h2⟩
    obtain ⟨a, d, d', e3, eg, ow, nf, q⟩ := modS_ok ok2 h2
    rw [e0] at e3
    cases e3
    have r' := Rep.stays (st2.stays ok1) r
    cases ow with
    | lst hq rl =>
      rename_i xs ds
      unfold putAt at eg
      dsimp only at eg
      split at eg
      · rename_i n ek
        rw [ek] at r2
        cases r2
        cases ej : ixN ds.length n with
        | none => rw [ej] at eg; cases eg
        | some j =>
          rw [ej] at eg
          cases eg
          refine .inl ⟨a, xs, n, j, rfl, rfl, hq, by rw [rl.length]; exact ej, q _ ?_⟩
          have sy : Stays H2 F2 (upd H2 a (.lst (xs.set j v))) F2 := stays_upd (.lst hq rl) nf
          exact .lst upd_same ((rl.set j r').stays sy)
      · cases eg
    | dK hq rl =>
      rename_i kvs kds
      unfold putAt at eg
      dsimp only at eg
      split at eg
      · rename_i hl
        cases ek : keyOf sk.d with
        | none => rw [ek] at eg; cases eg
        | some kk =>
          rw [ek] at eg
          cases eg
          obtain rfl := keyOf_ok r2 ek
          refine .inr ⟨a, _, rfl, DPut.k hq (by rw [rl.length, z24]; exact hl), q _ ?_⟩
          have sy : Stays H2 F2 (upd H2 a (.dK (putK kvs kk v))) F2 := stays_upd (.dK hq rl) nf
          exact .dK upd_same ((rl.put r').here sy)
      · cases eg
    | dT hq rl =>
      rename_i kvs kds
      unfold putAt at eg
      dsimp only at eg
      split at eg
      · rename_i hl
        split at eg
        · rename_i ks ek0
          rw [ek0] at r2
          cases ek : keysOf ks with
          | none => rw [ek] at eg; cases eg
          | some kk =>
            rw [ek] at eg
            cases eg
            cases r2 with
            | tup hb rb =>
              obtain rfl := keysOf_ok rb ek
              refine .inr ⟨a, _, rfl, DPut.t hq hb (by rw [rl.length, z24]; exact hl), q _ ?_⟩
              have sy : Stays H2 F2 (upd H2 a (.dT (putK kvs kk v))) F2 := stays_upd (.dT hq rl) nf
              exact .dT upd_same ((rl.put r').here sy)
        · cases eg
      · cases eg
  · exact h1.elim
theorem psd_app {f : Env' → Res SV} (hN : X.N[i]? = some x) (hvs : Vis X.env.scope x) (hd : (x == ("__debug__" : Str)) = false) (hcd : (x == ("__classdict__" : Str)) = false) (hv : PEd X Z e f)
    (hbase : attributeBase (.Name x p) "append" X.env (eval (.Name x p) X.env) = eval (.Name x p) X.env)
    (hfew : ((backTo p2 (starEach (e :: []) X.env)).all (fun x => !x.1) && (backToKw p2 (keywordEach [] X.env)).all (fun x => x.1.isSome)
      && decide ((e :: ([] : List Expr)).length + ([] : List Keyword).length + (if ([] : List Keyword).isEmpty then 0 else 1) < 30)) = true) {apos : Pos}
    (hline : (apos.endLine == p2.line) = true) (hs : starEach (e :: []) X.env = (false, eval e X.env) :: starEach [] X.env)
    (hsw : swapsWith (.Call (.Attribute (.Name x p) "append" apos) [e] [] p2) none pos.line X.env = pure false) :
    PSd X Z (.Expr (.Call (.Attribute (.Name x p) "append" apos) [e] [] p2) pos) (fun ρ => if hasLst ρ i = true then (f ρ).sb fun sv ρ1 => modS i (fun d => pushAt d sv.d) ρ1 else .stuck) := by
  refine PS.weak (ps_expr (pe_bm PySem.F.plainAttrs_list PySem.F.slot_list_append PySem.F.type_list_append mt_append (pe_var hN hvs hd hcd) (pa_cons hv pa_nil hs) hbase hfew hline hs rfl) hsw) ?_
  rintro De σ H ⟨F, ρ, ok, h⟩
  dsimp only at h
  split at h
  · rename_i hl
    have ex : ∃ a ds, σ[i]? = some (some (.ref a)) ∧ OwnAt X.K Z.fa H F a (.lst ds) := by
      unfold hasLst at hl
      split at hl
      · rename_i ds e1
        obtain ⟨o, e2, a, rfl, nf, ow⟩ := ok.slot i _ e1
        exact ⟨a, ds, e2, ow⟩
      · rename_i ds e1
        obtain ⟨o, e2, a, rfl, nf, ow⟩ := ok.slot i _ e1
        exact ⟨a, ds, e2, ow⟩
      · cases hl
    obtain ⟨a, ds, e0, ow⟩ := ex
    refine ⟨_, e0, ?_, F, ρ, ok, (PostS.sbF h).imp ?_⟩
    · cases ow with
      | lst hq rl => exact .inl ⟨rfl, _, .inl (.inl hq)⟩
    · rintro v H1 ⟨sv, F1, ρ1, ok1, st, r, h1⟩
      obtain ⟨a', d, d', e3, eg, ow', nf, q⟩ := modS_ok ok1 h1
      rw [e0] at e3
      cases e3
      cases ow' with
      | lst hq rl =>
        unfold pushAt at eg
        dsimp only at eg
        split at eg
        · rename_i hz
          cases eg
          refine ⟨a, _, v, rfl, rfl, hq, by rw [rl.length, z24]; exact hz, q _ ?_⟩
          exact .lst upd_same ((rl.snoc r).stays (stays_upd (.lst hq rl) nf))
        · cases eg
      | dK _ _ => cases eg
      | dT _ _ => cases eg
  · exact h.elim
end
end DL

namespace DL
open PySem PySem.Spec PyProof.Rows L2
variable [TB]

section
variable {K : PySem.W.Frag} {fa : Nat → Option Addr} {EX : ExR} {H : Hp} {F : AP'}
theorem RepSs.length : ∀ {vs : List V} {svs : List SV}, RepSs K fa H F vs svs → vs.length = svs.length
  | _, _, .nil => rfl
  | _, _, .cons _ r => by rw [List.length_cons, List.length_cons, RepSs.length r]
theorem RepSs.get : ∀ {vs : List V} {svs : List SV} {i : Nat} {sv : SV}, RepSs K fa H F vs svs → svs[i]? = some sv → ∃ v, vs[i]? = some v ∧ RepS K fa H F v sv
  | _, _, _, _, .nil, h => by simp at h
  | _, _, 0, _, .cons h _, e => by simp at e; subst e; exact ⟨_, rfl, h⟩
  | _, _, i + 1, _, .cons _ r, e => by
    obtain ⟨v, h1, h2⟩ := RepSs.get (i := i) r (by simpa using e)
    exact ⟨v, by simpa using h1, h2⟩
def env0 (svs : List SV) (m : Nat) : Env' := svs.map some ++ List.replicate m none
theorem env0_get {svs : List SV} {m i : Nat} {sv : SV} (h : (env0 svs m)[i]? = some (some sv)) : svs[i]? = some sv := by
  unfold env0 at h
  by_cases hi : i < svs.length
  · rw [List.getElem?_append_left (by simpa using hi), List.getElem?_map] at h
    cases e : svs[i]? with
    | none => rw [e] at h; cases h
    | some a => rw [e] at h; cases h; rfl
  · rw [List.getElem?_append_right (by simpa using hi), List.getElem?_replicate] at h
    split at h <;> cases h
theorem start_get {N : List Str} {vs : List V} {i : Nat} {v : V} (h : vs[i]? = some v) : (start N vs)[i]? = some (some v) := by
  unfold L2.start
  rw [List.getElem?_append_left (by simpa using get_lt h), List.getElem?_map, h]; rfl
theorem start_get' {N : List Str} {vs : List V} {i : Nat} {v : V} (h : (start N vs)[i]? = some (some v)) : vs[i]? = some v := by
  unfold L2.start at h
  by_cases hi : i < vs.length
  · rw [List.getElem?_append_left (by simpa using hi), List.getElem?_map] at h
    cases e : vs[i]? with
    | none => rw [e] at h; cases h
    | some a => rw [e] at h; cases h; rfl
  · rw [List.getElem?_append_right (by simpa using hi), List.getElem?_replicate] at h
    split at h <;> cases h
theorem args_mine {svs : List SV} {i : Nat} {sv : SV} (a : ArgsOk svs) (h : svs[i]? = some sv) (m : sv.mine = true) : i = 0 ∧ sv.lent = true := by
  cases svs with
  | nil => simp at h
  | cons s ss =>
    obtain ⟨a1, a2⟩ := a
    cases i with
    | zero =>
      simp at h; subst h
      cases s with
      | dat _ => cases m
      | own d => exact absurd rfl (a1 d)
      | bor d => exact ⟨rfl, rfl⟩
    | succ i =>
      have := a2 sv (List.mem_of_getElem? (by simpa using h))
      obtain ⟨d, rfl⟩ := this
      cases m
theorem own_lent {N : List Str} {vs : List V} {svs : List SV} {m : Nat} (r : RepSs K fa H F vs svs) (a : ArgsOk svs) (x : Addr) : (Own (start N vs) (env0 svs m) x → lentA vs svs x) ∧ (lentA vs svs x → Bor (start N vs) (env0 svs m) x) := by
  refine ⟨fun ⟨i, sv, h1, h2, h3⟩ => ?_, fun h => ?_⟩
  · have e1 := env0_get h1
    have e3 := start_get' h3
    obtain ⟨rfl, l⟩ := args_mine a e1 h2
    cases r with
    | nil => simp at e1
    | @cons v vs0 s ss r0 rr =>
      have e1' : s = sv := by simpa using e1
      have e3' : v = .ref x := by simpa using e3
      rw [← e1'] at l
      cases s with
      | dat _ => cases l
      | own _ => cases l
      | bor _ => exact e3'
  · cases r with
    | nil => exact h.elim
    | cons r0 rr =>
      rename_i v vs sv svs
      cases sv with
      | dat _ => exact h.elim
      | own _ => exact h.elim
      | bor d =>
        cases (show v = .ref x from h)
        exact ⟨0, .bor d, rfl, rfl, rfl⟩
theorem bor_own {σ : L2.St} {ρ : Env'} {x : Addr} (h : Bor σ ρ x) : Own σ ρ x := by
  obtain ⟨i, sv, h1, h2, h3⟩ := h
  exact ⟨i, sv, h1, (by cases sv <;> first | rfl | cases h2), h3⟩
theorem env0_ok {N : List Str} {vs : List V} {svs : List SV} (r : RepSs K fa H F vs svs) (a : ArgsOk svs) (fd : ∀ a, F a → H a ≠ none) (tb : Tbs H) : EnvOk K fa H F (start N vs) (env0 svs (N.length - svs.length)) := by
  refine ⟨?_, fun i sv h => ?_, fun i j sv sw x h1 h2 m1 m2 _ _ => ?_, fd, tb⟩
  · unfold L2.start env0
    simp [r.length]
  · obtain ⟨v, h1, h2⟩ := r.get (env0_get h)
    exact ⟨v, start_get h1, h2⟩
  · rw [(args_mine a (env0_get h1) m1).1, (args_mine a (env0_get h2) m2).1]
theorem isLent_iff {svs : List SV} : isLent svs = true ↔ ∃ d r, svs = .bor d :: r := by
  constructor
  · intro h
    unfold isLent at h
    split at h
    · exact ⟨_, _, rfl⟩
    · cases h
  · rintro ⟨d, r, rfl⟩; rfl
/-- a body's end as the def's -/
theorem fin_ok {Z : Fix} {E : XK} {Q : VK} {N : List Str} {vs : List V} {svs : List SV} {r : SRes} (hZ : Z = ⟨fa, EX, fun cls d _ H => E cls d H⟩) (rr : RepSs K fa H F vs svs) (a : ArgsOk svs)
    (h : PostF K fa EX H F vs svs (finF (isLent svs) r) Q E) : PostS K Z (start N vs) H F (env0 svs (N.length - svs.length)) r { nx := fun _ H' => Q .non H', rt := Q } := by
  subst hZ
  have toStep : ∀ {H' F' σ' ρ'}, StepE H F (start N vs) (env0 svs (N.length - svs.length)) H' F' σ' ρ' → Step H F (lentA vs svs) (lentA vs svs) H' F' (lentA vs svs) (lentA vs svs) := fun {H' F' σ' ρ'} s =>
    ⟨fun x o e no nt => s.keep x o e (fun z => no ((own_lent rr a x).1 z)) nt, s.fmono, fun x f => by
      rcases s.fnew x f with z | z | ⟨z1, z2⟩
      · exact .inl z
      · exact .inr (.inl z)
      · exact absurd ((own_lent rr a x).2 ((own_lent rr a x).1 z1)) z2, fun x h => .inl h, fun x => Iff.rfl, s.dom, s.tabs⟩
  -- the end with what is handed back
  have fin : ∀ {ρ' : Env'} {g : Option D → FRes}, PostF K fa EX H F vs svs (endF (isLent svs) ρ' g) Q E → ∃ b, PostF K fa EX H F vs svs (g b) Q E ∧ ∀ H' F' σ', StepE H F (start N vs) (env0 svs (N.length - svs.length)) H' F' σ' ρ' → EnvOk K fa H' F' σ' ρ' → Back K fa vs svs b H' F' := fun {ρ' g} h => by
    unfold endF at h
    split at h
    · rename_i hl
      obtain ⟨d0, rest, rfl⟩ := isLent_iff.mp hl
      split at h
      · rename_i d hb
        refine ⟨some d, h, fun H' F' σ' s ok => ?_⟩
        unfold backOf at hb
        split at hb
        · rename_i d' ρr
          cases hb
          cases rr with
          | cons r0 rr' =>
            rename_i v vs'
            obtain ⟨w, e1, x, rfl, nf, ow⟩ := ok.slot 0 (.bor d) rfl
            have hbx : Bor σ' (some (.bor d) :: ρr) x := ⟨0, .bor d, rfl, rfl, e1⟩
            have := (own_lent (N := N) (m := N.length - (SV.bor d0 :: rest).length) (.cons r0 rr') a x).1 (bor_own ((s.bor x).mp hbx))
            exact ⟨x, this, nf, ow⟩
        · cases hb
      · exact h.elim
    · rename_i hl
      refine ⟨none, h, fun H' F' σ' s ok => ?_⟩
      cases svs with
      | nil => cases vs <;> trivial
      | cons sv svs =>
        cases sv with
        | dat _ => cases vs <;> trivial
        | own d => exact absurd rfl (a.1 d)
        | bor _ => exact absurd rfl hl
  cases r with
  | nx ρ' =>
    obtain ⟨b, h1, h2⟩ := fin h
    exact fun σ' H' F' s ok => h1 .non H' F' (toStep s) ok.fd .non (fun m => by cases m) (h2 H' F' σ' s ok)
  | rt sv ρ' =>
    obtain ⟨b, h1, h2⟩ := fin h
    refine fun v σ' H' F' s ok q => h1 v H' F' (toStep s) ok.fd q.1 (fun m => ?_) (h2 H' F' σ' s ok)
    cases sv with
    | dat _ => cases m
    | own d =>
      obtain ⟨x, e, nb, o⟩ := q.2
      refine ⟨d, x, rfl, e, ?_⟩
      rcases o with o | o
      · rcases s.onew x o with z | z
        · exact absurd ((s.bor x).mpr ((own_lent rr a x).2 ((own_lent rr a x).1 z))) nb
        · exact z
      · exact o
    | bor _ => exact q.2.elim
  | exc x ρ' =>
    obtain ⟨b, h1, h2⟩ := fin h
    exact fun cls d σ' H' F' s ok q => h1 cls d H' F' (toStep s) ok.fd (h2 H' F' σ' s ok) q
  | bk ρ' => exact h.elim
  | ct ρ' => exact h.elim
  | stuck => exact h.elim
end
section
variable {P : Program} {w : World} {K : PySem.W.Frag} {mg : Str → Option Value} {base : Heap} {fa : Nat → Option Addr} {EX : ExR}
theorem fn_ok {x qual : Str} {st : Stmt} {f : Addr} {fd : FuncData} {N ps : List Str} {k n j r : Nat} {defs : Nat → Option Fd} {gv : Nat → Option D} {dj : Fd} (F : L2.FunD K x qual (defArgs st) (defBody st) (defScope st) [] [] f fd) (S : FnScope N ps (defScope st)) (hj : defs j = some dj) (hp : dj.np = ps.length) (hl : dj.nl = N.length)
    (hbody : ∀ (cdv : Value), (∃ oc od osl, K.lookup f = some ⟨oc, od, .func fd, osl⟩ ∧ fd.code = cdv) → PySem.W.codeIn K cdv qual = true → ∀ (A : Around) (outer : List Env) (s : Shared) (H : Hp) (E : XK), Room r (A.deeper (envOfC qual (defScope st) s.heap.objs.size f cdv)) →
      PSsd (cxOf (L2N.CX P w) P w K mg base N qual (defScope st) f cdv A outer s H E) ⟨fa, EX, fun cls d _ H => E cls d H⟩ (defBody st) (exSs ⟨semK defs gv n k, fun i => match defs i with
          | some g => g.lend
          | none => false, gv⟩ n dj.body)) : FnOk P w K mg base (L2N.CX P w) (r + 1) f fd ps (spF K fa EX (semK defs gv n (k + 1) j)) := by
  have unf : ∀ {vs H Q E}, spF K fa EX (semK defs gv n (k + 1) j) vs H Q E → ∃ F svs, ((∀ a, F a → H a ≠ none) ∧ Tbs H) ∧ RepSs K fa H F vs svs ∧ ArgsOk svs ∧ svs.length = ps.length ∧ PostF K fa EX H F vs svs (finF (isLent svs) (exSs ⟨semK defs gv n k, fun i => match defs i with
          | some g => g.lend
          | none => false, gv⟩ n dj.body (env0 svs (N.length - svs.length)))) Q E := by
    rintro vs H Q E ⟨F, svs, fd, rr, a, h⟩
    unfold semK at h
    rw [hj] at h
    dsimp only at h
    split at h
    · rename_i hc
      refine ⟨F, svs, fd, rr, a, hc.1.trans hp, ?_⟩
      rw [← hl, hc.2, hc.1]
      exact h
    · exact h.elim
  obtain ⟨oc, od, dV, kV, doc, pm, an, cdv, ct, osl, rfl, lk, hcd, _, _⟩ := F.ex
  refine fn_of lk hcd S (fun vs H Q E h => ?_) fun A outer s H vs Q E hr h => ?_
  · obtain ⟨F, svs, fd, rr, a, e, _⟩ := unf h
    rw [rr.length, e]
  · obtain ⟨F, svs, fd, rr, a, e, h⟩ := unf h
    exact ⟨_, hbody cdv ⟨_, _, _, lk, rfl⟩ hcd A outer s H E hr, F, _, env0_ok rr a fd.1 fd.2, fin_ok rfl rr a h⟩
end
end DL

namespace DL
open PySem PySem.Spec PyProof.Rows L2
variable [TB]

/-! ### slots of a comprehension's own -/
theorem wipeR_len {ρ : Env'} : ∀ {vs : List Nat}, (wipeR ρ vs).length = ρ.length
  | [] => rfl
  | v :: vs => by unfold wipeR; rw [List.length_set, wipeR_len]
theorem wipeR_out {ρ : Env'} {i : Nat} : ∀ {vs : List Nat}, i ∉ vs → (wipeR ρ vs)[i]? = ρ[i]?
  | [], _ => rfl
  | v :: vs, h => by
    have h1 : v ≠ i := fun e => h (by rw [e]; exact List.mem_cons_self)
    unfold wipeR
    rw [List.getElem?_set_ne h1]
    exact wipeR_out fun m => h (List.mem_cons_of_mem _ m)
theorem wipeR_some {ρ : Env'} {i : Nat} {x : SV} : ∀ {vs : List Nat}, (wipeR ρ vs)[i]? = some (some x) → ρ[i]? = some (some x) ∧ i ∉ vs
  | [], h => ⟨h, by simp⟩
  | v :: vs, h => by
    unfold wipeR at h
    rcases set_get h with ⟨_, z⟩ | ⟨ne, h⟩
    · cases z
    · obtain ⟨h1, h2⟩ := wipeR_some h
      exact ⟨h1, by simp only [List.mem_cons, not_or]; exact ⟨fun e => ne e.symm, h2⟩⟩
theorem wipe_in {σ : L2.St} {i : Nat} : ∀ {vs : List Nat}, i ∈ vs → i < σ.length → (wipe σ vs)[i]? = some none
  | v :: vs, h, hl => by
    unfold wipe
    by_cases e : v = i
    · subst e
      rw [List.getElem?_set_self (by rw [wipe_length]; exact hl)]
    · rw [List.getElem?_set_ne e]
      rcases List.mem_cons.mp h with z | z
      · exact absurd z.symm e
      · exact wipe_in z hl
theorem wipe_keep {σ σ' : L2.St} {ws vs : List Nat} (h : KeepT ws σ σ') (hs : ∀ i ∈ ws, i ∈ vs) : wipe σ' vs = wipe σ vs := by
  apply List.ext_getElem?
  intro i
  by_cases m : i ∈ vs
  · by_cases hl : i < σ.length
    · rw [wipe_in m hl, wipe_in m (by rw [h.1]; exact hl)]
    · rw [List.getElem?_eq_none (by rw [wipe_length, h.1]; omega), List.getElem?_eq_none (by rw [wipe_length]; omega)]
  · rw [wipe_out m, wipe_out m]
    exact h.2 i fun z => m (hs i z)
theorem wipe_wipe {σ : L2.St} {ws vs : List Nat} (hs : ∀ i ∈ ws, i ∈ vs) : wipe (wipe σ ws) vs = wipe σ vs :=
  wipe_keep ⟨wipe_length _ _, fun i h => wipe_out h⟩ hs
theorem backR_len {ρ0 ρ : Env'} : ∀ {vs : List Nat}, (backR ρ0 ρ vs).length = ρ.length
  | [] => rfl
  | v :: vs => by unfold backR; rw [List.length_set, backR_len]
theorem backR_out {ρ0 ρ : Env'} {i : Nat} : ∀ {vs : List Nat}, i ∉ vs → (backR ρ0 ρ vs)[i]? = ρ[i]?
  | [], _ => rfl
  | v :: vs, h => by
    have h1 : v ≠ i := fun e => h (by rw [e]; exact List.mem_cons_self)
    unfold backR
    rw [List.getElem?_set_ne h1]
    exact backR_out fun m => h (List.mem_cons_of_mem _ m)
theorem backR_in {ρ0 ρ : Env'} {i : Nat} : ∀ {vs : List Nat}, i ∈ vs → i < ρ.length → (backR ρ0 ρ vs)[i]? = some ((ρ0[i]?).getD none)
  | v :: vs, h, hl => by
    unfold backR
    by_cases e : v = i
    · subst e
      rw [List.getElem?_set_self (by rw [backR_len]; exact hl)]
    · rw [List.getElem?_set_ne e]
      rcases List.mem_cons.mp h with z | z
      · exact absurd z.symm e
      · exact backR_in z hl
theorem tame_at {ρ : Env'} {vs : List Nat} (t : tame ρ vs = true) {i : Nat} (hi : i ∈ vs) {sv : SV} (e : ρ[i]? = some (some sv)) : sv.mine = false ∧ sv.lent = false := by
  unfold tame at t
  have h := List.all_eq_true.mp t i hi
  rw [e] at h
  cases sv with
  | dat _ => exact ⟨rfl, rfl⟩
  | own _ => cases h
  | bor _ => cases h
section
variable {K : PySem.W.Frag} {fa : Nat → Option Addr} {H H' H1 Hs : Hp} {F F' F1 Fs O B O' B' O1 B1 O2 B2 : AP'} {σ σ' : L2.St} {ρ ρ' ρ1 : Env'} {vs : List Nat} {a : Addr}
theorem EnvOk.wiped (ok : EnvOk K fa H F σ ρ) (vs : List Nat) : EnvOk K fa H F (wipe σ vs) (wipeR ρ vs) := by
  refine ⟨by rw [wipe_length, wipeR_len]; exact ok.len, fun i sv e => ?_, fun i j sv sw a h1 h2 m1 m2 s1 s2 => ?_, ok.fd, ok.tb⟩
  · obtain ⟨e1, ni⟩ := wipeR_some e
    obtain ⟨v, q1, q2⟩ := ok.slot i sv e1
    exact ⟨v, by rw [wipe_out ni]; exact q1, q2⟩
  · exact ok.apart i j sv sw a (wipeR_some h1).1 (wipeR_some h2).1 m1 m2 (wipe_some s1).1 (wipe_some s2).1
theorem own_wipe (h : Own (wipe σ vs) (wipeR ρ vs) a) : Own σ ρ a := by
  obtain ⟨i, sv, h1, h2, h3⟩ := h
  exact ⟨i, sv, (wipeR_some h1).1, h2, (wipe_some h3).1⟩
theorem bor_wipe (h : Bor (wipe σ vs) (wipeR ρ vs) a) : Bor σ ρ a := by
  obtain ⟨i, sv, h1, h2, h3⟩ := h
  exact ⟨i, sv, (wipeR_some h1).1, h2, (wipe_some h3).1⟩
theorem own_unwipe (t : tame ρ vs = true) (h : Own σ ρ a) : Own (wipe σ vs) (wipeR ρ vs) a := by
  obtain ⟨i, sv, h1, h2, h3⟩ := h
  have ni : i ∉ vs := fun z => by rw [(tame_at t z h1).1] at h2; cases h2
  exact ⟨i, sv, by rw [wipeR_out ni]; exact h1, h2, by rw [wipe_out ni]; exact h3⟩
theorem bor_unwipe (t : tame ρ vs = true) (h : Bor σ ρ a) : Bor (wipe σ vs) (wipeR ρ vs) a := by
  obtain ⟨i, sv, h1, h2, h3⟩ := h
  have ni : i ∉ vs := fun z => by rw [(tame_at t z h1).2] at h2; cases h2
  exact ⟨i, sv, by rw [wipeR_out ni]; exact h1, h2, by rw [wipe_out ni]; exact h3⟩
theorem Step.congr (s : Step H F O B H' F' O' B') (a : ∀ x, O x ↔ O1 x) (b : ∀ x, B x ↔ B1 x) (c : ∀ x, O' x ↔ O2 x) (d : ∀ x, B' x ↔ B2 x) : Step H F O1 B1 H' F' O2 B2 := by
  obtain rfl : O = O1 := funext fun x => propext (a x)
  obtain rfl : B = B1 := funext fun x => propext (b x)
  obtain rfl : O' = O2 := funext fun x => propext (c x)
  obtain rfl : B' = B2 := funext fun x => propext (d x)
  exact s
theorem EnvOk.back (ok1 : EnvOk K fa H1 F1 σ ρ1) (t : tame ρ1 vs = true) (st : Stays H1 F1 H F) (ok : EnvOk K fa H F (wipe σ vs) ρ) : EnvOk K fa H F σ (backR ρ1 ρ vs) := by
  have ln : σ.length = ρ.length := by rw [← ok.len, wipe_length]
  have get : ∀ {i : Nat} {sv : SV}, (backR ρ1 ρ vs)[i]? = some (some sv) → (i ∈ vs ∧ ρ1[i]? = some (some sv)) ∨ (i ∉ vs ∧ ρ[i]? = some (some sv)) := fun {i sv} e => by
    by_cases m : i ∈ vs
    · refine .inl ⟨m, ?_⟩
      have hl := get_lt e
      rw [backR_len] at hl
      rw [backR_in m hl] at e
      cases h : ρ1[i]? with
      | none => rw [h] at e; cases e
      | some x => rw [h] at e; cases x <;> cases e; rfl
    · rw [backR_out m] at e
      exact .inr ⟨m, e⟩
  refine ⟨by rw [backR_len]; exact ln, fun i sv e => ?_, fun i j sv sw a h1 h2 m1 m2 s1 s2 => ?_, ok.fd, ok.tb⟩
  · rcases get e with ⟨m, e1⟩ | ⟨m, e1⟩
    · obtain ⟨v, q1, q2⟩ := ok1.slot i sv e1
      refine ⟨v, q1, ?_⟩
      have := (tame_at t m e1).1
      cases sv with
      | dat d => exact Rep.stays st q2
      | own _ => cases this
      | bor _ => cases this
    · obtain ⟨v, q1, q2⟩ := ok.slot i sv e1
      exact ⟨v, by rw [wipe_out m] at q1; exact q1, q2⟩
  · rcases get h1 with ⟨m, e1⟩ | ⟨n1, e1⟩
    · rw [(tame_at t m e1).1] at m1; cases m1
    · rcases get h2 with ⟨m, e2⟩ | ⟨n2, e2⟩
      · rw [(tame_at t m e2).1] at m2; cases m2
      · exact ok.apart i j sv sw a e1 e2 m1 m2 (by rw [wipe_out n1]; exact s1) (by rw [wipe_out n2]; exact s2)
theorem slot_back (t : tame ρ1 vs = true) {P : SV → Bool} (hP : ∀ d, P (.dat d) = false) : (∃ (i : Nat) (sv : SV), (backR ρ1 ρ vs)[i]? = some (some sv) ∧ P sv = true ∧ σ[i]? = some (some (.ref a))) ↔ ∃ (i : Nat) (sv : SV), ρ[i]? = some (some sv) ∧ P sv = true ∧ (wipe σ vs)[i]? = some (some (.ref a)) := by
  constructor
  · rintro ⟨i, sv, h1, h2, h3⟩
    by_cases m : i ∈ vs
    · have hl := get_lt h1
      rw [backR_len] at hl
      rw [backR_in m hl] at h1
      cases h : ρ1[i]? with
      | none => rw [h] at h1; cases h1
      | some x =>
        rw [h] at h1
        cases x with
        | none => cases h1
        | some sw =>
          cases h1
          have := (tame_at t m h).1
          cases sv with
          | dat d => rw [hP] at h2; cases h2
          | own _ => cases this
          | bor _ => cases this
    · rw [backR_out m] at h1
      exact ⟨i, sv, h1, h2, by rw [wipe_out m]; exact h3⟩
  · rintro ⟨i, sv, h1, h2, h3⟩
    obtain ⟨q, m⟩ := wipe_some h3
    exact ⟨i, sv, by rw [backR_out m]; exact h1, h2, q⟩
theorem own_back (t : tame ρ1 vs = true) : Own σ (backR ρ1 ρ vs) a ↔ Own (wipe σ vs) ρ a := slot_back (P := SV.mine) t fun _ => rfl
theorem bor_back (t : tame ρ1 vs = true) : Bor σ (backR ρ1 ρ vs) a ↔ Bor (wipe σ vs) ρ a := slot_back (P := SV.lent) t fun _ => rfl

/-- within a comprehension: its new list at A holds acc -/
structure CAt (K : PySem.W.Frag) (fa : Nat → Option Addr) (A : Addr) (H1 : Hp) (F1 O1 B1 : AP') (Hs : Hp) (Fs : AP') (H : Hp) (F : AP') (σ : L2.St) (ρ : Env') (acc : List D) : Prop where
  ok : EnvOk K fa H F σ ρ
  st : Step H1 F1 O1 B1 H F (Own σ ρ) (Bor σ ρ)
  sy : Stays Hs Fs H F
  new : H1 A = none
  lst : ∃ xs, H A = some (.lst xs) ∧ RepL K fa H F xs acc
  nF : ¬ F A
  nO : ¬ Own σ ρ A
variable {A : Addr} {acc : List D}
theorem CAt.step (c : CAt K fa A H1 F1 O1 B1 Hs Fs H F σ ρ acc) (s : Step H F (Own σ ρ) (Bor σ ρ) H' F' (Own σ' ρ') (Bor σ' ρ')) (ok' : EnvOk K fa H' F' σ' ρ') : CAt K fa A H1 F1 O1 B1 Hs Fs H' F' σ' ρ' acc := by
  obtain ⟨xs, e, r⟩ := c.lst
  refine ⟨ok', c.st.trans s, c.sy.trans (s.stays c.ok), c.new, ⟨xs, (s.keep A _ e c.nO (fun _ z => by cases z)).resolve_right fun z => z.2.1, r.stays (s.stays c.ok)⟩, fun z => ?_, fun z => ?_⟩
  · rcases s.fnew A z with z | z | ⟨z, _⟩
    · exact c.nF z
    · rw [e] at z; cases z
    · exact c.nO z
  · rcases s.onew A z with z | z
    · exact c.nO z
    · rw [e] at z; cases z
theorem CAt.wiped (c : CAt K fa A H1 F1 O1 B1 Hs Fs H F σ ρ acc) (t : tame ρ vs = true) : CAt K fa A H1 F1 O1 B1 Hs Fs H F (wipe σ vs) (wipeR ρ vs) acc :=
  c.step ((Step.refl (H := H) (F := F) (O := Own σ ρ) (B := Bor σ ρ)).congr (fun _ => Iff.rfl) (fun _ => Iff.rfl) (fun _ => ⟨own_unwipe t, own_wipe⟩) fun _ => ⟨bor_unwipe t, bor_wipe⟩) (c.ok.wiped vs)
theorem CAt.grow (c : CAt K fa A H1 F1 O1 B1 Hs Fs H F σ ρ acc) (g : Grow H F H' F') : CAt K fa A H1 F1 O1 B1 Hs Fs H' F' σ ρ acc := c.step g.step (c.ok.grow g)
theorem CAt.push (c : CAt K fa A H1 F1 O1 B1 Hs Fs H F σ ρ acc) {xs : List V} (e : H A = some (.lst xs)) {y : V} {d : D} (r : Rep K fa H F y d) : CAt K fa A H1 F1 O1 B1 Hs Fs (upd H A (.lst (xs ++ [y]))) F σ ρ (acc ++ [d]) := by
  obtain ⟨xs', e', rl⟩ := c.lst
  rw [e] at e'; cases e'
  have sta : Stays H F (upd H A (.lst (xs ++ [y]))) F := stays_upd (OwnAt.lst (K := K) (fa := fa) e rl) c.nF
  have tbu : Tbs (upd H A (.lst (xs ++ [y]))) := tabs_upd c.ok.tb e (fun _ z => by cases z) (fun _ z => by unfold LamX.CodeO at z; cases z)
  refine ⟨⟨c.ok.len, fun i sv e2 => ?_, c.ok.apart, fun b f => ?_, tbu⟩, ⟨fun b o hb no nt => ?_, c.st.fmono, c.st.fnew, c.st.onew, c.st.bor, fun b hb => ?_, fun _ => tbu⟩, c.sy.trans sta, c.new, ⟨_, upd_same, (rl.snoc r).stays sta⟩, c.nF, c.nO⟩
  · obtain ⟨v, q1, q2⟩ := c.ok.slot i sv e2
    refine ⟨v, q1, ?_⟩
    have far : ∀ b d', v = .ref b → sv.mine = true → OwnAt K fa H F b d' → OwnAt K fa (upd H A (.lst (xs ++ [y]))) F b d' := fun b d' ev m q =>
      q.stays (upd_ne fun z => c.nO ⟨i, sv, e2, m, by rw [q1, ev, z]⟩) sta
    cases sv with
    | dat d' => exact Rep.stays sta q2
    | own d' => obtain ⟨b, ev, nf, q⟩ := q2; exact ⟨b, ev, nf, far b d' ev rfl q⟩
    | bor d' => obtain ⟨b, ev, nf, q⟩ := q2; exact ⟨b, ev, nf, far b d' ev rfl q⟩
  · by_cases z : b = A
    · subst z; rw [upd_same]; exact fun q => nomatch q
    · rw [upd_ne z]; exact c.ok.fd b f
  · have ne : b ≠ A := by intro z; subst z; rw [c.new] at hb; cases hb
    rw [upd_ne ne]; exact c.st.keep b o hb no nt
  · by_cases z : b = A
    · subst z; rw [upd_same] at hb; cases hb
    · rw [upd_ne z] at hb; exact c.st.dom b hb
theorem CAt.rebase (c : CAt K fa A H1 F1 O1 B1 Hs Fs H F σ ρ acc) {Hr : Hp} {Fr : AP'} (s : Stays Hr Fr H F) : CAt K fa A H1 F1 O1 B1 Hr Fr H F σ ρ acc := ⟨c.ok, c.st, s, c.new, c.lst, c.nF, c.nO⟩

/-- a walk's turns, by what is left -/
theorem walk_lc {J : L2.It} {items : List D} {H0 : Hp} {F0 : AP'} (w : WalkD K fa J items Hs Fs) (P : List D → Hp → AP' → Prop) (hP : ∀ ds H F, P ds H F → Stays Hs Fs H F ∧ ∀ a, F a → H a ≠ none) (h0 : P items H0 F0) (Stop : Hp → Prop) (Turn : V → Hp → (Hp → Prop) → Prop)
    (hstop : ∀ H F, P [] H F → Stop H) (hturn : ∀ d ds H F x H', P (d :: ds) H F → Made K fa H F (.dat d) x H' → Turn x H' fun H2 => ∃ F2, P ds H2 F2) :
    ∃ W : Nat → Nat → Hp → Prop, (∃ m, W 0 m H0) ∧ ∀ i m H, W i m H → (J.stop i H ∧ Stop H) ∨ (J.go i H ∧ ∃ Nx : Hp → Prop, (∀ H', Nx H' → ∃ m', m' < m ∧ W (i + 1) m' H') ∧ ∀ x H', J.yld i H x H' → Turn x H' Nx) := by
  refine ⟨fun i m H => m = items.length - i ∧ i ≤ items.length ∧ ∃ F, P (items.drop i) H F, ⟨_, rfl, Nat.zero_le _, F0, by rw [List.drop_zero]; exact h0⟩, ?_⟩
  rintro i m H ⟨rfl, hi, F, p⟩
  obtain ⟨sy, fd⟩ := hP _ _ _ p
  by_cases hlt : i < items.length
  · refine .inr ⟨w.goes i H F sy hlt, fun H2 => ∃ F2, P (items.drop (i + 1)) H2 F2, fun H' q => ⟨items.length - (i + 1), by omega, rfl, hlt, q⟩, fun x H' y => ?_⟩
    obtain ⟨d, e1, m⟩ := w.yields i H F x H' sy fd hlt y
    have e2 : items.drop i = d :: items.drop (i + 1) := by
      obtain ⟨hh, e3⟩ := List.getElem?_eq_some_iff.mp e1
      rw [List.drop_eq_getElem_cons hh, e3]
    rw [e2] at p
    exact hturn d _ H F x H' p m
  · have e : items.drop i = [] := List.drop_eq_nil_iff.mpr (by omega)
    rw [e] at p
    exact .inl ⟨w.stops i H F sy (by omega), hstop H F p⟩
end

/-- the same, no exception wished -/
def Fix.quiet (Z : Fix) : Fix := { Z with W := fun _ _ _ _ => False }
section
variable {X : Cx} {Z : Fix} {fe : Env' → Res SV} {ft : Env' → Res Bool} {fi fi1 : Env' → Res (List D)} {T T1 : Tg} {vs vs1 : List Nat} {σ : L2.St} {A : Addr} {H1 Hs : Hp} {F1 Fs O1 B1 : AP'} {Fin : Res (List D) → Prop}
theorem lc_turn (hT : ∀ i ∈ T.sl, i ∈ vs) (hF : ¬ Fin .stuck) {d : D} {ds : List D} {H H' : Hp} {F : AP'} {x : V} (p : ∃ ρ acc, CAt X.K Z.fa A H1 F1 O1 B1 Hs Fs H F (wipe σ vs) ρ acc ∧ Fin (lcGo fe ft vs T (d :: ds) acc ρ)) (m : Made X.K Z.fa H F (.dat d) x H') :
    tG X Z.quiet T x (wipe σ vs) H' fun σ2 H2 => wipe σ2 vs = wipe σ vs ∧ tD X Z.quiet RB ft σ2 H2 fun b H3 => if b = true then tD X Z.quiet (RSV X.K Z.quiet) fe σ2 H3 fun y H4 => ∃ xs, H4 A = some (.lst xs) ∧ xs.length < sizeLine ∧ ∃ F2 ρ acc, CAt X.K Z.fa A H1 F1 O1 B1 Hs Fs (upd H4 A (.lst (xs ++ [y]))) F2 (wipe σ vs) ρ acc ∧ Fin (lcGo fe ft vs T ds acc ρ)
      else ∃ F2 ρ acc, CAt X.K Z.fa A H1 F1 O1 B1 Hs Fs H3 F2 (wipe σ vs) ρ acc ∧ Fin (lcGo fe ft vs T ds acc ρ) := by
  obtain ⟨ρ, acc, c, h⟩ := p
  obtain ⟨F2, gr, rx, _⟩ := m
  unfold lcGo at h
  split at h
  · exact (hF h).elim
  · rename_i ρa e
    have c2 := c.grow gr
    refine ⟨F2, ρ, d, ρa, c2.ok, rx, e, fun σ2 ok2 st2 kp => ?_⟩
    have weq : wipe σ2 vs = wipe σ vs := (wipe_keep kp hT).trans (wipe_wipe fun _ z => z)
    have c3 := c2.step st2 ok2
    refine ⟨weq, F2, ρa, ok2, ?_⟩
    cases hf : ft ρa with
    | stuck => rw [hf] at h; exact (hF h).elim
    | exc x ρx => rw [hf] at h; exact (hF h).elim
    | ok b ρb =>
      rw [hf] at h
      dsimp only [Res.bindN] at h
      intro b' H3 F3 st3 ok3 rb
      obtain rfl : b = b' := rb
      have c4 := c3.step st3 ok3
      cases b with
      | false =>
        rw [if_neg Bool.false_ne_true] at h ⊢
        split at h
        · rename_i t
          have c5 := c4.wiped t
          rw [weq] at c5
          exact ⟨F3, _, _, c5, h⟩
        · exact (hF h).elim
      | true =>
        rw [if_pos rfl] at h ⊢
        refine ⟨F3, ρb, ok3, ?_⟩
        cases hg : fe ρb with
        | stuck => rw [hg] at h; exact (hF h).elim
        | exc x ρx => rw [hg] at h; exact (hF h).elim
        | ok sv ρc =>
          rw [hg] at h
          dsimp only [Res.bindN] at h
          intro y H4 F4 st4 ok4 r4
          obtain ⟨F5, ok5, rep, m1, m2⟩ := ResOk.freeze ok4 r4
          have c5 := c4.step (st4.more m1 m2) ok5
          split at h
          · rename_i t
            obtain ⟨xs, e2, rl⟩ := c5.lst
            have c6 := (c5.push e2 rep).wiped t.2
            rw [weq] at c6
            exact ⟨xs, e2, by rw [rl.length, z24]; exact t.1, F5, _, _, c6, h⟩
          · exact (hF h).elim

theorem lc_weak (hT : ∀ i ∈ T.sl, i ∈ vs) {H : Hp} {Q : VK} (h : tD X Z (RSV X.K Z) (lcFin vs fi (lcGo fe ft vs T)) σ H Q) : tLc (tD X Z (RW X.K Z) fi) (tG X Z.quiet T) (tD X Z.quiet RB ft) (tD X Z.quiet (RSV X.K Z.quiet) fe) vs σ H Q := by
  obtain ⟨F, ρ, ok, h⟩ := h
  unfold lcFin at h
  refine ⟨F, ρ, ok, (PostG.bind late_RSV h).imp ?_⟩
  rintro J H1 ⟨items, F1, ρ1, ok1, st1, w, h1⟩
  intro A hA
  split at h1
  · rename_i t
    have gr : Grow H1 F1 (upd H1 A (.lst [])) F1 := Grow.new ok1.fd hA
    have c0 : CAt X.K Z.fa A H1 F1 (Own σ ρ1) (Bor σ ρ1) H1 F1 (upd H1 A (.lst [])) F1 σ ρ1 [] := ⟨ok1.grow gr, gr.step, gr.stays, hA, ⟨[], upd_same, .nil⟩, fun z => ok1.fd A z hA, fun z => by
      obtain ⟨o, e, _⟩ := ok1.own_at z
      rw [hA] at e; cases e⟩
    refine walk_lc w (fun ds H F => ∃ ρ acc, CAt X.K Z.fa A H1 F1 (Own σ ρ1) (Bor σ ρ1) H1 F1 H F (wipe σ vs) ρ acc ∧ (fun r => PostG X.K Z (RSV X.K Z) σ H1 F1 ρ1 (Res.bind (β := SV) r fun acc ρ2 => .ok (.own (.lst acc)) (backR ρ1 ρ2 vs)) Q) (lcGo fe ft vs T ds acc ρ)) (fun ds H F ⟨_, _, c, _⟩ => ⟨c.sy, c.ok.fd⟩) ⟨_, _, c0.wiped t, h1⟩ _ _ (fun H F ⟨ρ, acc, c, h⟩ => ?_) (fun d ds H F x H' p m => lc_turn (X := X) (Z := Z) (Fin := fun r => PostG X.K Z (RSV X.K Z) σ H1 F1 ρ1 (Res.bind (β := SV) r fun acc ρ2 => .ok (.own (.lst acc)) (backR ρ1 ρ2 vs)) Q) hT (fun z => z) p m)
    unfold lcGo at h
    obtain ⟨xs, e, rl⟩ := c.lst
    exact h (.ref A) H F (c.st.congr (fun _ => Iff.rfl) (fun _ => Iff.rfl) (fun _ => (own_back t).symm) fun _ => (bor_back t).symm) (EnvOk.back ok1 t c.sy c.ok) ⟨⟨A, rfl, c.nF, .lst e rl⟩, A, rfl, hA, fun z => c.nO ((own_back t).mp z)⟩
  · exact h1.elim
theorem lc2_weak (hT : ∀ i ∈ T.sl, i ∈ vs) (hT1 : ∀ i ∈ T1.sl, i ∈ vs1) (hv : ∀ i ∈ vs1, i ∈ vs) {H : Hp} {Q : VK} (h : tD X Z (RSV X.K Z) (lcFin vs fi (lcOut vs vs1 T fi1 (lcGo fe ft vs1 T1))) σ H Q) :
    tLc2 (tD X Z (RW X.K Z) fi) (tG X Z.quiet T) tYes (tD X Z.quiet (RW X.K Z.quiet) fi1) (tG X Z.quiet T1) (tD X Z.quiet RB ft) (tD X Z.quiet (RSV X.K Z.quiet) fe) vs vs1 σ H Q := by
  obtain ⟨F, ρ, ok, h⟩ := h
  unfold lcFin at h
  refine ⟨F, ρ, ok, (PostG.bind late_RSV h).imp ?_⟩
  rintro J H1 ⟨items, F1, ρ1, ok1, st1, w, h1⟩
  intro A hA
  split at h1
  · rename_i t
    have gr : Grow H1 F1 (upd H1 A (.lst [])) F1 := Grow.new ok1.fd hA
    have c0 : CAt X.K Z.fa A H1 F1 (Own σ ρ1) (Bor σ ρ1) H1 F1 (upd H1 A (.lst [])) F1 σ ρ1 [] := ⟨ok1.grow gr, gr.step, gr.stays, hA, ⟨[], upd_same, .nil⟩, fun z => ok1.fd A z hA, fun z => by
      obtain ⟨o, e, _⟩ := ok1.own_at z
      rw [hA] at e; cases e⟩
    refine walk_lc w (fun ds H F => ∃ ρ acc, CAt X.K Z.fa A H1 F1 (Own σ ρ1) (Bor σ ρ1) H1 F1 H F (wipe σ vs) ρ acc ∧ (fun r => PostG X.K Z (RSV X.K Z) σ H1 F1 ρ1 (Res.bind (β := SV) r fun acc ρ2 => .ok (.own (.lst acc)) (backR ρ1 ρ2 vs)) Q) (lcOut vs vs1 T fi1 (lcGo fe ft vs1 T1) ds acc ρ)) (fun ds H F ⟨_, _, c, _⟩ => ⟨c.sy, c.ok.fd⟩) ⟨_, _, c0.wiped t, h1⟩ _ _ (fun H F ⟨ρ, acc, c, h⟩ => ?_) (fun d ds H F x H' p m => ?_)
    · unfold lcOut at h
      obtain ⟨xs, e, rl⟩ := c.lst
      exact h (.ref A) H F (c.st.congr (fun _ => Iff.rfl) (fun _ => Iff.rfl) (fun _ => (own_back t).symm) fun _ => (bor_back t).symm) (EnvOk.back ok1 t c.sy c.ok) ⟨⟨A, rfl, c.nF, .lst e rl⟩, A, rfl, hA, fun z => c.nO ((own_back t).mp z)⟩
    · obtain ⟨ρ, acc, c, h⟩ := p
      obtain ⟨F2, gr, rx, _⟩ := m
      unfold lcOut at h
      split at h
      · exact h.elim
      · rename_i ρa e
        have c2 := c.grow gr
        refine ⟨F2, ρ, d, ρa, c2.ok, rx, e, fun σ2 ok2 st2 kp => ?_⟩
        have weq : wipe σ2 vs = wipe σ vs := (wipe_keep kp hT).trans (wipe_wipe fun _ z => z)
        have c3 := c2.step st2 ok2
        refine ⟨weq, ?_⟩
        unfold tYes
        refine cast (if_pos (rfl : true = true)).symm ?_
        refine ⟨F2, ρa, ok2, ?_⟩
        cases hf : fi1 ρa with
        | stuck => rw [hf] at h; exact h.elim
        | exc x ρx => rw [hf] at h; exact h.elim
        | ok items1 ρb =>
          rw [hf] at h
          dsimp only [Res.bindN] at h
          intro J1 H4 F4 st4 ok4 w1
          split at h
          · rename_i t1
            have c5 := ((c3.step st4 ok4).wiped t1).rebase (Stays.refl (H := H4) (F := F4))
            refine walk_lc w1 (fun ds1 H F => ∃ ρ acc, CAt X.K Z.fa A H1 F1 (Own σ ρ1) (Bor σ ρ1) H4 F4 H F (wipe σ2 vs1) ρ acc ∧ (fun r => PostG X.K Z (RSV X.K Z) σ H1 F1 ρ1 (Res.bind (β := SV) (Res.bindN (β := List D) r fun acc' ρ3 => if tame ρ3 vs = true then lcOut vs vs1 T fi1 (lcGo fe ft vs1 T1) ds acc' (wipeR ρ3 vs) else .stuck) fun acc ρ2 => .ok (.own (.lst acc)) (backR ρ1 ρ2 vs)) Q) (lcGo fe ft vs1 T1 ds1 acc ρ)) (fun ds H F ⟨_, _, c, _⟩ => ⟨c.sy, c.ok.fd⟩) ⟨_, _, c5, h⟩ _ _ (fun H F ⟨ρ, acc, c, h⟩ => ?_) (fun _ _ _ _ _ _ p m => lc_turn (X := X) (Z := Z) (Fin := fun r => PostG X.K Z (RSV X.K Z) σ H1 F1 ρ1 (Res.bind (β := SV) (Res.bindN (β := List D) r fun acc' ρ3 => if tame ρ3 vs = true then lcOut vs vs1 T fi1 (lcGo fe ft vs1 T1) ds acc' (wipeR ρ3 vs) else .stuck) fun acc ρ2 => .ok (.own (.lst acc)) (backR ρ1 ρ2 vs)) Q) hT1 (fun z => z) p m)
            unfold lcGo at h
            dsimp only [Res.bindN] at h
            split at h
            · rename_i t3
              have c6 := (c.wiped t3).rebase (c.st.stays ok1)
              rw [wipe_wipe hv, weq] at c6
              exact ⟨F, _, _, c6, h⟩
            · exact h.elim
          · exact h.elim
  · exact h1.elim
end
end DL

namespace DL
open PySem PySem.Spec PyProof.Rows L2
variable [TB]

section
variable {X : Cx} {Z : Fix} {fe : Env' → Res SV} {ft : Env' → Res Bool} {fi fi1 : Env' → Res (List D)} {T T1 : Tg} {vs vs1 : List Nat} {elt tg iter tg1 iter1 e : Expr} {ifs : List Expr} {scope : Scope} {own : List (Str × Nat)} {pos p : Pos}
/-! ### comprehensions -/
theorem pd_lc (hc : X.calm = true) (hN : X.N.Nodup) (hi : PId X Z tg iter fi) (ok : BlkOk X.N X.env.scope scope own) (hv : own.map (·.2) = vs) (hT : ∀ i ∈ T.sl, i ∈ vs)
    (hg : ∀ (s : Shared) (H : Hp) (C : Addr) (cl : List (Str × Addr)) (fp : List Addr), PGd (X.blk s H scope (compEnvC scope cl C X.env) fp) Z.quiet tg T)
    (ht : ∀ (s : Shared) (H : Hp) (C : Addr) (cl : List (Str × Addr)) (fp : List Addr), PTs (X.blk s H scope (compEnvC scope cl C X.env) fp) ifs (tD (X.blk s H scope (compEnvC scope cl C X.env) fp) Z.quiet RB ft))
    (he : ∀ (s : Shared) (H : Hp) (C : Addr) (cl : List (Str × Addr)) (fp : List Addr), PEd (X.blk s H scope (compEnvC scope cl C X.env) fp) Z.quiet elt fe) (hs : ∀ x, foldedSetIterable iter X.env x = pure x) :
    PEd X Z (.ListComp elt [⟨tg, iter, ifs, 0⟩] scope pos) (lcFin vs fi (lcGo fe ft vs T)) := by
  subst hv
  exact PE.weak (pe_lc (g := tG X Z.quiet T) (tt := tD X Z.quiet RB ft) (te := tD X Z.quiet (RSV X.K Z.quiet) fe) hc hN hi ok hg ht he hs) fun σ H Q h => lc_weak hT h
theorem pd_lc2 (hc : X.calm = true) (hN : X.N.Nodup) (hi : PId X Z tg iter fi) (ok : BlkOk X.N X.env.scope scope own) (hv : own.map (·.2) = vs) (hT : ∀ i ∈ T.sl, i ∈ vs) (hT1 : ∀ i ∈ T1.sl, i ∈ vs1) (hv1 : ∀ i ∈ vs1, i ∈ vs)
    (hg : ∀ (s : Shared) (H : Hp) (C : Addr) (cl : List (Str × Addr)) (fp : List Addr), PGd (X.blk s H scope (compEnvC scope cl C X.env) fp) Z.quiet tg T)
    (hi1 : ∀ (s : Shared) (H : Hp) (C : Addr) (cl : List (Str × Addr)) (fp : List Addr), PId (X.blk s H scope (compEnvC scope cl C X.env) fp) Z.quiet tg1 iter1 fi1)
    (hg1 : ∀ (s : Shared) (H : Hp) (C : Addr) (cl : List (Str × Addr)) (fp : List Addr), PGd (X.blk s H scope (compEnvC scope cl C X.env) fp) Z.quiet tg1 T1)
    (ht : ∀ (s : Shared) (H : Hp) (C : Addr) (cl : List (Str × Addr)) (fp : List Addr), PTs (X.blk s H scope (compEnvC scope cl C X.env) fp) ifs (tD (X.blk s H scope (compEnvC scope cl C X.env) fp) Z.quiet RB ft))
    (he : ∀ (s : Shared) (H : Hp) (C : Addr) (cl : List (Str × Addr)) (fp : List Addr), PEd (X.blk s H scope (compEnvC scope cl C X.env) fp) Z.quiet elt fe) (hs : ∀ x, foldedSetIterable iter X.env x = pure x) (hs1 : ∀ env x, foldedSetIterable iter1 env x = pure x) :
    PEd X Z (.ListComp elt [⟨tg, iter, [], 0⟩, ⟨tg1, iter1, ifs, 0⟩] scope pos) (lcFin vs fi (lcOut vs vs1 T fi1 (lcGo fe ft vs1 T1))) := by
  subst hv
  exact PE.weak (pe_lc2 (g := tG X Z.quiet T) (tt := tYes) (wi1 := tD X Z.quiet (RW X.K Z.quiet) fi1) (g1 := tG X Z.quiet T1) (tt1 := tD X Z.quiet RB ft) (te := tD X Z.quiet (RSV X.K Z.quiet) fe) hc hN hi ok hv1 hg (fun _ _ _ _ _ => pts_nil) hi1 hg1 ht he hs hs1) fun σ H Q h => lc2_weak hT hT1 hv1 h
theorem set_weak {f : Env' → Res SV} {i : Nat} {σ : L2.St} {H : Hp} {De : Ends} (h : tSd X Z (fun ρ => (f ρ).sb fun sv ρ1 => setS i sv ρ1) De σ H) : tD X Z (RSV X.K Z) f σ H fun x H1 => gName i x σ H1 De.nx := by
  obtain ⟨F, ρ, ok, h⟩ := h
  refine ⟨F, ρ, ok, ?_⟩
  cases hf : f ρ with
  | ok sv ρ' =>
    dsimp only at h
    rw [hf] at h
    exact fun v H' F' s ok r => set_step ok r h s
  | exc x ρ' => dsimp only at h; rw [hf] at h; exact fun cls d H' F' s ok q => h cls d σ H' F' s ok q
  | stuck => dsimp only at h; rw [hf] at h; exact h
theorem psd_lc {i : Nat} {y : Str} {py spos : Pos} (hc : X.calm = true) (hN : X.N.Nodup) (hy : X.N[i]? = some y) (hyl : X.env.scope.names.lookup y = some .local) (hsw : swapsWith (.ListComp elt [⟨tg, iter, ifs, 0⟩] scope pos) (some (.Name y py)) spos.line X.env = pure true) (hi : PId X Z tg iter fi) (ok : BlkOk X.N X.env.scope scope own) (hv : own.map (·.2) = vs) (hT : ∀ i ∈ T.sl, i ∈ vs)
    (hg : ∀ (s : Shared) (H : Hp) (C : Addr) (cl : List (Str × Addr)) (fp : List Addr), PGd (X.blk s H scope (compEnvC scope cl C X.env) fp) Z.quiet tg T)
    (ht : ∀ (s : Shared) (H : Hp) (C : Addr) (cl : List (Str × Addr)) (fp : List Addr), PTs (X.blk s H scope (compEnvC scope cl C X.env) fp) ifs (tD (X.blk s H scope (compEnvC scope cl C X.env) fp) Z.quiet RB ft))
    (he : ∀ (s : Shared) (H : Hp) (C : Addr) (cl : List (Str × Addr)) (fp : List Addr), PEd (X.blk s H scope (compEnvC scope cl C X.env) fp) Z.quiet elt fe) (hs : ∀ x, foldedSetIterable iter X.env x = pure x) :
    PSd X Z (.Assign [.Name y py] (.ListComp elt [⟨tg, iter, ifs, 0⟩] scope pos) spos) (fun ρ => (lcFin vs fi (lcGo fe ft vs T) ρ).sb fun sv ρ1 => setS i sv ρ1) := by
  subst hv
  exact PS.weak (ps_setLc (g := tG X Z.quiet T) (tt := tD X Z.quiet RB ft) (te := tD X Z.quiet (RSV X.K Z.quiet) fe) hc hN hy hyl hsw hi ok hg ht he hs) fun De σ H h => lc_weak hT (set_weak h)
theorem psd_lc2 {i : Nat} {y : Str} {py spos : Pos} (hc : X.calm = true) (hN : X.N.Nodup) (hy : X.N[i]? = some y) (hyl : X.env.scope.names.lookup y = some .local) (hsw : swapsWith (.ListComp elt [⟨tg, iter, [], 0⟩, ⟨tg1, iter1, ifs, 0⟩] scope pos) (some (.Name y py)) spos.line X.env = pure true) (hi : PId X Z tg iter fi) (ok : BlkOk X.N X.env.scope scope own) (hv : own.map (·.2) = vs) (hT : ∀ i ∈ T.sl, i ∈ vs) (hT1 : ∀ i ∈ T1.sl, i ∈ vs1) (hv1 : ∀ i ∈ vs1, i ∈ vs)
    (hg : ∀ (s : Shared) (H : Hp) (C : Addr) (cl : List (Str × Addr)) (fp : List Addr), PGd (X.blk s H scope (compEnvC scope cl C X.env) fp) Z.quiet tg T)
    (hi1 : ∀ (s : Shared) (H : Hp) (C : Addr) (cl : List (Str × Addr)) (fp : List Addr), PId (X.blk s H scope (compEnvC scope cl C X.env) fp) Z.quiet tg1 iter1 fi1)
    (hg1 : ∀ (s : Shared) (H : Hp) (C : Addr) (cl : List (Str × Addr)) (fp : List Addr), PGd (X.blk s H scope (compEnvC scope cl C X.env) fp) Z.quiet tg1 T1)
    (ht : ∀ (s : Shared) (H : Hp) (C : Addr) (cl : List (Str × Addr)) (fp : List Addr), PTs (X.blk s H scope (compEnvC scope cl C X.env) fp) ifs (tD (X.blk s H scope (compEnvC scope cl C X.env) fp) Z.quiet RB ft))
    (he : ∀ (s : Shared) (H : Hp) (C : Addr) (cl : List (Str × Addr)) (fp : List Addr), PEd (X.blk s H scope (compEnvC scope cl C X.env) fp) Z.quiet elt fe) (hs : ∀ x, foldedSetIterable iter X.env x = pure x) (hs1 : ∀ env x, foldedSetIterable iter1 env x = pure x) :
    PSd X Z (.Assign [.Name y py] (.ListComp elt [⟨tg, iter, [], 0⟩, ⟨tg1, iter1, ifs, 0⟩] scope pos) spos) (fun ρ => (lcFin vs fi (lcOut vs vs1 T fi1 (lcGo fe ft vs1 T1)) ρ).sb fun sv ρ1 => setS i sv ρ1) := by
  subst hv
  exact PS.weak (ps_setLc2 (g := tG X Z.quiet T) (tt := tYes) (wi1 := tD X Z.quiet (RW X.K Z.quiet) fi1) (g1 := tG X Z.quiet T1) (tt1 := tD X Z.quiet RB ft) (te := tD X Z.quiet (RSV X.K Z.quiet) fe) hc hN hy hyl hsw hi ok hv1 hg (fun _ _ _ _ _ => pts_nil) hi1 hg1 ht he hs hs1) fun De σ H h => lc2_weak hT hT1 hv1 (set_weak h)
theorem ptsd_nil : PTs X [] (tD X Z RB fun ρ => .ok true ρ) := ⟨fun pins s σ H Q I hw => (pts_nil (X := X)).run pins s σ H Q I (by
  obtain ⟨F, ρ, ok, h⟩ := hw
  exact PostG.test ok h)⟩

/-! ### d.get(k, x) -/
theorem Rep.dicAt {K : PySem.W.Frag} {fa : Nat → Option Addr} {H : Hp} {F : AP'} {v : V} {d : D} (r : RdF K fa H F v d) (e : isDic (some d) = true) : ∃ a, v = .ref a ∧ IsD H a := by
  cases d with
  | dK kds => obtain ⟨a, kvs, rfl, h, _⟩ := r.dK; exact ⟨a, rfl, .inl ⟨_, h⟩⟩
  | dT kds => obtain ⟨a, kvs, rfl, h, _⟩ := r.dT; exact ⟨a, rfl, .inr ⟨_, h⟩⟩
  | _ => cases e
theorem pd_get {a k d : Expr} {apos : Pos} {fa : Env' → Res PV} {fk fd : Env' → Res SV} (hu : X.A.units + 1 < cLine) (ha : POd X Z a fa) (hk : PEd X Z k fk) (hd : PEd X Z d fd) (m : M2 X a "get" apos k d pos) :
    PEd X Z (.Call (.Attribute a "get" apos) [k, d] [] pos) (fun ρ => (fa ρ).bind fun p ρ1 => if isDic (cont ρ1 p) = true then (fk ρ1).bind fun sk ρ2 => (fd ρ2).bind fun sd ρ3 => (match cont ρ3 p with
      | some (.dK kds) => (match keyOf sk.d with
        | some kk => .ok (.dat ((lookD kds kk).getD sd.d)) ρ3
        | none => .stuck)
      | some (.dT kds) => (match sk.d with
        | .tup ks => (match keysOf ks with
          | some kk => .ok (.dat ((lookD kds kk).getD sd.d)) ρ3
          | none => .stuck)
        | _ => .stuck)
      | _ => .stuck) else .stuck) := by
  refine PE.weak (pe_dget2 hu ha hk hd m) ?_
  rintro σ H Q ⟨F, ρ, ok, h⟩
  refine ⟨F, ρ, ok, (PostG.bind late_RSV h).imp ?_⟩
  rintro v H1 ⟨p, F1, ρ1, ok1, st1, r1, h1⟩
  split at h1
  · rename_i ed
    cases e1 : cont ρ1 p with
    | none => rw [e1] at ed; cases ed
    | some d1 =>
      rw [e1] at ed
      obtain ⟨b, rfl, isd⟩ := Rep.dicAt (PVok.read r1 ok1 e1) ed
      refine ⟨b, rfl, isd, F1, ρ1, ok1, (PostG.bindF late_RSV h1).imp ?_⟩
      rintro y H2 ⟨sk, F2, ρ2, ok2, st2, r2, h2⟩
      refine ⟨F2, ρ2, ok2, (PostG.bindF late_RSV h2).imp ?_⟩
      rintro z H3 ⟨sd, F3, ρ3, ok3, st3, r3, h3⟩
      have r2' := Rep.stays (st3.stays ok2) r2
      have r1' := PVok.stays (PVok.stays r1 (st2.stays ok1)) (st3.stays ok2)
      split at h3
      · rename_i kds e3
        split at h3
        · rename_i kk e4
          obtain ⟨a', o, ea, g, q⟩ := dget_K (X := X) (fa := Z.fa) (F := F3) (PVok.read r1' ok3 e3) (.inl r2') e4
          cases ea
          refine ⟨o, g, ?_⟩
          rcases q with ⟨w, zz, q1, q2, q3⟩ | ⟨q1, q2⟩
          · rw [q1]; rw [q2] at h3; exact h3.rep ok3 q3
          · rw [q1]; rw [q2] at h3; exact h3.rep ok3 r3
        · exact h3.elim
      · rename_i kds e3
        split at h3
        · rename_i ks e5
          split at h3
          · rename_i kk e4
            rw [e5] at r2'
            obtain ⟨a', o, ea, g, q⟩ := dget_T (X := X) (fa := Z.fa) (F := F3) (PVok.read r1' ok3 e3) (.inl r2') e4
            cases ea
            refine ⟨o, g, ?_⟩
            rcases q with ⟨w, zz, q1, q2, q3⟩ | ⟨q1, q2⟩
            · rw [q1]; rw [q2] at h3; exact h3.rep ok3 q3
            · rw [q1]; rw [q2] at h3; exact h3.rep ok3 r3
          · exact h3.elim
        · exact h3.elim
      · exact h3.elim
  · exact h1.elim

/-! ### items of a dict: from then on it is locked -/
def tLk (td : TE) : TE := fun σ H Q => td σ H fun x H1 => ∃ d kvs, x = .ref d ∧ ((H1 d = some (.dK kvs) ∧ ∀ o, Q x (upd H1 d (.frz o (.dK kvs)))) ∨ ∃ o, H1 d = some (.frz o (.dK kvs)) ∧ Q x H1)
theorem pe_lk {td : TE} (he : PE X e td) : PE X e (tLk td) := ⟨fun pins s σ H Q I h => thn (he.run pins s σ H _ I h) fun u s1 ⟨x, H1, I1, r, d, kvs, ex, q⟩ => by
  rcases q with ⟨e1, q⟩ | ⟨o, e1, q⟩
  · obtain ⟨od, I2⟩ := I1.lock e1 trivial
    exact ⟨x, _, I2, r, q od⟩
  · exact ⟨x, H1, I1, r, q⟩⟩
theorem lock_env {K : PySem.W.Frag} {fa : Nat → Option Addr} {H : Hp} {F : AP'} {σ : L2.St} {ρ : Env'} {d : Addr} {u : HO} {o : Obj} (ok : EnvOk K fa H F σ ρ) (hd : H d = some u) (du : dicO u) (f : F d) : EnvOk K fa (upd H d (.frz o u)) F σ ρ ∧ StepE H F σ ρ (upd H d (.frz o u)) F σ ρ := by
  have tbu : Tbs (upd H d (.frz o u)) := tabs_upd ok.tb hd (fun _ z => by subst z; exact du) (fun _ z => by unfold LamX.CodeO at z; subst z; exact du)
  have st : StepE H F σ ρ (upd H d (.frz o u)) F σ ρ := by
    refine ⟨fun b o' h no _ => ?_, fun _ h => h, fun _ h => .inl h, fun _ h => .inl h, fun _ => Iff.rfl, fun b h => ?_, fun _ => tbu⟩
    · by_cases e : b = d
      · subst e
        rw [hd] at h; cases h
        exact .inr ⟨f, du, o, upd_same⟩
      · rw [upd_ne e]; exact .inl h
    · by_cases e : b = d
      · subst e; rw [upd_same] at h; cases h
      · rw [upd_ne e] at h; exact h
  have sy := st.stays ok
  refine ⟨⟨ok.len, fun i sv e => ?_, ok.apart, fun b fb => ?_, tbu⟩, st⟩
  · obtain ⟨v, e2, r⟩ := ok.slot i sv e
    refine ⟨v, e2, ?_⟩
    have far : ∀ c d', ¬ F c → OwnAt K fa H F c d' → OwnAt K fa (upd H d (.frz o u)) F c d' := fun c d' nf q => q.stays (upd_ne fun z => nf (by rw [z]; exact f)) sy
    cases sv with
    | dat d' => exact Rep.stays sy r
    | own d' => obtain ⟨c, e3, nf, q⟩ := r; exact ⟨c, e3, nf, far c d' nf q⟩
    | bor d' => obtain ⟨c, e3, nf, q⟩ := r; exact ⟨c, e3, nf, far c d' nf q⟩
  · by_cases e : b = d
    · subst e; rw [upd_same]; exact fun z => nomatch z
    · rw [upd_ne e]; exact ok.fd b fb
theorem itemsK_get : ∀ {kds : List (Key × D)} {i : Nat} {k : Key} {d : D}, kds[i]? = some (k, d) → (kds.map fun kv => D.tup [keyD kv.1, kv.2])[i]? = some (.tup [keyD k, d]) := fun h => by
  rw [List.getElem?_map, h]; rfl
theorem rep_keyD {K : PySem.W.Frag} {fa : Nat → Option Addr} {H : Hp} {F : AP'} (k : Key) : Rep K fa H F (kV k) (keyD k) := by
  cases k with
  | inl i => exact .int i
  | inr x => exact .str x
theorem drep_get {K : PySem.W.Frag} {fa : Nat → Option Addr} {H : Hp} {F : AP'} {kvs : List (Key × V)} {kds : List (Key × D)} (r : DRep K fa H F kvs kds) {i : Nat} {k : Key} {v : V} (e : kvs[i]? = some (k, v)) : ∃ d, kds[i]? = some (k, d) ∧ Rep K fa H F v d := by
  obtain ⟨r1, r2⟩ := r
  have e2 : (kvs.map Prod.snd)[i]? = some v := by rw [List.getElem?_map, e]; rfl
  have e1 : (kvs.map Prod.fst)[i]? = some k := by rw [List.getElem?_map, e]; rfl
  obtain ⟨d, h1, h2⟩ := r2.get' e2
  rw [r1] at e1
  rw [List.getElem?_map] at h1 e1
  cases h : kds[i]? with
  | none => rw [h] at h1; cases h1
  | some q =>
    rw [h] at h1 e1
    obtain ⟨q1, q2⟩ := q
    cases h1; cases e1
    exact ⟨_, rfl, h2⟩
theorem walkD_items {K : PySem.W.Frag} {fa : Nat → Option Addr} {H : Hp} {F : AP'} {d : Addr} {o : Obj} {kvs : List (Key × V)} {kds : List (Key × D)} (h : H d = some (.frz o (.dK kvs))) (r : DRep K fa H F kvs kds) : WalkD K fa (Iti d o kvs) (kds.map fun kv => .tup [keyD kv.1, kv.2]) H F where
  goes := fun i H' F' s hi => ⟨s.fz _ _ _ h, by rw [List.length_map] at hi; rw [r.length]; exact hi⟩
  stops := fun i H' F' s hi => ⟨s.fz _ _ _ h, by rw [List.length_map] at hi; rw [r.length]; exact hi⟩
  yields := fun i H' F' x H2 s fd hi y => by
    obtain ⟨T, k, v, e1, rfl, hT, rfl⟩ := y
    obtain ⟨d1, e2, rv⟩ := drep_get r e1
    exact ⟨_, itemsK_get e2, made_pair fd hT (rep_keyD k) (Rep.stays s rv)⟩
theorem pid_items {elts : List Expr} {kk : Nat} {tpos apos : Pos} {f : Env' → Res SV} (he : PEd X Z e f) (hbase : attributeBase e "items" X.env (eval e X.env) = eval e X.env) (hline : (apos.endLine == pos.line) = true) :
    PId X Z (.Tuple elts kk tpos) (.Call (.Attribute e "items" apos) [] [] pos) (fun ρ => (f ρ).bind fun sv ρ1 => lift (itemsOf sv.d) ρ1) := by
  refine PI.weak (pi_items (pe_lk he) hbase hline) ?_
  rintro σ H R ⟨F, ρ, ok, h⟩
  refine ⟨F, ρ, ok, (PostG.bindF' late_RW h).imp ?_⟩
  rintro v H1 ⟨sv, F1, ρ1, _, ok1, st1, r, h1⟩
  cases hd : sv.d with
  | dK kds =>
    rw [hd] at r h1
    cases r with
    | dK f1 rd e1 e2 =>
      rename_i a kvs
      have dr : DRep X.K Z.fa H1 F1 kvs kds := ⟨e1, e2⟩
      refine ⟨a, kvs, rfl, ?_⟩
      rcases rd with q | ⟨o, q⟩
      · refine .inl ⟨q, fun o => ⟨a, o, kvs, rfl, upd_same, ?_⟩⟩
        obtain ⟨ok2, st2⟩ := lock_env (o := o) ok1 q trivial f1
        exact h1 _ _ F1 st2 ok2 (walkD_items upd_same (dr.here (st2.stays ok1)))
      · exact .inr ⟨o, q, a, o, kvs, rfl, q, h1 _ _ F1 Step.refl ok1 (walkD_items q dr)⟩
  | _ => rw [hd] at h1; exact h1.elim
end
end DL

/-! enumerate of a tuple, zip of three lists -/
namespace PySem
open Sem (wp)
theorem meets_enumerate_one {v : Value} {o : Obj} {H : Heap → Prop} (B : Begins v o H) :
    Meets (Builtin.«enumerate.__new__» ⟨[.type "enumerate", v], []⟩) (fun _ R s => H s.heap ∧
      R (.ok (.ret (.ref (s.heap.push o).objs.size))) { s with heap := (s.heap.push o).push { cls := .type "enumerate", data := .fields #[.none, .bool false, .ref s.heap.objs.size, rawInt 0, .none, .none] } }) :=
  .of_wp fun prog w A R s h => by
    obtain ⟨hp, g, d, tk, os⟩ := s; obtain ⟨h1, h⟩ := h
    have hsub := sub_enumerate
    have q1 : ∀ {A' : Around} {E : Value → Shared → Prop} {Q : Value → Shared → Prop}, Q (.ref hp.objs.size) ⟨hp.push o, g, d, tk, os⟩ → wpAny (model prog w) A' (pyIter v) Q E ⟨hp, g, d, tk, os⟩ :=
      fun q => B.iter prog w _ _ ⟨hp, g, d, tk, os⟩ _ h1 q
    wp_walk using q1
    refine wpAny_stack_any fun st => wpAny_pure ?_
    split
    · rename_i c _ _ _ _ _
      cases (c == Value.type "enumerate")
      · wp_walk using q1
        exact ⟨_, rfl, h⟩
      · wp_walk using q1
        exact ⟨_, rfl, h⟩
    · wp_walk using q1
      exact ⟨_, rfl, h⟩
theorem enum_one {prog : Program} {w : World} {A : Around} {E : Value → Shared → Prop} {s : Shared} {v : Value} {o : Obj} {H : Heap → Prop} {Q : Value → Shared → Prop} (B : Begins v o H) (h1 : H s.heap)
    (h : ∀ h', IsEnum h' (s.heap.objs.size + 1) s.heap.objs.size 0 .none → h'.get? s.heap.objs.size = some o → h'.objs.size = s.heap.objs.size + 2 →
      (∀ b o, s.heap.get? b = some o → h'.get? b = some o) → Q (.ref (s.heap.objs.size + 1)) { s with heap := h' }) :
    wpAny (model prog w) A (call (.type "enumerate") [v]) Q E s := by
  refine callType_new F.called_enumerate (by decide) (F.typeCall_enumerate_1 _) (F.newCall_enumerate_1 _) (fun obj => F.args_object_init_2 obj _) F.entry_enumerate_new
    (meets_enumerate_one B) ⟨h1, ?_⟩
  have hz : (s.heap.push o).objs.size = s.heap.objs.size + 1 := Heap.size_push ..
  show _ ∧ _
  rw [hz]
  have he : IsEnum ((s.heap.push o).push { cls := .type "enumerate", data := .fields #[.none, .bool false, .ref s.heap.objs.size, rawInt 0, .none, .none] }) (s.heap.objs.size + 1) s.heap.objs.size 0 .none := by
    have := Heap.get?_push_size (s.heap.push o) (o := { cls := .type "enumerate", data := .fields #[.none, .bool false, .ref s.heap.objs.size, rawInt 0, .none, .none] }) rfl
    rw [hz] at this; exact this
  refine ⟨⟨_, he, rfl⟩, h _ he (Heap.get?_push_of_some _ (Heap.get?_push_size _ B.free)) (by rw [Heap.size_push, hz]) fun b o x => Heap.get?_push_of_some _ (Heap.get?_push_of_some _ x)⟩
theorem enumT_end {prog : Program} {w : World} {A : Around} {E : Value → Shared → Prop} {s : Shared} {e it l : Addr} {i : Nat} {items : Array Value} {old : Value} {Q : Option Value → Shared → Prop} (hh : A.handled = none)
    (he : IsEnum s.heap e it i old) (hit : s.heap.IsTupleIter it l i) (hl : s.heap.IsTuple l items) (hx : items[i]? = none)
    (hQ : ∀ h', Heap.ExtBut it s.heap h' → Q none { s with heap := h' }) : wpAny (model prog w) A (pyNext (.ref e)) Q E s := by
  have hT : s.TypeIs (.ref e) "enumerate" := ⟨_, he, rfl⟩
  unfold pyNext
  refine wpAny_bind (wpAny_attempt (wpAny_callSpecial?_slot (name := Str.ofString "__next__") hT F.slot_enumerate_next
    (wpAny_call_entry F.slot_enumerate_next hT F.entry_enumerate_next ?_ (F.args_enumerate_next_1 _))))
  show wpAny _ _ (field (.ref e) 2 >>= _) _ _ _
  refine wpAny_bind (wpAny_field he rfl (x := .ref it) rfl ?_)
  refine wpAny_bind (wpAny_nextOf_tuple_end hh hit hl hx fun h' x he' hx' => ?_)
  obtain ⟨o, ho, hc⟩ := hx'
  refine wpAny_bind (wpAny_isInstance (T := "StopIteration") (b := true) ⟨o, ho, hc⟩ isSubtype_stop ?_)
  exact wpAny_pure (hQ _ he')
theorem notTuple {h : Heap} {a : Addr} {o : Obj} {items : Array Value} (he : h.get? a = some o) (p : h.IsTuple a items) : o.cls = .type "tuple" := by
  obtain ⟨o', ho, ht, _⟩ := p
  rw [he] at ho; cases ho
  exact ht
end PySem
namespace DL
open PySem PySem.Spec PyProof.Rows L2
variable [TB]

/-! ### enumerate(tuple) -/
def Itet (K : PySem.W.Frag) (a : Addr) : L2.It :=
  ⟨fun i H => ∃ (xs : List V) (x : V), SqT K H a xs ∧ xs[i]? = some x, fun i H v H' => ∃ T x, v = .ref T ∧ H T = none ∧ H' = upd H T (.tup [.int (i : Nat), x]) ∧ ∀ xs, SqT K H a xs → xs[i]? = some x, fun i H => ∃ xs : List V, SqT K H a xs ∧ xs.length ≤ i⟩
theorem turn_enumT {P : Program} {w : World} {K : PySem.W.Frag} {elts : List Expr} {kk : Nat} {tpos : Pos} (a e it : Addr) :
    Turn P w K (.Tuple elts kk tpos) (Itet K a) [e, it] e (fun i h => (∃ old, IsEnum h e it ((i : Nat) : Int) old) ∧ h.IsTupleIter it a i ∧ e ≠ it) where
  mem := by simp
  obj := fun i h st b hb => by
    obtain ⟨⟨old, he⟩, ⟨o, ho, hc, hd⟩, _⟩ := st
    have e' : b = e ∨ b = it := by simpa using hb
    rcases e' with z | z
    · rw [z]; exact ⟨_, he, fun v q => nomatch q⟩
    · rw [z]; exact ⟨o, ho, fun v q => by rw [hd] at q; cases q⟩
  keep := fun i h h' st k => let ⟨⟨old, he⟩, hi, hne⟩ := st; ⟨⟨old, k e (by simp) _ he⟩, hi.at fun o q => k it (by simp) o q, hne⟩
  item := by
    intro X hP hw hK hc i pins s σ H E I hf st hg
    subst hP hw hK
    obtain ⟨⟨old, he⟩, hit, hne⟩ := st
    obtain ⟨xs, x, hq, hx⟩ := hg
    obtain ⟨its, rv, p, _⟩ := I.tuple hq
    have hel : e < s.heap.objs.size := Heap.lt_size he
    have hil : it < s.heap.objs.size := by obtain ⟨_, q, _⟩ := hit; exact Heap.lt_size q
    have nea : e ≠ a := fun z => by
      have := notTuple he (z ▸ p)
      simp at this
    have nia : a ≠ it := fun z => by
      obtain ⟨o', ho', hc', _⟩ := hit
      have := notTuple ho' (z ▸ p)
      rw [hc'] at this
      simp at this
    have hlt : i < its.toArray.size := by
      have := rv.length
      have h2 := (List.getElem?_eq_some_iff.mp hx).1
      rw [List.size_toArray]; omega
    refine wpAny_pyNext_enum_itemD (Draws.tuple (show (X.A.in1).handled = none from I.ok.hd hc) it a nia its.toArray) he ⟨hit, p⟩ hlt hne (by simp [hne, nea]) fun u h' tk hu ho hit' hT hsz hk => ?_
    obtain ⟨u', hu', ru⟩ := rv.get hx
    have eu : u' = u := by
      have h1 : its[i]? = some u := by simpa using hu
      rw [h1] at hu'
      exact (Option.some.inj hu').symm
    subst eu
    refine ⟨_, rfl, wpAny_letOwnedTupleGo_enum (s := { s with heap := h', toks := tk + 1 }) ho fun h'' he' sb => ?_⟩
    have hT2 : h''.get? s.heap.objs.size = some { cls := .type "tuple", data := .seq #[.int i tk, u'] } := (sb.2 _ (Nat.ne_of_gt hel)).trans hT
    have new : ObjOk X.prog X.w (upd H s.heap.objs.size (.tup [.int (i : Nat), x])) h'' s.heap.objs.size (.tup [.int (i : Nat), x]) :=
      ⟨by show 2 ≤ sizeLine; decide, [.int i tk, u'], .cons ⟨_, rfl⟩ (.cons ru .nil), ⟨_, hT2, rfl, _, rfl⟩⟩
    have I1 : Inv X pins σ (upd H s.heap.objs.size (.tup [.int (i : Nat), x])) { s with heap := h'', toks := tk + 1 } :=
      I.turnedNew (ch := [e, it]) (fun b ob hb q => (sb.2 b (fun z => hb (by simp [z]))).trans (hk b ob (fun z => hb (by simp [z])) (fun z => hb (by simp [z])) q)) hf (Nat.le_refl _) new
    refine ⟨.ref s.heap.objs.size, _, I1, rfl, ⟨_, x, rfl, I.hok.fresh (Nat.le_refl _), rfl, fun ys hy => by rw [I.tuple_inj hy hq]; exact hx⟩, ⟨⟨u', ?_⟩, hit'.1.at fun o q => (sb.2 it (Ne.symm hne)).trans q, hne⟩, fun b hb => ?_⟩
    · have e1 : ((i + 1 : Nat) : Int) = (i : Int) + 1 := by omega
      rw [e1]; exact he'
    · have hb' : b < s.heap.objs.size := by
        have e' : b = e ∨ b = it := by simpa using hb
        rcases e' with z | z
        · rw [z]; exact hel
        · rw [z]; exact hil
      rw [upd_ne (Nat.ne_of_lt hb')]
      exact (hf b hb).1
  done := by
    intro X hP hw hK hc i pins s σ H E I hf st hg
    subst hP hw hK
    obtain ⟨⟨old, he⟩, hit, hne⟩ := st
    obtain ⟨xs, hq, hx⟩ := hg
    obtain ⟨its, rv, p, _⟩ := I.tuple hq
    obtain ⟨f0, f1, f2, f3, f4, f5⟩ := hf it (by simp)
    have hl := rv.length
    exact enumT_end (I.ok.hd hc) he hit p (by simp; omega) fun h' eb => ⟨rfl, I.turned (t' := s.toks) (fun b o hb q => eb b o hb q) f0 f1 f3 f4 f5⟩
  self := fun A i s Q E st h => let ⟨⟨_, he⟩, _⟩ := st; wpAny_pyIter_enum he h
def iEnumA (K : PySem.W.Frag) (ta : TA) : TI := fun σ H R => ta σ H fun vs H1 => ∃ a xs, vs = [.ref a] ∧ ((SqL K H1 a xs ∧ R (Ite K a) H1) ∨ (SqT K H1 a xs ∧ R (Itet K a) H1))
theorem pi_enumA {X : Cx} {e : Expr} {ta : TA} {p pos tpos : Pos} {elts : List Expr} {kk : Nat} (hg : Gl X "enumerate") (hm : X.mg "enumerate" = none) (ha : PA X [e] ta) (hs : starEach [e] X.env = [(false, eval e X.env)] := by rfl) :
    PI X (.Tuple elts kk tpos) (.Call (.Name "enumerate" p) [e] [] pos) (iEnumA X.K ta) := by
  refine ⟨fun pins s σ H R I h => ?_⟩
  refine Call_ (ld_blt I hg hm boot_enumerate (PyProof.Rows.callWith_type1 (thn (ha.run pos pins s σ H _ I h) fun us s1 ⟨vs, H1, I1, r1, q1⟩ => ?_) hs rfl))
  obtain ⟨a, xs, ex, q1⟩ := q1
  subst ex
  cases r1 with
  | cons r rr =>
    cases rr
    cases r
    have fresh2 : ∀ b ∈ [s1.heap.objs.size + 1, s1.heap.objs.size], FpOk X pins H1 b := fun b hb => by
      have e' : b = s1.heap.objs.size + 1 ∨ b = s1.heap.objs.size := by simpa using hb
      have hle : s1.heap.objs.size ≤ b := by
        rcases e' with z | z
        · rw [z]; exact Nat.le_add_right _ _
        · rw [z]; exact Nat.le_refl _
      exact I1.fpOk hle (I1.hok.fresh hle)
    rcases q1 with ⟨hq, q⟩ | ⟨hq, q⟩
    · obtain ⟨its, rv, p', hz⟩ := I1.list hq
      refine call_enumerate_list p'.isList fun h' he hit hsz hk => wpAny_pyIter_enum he ?_
      have I2 : Inv X pins σ H1 { s1 with heap := h' } := I1.kept (t' := s1.toks) hk
      exact ⟨s1.heap.objs.size + 1, [s1.heap.objs.size + 1, s1.heap.objs.size], _, _, H1, rfl, I2, turn_enum a (s1.heap.objs.size + 1) s1.heap.objs.size, ⟨⟨.none, he⟩, hit, Nat.succ_ne_self _⟩, fresh2, q⟩
    · obtain ⟨its, rv, p', _⟩ := I1.tuple hq
      refine enum_one (begins_tuple a its.toArray) p' fun h' he hit hsz hk => wpAny_pyIter_enum he ?_
      have I2 : Inv X pins σ H1 { s1 with heap := h' } := I1.kept (t' := s1.toks) hk
      exact ⟨s1.heap.objs.size + 1, [s1.heap.objs.size + 1, s1.heap.objs.size], _, _, H1, rfl, I2, turn_enumT a (s1.heap.objs.size + 1) s1.heap.objs.size, ⟨⟨.none, he⟩, ⟨_, hit, rfl, rfl⟩, Nat.succ_ne_self _⟩, fresh2, q⟩
theorem walkD_enumT {K : PySem.W.Frag} {fa : Nat → Option Addr} {H : Hp} {F : AP'} {a : Addr} {xs : List V} {ds : List D} (h : ∀ H' F', Stays H F H' F' → SqT K H' a xs) (r : RepL K fa H F xs ds) : WalkD K fa (Itet K a) (enumD 0 ds) H F where
  goes := fun i H' F' s hi => by rw [enumD_len] at hi; exact ⟨xs, xs[i]'(by rw [r.length]; exact hi), h _ _ s, get_of _⟩
  stops := fun i H' F' s hi => by
    rw [enumD_len] at hi
    exact ⟨xs, h _ _ s, by rw [r.length]; exact hi⟩
  yields := fun i H' F' x H2 s fd hi y => by
    obtain ⟨T, v, rfl, hT, rfl, y⟩ := y
    obtain ⟨d, h1, h2⟩ := (RepL.stays s r).get' (y xs (h _ _ s))
    have := enumD_get (n := 0) h1
    rw [Nat.zero_add] at this
    exact ⟨_, this, made_pair fd hT (.int _) h2⟩
theorem pid_enumA {X : Cx} {Z : Fix} {a : Expr} {p pos tpos : Pos} {elts : List Expr} {kk : Nat} {f : Env' → Res SV} (hg : Gl X "enumerate") (hm : X.mg "enumerate" = none) (ha : PEd X Z a f) (hs : starEach [a] X.env = (false, eval a X.env) :: starEach [] X.env) :
    PId X Z (.Tuple elts kk tpos) (.Call (.Name "enumerate" p) [a] [] pos) (fun ρ => (f ρ).bind fun sv ρ1 => (match sv.d with
    | .lst ds => .ok (enumD 0 ds) ρ1
    | .tup ds => .ok (enumD 0 ds) ρ1
    | _ => .stuck)) := by
  refine PI.weak (pi_enumA hg hm (pa_cons ha pa_nil hs) hs) ?_
  rintro σ H R ⟨F, ρ, ok, h⟩
  refine ⟨F, ρ, ok, (PostG.bindF late_RW h).imp ?_⟩
  rintro v H1 ⟨sv, F1, ρ1, ok1, st1, r, h1⟩
  split at h1
  · rename_i ds e
    rw [e] at r
    obtain ⟨a, xs, rfl, fa, rd, rl⟩ := r.lstAt
    exact ⟨a, xs, rfl, .inl ⟨.inl rd, h1 _ H1 F1 Step.refl ok1 (walkD_enum fa rd rl)⟩⟩
  · rename_i ds e
    rw [e] at r
    obtain ⟨a, xs, rfl, sq, rl⟩ := r.tupAt (.inl rfl)
    exact ⟨a, xs, rfl, .inr ⟨sq _ _ Stays.refl, h1 _ H1 F1 Step.refl ok1 (walkD_enumT sq rl)⟩⟩
  · exact h1.elim

/-! ### zip of three lists -/
def Itz3 (K : PySem.W.Frag) (a b c : Addr) (N : Nat) : L2.It :=
  ⟨fun i H => i < N ∧ ∃ xs ys zs : List V, SqL K H a xs ∧ SqL K H b ys ∧ SqL K H c zs ∧ N = min (min xs.length ys.length) zs.length,
    fun i H v H' => ∃ T x y z, v = .ref T ∧ H T = none ∧ H' = upd H T (.tup [x, y, z]) ∧ (∀ xs, SqL K H a xs → xs[i]? = some x) ∧ (∀ ys, SqL K H b ys → ys[i]? = some y) ∧ ∀ zs, SqL K H c zs → zs[i]? = some z,
    fun i H => N ≤ i ∧ ∃ xs ys zs : List V, SqL K H a xs ∧ SqL K H b ys ∧ SqL K H c zs ∧ N = min (min xs.length ys.length) zs.length⟩
theorem turn_zip3 {P : Program} {w : World} {K : PySem.W.Frag} {elts : List Expr} {kk : Nat} {tpos : Pos} {a b c n : Addr} {N : Nat} (ha : a < n) (hb : b < n) (hc : c < n) :
    Turn P w K (.Tuple elts kk tpos) (Itz3 K a b c N) [n + 5, n + 3, n + 4, n, n + 1, n + 2] (n + 5) (fun i h => IsZip h (n + 5) (n + 3) (n + 4) .none ∧ IsTupOf3 h (n + 3) (.ref n) (.ref (n + 1)) (.ref (n + 2)) ∧ (∃ x y z, IsTupOf3 h (n + 4) x y z) ∧ h.IsListIter n a i ∧ h.IsListIter (n + 1) b i ∧ h.IsListIter (n + 2) c i ∧ i ≤ N) where
  mem := by simp
  obj := fun i h st d hd => by
    obtain ⟨hz, hTI, ⟨x, y, z, hTO⟩, ⟨o1, e1, _, d1⟩, ⟨o2, e2, _, d2⟩, ⟨o3, e3, _, d3⟩, _⟩ := st
    have e' : d = n + 5 ∨ d = n + 3 ∨ d = n + 4 ∨ d = n ∨ d = n + 1 ∨ d = n + 2 := by simpa using hd
    rcases e' with q | q | q | q | q | q
    · rw [q]; exact ⟨_, hz, fun v q => nomatch q⟩
    · rw [q]; exact ⟨_, hTI, fun v q => nomatch q⟩
    · rw [q]; exact ⟨_, hTO, fun v q => nomatch q⟩
    · rw [q]; exact ⟨o1, e1, fun v q => by rw [d1] at q; cases q⟩
    · rw [q]; exact ⟨o2, e2, fun v q => by rw [d2] at q; cases q⟩
    · rw [q]; exact ⟨o3, e3, fun v q => by rw [d3] at q; cases q⟩
  keep := fun i h h' st k => by
    obtain ⟨hz, hTI, ⟨x, y, z, hTO⟩, h1, h2, h3, hi⟩ := st
    exact ⟨k _ (by simp) _ hz, k _ (by simp) _ hTI, ⟨x, y, z, k _ (by simp) _ hTO⟩, h1.at fun o q => k _ (by simp) o q, h2.at fun o q => k _ (by simp) o q, h3.at fun o q => k _ (by simp) o q, hi⟩
  item := by
    intro X hP hw hK hcm i pins s σ H E I hf st hg
    subst hP hw hK
    obtain ⟨hz, hTI, ⟨x0, y0, z0, hTO⟩, h1, h2, h3, hi⟩ := st
    obtain ⟨hlt, xs, ys, zs, hqx, hqy, hqz, hN⟩ := hg
    obtain ⟨its, rv, p, _⟩ := I.list hqx
    obtain ⟨its2, rv2, p2, _⟩ := I.list hqy
    obtain ⟨its3, rv3, p3, _⟩ := I.list hqz
    have l1 := rv.length
    have l2 := rv2.length
    have l3 := rv3.length
    have hh : (X.A.in1).handled = none := I.ok.hd hcm
    have m1 : N ≤ xs.length := by rw [hN]; exact Nat.le_trans (Nat.min_le_left _ _) (Nat.min_le_left _ _)
    have m2 : N ≤ ys.length := by rw [hN]; exact Nat.le_trans (Nat.min_le_left _ _) (Nat.min_le_right _ _)
    have m3 : N ≤ zs.length := by rw [hN]; exact Nat.min_le_right _ _
    have m4 : N = xs.length ∨ N = ys.length ∨ N = zs.length := by rw [hN, Nat.min_def, Nat.min_def]; split <;> split <;> simp
    clear hN
    have hzl : n + 5 < s.heap.objs.size := Heap.lt_size hz
    have S := zip_sep3 (N := n) (fp1 := [a]) (fp2 := [b]) (fp3 := [c]) (by simpa using ha) (by simpa using hb) (by simpa using hc)
    refine wpAny_pyNext_zipD3_item (zip_sep3 (N := n) (fp1 := [a]) (fp2 := [b]) (fp3 := [c]) (by simpa using ha) (by simpa using hb) (by simpa using hc)) (Draws.list hh n a (Nat.ne_of_lt ha) its.toArray) (Draws.list hh (n + 1) b (Nat.ne_of_lt (Nat.lt_succ_of_lt hb)) its2.toArray) (Draws.list hh (n + 2) c (Nat.ne_of_lt (Nat.lt_succ_of_lt (Nat.lt_succ_of_lt hc))) its3.toArray) hz hTI hTO
      ⟨h1, p.isList⟩ ⟨h2, p2.isList⟩ ⟨h3, p3.isList⟩ (by rw [List.size_toArray]; omega) (by rw [List.size_toArray]; omega) (by rw [List.size_toArray]; omega) fun u1 u2 u3 h' tk hu1 hu2 hu3 z' TO' g1 g2 g3 hT hsz hk => ?_
    obtain ⟨x, hx⟩ : ∃ x, xs[i]? = some x := ⟨xs[i]'(by omega), List.getElem?_eq_getElem _⟩
    obtain ⟨y, hy⟩ : ∃ y, ys[i]? = some y := ⟨ys[i]'(by omega), List.getElem?_eq_getElem _⟩
    obtain ⟨z, hzz⟩ : ∃ z, zs[i]? = some z := ⟨zs[i]'(by omega), List.getElem?_eq_getElem _⟩
    obtain ⟨v1, w1, r1⟩ := rv.get hx
    obtain ⟨v2, w2, r2⟩ := rv2.get hy
    obtain ⟨v3, w3, r3⟩ := rv3.get hzz
    have q1 : its[i]? = some u1 := by simpa using hu1
    have q2 : its2[i]? = some u2 := by simpa using hu2
    have q3 : its3[i]? = some u3 := by simpa using hu3
    rw [q1] at w1; cases w1
    rw [q2] at w2; cases w2
    rw [q3] at w3; cases w3
    refine ⟨_, rfl, wpAny_letOwnedTupleGo_zip (s := { s with heap := h', toks := tk }) z' fun h'' z'' sb => ?_⟩
    have hT2 : h''.get? s.heap.objs.size = some { cls := .type "tuple", data := .seq #[u1, u2, u3] } := (sb.2 _ (Nat.ne_of_gt hzl)).trans hT
    have new : ObjOk X.prog X.w (upd H s.heap.objs.size (.tup [x, y, z])) h'' s.heap.objs.size (.tup [x, y, z]) :=
      ⟨by show 3 ≤ sizeLine; decide, [u1, u2, u3], .cons r1 (.cons r2 (.cons r3 .nil)), ⟨_, hT2, rfl, _, rfl⟩⟩
    have I1 : Inv X pins σ (upd H s.heap.objs.size (.tup [x, y, z])) { s with heap := h'', toks := tk } :=
      I.turnedNew (ch := [n + 5, n + 3, n + 4, n, n + 1, n + 2]) (fun d o hb q => (sb.2 d (fun q' => hb (by simp [q']))).trans (hk d o (fun q' => hb (by simp [q'])) (fun q' => hb (by simp [q'])) (fun q' => hb (by simp [q'])) (fun q' => hb (by simp [q'])) (fun q' => hb (by simp [q'])) q)) hf (Nat.le_refl _) new
    refine ⟨.ref s.heap.objs.size, _, I1, rfl, ⟨_, x, y, z, rfl, I.hok.fresh (Nat.le_refl _), rfl, fun l hl => by rw [I.list_inj hl hqx]; exact hx, fun l hl => by rw [I.list_inj hl hqy]; exact hy, fun l hl => by rw [I.list_inj hl hqz]; exact hzz⟩, ⟨z'', ?_, ⟨u1, u2, u3, ?_⟩, ?_, ?_, ?_, hlt⟩, fun d hdm => ?_⟩
    · exact (sb.2 _ S.TIz).trans (hk _ _ S.TIz S.TITO S.TIi1 S.TIi2 S.TIi3 hTI)
    · exact (sb.2 _ S.TOz).trans TO'
    · exact g1.1.at fun o q => (sb.2 _ (Ne.symm S.zi1)).trans q
    · exact g2.1.at fun o q => (sb.2 _ (Ne.symm S.zi2)).trans q
    · exact g3.1.at fun o q => (sb.2 _ (Ne.symm S.zi3)).trans q
    · have hlt2 : d < s.heap.objs.size := by
        have e' : d = n + 5 ∨ d = n + 3 ∨ d = n + 4 ∨ d = n ∨ d = n + 1 ∨ d = n + 2 := by simpa using hdm
        rcases e' with q | q | q | q | q | q
        · rw [q]; exact hzl
        · rw [q]; exact Heap.lt_size hTI
        · rw [q]; exact Heap.lt_size hTO
        · rw [q]; obtain ⟨_, e1, _⟩ := h1; exact Heap.lt_size e1
        · rw [q]; obtain ⟨_, e1, _⟩ := h2; exact Heap.lt_size e1
        · rw [q]; obtain ⟨_, e1, _⟩ := h3; exact Heap.lt_size e1
      rw [upd_ne (Nat.ne_of_lt hlt2)]
      exact (hf d hdm).1
  done := by
    intro X hP hw hK hcm i pins s σ H E I hf st hg
    subst hP hw hK
    obtain ⟨hz, hTI, ⟨x0, y0, z0, hTO⟩, h1, h2, h3, hi⟩ := st
    obtain ⟨hlt, xs, ys, zs, hqx, hqy, hqz, hN⟩ := hg
    obtain ⟨its, rv, p, _⟩ := I.list hqx
    obtain ⟨its2, rv2, p2, _⟩ := I.list hqy
    obtain ⟨its3, rv3, p3, _⟩ := I.list hqz
    have l1 := rv.length
    have l2 := rv2.length
    have l3 := rv3.length
    have hh : (X.A.in1).handled = none := I.ok.hd hcm
    have m1 : N ≤ xs.length := by rw [hN]; exact Nat.le_trans (Nat.min_le_left _ _) (Nat.min_le_left _ _)
    have m2 : N ≤ ys.length := by rw [hN]; exact Nat.le_trans (Nat.min_le_left _ _) (Nat.min_le_right _ _)
    have m3 : N ≤ zs.length := by rw [hN]; exact Nat.min_le_right _ _
    have m4 : N = xs.length ∨ N = ys.length ∨ N = zs.length := by rw [hN, Nat.min_def, Nat.min_def]; split <;> split <;> simp
    clear hN
    exact wpAny_pyNext_zipD3_end (zip_sep3 (N := n) (fp1 := [a]) (fp2 := [b]) (fp3 := [c]) (by simpa using ha) (by simpa using hb) (by simpa using hc)) (Draws.list hh n a (Nat.ne_of_lt ha) its.toArray) (Draws.list hh (n + 1) b (Nat.ne_of_lt (Nat.lt_succ_of_lt hb)) its2.toArray) (Draws.list hh (n + 2) c (Nat.ne_of_lt (Nat.lt_succ_of_lt (Nat.lt_succ_of_lt hc))) its3.toArray) hz hTI hTO
      ⟨h1, p.isList⟩ ⟨h2, p2.isList⟩ ⟨h3, p3.isList⟩ (by rw [List.size_toArray]; omega) (by rw [List.size_toArray]; omega) (by rw [List.size_toArray]; omega) (by rw [List.size_toArray, List.size_toArray, List.size_toArray]; omega)
      fun h' tk hk => ⟨rfl, I.turnedL (t' := tk) (ch := [n + 5, n + 3, n + 4, n, n + 1, n + 2]) (fun d o hb q => hk d o (fun q' => hb (by simp [q'])) (fun q' => hb (by simp [q'])) (fun q' => hb (by simp [q'])) (fun q' => hb (by simp [q'])) (fun q' => hb (by simp [q'])) q) hf⟩
  self := fun A i s Q E st h => wpAny_pyIter_zip st.1 h
def iZip3 (K : PySem.W.Frag) (ta : TA) : TI := fun σ H R => ta σ H fun vs H1 => ∃ a b c xs ys zs, vs = [.ref a, .ref b, .ref c] ∧ SqL K H1 a xs ∧ SqL K H1 b ys ∧ SqL K H1 c zs ∧ R (Itz3 K a b c (min (min xs.length ys.length) zs.length)) H1
theorem pi_zip3 {X : Cx} {e e2 e3 : Expr} {ta : TA} {p pos tpos : Pos} {elts : List Expr} {kk : Nat} (hg : Gl X "zip") (hm : X.mg "zip" = none) (ha : PA X [e, e2, e3] ta)
    (hs : starEach [e, e2, e3] X.env = (false, eval e X.env) :: starEach [e2, e3] X.env) (hpl : (backTo pos (starEach [e2, e3] X.env)).any (·.1) = false) :
    PI X (.Tuple elts kk tpos) (.Call (.Name "zip" p) [e, e2, e3] [] pos) (iZip3 X.K ta) := by
  refine ⟨fun pins s σ H R I h => ?_⟩
  refine Call_ (ld_blt I hg hm PyProof.Rows.boot_zip (PyProof.Rows.callWith_type1 (thn (ha.run pos pins s σ H _ I h) fun us s1 ⟨vs, H1, I1, r1, q1⟩ => ?_) hs hpl))
  obtain ⟨a, b, c, xs, ys, zs, ex, hqx, hqy, hqz, q⟩ := q1
  subst ex
  cases r1 with
  | cons r rr =>
    cases rr with
    | cons r' rr =>
      cases rr with
      | cons r'' rr =>
        cases rr
        cases r
        cases r'
        cases r''
        obtain ⟨its, rv, p1, _⟩ := I1.list hqx
        obtain ⟨its2, rv2, p2, _⟩ := I1.list hqy
        obtain ⟨its3, rv3, p3, _⟩ := I1.list hqz
        refine zip_begins3 (begins_list a its.toArray) (begins_list b its2.toArray) (begins_list c its3.toArray) p1.isList p2.isList p3.isList fun h' hz hTI hTO g1 g2 g3 hsz hk => wpAny_pyIter_zip hz ?_
        have I2 : Inv X pins σ H1 { s1 with heap := h' } := I1.kept (t' := s1.toks) hk
        refine ⟨s1.heap.objs.size + 5, [s1.heap.objs.size + 5, s1.heap.objs.size + 3, s1.heap.objs.size + 4, s1.heap.objs.size, s1.heap.objs.size + 1, s1.heap.objs.size + 2], _, _, H1, rfl, I2, turn_zip3 p1.lt p2.lt p3.lt, ⟨hz, hTI, ⟨_, _, _, hTO⟩, ⟨_, g1, rfl, rfl⟩, ⟨_, g2, rfl, rfl⟩, ⟨_, g3, rfl, rfl⟩, Nat.zero_le _⟩, fun d hd => ?_, q⟩
        have e' : d = s1.heap.objs.size + 5 ∨ d = s1.heap.objs.size + 3 ∨ d = s1.heap.objs.size + 4 ∨ d = s1.heap.objs.size ∨ d = s1.heap.objs.size + 1 ∨ d = s1.heap.objs.size + 2 := by simpa using hd
        have hle : s1.heap.objs.size ≤ d := by
          rcases e' with z | z | z | z | z | z
          · rw [z]; exact Nat.le_add_right _ _
          · rw [z]; exact Nat.le_add_right _ _
          · rw [z]; exact Nat.le_add_right _ _
          · rw [z]; exact Nat.le_refl _
          · rw [z]; exact Nat.le_add_right _ _
          · rw [z]; exact Nat.le_add_right _ _
        exact I1.fpOk hle (I1.hok.fresh hle)
theorem zip3D_get : ∀ {ds es gs : List D} {i : Nat} {d e g : D}, ds[i]? = some d → es[i]? = some e → gs[i]? = some g → (zip3D ds es gs)[i]? = some (.tup [d, e, g])
  | [], _, _, _, _, _, _, h, _, _ => by simp at h
  | _ :: _, [], _, _, _, _, _, _, h, _ => by simp at h
  | _ :: _, _ :: _, [], _, _, _, _, _, _, h => by simp at h
  | a :: as, b :: bs, c :: cs, 0, _, _, _, h1, h2, h3 => by simp at h1 h2 h3; subst h1 h2 h3; rfl
  | a :: as, b :: bs, c :: cs, i + 1, _, _, _, h1, h2, h3 => by
    rw [zip3D, List.getElem?_cons_succ]
    exact zip3D_get (by simpa using h1) (by simpa using h2) (by simpa using h3)
theorem zip3D_len : ∀ {ds es gs : List D}, (zip3D ds es gs).length = min (min ds.length es.length) gs.length
  | [], _, _ => by simp [zip3D]
  | _ :: _, [], _ => by simp [zip3D]
  | _ :: _, _ :: _, [] => by simp [zip3D]
  | _ :: as, _ :: bs, _ :: cs => by rw [zip3D, List.length_cons, zip3D_len, List.length_cons, List.length_cons, List.length_cons]; omega
theorem walkD_zip3 {K : PySem.W.Frag} {fa : Nat → Option Addr} {H : Hp} {F : AP'} {a b c : Addr} {xs ys zs : List V} {ds es gs : List D} (h : ∀ H' F', Stays H F H' F' → SqL K H' a xs) (g : ∀ H' F', Stays H F H' F' → SqL K H' b ys) (k : ∀ H' F', Stays H F H' F' → SqL K H' c zs)
    (r : RepL K fa H F xs ds) (q : RepL K fa H F ys es) (t : RepL K fa H F zs gs) : WalkD K fa (Itz3 K a b c (min (min xs.length ys.length) zs.length)) (zip3D ds es gs) H F where
  goes := fun i H' F' s hi => by
    rw [zip3D_len, ← r.length, ← q.length, ← t.length] at hi
    exact ⟨hi, xs, ys, zs, h _ _ s, g _ _ s, k _ _ s, rfl⟩
  stops := fun i H' F' s hi => by
    rw [zip3D_len, ← r.length, ← q.length, ← t.length] at hi
    exact ⟨hi, xs, ys, zs, h _ _ s, g _ _ s, k _ _ s, rfl⟩
  yields := fun i H' F' x H2 s fd hi y => by
    obtain ⟨T, v1, v2, v3, rfl, hT, rfl, y1, y2, y3⟩ := y
    obtain ⟨d, e1, r1⟩ := (RepL.stays s r).get' (y1 xs (h _ _ s))
    obtain ⟨e, e2, r2⟩ := (RepL.stays s q).get' (y2 ys (g _ _ s))
    obtain ⟨f, e3, r3⟩ := (RepL.stays s t).get' (y3 zs (k _ _ s))
    exact ⟨_, zip3D_get e1 e2 e3, made_tup fd hT (.cons r1 (.cons r2 (.cons r3 .nil)))⟩
theorem pid_zip3 {X : Cx} {Z : Fix} {a b c : Expr} {p pos tpos : Pos} {elts : List Expr} {kk : Nat} {f g k : Env' → Res SV} (hg : Gl X "zip") (hm : X.mg "zip" = none) (ha : PEd X Z a f) (hb : PEd X Z b g) (hc : PEd X Z c k)
    (h1 : plainE a = true) (h2 : plainE b = true) (h3 : plainE c = true) :
    PId X Z (.Tuple elts kk tpos) (.Call (.Name "zip" p) [a, b, c] [] pos) (fun ρ => (f ρ).bind fun sv ρ1 => (g ρ1).bind fun sw ρ2 => (k ρ2).bind fun sz ρ3 => (match sv.d, sw.d, sz.d with
    | .lst xs, .lst ys, .lst zs => .ok (zip3D xs ys zs) ρ3
    | _, _, _ => .stuck)) := by
  refine PI.weak (pi_zip3 hg hm (pa_cons ha (pa_cons hb (pa_cons hc pa_nil (star_plain h3)) (star_plain h2)) (star_plain h1)) (star_plain h1) (back_plain (es := [b, c]) (by simp [h2, h3]))) ?_
  rintro σ H R ⟨F, ρ, ok, h⟩
  refine ⟨F, ρ, ok, (PostG.bindF late_RW h).imp ?_⟩
  rintro v H1 ⟨sv, F1, ρ1, ok1, st1, r1, h1⟩
  refine ⟨F1, ρ1, ok1, (PostG.bindF late_RW h1).imp ?_⟩
  rintro v2 H2 ⟨sw, F2, ρ2, ok2, st2, r2, h2⟩
  refine ⟨F2, ρ2, ok2, (PostG.bindF late_RW h2).imp ?_⟩
  rintro v3 H3 ⟨sz, F3, ρ3, ok3, st3, r3, h3⟩
  split at h3
  · rename_i xs ys zs e1 e2 e3
    have r1' := Rep.stays (st3.stays ok2) (Rep.stays (st2.stays ok1) r1)
    have r2' := Rep.stays (st3.stays ok2) r2
    rw [e1] at r1'
    rw [e2] at r2'
    rw [e3] at r3
    obtain ⟨a, us, rfl, fa, rd, rl⟩ := r1'.lstAt
    obtain ⟨b, vs, rfl, fb, rd2, rl2⟩ := r2'.lstAt
    obtain ⟨c, ws, rfl, fc, rd3, rl3⟩ := r3.lstAt
    exact ⟨a, b, c, us, vs, ws, rfl, .inl rd, .inl rd2, .inl rd3, h3 _ H3 F3 Step.refl ok3 (walkD_zip3 (fun H' F' s => .inl (s.rd _ _ fa (fun _ z => by cases z) rd)) (fun H' F' s => .inl (s.rd _ _ fb (fun _ z => by cases z) rd2)) (fun H' F' s => .inl (s.rd _ _ fc (fun _ z => by cases z) rd3)) rl rl2 rl3)⟩
  · exact h3.elim
end DL

namespace L2
open PySem PySem.Spec PyProof.Rows

/-! ### the clauses of a comprehension, one lemma for each clause's loop -/
section
variable {cx t i : Expr} {fs : List Expr} {k : Nat} {acc : Value} {fin : Value → Sem Fin} {mo : Model} {ar : Around} {env : Env}
/-- the turn of clause k, fin being what stands behind its tests -/
def TurnIs (cx : Expr) (k : Nat) (t i : Expr) (fs : List Expr) (acc : Value) (env : Env) (fin : Value → Sem Fin) : Prop := ∀ it, compTurn cx k it acc env = (standAt i.pos >>= fun _ => pyNext it >>= fun r => match r with
  | none => pure (.done .next)
  | some v => letOwnedTupleGo t it v >>= fun _ => assign t env v >>= fun _ => (forIn fs true fun c r => if r = true then do let b ← isTrue c env (eval c env); pure (ForInStep.yield b) else pure (ForInStep.yield r)) >>= fun b => if b = true then fin it else again (.compLoop cx k it acc env))
/-- slots that know at least what others know -/
def Knows (σ0 σ' : St) : Prop := σ0.length = σ'.length ∧ ∀ (j : Nat) v, σ0[j]? = some (some v) → σ'[j]? = some (some v)
theorem Knows.wiped {σ σ' : St} {vs : List Nat} (e : wipe σ' vs = σ) : Knows σ σ' := by
  subst e
  exact ⟨wipe_length _ _, fun j v z => (wipe_some z).1⟩
theorem Knows.sub {σ σ' : St} {vs ws : List Nat} (e : wipe σ' vs = σ) (h : ∀ i ∈ ws, i ∈ vs) : Knows σ (wipe σ' ws) := by
  subst e
  refine ⟨by rw [wipe_length, wipe_length], fun j v z => ?_⟩
  obtain ⟨z1, z2⟩ := wipe_some z
  rw [wipe_out fun m => z2 (h j m)]; exact z1
/-- what the loop of a clause keeps: the state of the block, its iterator at some turn -/
def Rest (Y : Cx) (pins : List (Addr × Obj)) (σ0 : St) (fp : List Addr) (tn : Nat → Heap → Prop) (W : Nat → Nat → Hp → Prop) (m : Nat) (s : Shared) : Prop :=
  ∃ j H, Inv Y pins σ0 H s ∧ tn j s.heap ∧ (∀ b ∈ fp, H b = none) ∧ W j m H
def clauseT (J : It) (g : TG) (tt : TT) (σ0 : St) (vs : List Nat) (Sp : Hp → Prop) (Bd : St → Hp → (Hp → Prop) → Prop) (W : Nat → Nat → Hp → Prop) : Prop := ∀ j m H, W j m H →
  (J.stop j H ∧ Sp H) ∨ (J.go j H ∧ ∃ Nx : Hp → Prop, (∀ H', Nx H' → ∃ m', m' < m ∧ W (j + 1) m' H') ∧ ∀ x H', J.yld j H x H' → g x σ0 H' fun σ2 H2 => wipe σ2 vs = σ0 ∧ tt σ2 H2 fun b H3 => if b = true then Bd σ2 H3 Nx else Nx H3)
theorem clause {Y : Cx} {el : Expr} {gs : List Comprehension} {sc : Scope} {ps' : Pos} {pins : List (Addr × Obj)} {σ0 : St} {J : It} {fp : List Addr} {it : Addr} {tn : Nat → Heap → Prop} {g : TG} {tt : TT} {vs : List Nat} {Sp : Hp → Prop} {Bd : St → Hp → (Hp → Prop) → Prop} {W : Nat → Nat → Hp → Prop} {R : Result → Shared → Prop}
    (hT : TurnIs (.ListComp el gs sc ps') k t i fs acc Y.env fin) (hc : Y.calm = true) (hx : Y.xe = fun _ _ => False) (T : Turn Y.prog Y.w Y.K t J fp it tn) (pg : PG Y t g) (pt : PTs Y fs tt)
    (own : ∀ {σ' H' s'}, Inv Y pins σ' H' s' → (∀ b ∈ fp, H' b = none) → ∀ b ∈ fp, FpOk Y pins H' b) (tu : clauseT J g tt σ0 vs Sp Bd W)
    (bd : ∀ ps σ2 H2 s2 Nx, Inv Y ps σ2 H2 s2 → wipe σ2 vs = σ0 → Bd σ2 H2 Nx → wpAny (model Y.prog Y.w) Y.A (fin (.ref it)) (fun r s' => r = .again (.compLoop (.ListComp el gs sc ps') k (.ref it) acc Y.env) ∧ ∃ σ' H', Inv Y ps σ' H' s' ∧ Knows σ0 σ' ∧ Nx H') (fun _ _ => False) s2)
    (done : ∀ H' s', Inv Y pins σ0 H' s' → Sp H' → R (.ok .next) s') (m : Nat) (s : Shared) (start : Rest Y pins σ0 fp tn W m s) : codeAny (model Y.prog Y.w) Y.A (.compLoop (.ListComp el gs sc ps') k (.ref it) acc Y.env) R s := by
  refine codeAny_loop rfl (Rest Y pins σ0 fp tn W) (fun m s0 ⟨j, H, J0, t0, n0, w0⟩ => ?_) m start
  show wpAny _ Y.A ((compTurn (.ListComp el gs sc ps') k (.ref it) acc Y.env).onRaise fun x => do noteFrame x Y.env; theTreesLotGoes x) _ _ s0
  refine wpAny_noted ?_
  rw [hT]
  refine wpAny_bind (wpAny_standAt (wpAny_bind ?_))
  rcases tu j m H w0 with ⟨stop, sp⟩ | ⟨go, Nx, low, nxt⟩
  · refine thnF (T.done Y rfl rfl rfl hc j pins s0 σ0 H (fun _ _ => False) J0 (own J0 n0) t0 stop) fun r s1 ⟨er, J1⟩ => ?_
    subst er
    exact wpAny_pure (done H s1 J1 sp)
  · refine thnF (T.item Y rfl rfl rfl hc j pins s0 σ0 H (fun _ _ => False) J0 (own J0 n0) t0 go) fun r s1 ⟨u, er, q1⟩ => ?_
    subst er
    refine wpAny_bind (thnF q1 fun _ s2 ⟨x, H2, J2, rx, yx, t2, n2⟩ => ?_)
    have J3 := J2.pinned (own J2 n2) (T.obj _ _ t2)
    have q3 := pg.run _ s2 σ0 H2 x u _ J3 rx (nxt x H2 yx)
    rw [hx] at q3
    refine wpAny_bind (thnF q3 fun _ s3 ⟨σ4, H4, J4, ew, q4⟩ => ?_)
    have q5 := pt.run _ s3 σ4 H4 _ J4 q4
    rw [hx] at q5
    have back : ∀ {σ' H' s'}, Inv Y (pins ++ pinsAt fp s2.heap) σ' H' s' → Knows σ0 σ' → Nx H' → ∃ m', m' < m ∧ Rest Y pins σ0 fp tn W m' s' := fun {σ' H' s'} Jn kn nx => by
      obtain ⟨m', lt, w'⟩ := low H' nx
      have held : ∀ b ∈ fp, ∀ o, s2.heap.get? b = some o → s'.heap.get? b = some o ∧ H' b = none := fun b hb o e =>
        ⟨(Jn.pin (b, o) (List.mem_append_right _ (List.mem_append_right _ (mem_pinsAt hb e)))).1, (Jn.pin (b, o) (List.mem_append_right _ (List.mem_append_right _ (mem_pinsAt hb e)))).2.1⟩
      exact ⟨m', lt, j + 1, H', (Jn.unpinned (pins := pins)).weak kn.1 kn.2, T.keep _ _ _ t2 fun b hb o e => (held b hb o e).1, fun b hb => (T.obj _ _ t2 b hb).elim fun o e => (held b hb o e.1).2, w'⟩
    refine wpAny_bind (thnF q5 fun b s5 ⟨H5, J5, q6⟩ => ?_)
    cases b with
    | false => exact wpAny_pure ⟨rfl, back J5 (Knows.wiped ew) q6⟩
    | true =>
      refine thnF (bd _ _ _ _ _ J5 ew q6) fun r s6 ⟨er, σ6, H6, J6, kn, nx⟩ => ?_
      subst er
      exact ⟨rfl, back J6 kn nx⟩
end

section
variable {prog : Program} {w : World} {ar : Around} {R : Result → Shared → Prop} {s : Shared} {el : Expr} {gs : List Comprehension} {sc : Scope} {ps' : Pos} {k : Nat} {it : Addr} {acc : Value} {env : Env}
theorem start_at {c0 : Comprehension} (hg : gs[k]? = some c0) (ha : (c0.is_async != 0) = false) (h0 : codeAny (model prog w) ar (.compLoop (.ListComp el gs sc ps') k (.ref it) acc env) R s)
    (self : ∀ (Q : Value → Shared → Prop) (E : Value → Shared → Prop), Q (.ref it) s → wpAny (model prog w) ar (pyIter (.ref it)) Q E s) : codeAny (model prog w) ar (.compStart (.ListComp el gs sc ps') k (.ref it) acc env) R s := by
  refine codeAny_of_tree ?_
  show wpAny _ _ ((compStart (.ListComp el gs sc ps') k (.ref it) acc env).onRaise fun x => do noteFrame x env; standAt theWindowsPlace) _ _ s
  refine wpAny_notedAt ?_
  unfold compStart
  have e1 : (clausesOf (.ListComp el gs sc ps'))[k]? = some c0 := hg
  rw [e1]
  simp only [Option.elim, ha]
  refine wpAny_bind (wpAny_askSetting (wpAny_ite ?_))
  split
  · exact wpAny_bind (wpAny_pure (wpAny_pure ⟨rfl, h0⟩))
  · refine wpAny_bind (wpAny_rule ?_)
    exact wpAny_bind (wpAny_standAt (wpAny_bind (self _ _ (wpAny_pure ⟨rfl, h0⟩))))
end

def finSub (cx : Expr) (k : Nat) (i1 : Expr) (it acc : Value) (env : Env) : Sem Fin := (eval i1 env >>= fun x => standAt i1.pos >>= fun _ => foldedSetIterable i1 env x >>= fun x => holding [x] (pyIter x) >>= fun it1 => runOwn (.compStart cx (k + 1) it1 acc env) env >>= fun _ => again (.compLoop cx k it acc env))
def finApp (cx : Expr) (k : Nat) (elt : Expr) (it acc : Value) (env : Env) : Sem Fin := ((eval elt env >>= fun x => call (.builtin "list.append") [acc, x] >>= fun _ => pure PUnit.unit) >>= fun _ => again (.compLoop cx k it acc env))
section
variable {Y : Cx} {tg1 iter1 elt : Expr} {wi1 : TI} {te : TE} {el : Expr} {gs : List Comprehension} {sc : Scope} {ps' : Pos} {k : Nat} {it acc : Value} {c0 : Comprehension} {ps : List (Addr × Obj)} {σ2 : St} {H2 : Hp} {s2 : Shared}
theorem fin_sub {R1 : It → Hp → Prop} {Post : Shared → Prop} (hg : gs[k + 1]? = some c0) (ha : (c0.is_async != 0) = false) (hx : Y.xe = fun _ _ => False) (pi : PI Y tg1 iter1 wi1) (hs1 : ∀ env x, foldedSetIterable iter1 env x = pure x) (J2 : Inv Y ps σ2 H2 s2) (q : wi1 σ2 H2 R1)
    (h : ∀ it1 fp1 tn1 J1 H4 s4, Inv Y ps σ2 H4 s4 → Turn Y.prog Y.w Y.K tg1 J1 fp1 it1 tn1 → tn1 0 s4.heap → (∀ b ∈ fp1, FpOk Y ps H4 b) → R1 J1 H4 → codeAny (model Y.prog Y.w) Y.A (.compLoop (.ListComp el gs sc ps') (k + 1) (.ref it1) acc Y.env) (fun r s' => match r with | .ok _ => Post s' | .error _ => False) s4) :
    wpAny (model Y.prog Y.w) Y.A (finSub (.ListComp el gs sc ps') k iter1 it acc Y.env) (fun r s' => r = .again (.compLoop (.ListComp el gs sc ps') k it acc Y.env) ∧ Post s') (fun _ _ => False) s2 := by
  have q1 := pi.run ps s2 σ2 H2 R1 J2 q
  rw [hx] at q1
  refine wpAny_bind (thnF q1 fun v s3 q3 => wpAny_bind (wpAny_standAt (wpAny_bind (wpAny_of_eq (hs1 _ v) (wpAny_bind (wpAny_holding (thnF q3 fun itv s4 q4 => ?_)))))))
  obtain ⟨it1, fp1, tn1, J1, H4, rfl, J4, T1, t4, f4, r4⟩ := q4
  refine wpAny_bind (wpAny_runOwn ?_)
  rw [Around.mark_none]
  refine codeAny_mono (start_at hg ha (h it1 fp1 tn1 J1 H4 s4 J4 T1 t4 f4 r4) fun Q E z => T1.self _ 0 _ _ _ t4 z) fun r s' hr => ?_
  cases r with
  | ok f => exact wpAny_pure ⟨rfl, hr⟩
  | error e => exact hr.elim
theorem fin_app {D : Addr} {Nx : Hp → Prop} (hx : Y.xe = fun _ _ => False) (pe : PE Y elt te) (J2 : Inv Y ps σ2 H2 s2) (q : te σ2 H2 fun y H7 => ∃ xs, H7 D = some (.lst xs) ∧ xs.length < sizeLine ∧ Nx (upd H7 D (.lst (xs ++ [y])))) :
    wpAny (model Y.prog Y.w) Y.A (finApp (.ListComp el gs sc ps') k elt it (.ref D) Y.env) (fun r s' => r = .again (.compLoop (.ListComp el gs sc ps') k it (.ref D) Y.env) ∧ ∃ H', Inv Y ps σ2 H' s' ∧ Nx H') (fun _ _ => False) s2 := by
  have q1 := pe.run ps s2 σ2 H2 _ J2 q
  rw [hx] at q1
  refine wpAny_bind (wpAny_bind (thnF q1 fun v s3 ⟨y, H7, J7, r7, xs, e7, l7, nx⟩ => wpAny_bind (app_ok (X := Y) J7 e7 l7 r7 fun s4 J8 => ?_)))
  exact wpAny_pure (wpAny_pure ⟨rfl, _, J8, nx⟩)
end

/-! ### the block is opened -/
section
variable {X : Cx} {elt tg iter : Expr} {gs : List Comprehension} {scope : Scope} {own : List (Str × Nat)} {pos : Pos} {wi : TI}
theorem pe_comp (Kt : St → It → Hp → Addr → VK → Prop) (hc : X.calm = true) (hN : X.N.Nodup) (hi : PI X tg iter wi) (ok : BlkOk X.N X.env.scope scope own) (hs : ∀ x, foldedSetIterable iter X.env x = pure x)
    (loop : ∀ s H C cl fp σ J H1 D Q it tn s4 R, Inv (X.blk s H scope (compEnvC scope cl C X.env) fp) [] (wipe σ (own.map (·.2))) (upd H1 D (.lst [])) s4 → Turn X.prog X.w X.K tg J fp it tn → tn 0 s4.heap → (∀ b ∈ fp, (upd H1 D (.lst [])) b = none) →
      (∀ {σ' H' s'}, Inv (X.blk s H scope (compEnvC scope cl C X.env) fp) [] σ' H' s' → (∀ b ∈ fp, H' b = none) → ∀ b ∈ fp, FpOk (X.blk s H scope (compEnvC scope cl C X.env) fp) [] H' b) → Kt σ J H1 D Q →
      (∀ H' s', Inv (X.blk s H scope (compEnvC scope cl C X.env) fp) [] (wipe σ (own.map (·.2))) H' s' → Q (.ref D) H' → R (.ok .next) s') → codeAny (model X.prog X.w) X.A (.compLoop (.ListComp elt (⟨tg, iter, [], 0⟩ :: gs) scope pos) 0 (.ref it) (.ref D) (compEnvC scope cl C X.env)) R s4) :
    PE X (.ListComp elt (⟨tg, iter, [], 0⟩ :: gs) scope pos) (fun σ H Q => wi σ H fun J H1 => ∀ D, H1 D = none → Kt σ J H1 D Q) := by
  refine ⟨fun pins s σ H Q I h => ?_⟩
  rw [eval_ListComp]
  have fr : ∀ y ∈ scope.names, y.2 = .free → ∃ c, X.env.cells.lookup y.1 = some c := fun y m e => I.ok.has _ (ok.free y m e)
  refine wpAny_comprehension_free (use := none) rfl hs (closure_ok fr) ok.kind (fun y m e => (ok.uniq y m).trans (by rw [e])) (thn (hi.run pins s σ H _ I h) fun v s1 q1 => thn q1 fun itv s2 q2 => ?_)
  obtain ⟨it, fp, tn, J, H1, rfl, I2, T, t2, f2, q3⟩ := q2
  refine wpAny_newObj_type (newEnv_comp ?_) (Nat.zero_le _)
  have free2 : H1 s2.heap.objs.size = none := I2.hok.fresh (Nat.le_refl _)
  have I3 : Inv X pins σ (upd H1 s2.heap.objs.size (.lst [])) { s2 with heap := s2.heap.push { cls := .type "list", data := .seq ([] : List Value).toArray } } :=
    I2.laid (t' := s2.toks) (fun b o e => Heap.get?_push_of_some _ e) (Nat.le_refl _) ⟨Nat.zero_le _, [], 0, .nil, Heap.get?_push_size _ rfl⟩
  have f3 : ∀ b ∈ fp, FpOk X pins (upd H1 s2.heap.objs.size (.lst [])) b ∧ b < (s2.heap.push { cls := .type "list", data := .seq ([] : List Value).toArray }).objs.size := fun b hb => by
    obtain ⟨o, e, _⟩ := T.obj _ _ t2 b hb
    have lt := Heap.lt_size e
    exact ⟨⟨by rw [upd_ne (Nat.ne_of_lt lt)]; exact (f2 b hb).1, (f2 b hb).2⟩, by rw [Heap.size_push]; exact Nat.lt_succ_of_lt lt⟩
  have t3 := T.keep _ _ (s2.heap.push { cls := .type "list", data := .seq ([] : List Value).toArray }) t2 fun b _ o e => Heap.get?_push_of_some _ e
  have I4 := block_start I3 ok hN f3
  have t4 : tn 0 (pushCells ((s2.heap.push { cls := .type "list", data := .seq ([] : List Value).toArray }).push { cls := .type "dict", data := .dict #[] }) scope.names) := T.keep _ _ _ t3 fun b _ o e => pushCells_keeps _ _ _ _ (Heap.get?_push_of_some _ e)
  refine start_at (k := 0) (c0 := ⟨tg, iter, [], 0⟩) (env := compEnvC scope (cellsFrom ((s2.heap.push { cls := .type "list", data := .seq ([] : List Value).toArray }).objs.size + 1) scope.names (cloFrom X.env.cells scope.names [])) (s2.heap.push { cls := .type "list", data := .seq ([] : List Value).toArray }).objs.size X.env) rfl rfl ?_ fun P E z => T.self _ 0 _ _ _ t4 z
  refine loop _ _ _ _ _ σ J H1 _ Q it tn _ _ I4 T t4 (fun b m => (f3 b m).1.1) (fun {σ' H' s'} I' n b m => ⟨n b m, (I'.ok.exf b m).1, I'.ok.exfs b m, .inl m, fun x c e => (I'.ok.exf b m).2 x c e, fun p z => by simp at z⟩) (q3 _ free2) fun H' s' I' z => ?_
  have Jx : Inv X pins σ H' s' := I3.call' (ch := fp) I'.os I'.base I'.hok I'.bare fun b m => ⟨(f3 b m).1.2.2.2.1, (f3 b m).1.2.1, (f3 b m).1.2.2.2.2.1, (f3 b m).1.2.2.2.2.2⟩
  obtain ⟨m, ns, _⟩ := I'.loc
  obtain ⟨g0, g1, g2, g3, g4, g5⟩ := I3.fpOk (H' := H') (Nat.le_refl _) I'.free
  exact ⟨m, ns, fun h' sb => ⟨.ref s2.heap.objs.size, H', Jx.turned (t' := s'.toks) (fun b o n e => (sb.2 b n).trans e) g0 g1 g3 g4 g5, rfl, z⟩⟩
end

/-! ### three fors -/
section
variable {X : Cx} {elt tg iter tg1 iter1 tg2 iter2 : Expr} {ifs2 : List Expr} {scope : Scope} {own : List (Str × Nat)} {vs vs1 vs2 : List Nat} {pos pos' : Pos} {wi wi1 wi2 : TI} {g g1 g2 : TG} {tt2 : TT} {te : TE}
abbrev lcE3 (elt tg iter tg1 iter1 tg2 iter2 : Expr) (ifs2 : List Expr) (scope : Scope) (pos : Pos) : Expr := .ListComp elt [⟨tg, iter, [], 0⟩, ⟨tg1, iter1, [], 0⟩, ⟨tg2, iter2, ifs2, 0⟩] scope pos
section
variable {acc : Value} {env : Env}
theorem turn3_0 : TurnIs (lcE3 elt tg iter tg1 iter1 tg2 iter2 ifs2 scope pos) 0 tg iter [] acc env (fun it => finSub (lcE3 elt tg iter tg1 iter1 tg2 iter2 ifs2 scope pos) 0 iter1 it acc env) := fun it => rfl
theorem turn3_1 : TurnIs (lcE3 elt tg iter tg1 iter1 tg2 iter2 ifs2 scope pos) 1 tg1 iter1 [] acc env (fun it => finSub (lcE3 elt tg iter tg1 iter1 tg2 iter2 ifs2 scope pos) 1 iter2 it acc env) := fun it => rfl
theorem turn3_2 : TurnIs (lcE3 elt tg iter tg1 iter1 tg2 iter2 ifs2 scope pos) 2 tg2 iter2 ifs2 acc env (fun it => finApp (lcE3 elt tg iter tg1 iter1 tg2 iter2 ifs2 scope pos) 2 elt it acc env) := fun it => rfl
end
def tLc3 (wi : TI) (g : TG) (wi1 : TI) (g1 : TG) (wi2 : TI) (g2 : TG) (tt2 : TT) (te : TE) (vs vs1 vs2 : List Nat) : TE := fun σ H Q => wi σ H fun J H1 => ∀ D, H1 D = none → ∃ W : Nat → Nat → Hp → Prop, (∃ m, W 0 m (upd H1 D (.lst []))) ∧
  clauseT J g tYes (wipe σ vs) vs (fun H => Q (.ref D) H) (fun σ2 H2 Nx => wi1 σ2 H2 fun J1 H4 => ∃ W1 : Nat → Nat → Hp → Prop, (∃ m, W1 0 m H4) ∧
    clauseT J1 g1 tYes (wipe σ2 vs1) vs1 Nx (fun σ3 H5 Nx1 => wi2 σ3 H5 fun J2 H6 => ∃ W2 : Nat → Nat → Hp → Prop, (∃ m, W2 0 m H6) ∧
      clauseT J2 g2 tt2 (wipe σ3 vs2) vs2 Nx1 (fun σ4 H8 Nx2 => te σ4 H8 fun y H9 => ∃ acc, H9 D = some (.lst acc) ∧ acc.length < sizeLine ∧ Nx2 (upd H9 D (.lst (acc ++ [y])))) W2) W1) W
theorem pe_lc3 (hc : X.calm = true) (hN : X.N.Nodup) (hi : PI X tg iter wi) (ok : BlkOk X.N X.env.scope scope own) (hv : ∀ i ∈ vs1, i ∈ own.map (·.2)) (hw : ∀ i ∈ vs2, i ∈ vs1)
    (hg : ∀ (s : Shared) (H : Hp) (C : Addr) (cl : List (Str × Addr)) (fp : List Addr), PG (X.blk s H scope (compEnvC scope cl C X.env) fp) tg g)
    (hi1 : ∀ (s : Shared) (H : Hp) (C : Addr) (cl : List (Str × Addr)) (fp : List Addr), PI (X.blk s H scope (compEnvC scope cl C X.env) fp) tg1 iter1 wi1) (hg1 : ∀ (s : Shared) (H : Hp) (C : Addr) (cl : List (Str × Addr)) (fp : List Addr), PG (X.blk s H scope (compEnvC scope cl C X.env) fp) tg1 g1)
    (hi2 : ∀ (s : Shared) (H : Hp) (C : Addr) (cl : List (Str × Addr)) (fp : List Addr), PI (X.blk s H scope (compEnvC scope cl C X.env) fp) tg2 iter2 wi2) (hg2 : ∀ (s : Shared) (H : Hp) (C : Addr) (cl : List (Str × Addr)) (fp : List Addr), PG (X.blk s H scope (compEnvC scope cl C X.env) fp) tg2 g2)
    (ht2 : ∀ (s : Shared) (H : Hp) (C : Addr) (cl : List (Str × Addr)) (fp : List Addr), PTs (X.blk s H scope (compEnvC scope cl C X.env) fp) ifs2 tt2) (he : ∀ (s : Shared) (H : Hp) (C : Addr) (cl : List (Str × Addr)) (fp : List Addr), PE (X.blk s H scope (compEnvC scope cl C X.env) fp) elt te)
    (hs : ∀ x, foldedSetIterable iter X.env x = pure x) (hs1 : ∀ env x, foldedSetIterable iter1 env x = pure x) (hs2 : ∀ env x, foldedSetIterable iter2 env x = pure x) :
    PE X (lcE3 elt tg iter tg1 iter1 tg2 iter2 ifs2 scope pos) (tLc3 wi g wi1 g1 wi2 g2 tt2 te (own.map (·.2)) vs1 vs2) := by
  refine pe_comp (fun σ J H1 D Q => ∃ W : Nat → Nat → Hp → Prop, (∃ m, W 0 m (upd H1 D (.lst []))) ∧ clauseT J g tYes (wipe σ (own.map (·.2))) (own.map (·.2)) (fun H => Q (.ref D) H) _ W) hc hN hi ok hs ?_
  rintro s H C cl fp σ J H1 D Q it tn s4 R I4 T t4 n4 own4 ⟨W, ⟨m, w⟩, tu⟩ fin
  refine clause (Y := X.blk s H scope (compEnvC scope cl C X.env) fp) turn3_0 hc rfl T (hg s H C cl fp) pts_nil own4 tu (fun ps σ2 H2 s2 Nx J2 e2 q2 => ?_) fin m s4 ⟨0, _, I4, t4, n4, w⟩
  refine wpAny_mono (fin_sub (Post := fun s' => ∃ σ' H', Inv (X.blk s H scope (compEnvC scope cl C X.env) fp) ps σ' H' s' ∧ Knows (wipe σ (own.map (·.2))) σ' ∧ Nx H') (k := 0) (c0 := ⟨tg1, iter1, [], 0⟩) rfl rfl rfl (hi1 s H C cl fp) hs1 J2 q2 ?_) (fun r s' h => h) (fun _ _ h => h)
  rintro it1 fp1 tn1 J1 H4 s5 J5 T1 t5 f5 ⟨W1, ⟨m1, w1⟩, tu1⟩
  refine clause (Y := X.blk s H scope (compEnvC scope cl C X.env) fp) turn3_1 hc rfl T1 (hg1 s H C cl fp) pts_nil (fun _ n b m => ⟨n b m, (f5 b m).2⟩) tu1 (fun ps3 σ3 H5 s6 Nx1 J6 e6 q6 => ?_) (fun H' s' J' z => ⟨_, H', J', Knows.sub e2 hv, z⟩) m1 s5 ⟨0, _, J5.weak (wipe_length _ _) (fun j v e => (wipe_some e).1), t5, fun b m => (f5 b m).1, w1⟩
  refine wpAny_mono (fin_sub (Post := fun s' => ∃ σ' H', Inv (X.blk s H scope (compEnvC scope cl C X.env) fp) ps3 σ' H' s' ∧ Knows (wipe σ2 vs1) σ' ∧ Nx1 H') (k := 1) (c0 := ⟨tg2, iter2, ifs2, 0⟩) rfl rfl rfl (hi2 s H C cl fp) hs2 J6 q6 ?_) (fun r s' h => h) (fun _ _ h => h)
  rintro it2 fp2 tn2 J2' H6 s7 J7 T2 t7 f7 ⟨W2, ⟨m2, w2⟩, tu2⟩
  refine clause (Y := X.blk s H scope (compEnvC scope cl C X.env) fp) turn3_2 hc rfl T2 (hg2 s H C cl fp) (ht2 s H C cl fp) (fun _ n b m => ⟨n b m, (f7 b m).2⟩) tu2 (fun ps4 σ4 H8 s8 Nx2 J8 e8 q8 => ?_) (fun H' s' J' z => ⟨_, H', J', Knows.sub e6 hw, z⟩) m2 s7 ⟨0, _, J7.weak (wipe_length _ _) (fun j v e => (wipe_some e).1), t7, fun b m => (f7 b m).1, w2⟩
  exact wpAny_mono (fin_app rfl (he s H C cl fp) J8 q8) (fun r s' ⟨er, H', J', z⟩ => ⟨er, σ4, H', J', Knows.wiped e8, z⟩) (fun _ _ h => h)
end
end L2

namespace DL
open PySem PySem.Spec PyProof.Rows L2
variable [TB]

section
variable {X : Cx} {Z : Fix} {fe : Env' → Res SV} {ft : Env' → Res Bool} {fi fi1 fi2 : Env' → Res (List D)} {T T1 T2 : Tg} {vs vs1 vs2 : List Nat} {σ : L2.St} {A : Addr} {H1 Hs : Hp} {F1 Fs O1 B1 : AP'} {Fin : Res (List D) → Prop}
/-- a clause's walk of what its source yields, the loop's own end left to Stop -/
def Inner (X : Cx) (Z : Fix) (A : Addr) (H1 : Hp) (F1 O1 B1 : AP') (g1 : TG) (tt1 : TT) (vs1 : List Nat) (Bd1 : L2.St → Hp → (Hp → Prop) → Prop) (inner : List D → List D → Env' → Res (List D)) : Prop :=
  ∀ (σ2 : L2.St) (J1 : L2.It) (H4 : Hp) (F4 : AP') (ρ : Env') (acc items : List D) (Fin1 : Res (List D) → Prop) (Stop : Hp → Prop), WalkD X.K Z.fa J1 items H4 F4 → CAt X.K Z.fa A H1 F1 O1 B1 H4 F4 H4 F4 (wipe σ2 vs1) ρ acc → Fin1 (inner items acc ρ) → ¬ Fin1 .stuck →
    (∀ {H F ρ acc}, CAt X.K Z.fa A H1 F1 O1 B1 H4 F4 H F (wipe σ2 vs1) ρ acc → Fin1 (.ok acc ρ) → Stop H) → ∃ W1 : Nat → Nat → Hp → Prop, (∃ m, W1 0 m H4) ∧ clauseT J1 g1 tt1 (wipe σ2 vs1) vs1 Stop Bd1 W1
theorem inner_go (hT : ∀ i ∈ T.sl, i ∈ vs) : Inner X Z A H1 F1 O1 B1 (tG X Z.quiet T) (tD X Z.quiet RB ft) vs (fun σ4 H8 Nx2 => tD X Z.quiet (RSV X.K Z.quiet) fe σ4 H8 fun y H9 => ∃ acc, H9 A = some (.lst acc) ∧ acc.length < sizeLine ∧ Nx2 (upd H9 A (.lst (acc ++ [y])))) (lcGo fe ft vs T) := by
  intro σ2 J1 H4 F4 ρ acc items Fin1 Stop w c h hF stop
  refine walk_lc w (fun ds H F => ∃ ρ acc, CAt X.K Z.fa A H1 F1 O1 B1 H4 F4 H F (wipe σ2 vs) ρ acc ∧ Fin1 (lcGo fe ft vs T ds acc ρ)) (fun ds H F ⟨_, _, c, _⟩ => ⟨c.sy, c.ok.fd⟩) ⟨_, _, c, h⟩ _ _ (fun H F ⟨ρ, acc, c, h⟩ => ?_) (fun d ds H F x H' p m => lc_turn (X := X) (Z := Z) (Fin := Fin1) hT hF p m)
  unfold lcGo at h
  exact stop c h
theorem inner_out {g1 : TG} {tt1 : TT} {Bd1 : L2.St → Hp → (Hp → Prop) → Prop} {inner : List D → List D → Env' → Res (List D)} (hT : ∀ i ∈ T.sl, i ∈ vs) (hv : ∀ i ∈ vs1, i ∈ vs) (hin : Inner X Z A H1 F1 O1 B1 g1 tt1 vs1 Bd1 inner) :
    Inner X Z A H1 F1 O1 B1 (tG X Z.quiet T) tYes vs (fun σ2 H2 Nx => tD X Z.quiet (RW X.K Z.quiet) fi1 σ2 H2 fun J1 H4 => ∃ W1 : Nat → Nat → Hp → Prop, (∃ m, W1 0 m H4) ∧ clauseT J1 g1 tt1 (wipe σ2 vs1) vs1 Nx Bd1 W1) (lcOut vs vs1 T fi1 inner) := by
  intro σ J0 H3 F3 ρ acc items Fin Stop w c h hF stop
  refine walk_lc w (fun ds H F => ∃ ρ acc, CAt X.K Z.fa A H1 F1 O1 B1 H3 F3 H F (wipe σ vs) ρ acc ∧ Fin (lcOut vs vs1 T fi1 inner ds acc ρ)) (fun ds H F ⟨_, _, c, _⟩ => ⟨c.sy, c.ok.fd⟩) ⟨_, _, c, h⟩ _ _ (fun H F ⟨ρ, acc, c, h⟩ => ?_) (fun d ds H F x H' p m => ?_)
  · unfold lcOut at h
    exact stop c h
  · obtain ⟨ρ, acc, c, h⟩ := p
    obtain ⟨F2, gr, rx, _⟩ := m
    unfold lcOut at h
    split at h
    · exact (hF h).elim
    · rename_i ρa e
      refine ⟨F2, ρ, d, ρa, (c.grow gr).ok, rx, e, fun σ2 ok2 st2 kp => ?_⟩
      have weq : wipe σ2 vs = wipe σ vs := (wipe_keep kp hT).trans (wipe_wipe fun _ z => z)
      have c3 := (c.grow gr).step st2 ok2
      refine ⟨weq, ?_⟩
      unfold tYes
      refine cast (if_pos (rfl : true = true)).symm ⟨F2, ρa, ok2, ?_⟩
      cases hf : fi1 ρa with
      | stuck => rw [hf] at h; exact (hF h).elim
      | exc x ρx => rw [hf] at h; exact (hF h).elim
      | ok items1 ρb =>
        rw [hf] at h
        dsimp only [Res.bindN] at h
        intro J1 H4 F4 st4 ok4 w1
        split at h
        · rename_i t1
          have c4 := c3.step st4 ok4
          refine hin σ2 J1 H4 F4 _ _ _ (fun r => Fin (Res.bindN (β := List D) r fun acc' ρ3 => if tame ρ3 vs = true then lcOut vs vs1 T fi1 inner ds acc' (wipeR ρ3 vs) else .stuck)) _ w1 ((c4.wiped t1).rebase Stays.refl) h (fun z => hF z) fun {H F ρ acc} c5 h5 => ?_
          dsimp only [Res.bindN] at h5
          split at h5
          · rename_i t3
            have c6 := (c5.wiped t3).rebase (c4.sy.trans c5.sy)
            rw [wipe_wipe hv, weq] at c6
            exact ⟨F, _, _, c6, h5⟩
          · exact (hF h5).elim
        · exact (hF h).elim
theorem lc3_weak (hT : ∀ i ∈ T.sl, i ∈ vs) (hT1 : ∀ i ∈ T1.sl, i ∈ vs1) (hT2 : ∀ i ∈ T2.sl, i ∈ vs2) (hv : ∀ i ∈ vs1, i ∈ vs) (hw : ∀ i ∈ vs2, i ∈ vs1) {H : Hp} {Q : VK} (h : tD X Z (RSV X.K Z) (lcFin vs fi (lcOut vs vs1 T fi1 (lcOut vs1 vs2 T1 fi2 (lcGo fe ft vs2 T2)))) σ H Q) :
    tLc3 (tD X Z (RW X.K Z) fi) (tG X Z.quiet T) (tD X Z.quiet (RW X.K Z.quiet) fi1) (tG X Z.quiet T1) (tD X Z.quiet (RW X.K Z.quiet) fi2) (tG X Z.quiet T2) (tD X Z.quiet RB ft) (tD X Z.quiet (RSV X.K Z.quiet) fe) vs vs1 vs2 σ H Q := by
  obtain ⟨F, ρ, ok, h⟩ := h
  unfold lcFin at h
  refine ⟨F, ρ, ok, (PostG.bind late_RSV h).imp ?_⟩
  rintro J H1 ⟨items, F1, ρ1, ok1, st1, w, h1⟩
  intro A hA
  split at h1
  · rename_i t
    have gr : Grow H1 F1 (upd H1 A (.lst [])) F1 := Grow.new ok1.fd hA
    have c0 : CAt X.K Z.fa A H1 F1 (Own σ ρ1) (Bor σ ρ1) H1 F1 (upd H1 A (.lst [])) F1 σ ρ1 [] := ⟨ok1.grow gr, gr.step, gr.stays, hA, ⟨[], upd_same, .nil⟩, fun z => ok1.fd A z hA, fun z => by
      obtain ⟨o, e, _⟩ := ok1.own_at z
      rw [hA] at e; cases e⟩
    refine inner_out hT hv (inner_out hT1 hw (inner_go hT2)) σ J (upd H1 A (.lst [])) F1 _ _ _ (fun r => PostG X.K Z (RSV X.K Z) σ H1 F1 ρ1 (Res.bind (β := SV) r fun acc ρ2 => .ok (.own (.lst acc)) (backR ρ1 ρ2 vs)) Q) _ ⟨fun i H F s => w.goes i H F (c0.sy.trans s), fun i H F s => w.stops i H F (c0.sy.trans s), fun i H F x H' s => w.yields i H F x H' (c0.sy.trans s)⟩ ((c0.wiped t).rebase Stays.refl) h1 (fun z => z) fun {H F ρ acc} c h => ?_
    obtain ⟨xs, e, rl⟩ := c.lst
    exact h (.ref A) H F (c.st.congr (fun _ => Iff.rfl) (fun _ => Iff.rfl) (fun _ => (own_back t).symm) fun _ => (bor_back t).symm) (EnvOk.back ok1 t (c.st.stays ok1) c.ok) ⟨⟨A, rfl, c.nF, .lst e rl⟩, A, rfl, hA, fun z => c.nO ((own_back t).mp z)⟩
  · exact h1.elim
theorem pd_lc3 {elt tg iter tg1 iter1 tg2 iter2 : Expr} {ifs : List Expr} {scope : Scope} {own : List (Str × Nat)} {pos : Pos} (hc : X.calm = true) (hN : X.N.Nodup) (hi : PId X Z tg iter fi) (ok : BlkOk X.N X.env.scope scope own) (ho : own.map (·.2) = vs) (hT : ∀ i ∈ T.sl, i ∈ vs) (hT1 : ∀ i ∈ T1.sl, i ∈ vs1) (hT2 : ∀ i ∈ T2.sl, i ∈ vs2) (hv : ∀ i ∈ vs1, i ∈ vs) (hw : ∀ i ∈ vs2, i ∈ vs1)
    (hg : ∀ (s : Shared) (H : Hp) (C : Addr) (cl : List (Str × Addr)) (fp : List Addr), PGd (X.blk s H scope (compEnvC scope cl C X.env) fp) Z.quiet tg T)
    (hi1 : ∀ (s : Shared) (H : Hp) (C : Addr) (cl : List (Str × Addr)) (fp : List Addr), PId (X.blk s H scope (compEnvC scope cl C X.env) fp) Z.quiet tg1 iter1 fi1)
    (hg1 : ∀ (s : Shared) (H : Hp) (C : Addr) (cl : List (Str × Addr)) (fp : List Addr), PGd (X.blk s H scope (compEnvC scope cl C X.env) fp) Z.quiet tg1 T1)
    (hi2 : ∀ (s : Shared) (H : Hp) (C : Addr) (cl : List (Str × Addr)) (fp : List Addr), PId (X.blk s H scope (compEnvC scope cl C X.env) fp) Z.quiet tg2 iter2 fi2)
    (hg2 : ∀ (s : Shared) (H : Hp) (C : Addr) (cl : List (Str × Addr)) (fp : List Addr), PGd (X.blk s H scope (compEnvC scope cl C X.env) fp) Z.quiet tg2 T2)
    (ht : ∀ (s : Shared) (H : Hp) (C : Addr) (cl : List (Str × Addr)) (fp : List Addr), PTs (X.blk s H scope (compEnvC scope cl C X.env) fp) ifs (tD (X.blk s H scope (compEnvC scope cl C X.env) fp) Z.quiet RB ft))
    (he : ∀ (s : Shared) (H : Hp) (C : Addr) (cl : List (Str × Addr)) (fp : List Addr), PEd (X.blk s H scope (compEnvC scope cl C X.env) fp) Z.quiet elt fe) (hs : ∀ x, foldedSetIterable iter X.env x = pure x) (hs1 : ∀ env x, foldedSetIterable iter1 env x = pure x) (hs2 : ∀ env x, foldedSetIterable iter2 env x = pure x) :
    PEd X Z (.ListComp elt [⟨tg, iter, [], 0⟩, ⟨tg1, iter1, [], 0⟩, ⟨tg2, iter2, ifs, 0⟩] scope pos) (lcFin vs fi (lcOut vs vs1 T fi1 (lcOut vs1 vs2 T1 fi2 (lcGo fe ft vs2 T2)))) := by
  subst ho
  exact PE.weak (pe_lc3 (g := tG X Z.quiet T) (wi1 := tD X Z.quiet (RW X.K Z.quiet) fi1) (g1 := tG X Z.quiet T1) (wi2 := tD X Z.quiet (RW X.K Z.quiet) fi2) (g2 := tG X Z.quiet T2) (tt2 := tD X Z.quiet RB ft) (te := tD X Z.quiet (RSV X.K Z.quiet) fe) hc hN hi ok hv hw hg hi1 hg1 hi2 hg2 ht he hs hs1 hs2) fun σ H Q h => lc3_weak hT hT1 hT2 hv hw h
end
end DL

/-! iterators that end while an exception is handled -/
namespace HN
open PySem PySem.Spec PyProof.Rows L2 HotX
section
variable {prog : Program} {w : World} {A : Around} {E : Value → Shared → Prop} {s : Shared}
/-- StopIteration is made and raised -/
theorem stop_hot {x1 : Addr} {Q : Fin → Shared → Prop} (hot : HotAt A x1 s.heap) (hE : ∀ h' e, (∀ b o, s.heap.get? b = some o → h'.get? b = some o) → (∃ o, h'.get? e = some o ∧ o.cls = .type "StopIteration") → E (.ref e) { s with heap := h' }) :
    wpAny (model prog w) A (newExc (.type "StopIteration") [] >>= fun e => (raiseNew e : Sem Fin)) Q E s := by
  obtain ⟨hh, o1, vs1, h1, d1, c1⟩ := hot

  refine wpAny_bind ?_
  simp only [newExc, newTuple]
  refine wpAny_bind (wpAny_newObj_type ?_ (by size_fits))
  refine wpAny_bind (m := firstArgMember _ _) (wpAny_of_eq (a := Value.none) (by first | rfl | (simp only [firstArgMember]; rfl)) ?_)
  refine wpAny_newObj_type ?_ (by size_fits)
  refine raiseNew_hot ⟨hh, o1, vs1, Heap.get?_push_of_some _ (Heap.get?_push_of_some _ h1), d1, c1⟩ (Nat.ne_of_lt (Heap.lt_size (Heap.get?_push_of_some _ h1))) (Heap.get?_push_size _ rfl) rfl (by first | (simp; done) | (simp; omega) | (simp only [Array.size_append]; simp; omega)) ?_
  refine hE _ _ (fun b o e => ?_) ⟨_, Heap.get?_update_self _ (Heap.get?_push_size _ rfl) rfl, rfl⟩
  rw [Heap.get?_update_other _ _ (Nat.ne_of_gt (Heap.lt_size (Heap.get?_push_of_some _ e)))]
  exact Heap.get?_push_of_some _ (Heap.get?_push_of_some _ e)
theorem HotAt.keeps {x1 : Addr} {h h' : Heap} (hot : HotAt A x1 h) (k : ∀ o, h.get? x1 = some o → h'.get? x1 = some o) : HotAt A x1 h' := by
  obtain ⟨hh, o, vs, e, d, c⟩ := hot
  exact ⟨hh, o, vs, k o e, d, c⟩
theorem list_endH {x1 it l : Addr} {i : Nat} {items : Array Value} {Q : Value → Shared → Prop} (hot : HotAt A x1 s.heap) (hne : x1 ≠ it) (hit : s.heap.IsListIter it l i) (hl : s.heap.IsList l items) (hx : items[i]? = none)
    (hE : ∀ h' e, Heap.ExtBut it s.heap h' → (∃ o, h'.get? e = some o ∧ o.cls = .type "StopIteration") → E (.ref e) { s with heap := h' }) : wpAny (model prog w) A (Builtin.SmallTypes.nextOf (.ref it)) Q E s := by
  obtain ⟨o, ho, hc, hd⟩ := id hit
  obtain ⟨ol, hol, _, nl, hdl⟩ := hl
  unfold Builtin.SmallTypes.nextOf
  refine wpAny_bind (wpAny_callSpecial?_slot (name := Str.ofString "__next__") hit.typeIs slot_listiter_next (wpAny_call_entry slot_listiter_next hit.typeIs entry_listiter_next ?_ (args_listiter_next _)))
  show wpAny _ _ (field (.ref it) 0 >>= _) _ _ s
  refine wpAny_bind (wpAny_field ho hd (x := .ref l) rfl ?_)
  show wpAny _ _ (if (Value.ref l == Value.none) = true then _ else _) _ _ s
  rw [if_neg (show ¬ ((Value.ref l == Value.none) = true) from Bool.false_ne_true)]
  show wpAny _ _ (field (.ref it) 1 >>= _) _ _ s
  refine wpAny_bind (wpAny_field ho hd (x := .int i 0) rfl ?_)
  show wpAny _ _ (seqItems? (.ref l) >>= _) _ _ s
  refine wpAny_bind (wpAny_seqItems hol hdl ?_)
  simp only [Int.toNat_natCast, hx]
  refine wpAny_bind (wpAny_rule (wpAny_bind (wpAny_setField ho hd (by simp) ?_)))
  have hot2 : HotAt A.in1 x1 (s.heap.update it (Obj.mapFields (·.setIfInBounds 0 .none))) := HotAt.keeps (A := A.in1) hot fun o e => by rw [Heap.get?_update_other _ _ (Ne.symm hne)]; exact e
  refine stop_hot hot2 fun h' e k st => hE h' e (fun b o hb e => k b o ?_) st
  rw [Heap.get?_update_other _ _ (Ne.symm hb)]
  exact e
theorem draws_listH {x1 : Addr} {o1 : Obj} {vs1 : Array Value} (hh : A.handled = some (.ref x1)) (d1 : o1.data = .fields vs1) (c1 : vs1[2]? = some .none) (it l : Addr) (hne : l ≠ it) (hx : x1 ≠ it) (items : Array Value) :
    Draws prog w A it [it, l, x1] items.size (fun i v => items[i]? = some v) (fun i h => h.IsListIter it l i ∧ h.IsList l items ∧ h.get? x1 = some o1) where
  live := fun _ _ st => let ⟨o, ho, _⟩ := st.1; ⟨o, ho⟩
  frame := fun _ _ _ st hk => ⟨st.1.at fun o e => hk it (by simp) o e, st.2.1.at fun o e => hk l (by simp) o e, hk x1 (by simp) o1 st.2.2⟩
  item := fun i s Q E hi st hQ => by
    refine wpAny_nextOf_list_item st.1 st.2.1 (x := items[i]) (by simp [hi]) fun h' hit' hs' => ?_
    exact hQ _ h' s.toks (by simp [hi]) ⟨hit', st.2.1.extBut hs'.extBut hne, hs'.extBut _ _ hx st.2.2⟩ hs'
  done := fun s Q E st hE => list_endH ⟨hh, o1, vs1, st.2.2, d1, c1⟩ hx st.1 st.2.1 (by simp) hE
end
end HN

namespace HN
open PySem PySem.Spec PyProof.Rows L2 HotX L2H
section
variable {prog : Program} {w : World} {A : Around} {E : Value → Shared → Prop} {s : Shared}
/-- a tuple's iterator ends -/
theorem tuple_endH {x1 it t : Addr} {i : Nat} {items : Array Value} {Q : Option Value → Shared → Prop} (hot : HotAt A x1 s.heap) (hne : x1 ≠ it) (hit : IsTupIter s.heap it t i) (ht : IsTup s.heap t items) (hx : items[i]? = none)
    (hQ : ∀ h', Heap.ExtBut it s.heap h' → Q none { s with heap := h' }) : wpAny (model prog w) A (pyNext (.ref it)) Q E s := by
  obtain ⟨o, ho, hc, hd⟩ := id hit
  obtain ⟨ol, hol, _, nl, hdl⟩ := ht
  unfold pyNext
  refine wpAny_bind (wpAny_attempt (wpAny_callSpecial?_slot (name := Str.ofString "__next__") hit.typeIs slot_tupleiter_next (wpAny_call_entry slot_tupleiter_next hit.typeIs entry_tupleiter_next ?_ (args_tupleiter_next _))))
  show wpAny _ _ (field (.ref it) 0 >>= _) _ _ s
  refine wpAny_bind (wpAny_field ho hd (x := .ref t) rfl ?_)
  show wpAny _ _ (if (Value.ref t == Value.none) = true then _ else _) _ _ s
  rw [if_neg (show ¬ ((Value.ref t == Value.none) = true) from Bool.false_ne_true)]
  show wpAny _ _ (field (.ref it) 1 >>= _) _ _ s
  refine wpAny_bind (wpAny_field ho hd (x := .int i 0) rfl ?_)
  show wpAny _ _ (seqItems? (.ref t) >>= _) _ _ s
  refine wpAny_bind (wpAny_seqItems hol hdl ?_)
  simp only [Int.toNat_natCast, hx]
  refine wpAny_bind (wpAny_rule (wpAny_bind (wpAny_setField ho hd (by simp) ?_)))
  have hot2 : HotAt A.in1 x1 (s.heap.update it (Obj.mapFields (·.setIfInBounds 0 .none))) := HotAt.keeps (A := A.in1) hot fun o e => by rw [Heap.get?_update_other _ _ (Ne.symm hne)]; exact e
  refine stop_hot hot2 fun h' e k st => ?_
  obtain ⟨oe, e1, e2⟩ := st
  refine wpAny_bind (wpAny_isInstance (T := "StopIteration") (b := true) ⟨oe, e1, e2⟩ isSubtype_stop ?_)
  exact wpAny_pure (hQ _ fun b o hb e => k b o (by rw [Heap.get?_update_other _ _ (Ne.symm hb)]; exact e))
theorem unpack_tupleH {x1 t : Addr} {items : Array Value} {Q : List Value → Shared → Prop} (hot : HotAt A x1 s.heap) (ht : IsTup s.heap t items)
    (hQ : ∀ h', Heap.ExtBut s.heap.objs.size s.heap h' → Q items.toList { s with heap := h' }) : wpAny (model prog w) A (unpackItems (.ref t) items.size none) Q E s := by
  have hlt : t ≠ s.heap.objs.size := by obtain ⟨o, ho, _⟩ := ht; exact Nat.ne_of_lt (Heap.lt_size ho)
  have hx1 : x1 ≠ s.heap.objs.size := by obtain ⟨_, o, vs, ho, _⟩ := hot; exact Nat.ne_of_lt (Heap.lt_size ho)
  unfold unpackItems notIterableAtAll
  refine wpAny_bind (wpAny_bind (wpAny_specialOf ht.typeIs slot_tuple_iter.lookup (wpAny_pure ?_)))
  simp only [Bool.false_eq_true, if_false]
  refine wpAny_bind (wpAny_holding (iter_tuple ht ?_))
  refine wpAny_bind (wpAny_holding (draw_tuple hlt items.size 0 _ _ ⟨_, Heap.get?_push_size _ rfl, rfl, rfl⟩ (ht.push _) (by omega) fun h₁ hit₁ hs₁ => ?_))
  have hall : List.take items.size (List.drop 0 items.toList) = items.toList := by rw [List.drop_zero]; exact List.take_of_length_le (by simp)
  rw [hall, if_neg (by simp)]
  have hot1 : HotAt A x1 h₁ := HotAt.keeps hot fun o e => hs₁.extBut _ _ hx1 (Heap.get?_push_of_some _ e)
  refine wpAny_bind (wpAny_holding (tuple_endH (s := { s with heap := h₁ }) hot1 hx1 hit₁ ((ht.push _).extBut hs₁.extBut hlt) (by simp) fun h₂ he₂ => ?_))
  simp only [Option.isSome_none, Bool.false_eq_true, if_false]
  exact wpAny_pure (hQ h₂ fun b o hb e => he₂ b o hb (hs₁.extBut b o hb (Heap.get?_push_of_some _ e)))
theorem zip_endH {x1 z TI TO i1 i2 l1 l2 : Addr} {o1 : Obj} {vs1 : Array Value} {k : Nat} {xs ys : Array Value} {a b : Value} {Q : Option Value → Shared → Prop} (hh : A.handled = some (.ref x1)) (h0 : s.heap.get? x1 = some o1) (d1 : o1.data = .fields vs1) (c1 : vs1[2]? = some .none)
    (D : ZipApart z TI TO i1 i2 l1 l2) (n1 : x1 ≠ z) (n2 : x1 ≠ TO) (n3 : x1 ≠ i1) (n4 : x1 ≠ i2) (hz : IsZip s.heap z TI TO .none) (hTI : IsPair s.heap TI (.ref i1) (.ref i2)) (hTO : IsPair s.heap TO a b) (h1 : s.heap.IsListIter i1 l1 k) (h2 : s.heap.IsListIter i2 l2 k) (hl1 : s.heap.IsList l1 xs) (hl2 : s.heap.IsList l2 ys)
    (e1 : k ≤ xs.size) (e2 : k ≤ ys.size) (he : k = xs.size ∨ k = ys.size) (hQ : ∀ h' tk, (∀ c o, c ≠ z → c ≠ TO → c ≠ i1 → c ≠ i2 → s.heap.get? c = some o → h'.get? c = some o) → Q none { s with heap := h', toks := tk }) : wpAny (model prog w) A (pyNext (.ref z)) Q E s := by
  have S : ZipSep2 z TI TO i1 i2 [i1, l1, x1] [i2, l2, x1] :=
    ⟨D.TIz, D.TOz, D.TITO, D.TIi1, by simp, by simp [Ne.symm D.i1z, Ne.symm D.l1z, Ne.symm n1], by simp [D.TOi1, Ne.symm D.l1TO, Ne.symm n2], D.TIi2, by simp, by simp [Ne.symm D.i2z, Ne.symm D.l2z, Ne.symm n1], by simp [D.TOi2, Ne.symm D.l2TO, Ne.symm n2],
      by simp [D.i12, Ne.symm D.l2i1, Ne.symm n3], by simp [Ne.symm D.i12, Ne.symm D.l1i2, Ne.symm n4]⟩
  exact wpAny_pyNext_zipD2_end S (draws_listH (A := A.in1) hh d1 c1 i1 l1 D.l1i1 n3 xs) (draws_listH (A := A.in1) hh d1 c1 i2 l2 D.l2i2 n4 ys) hz hTI hTO ⟨h1, hl1, h0⟩ ⟨h2, hl2, h0⟩ e1 e2 he hQ
end
/-- the exception that is handled is pinned -/
def HotP (X : Cx) (pins : List (Addr × Obj)) (p : Addr × Obj) : Prop := Hot1 X.A p ∧ p ∈ X.pn ++ pins
theorem HotP.at {X : Cx} {pins : List (Addr × Obj)} {p : Addr × Obj} {σ : L2.St} {H : Hp} {s : Shared} (c : HotP X pins p) (I : Inv X pins σ H s) : HotAt X.A p.1 s.heap := by
  obtain ⟨⟨hh, v1, e1, c1⟩, hp⟩ := c
  exact ⟨hh, p.2, v1, (I.pin p hp).1, e1, c1⟩
theorem pg_tupK {X : Cx} {es : List Expr} {k : Nat} {pos : Pos} {t : TGs} {n : Nat} {p : Addr × Obj} (h : PGs X es t) (hn : (assignEach es X.env).length = n) (hst : (assignEach es X.env).findIdx? (·.1) = none)
    (pins : List (Addr × Obj)) (s : Shared) (σ : L2.St) (H : Hp) (v : V) (u : Value) (Q : L2.St → Hp → Prop) (c : HotP X pins p) (I : Inv X pins σ H s) (r : RelV v u) (hw : gTup X.K n t v σ H Q) :
    wpAny (model X.prog X.w) X.A (assign (.Tuple es k pos) X.env u) (fun _ s' => ∃ σ' H', Inv X pins σ' H' s' ∧ Q σ' H') X.xe s := by
  obtain ⟨a, xs, e1, hq, hl, hw⟩ := hw
  subst e1
  cases r
  obtain ⟨its, rv, ht, hz⟩ := I.tuple hq
  have hsz : (assignEach es X.env).length = its.toArray.size := by simp [hn, ← hl, rv.length]
  rw [PyProof.Rows.assign_Tuple]
  refine wpAny_bind (wpAny_standAt ?_)
  unfold unpack
  rw [hsz, hst]
  refine wpAny_bind (wpAny_holding (unpack_tupleH (c.at I) ht fun h' hx => ?_))
  have I1 : Inv X pins σ H { s with heap := h' } := I.kept (t' := s.toks) fun b o e => hx b o (Nat.ne_of_lt (Heap.lt_size e)) e
  exact h.run pins _ σ H xs _ Q I1 (by simpa using rv) hw
end HN

namespace HN
open PySem PySem.Spec PyProof.Rows L2 HotX
open L2H (Hot1)
/-- an iterator's turns, p's exception being handled -/
structure TurnK (P : Program) (w : World) (K : PySem.W.Frag) (p : Addr × Obj) (tg : Expr) (J : It) (fp : List Addr) (it : Addr) (tn : Nat → Heap → Prop) : Prop where
  mem : it ∈ fp
  obj : ∀ i h, tn i h → ∀ b ∈ fp, ∃ o, h.get? b = some o ∧ ∀ v, o.data ≠ .cell v
  keep : ∀ i h h', tn i h → (∀ b ∈ fp, ∀ o, h.get? b = some o → h'.get? b = some o) → tn i h'
  item : ∀ (X : Cx), X.prog = P → X.w = w → X.K = K → ∀ (i : Nat) (pins : List (Addr × Obj)) (s : Shared) (σ : L2.St) (H : Hp) (E : Value → Shared → Prop), HotP X pins p → Inv X pins σ H s → (∀ b ∈ fp, FpOk X pins H b) → tn i s.heap → J.go i H →
    wpAny (model P w) X.A (pyNext (.ref it)) (fun r s1 => ∃ u, r = some u ∧
      wpAny (model P w) X.A (letOwnedTupleGo tg (.ref it) u) (fun _ s2 => ∃ x H', Inv X pins σ H' s2 ∧ RelV x u ∧ J.yld i H x H' ∧ tn (i + 1) s2.heap ∧ ∀ b ∈ fp, H' b = none) E s1) E s
  done : ∀ (X : Cx), X.prog = P → X.w = w → X.K = K → ∀ (i : Nat) (pins : List (Addr × Obj)) (s : Shared) (σ : L2.St) (H : Hp) (E : Value → Shared → Prop), HotP X pins p → Inv X pins σ H s → (∀ b ∈ fp, FpOk X pins H b) → tn i s.heap → J.stop i H →
    wpAny (model P w) X.A (pyNext (.ref it)) (fun r s1 => r = none ∧ Inv X pins σ H s1) E s
  self : ∀ (A : Around) (i : Nat) (s : Shared) (Q : Value → Shared → Prop) (E : Value → Shared → Prop), tn i s.heap → Q (.ref it) s → wpAny (model P w) A (pyIter (.ref it)) Q E s
/-- the lists at a and b of one length -/
def ItzK (K : PySem.W.Frag) (a b : Addr) (n : Nat) : It :=
  ⟨(Itz K a b).go, (Itz K a b).yld, fun i H => i = n ∧ ∃ xs ys : List V, SqL K H a xs ∧ SqL K H b ys ∧ xs.length = n ∧ ys.length = n⟩
theorem turn_zipK {P : Program} {w : World} {K : PySem.W.Frag} {p : Addr × Obj} {elts : List Expr} {kk : Nat} {tpos : Pos} {a b z TI TO i1 i2 : Addr} {n : Nat} (D : ZipApart z TI TO i1 i2 a b) :
    TurnK P w K p (.Tuple elts kk tpos) (ItzK K a b n) [z, TI, TO, i1, i2] z (fun i h => IsZip h z TI TO .none ∧ IsPair h TI (.ref i1) (.ref i2) ∧ (∃ x y, IsPair h TO x y) ∧ h.IsListIter i1 a i ∧ h.IsListIter i2 b i) := by
  have T := turn_zip (P := P) (w := w) (K := K) (elts := elts) (kk := kk) (tpos := tpos) D
  refine ⟨T.mem, T.obj, T.keep, ?_, ?_, T.self⟩
  · intro X hP hw hK i pins s σ H E hot I hf st hg
    subst hP hw hK
    obtain ⟨hz, hTI, ⟨x0, y0, hTO⟩, h1, h2⟩ := st
    obtain ⟨xs, ys, x, y, hqx, hqy, hx, hy⟩ := hg
    obtain ⟨its, rv, pl, _⟩ := I.list hqx
    obtain ⟨its2, rv2, p2, _⟩ := I.list hqy
    obtain ⟨u, hu, ru⟩ := rv.get hx
    obtain ⟨u2, hu2, ru2⟩ := rv2.get hy
    have hzl : z < s.heap.objs.size := Heap.lt_size hz
    refine wpAny_pyNext_zip_item D hz hTI hTO h1 h2 pl.isList p2.isList (x := u) (y := u2) (by simpa using hu) (by simpa using hu2) fun h' z' TO' h1' h2' hT hsz hk => ⟨_, rfl, wpAny_letOwnedTupleGo_zip (s := { s with heap := h' }) z' fun h'' z'' sb => ?_⟩
    have hT2 : h''.get? s.heap.objs.size = some { cls := .type "tuple", data := .seq #[u, u2] } := (sb.2 _ (Nat.ne_of_gt hzl)).trans hT
    have new : ObjOk X.prog X.w (upd H s.heap.objs.size (.tup [x, y])) h'' s.heap.objs.size (.tup [x, y]) := ⟨by show 2 ≤ sizeLine; decide, [u, u2], .cons ru (.cons ru2 .nil), ⟨_, hT2, rfl, _, rfl⟩⟩
    have cm : ∀ {c : Addr}, c ∉ [z, TI, TO, i1, i2] → c ≠ z ∧ c ≠ TO ∧ c ≠ i1 ∧ c ≠ i2 := fun {c} hb => ⟨fun q => hb (by simp [q]), fun q => hb (by simp [q]), fun q => hb (by simp [q]), fun q => hb (by simp [q])⟩
    have I1 : Inv X pins σ (upd H s.heap.objs.size (.tup [x, y])) { s with heap := h'' } :=
      I.turnedNew (t' := s.toks) (ch := [z, TI, TO, i1, i2]) (fun c o hb q => by obtain ⟨k1, k2, k3, k4⟩ := cm hb; exact (sb.2 c k1).trans (hk c o k1 k2 k3 k4 q)) hf (Nat.le_refl _) new
    refine ⟨.ref s.heap.objs.size, _, I1, rfl, ⟨_, x, y, rfl, I.hok.fresh (Nat.le_refl _), rfl, fun l hl => by rw [I.list_inj hl hqx]; exact hx, fun l hl => by rw [I.list_inj hl hqy]; exact hy⟩,
      ⟨z'', (sb.2 _ D.TIz).trans (hk _ _ D.TIz D.TITO D.TIi1 D.TIi2 hTI), ⟨u, u2, (sb.2 _ D.TOz).trans TO'⟩, h1'.at fun o q => (sb.2 _ D.i1z).trans q, h2'.at fun o q => (sb.2 _ D.i2z).trans q⟩, fun c hcm => ?_⟩
    have hlt : c < s.heap.objs.size := by
      obtain ⟨o, e, _⟩ := T.obj i s.heap ⟨hz, hTI, ⟨x0, y0, hTO⟩, h1, h2⟩ c hcm
      exact Heap.lt_size e
    rw [upd_ne (Nat.ne_of_lt hlt)]
    exact (hf c hcm).1
  · intro X hP hw hK i pins s σ H E hot I hf st hg
    subst hP hw hK
    obtain ⟨hz, hTI, ⟨x0, y0, hTO⟩, h1, h2⟩ := st
    obtain ⟨hi, xs, ys, hqx, hqy, hlx, hly⟩ := hg
    obtain ⟨its, rv, pl, _⟩ := I.list hqx
    obtain ⟨its2, rv2, p2, _⟩ := I.list hqy
    have l1 := rv.length
    have l2 := rv2.length
    obtain ⟨⟨hh, v1, d1, c1⟩, hp⟩ := hot
    have ap : ∀ c ∈ [z, TI, TO, i1, i2], p.1 ≠ c := fun c hc => (hf c hc).2.2.2.2.2 p hp
    refine zip_endH hh (I.pin p hp).1 d1 c1 D (ap z (by simp)) (ap TO (by simp)) (ap i1 (by simp)) (ap i2 (by simp)) hz hTI hTO h1 h2 pl.isList p2.isList (by simp; omega) (by simp; omega) (.inl (by simp; omega)) fun h' tk hk => ⟨rfl, ?_⟩
    exact I.turnedL (t' := tk) (ch := [z, TI, TO, i1, i2]) (fun c o hb q => hk c o (fun e => hb (by simp [e])) (fun e => hb (by simp [e])) (fun e => hb (by simp [e])) (fun e => hb (by simp [e])) q) hf
def PIEK (X : Cx) (pins : List (Addr × Obj)) (σ : L2.St) (p : Addr × Obj) (tg : Expr) (R : It → Hp → Prop) (itv : Value) (s2 : Shared) : Prop :=
  ∃ (it : Addr) (fp : List Addr) (tn : Nat → Heap → Prop) (J : It) (H' : Hp), itv = .ref it ∧ Inv X pins σ H' s2 ∧ TurnK X.prog X.w X.K p tg J fp it tn ∧ tn 0 s2.heap ∧ (∀ b ∈ fp, FpOk X pins H' b) ∧ R J H'
def iZipK (K : PySem.W.Frag) (ta : TA) : TI := fun σ H R => ta σ H fun vs H1 => ∃ a b xs ys n, vs = [.ref a, .ref b] ∧ SqL K H1 a xs ∧ SqL K H1 b ys ∧ xs.length = n ∧ ys.length = n ∧ R (ItzK K a b n) H1
theorem zip_itK {X : Cx} {p : Addr × Obj} {e e2 : Expr} {ta : TA} {q pos tpos : Pos} {elts : List Expr} {kk : Nat} (hg : Gl X "zip") (hm : X.mg "zip" = none) (ha : PA X [e, e2] ta)
    (hs : starEach [e, e2] X.env = (false, eval e X.env) :: starEach [e2] X.env) (hpl : (backTo pos (starEach [e2] X.env)).any (·.1) = false)
    (pins : List (Addr × Obj)) (s : Shared) (σ : L2.St) (H : Hp) (R : It → Hp → Prop) (I : Inv X pins σ H s) (h : iZipK X.K ta σ H R) :
    wpAny (model X.prog X.w) X.A (eval (.Call (.Name "zip" q) [e, e2] [] pos) X.env) (fun v s1 => wpAny (model X.prog X.w) X.A (pyIter v) (PIEK X pins σ p (.Tuple elts kk tpos) R) X.xe s1) X.xe s := by
  refine Call_ (ld_blt I hg hm PyProof.Rows.boot_zip (PyProof.Rows.callWith_type1 (thn (ha.run pos pins s σ H _ I h) fun us s1 ⟨vs, H1, I1, r1, q1⟩ => ?_) hs hpl))
  obtain ⟨a, b, xs, ys, n, ex, hqx, hqy, hlx, hly, q⟩ := q1
  subst ex
  cases r1 with
  | cons r rr =>
    cases rr with
    | cons r' rr =>
      cases rr
      cases r
      cases r'
      obtain ⟨its, rv, p1, _⟩ := I1.list hqx
      obtain ⟨its2, rv2, p2, _⟩ := I1.list hqy
      refine call_zip_2 p1.isList p2.isList fun h' hz hTI hTO h1 h2 hsz hk => wpAny_pyIter_zip hz ?_
      refine ⟨s1.heap.objs.size + 4, [s1.heap.objs.size + 4, s1.heap.objs.size + 2, s1.heap.objs.size + 3, s1.heap.objs.size, s1.heap.objs.size + 1], _, _, H1, rfl, I1.kept (t' := s1.toks) hk, turn_zipK (n := n) (PySem.W.ktu_apart s1.heap.objs.size a b p1.lt p2.lt), ⟨hz, hTI, ⟨_, _, hTO⟩, h1, h2⟩, fun c hcm => ?_, q⟩
      have hle : s1.heap.objs.size ≤ c := by
        have e' : c = s1.heap.objs.size + 4 ∨ c = s1.heap.objs.size + 2 ∨ c = s1.heap.objs.size + 3 ∨ c = s1.heap.objs.size ∨ c = s1.heap.objs.size + 1 := by simpa using hcm
        rcases e' with z | z | z | z | z <;> rw [z] <;> first | exact Nat.le_add_right _ _ | exact Nat.le_refl _
      exact I1.fpOk hle (I1.hok.fresh hle)
end HN

namespace HN
open PySem PySem.Spec PyProof.Rows L2 HotX
open L2H (Hot1)
/-- [elt for target in ..] while p's exception is handled -/
theorem lcK {X : Cx} {p : Addr × Obj} {pins : List (Addr × Obj)} {s : Shared} {σ : L2.St} {H : Hp} {Q : VK} {elt tg iter : Expr} {ifs : List Expr} {scope : Scope} {own : List (Str × Nat)} {pos pos' : Pos} {wi : TI} {g : TG} {tt : TT} {te : TE} {use : Option (Value → Sem Unit)} {Qf : Value → Shared → Prop}
    (hot : Hot1 X.A p) (hp : p ∈ X.pn) (hN : X.N.Nodup) (I : Inv X pins σ H s)
    (hi : ∀ R, wi σ H R → wpAny (model X.prog X.w) X.A (eval iter X.env) (fun v s1 => wpAny (model X.prog X.w) X.A (pyIter v) (PIEK X pins σ p tg R) X.xe s1) X.xe s) (ok : BlkOk X.N X.env.scope scope own)
    (hg : ∀ (sb : Shared) (Hb : Hp) (C : Addr) (cl : List (Str × Addr)) (fp : List Addr) (pinsb : List (Addr × Obj)) (s : Shared) (σ : L2.St) (H : Hp) (v : V) (u : Value) (Q : L2.St → Hp → Prop), HotP (X.blk sb Hb scope (compEnvC scope cl C X.env) fp) pinsb p → Inv (X.blk sb Hb scope (compEnvC scope cl C X.env) fp) pinsb σ H s → RelV v u → g v σ H Q →
      wpAny (model X.prog X.w) X.A (assign tg (compEnvC scope cl C X.env) u) (fun _ s' => ∃ σ' H', Inv (X.blk sb Hb scope (compEnvC scope cl C X.env) fp) pinsb σ' H' s' ∧ Q σ' H') (fun _ _ => False) s)
    (ht : ∀ (s : Shared) (H : Hp) (C : Addr) (cl : List (Str × Addr)) (fp : List Addr), PTs (X.blk s H scope (compEnvC scope cl C X.env) fp) ifs tt)
    (he : ∀ (s : Shared) (H : Hp) (C : Addr) (cl : List (Str × Addr)) (fp : List Addr), PE (X.blk s H scope (compEnvC scope cl C X.env) fp) elt te) (hs : ∀ x, foldedSetIterable iter X.env x = pure x)
    (h : tLc wi g tt te (own.map (·.2)) σ H Q)
    (hRR : ∀ D C s' m H', Inv X pins σ H' s' → Q (.ref D) H' → s'.heap.Ns C m → FpOk X pins H' C → compPost (model X.prog X.w) X.A X.xe use Qf (.ref D) C (.ok .next) s') :
    wpAny (model X.prog X.w) X.A (comprehension (.ListComp elt [⟨tg, iter, ifs, 0⟩] scope pos) scope X.env pos' (newList []) false (eval iter X.env) use) Qf X.xe s := by
  have hfree : ∀ y ∈ scope.names, y.2 = .free → ∃ c, X.env.cells.lookup y.1 = some c := fun y hy e => by
    rcases ok.free y hy e with k | k
    · exact I.ok.has _ (.inl k)
    · exact I.ok.has _ (.inr k)
  refine wpAny_comprehension_free (use := use) rfl hs (closure_ok hfree) ok.kind (fun y hy e => by rw [ok.uniq y hy, e]) (thn (hi _ h) fun xv s1 hx => thn hx fun itv s2 h2 => ?_)
  obtain ⟨it, fp, tn, J, H2, e, I2, T, st2, f2, q⟩ := h2
  subst e
  refine wpAny_newObj_type (newEnv_comp ?_) (by show 0 ≤ sizeLine; decide)
  generalize hD : s2.heap.objs.size = D
  have hDn : H2 D = none := I2.hok.fresh (Nat.le_of_eq hD)
  obtain ⟨W, ⟨m0, w0⟩, turn⟩ := q D hDn
  generalize hs3 : ({ s2 with heap := s2.heap.push { cls := .type "list", data := .seq ([] : List Value).toArray } } : Shared) = s3
  have I3 : Inv X pins σ (upd H2 D (.lst [])) s3 := by
    rw [← hs3]
    refine I2.laid (t' := s2.toks) (fun b o e => Heap.get?_push_of_some _ e) (Nat.le_of_eq hD) ⟨Nat.zero_le _, [], 0, .nil, ?_⟩
    rw [← hD]
    exact Heap.get?_push_size _ rfl
  have h3 : s3.heap = s2.heap.push { cls := .type "list", data := .seq ([] : List Value).toArray } := by rw [← hs3]
  have f3 : ∀ b ∈ fp, FpOk X pins (upd H2 D (.lst [])) b ∧ b < s3.heap.objs.size := fun b hb => by
    have hlt : b < s2.heap.objs.size := by obtain ⟨o, e, _⟩ := T.obj _ _ st2 b hb; exact Heap.lt_size e
    refine ⟨⟨?_, (f2 b hb).2⟩, by rw [h3, Heap.size_push]; exact Nat.lt_succ_of_lt hlt⟩
    rw [upd_ne (by rw [← hD]; exact Nat.ne_of_lt hlt)]
    exact (f2 b hb).1
  have st3 : tn 0 s3.heap := T.keep _ _ _ st2 fun b _ o e => by rw [h3]; exact Heap.get?_push_of_some _ e
  have I4 := block_start I3 ok hN f3
  have P3 := I3.pin p (List.mem_append_left _ hp)
  have pst : p.1 ∉ frs X.stack := fun hm => (List.mem_cons.mp (I3.stkSub p.1 hm)).elim P3.2.2.1 P3.2.2.2.1
  have pn3 : p.1 ≠ s3.heap.objs.size := Nat.ne_of_lt (Heap.lt_size P3.1)
  have pg := hg s3 (upd H2 D (.lst [])) s3.heap.objs.size (cellsFrom (s3.heap.objs.size + 1) scope.names (cloFrom X.env.cells scope.names [])) fp
  have pt := ht s3 (upd H2 D (.lst [])) s3.heap.objs.size (cellsFrom (s3.heap.objs.size + 1) scope.names (cloFrom X.env.cells scope.names [])) fp
  have pe := he s3 (upd H2 D (.lst [])) s3.heap.objs.size (cellsFrom (s3.heap.objs.size + 1) scope.names (cloFrom X.env.cells scope.names [])) fp
  show codeAny _ _ (.compStart (.ListComp elt [⟨tg, iter, ifs, 0⟩] scope pos) 0 (.ref it) (.ref D) (compEnvC scope (cellsFrom (s3.heap.objs.size + 1) scope.names (cloFrom X.env.cells scope.names [])) s3.heap.objs.size X.env)) (compPost (model X.prog X.w) X.A X.xe use Qf (.ref D) s3.heap.objs.size) { s3 with heap := pushCells (s3.heap.push { cls := .type "dict", data := .dict #[] }) scope.names }
  have nfp : ∀ b ∈ fp, (upd H2 D (.lst [])) b = none := fun b hb => (f3 b hb).1.1
  have afp : ∀ b ∈ fp, p.1 ≠ b := fun b hb => (f3 b hb).1.2.2.2.2.2 p (List.mem_append_left _ hp)
  generalize hce : compEnvC scope (cellsFrom (s3.heap.objs.size + 1) scope.names (cloFrom X.env.cells scope.names [])) s3.heap.objs.size X.env = ce at I4 pg pt pe ⊢
  have cL : ce.locals = s3.heap.objs.size := by subst hce; rfl
  generalize hH3 : upd H2 D (.lst []) = H3 at I3 I4 pg pt pe w0 nfp f3 P3
  generalize hs4 : ({ s3 with heap := pushCells (s3.heap.push { cls := .type "dict", data := .dict #[] }) scope.names } : Shared) = s4 at I4 ⊢
  have I4p : Inv (X.blk s3 H3 scope ce fp) [p] (wipe σ (own.map (·.2))) H3 s4 := I4.pins_of fun q hq => by
    obtain rfl : q = p := by simpa using hq
    refine ⟨?_, P3.2.1, ?_, pst, P3.2.2.2.2⟩
    · rw [← hs4]; exact pushCells_keeps _ _ _ _ (Heap.get?_push_of_some _ P3.1)
    · show q.1 ≠ ce.locals
      rw [cL]; exact pn3
  have st4 : tn 0 s4.heap := T.keep _ _ _ st3 fun b _ o e => by rw [← hs4]; exact pushCells_keeps _ _ _ _ (Heap.get?_push_of_some _ e)
  have stat : ∀ {σ' : L2.St} {H' : Hp} {s' : Shared}, Inv (X.blk s3 H3 scope ce fp) [p] σ' H' s' → (∀ b ∈ fp, H' b = none) → ∀ b ∈ fp, FpOk (X.blk s3 H3 scope ce fp) [p] H' b := fun {σ' H' s'} I' hn b hb =>
    ⟨hn b hb, (I'.ok.exf b hb).1, I'.ok.exfs b hb, .inl hb, fun x c e => (I'.ok.exf b hb).2 x c e, fun q hq => by
      obtain rfl : q = p := by simpa using (show q ∈ ([] : List (Addr × Obj)) ++ [p] from hq)
      exact afp b hb⟩
  have hotb : ∀ l : List (Addr × Obj), HotP (X.blk s3 H3 scope ce fp) ([p] ++ l) p := fun l => ⟨hot, by show p ∈ ([] : List (Addr × Obj)) ++ ([p] ++ l); simp⟩
  have hotb0 : HotP (X.blk s3 H3 scope ce fp) [p] p := ⟨hot, by show p ∈ ([] : List (Addr × Obj)) ++ [p]; simp⟩
  have loop : codeAny (model X.prog X.w) X.A (.compLoop (.ListComp elt [⟨tg, iter, ifs, 0⟩] scope pos) 0 (.ref it) (.ref D) ce) (compPost (model X.prog X.w) X.A X.xe use Qf (.ref D) s3.heap.objs.size) s4 := by
    refine compLoop_any (fun n s' => ∃ i H', Inv (X.blk s3 H3 scope ce fp) [p] (wipe σ (own.map (·.2))) H' s' ∧ tn i s'.heap ∧ (∀ b ∈ fp, H' b = none) ∧ W i n H') ?_ m0 ⟨0, H3, I4p, st4, nfp, w0⟩
    rintro n s5 ⟨i, H5, I5, st5, n5, w5⟩
    rcases turn i n H5 w5 with ⟨stop, qq⟩ | ⟨go, Nx, hNx, step⟩
    · refine thnF (T.done (X.blk s3 H3 scope ce fp) rfl rfl rfl i [p] s5 _ H5 (fun _ _ => False) hotb0 I5 (stat I5 n5) st5 stop) fun r s6 ⟨hr, I6⟩ => ?_
      subst hr
      have I7 : Inv X pins σ H5 s6 := I3.call' (ch := fp) I6.os I6.base I6.hok I6.bare fun b hb => ⟨(f3 b hb).1.2.2.2.1, (f3 b hb).1.2.1, (f3 b hb).1.2.2.2.2.1, (f3 b hb).1.2.2.2.2.2⟩
      have nC : H5 s3.heap.objs.size = none := by have z : H5 ce.locals = none := I6.free; rwa [cL] at z
      obtain ⟨m, hn, _⟩ := I6.loc
      have hn : s6.heap.Ns ce.locals m := hn
      rw [cL] at hn
      exact hRR D s3.heap.objs.size s6 m H5 I7 qq hn (I3.fpOk (Nat.le_refl _) nC)
    · refine thnF (T.item (X.blk s3 H3 scope ce fp) rfl rfl rfl i [p] s5 _ H5 (fun _ _ => False) hotb0 I5 (stat I5 n5) st5 go) fun r s6 ⟨u, hr, h6⟩ => ?_
      subst hr
      refine thnF h6 fun _ s7 ⟨x, H7, I7, r7, y7, st7, n7⟩ => ?_
      have I7' := I7.pinned (stat I7 n7) (T.obj _ _ st7)
      refine thnF (pg _ s7 _ H7 x u _ (hotb _) I7' r7 (step x H7 y7)) fun _ s8 ⟨σ8, H8, I8, hw8, q8⟩ => ?_
      refine thnF (pt.run _ s8 σ8 H8 _ I8 q8) fun b s9 ⟨H9, I9, q9⟩ => ?_
      have fin : ∀ {s' : Shared} {H' : Hp}, Inv (X.blk s3 H3 scope ce fp) ([p] ++ pinsAt fp s7.heap) σ8 H' s' → Nx H' → ∃ m, m < n ∧ ∃ i H', Inv (X.blk s3 H3 scope ce fp) [p] (wipe σ (own.map (·.2))) H' s' ∧ tn i s'.heap ∧ (∀ b ∈ fp, H' b = none) ∧ W i m H' := fun {s' H'} I' nx => by
        obtain ⟨m', hm, w'⟩ := hNx H' nx
        have pin' : ∀ b ∈ fp, ∀ o, s7.heap.get? b = some o → s'.heap.get? b = some o ∧ H' b = none := fun b hb o e =>
          let z := I'.pin (b, o) (List.mem_append_right _ (List.mem_append_right _ (mem_pinsAt hb e)))
          ⟨z.1, z.2.1⟩
        refine ⟨m', hm, i + 1, H', (I'.unpinned (pins := [p])).weak (by rw [← hw8, wipe_length]) (fun j v e => ?_), T.keep _ _ _ st7 fun b hb o e => (pin' b hb o e).1, fun b hb => ?_, w'⟩
        · rw [← hw8] at e
          exact (wipe_some e).1
        · obtain ⟨o, e, _⟩ := T.obj _ _ st7 b hb
          exact (pin' b hb o e).2
      cases b with
      | false =>
        simp only [Bool.false_eq_true, if_false] at q9 ⊢
        exact fin I9 q9
      | true =>
        simp only [if_true] at q9 ⊢
        refine thnF (pe.run _ s9 σ8 H9 _ I9 q9) fun z s10 ⟨yv, H10, I10, r10, acc, hD10, hz10, nx⟩ => ?_
        exact app_ok (X := X.blk s3 H3 scope ce fp) I10 hD10 hz10 r10 fun s11 I11 => fin I11 nx
  exact codeAny_compStart_list loop (T.self X.A 0 _ _ _ st4 loop)
end HN

namespace HN
open PySem PySem.Spec PyProof.Rows L2 HotX
open L2H (Hot1)
/-- isinstance(e, c), e the pinned exception -/
theorem call_isP {X : Cx} {D : Addr} {p : Addr × Obj} (C : ExcC X.K D) (hp : p ∈ X.pn) (hz : Zc (.ref D) none p.2) (hf : ∃ vs, p.2.data = .fields vs) : CallR X (.builtin "isinstance") (rIsE X.K D p.1) := by
  intro pins s σ H xs us Q I r h
  obtain ⟨c, cv, b, rfl, hcv, e, q⟩ := h
  cases r with
  | cons rx rr =>
    cases rr with
    | cons rt rr =>
      cases rr
      cases rx
      have ec := hcv _ rt
      subst ec
      have hget := (I.pin p (List.mem_append_left _ hp)).1
      obtain ⟨vs, hv⟩ := hf
      obtain ⟨a, oc, od, oda, osl⟩ := p
      obtain ⟨h1, h2⟩ := hz
      dsimp only at h1 h2 hv hget
      subst h1 h2 hv
      exact PySem.W.kia_one (PySem.W.handS_kitx_exc C.hg C.hk C.hs C.hd C.ha C.hn C.ht C.hm) I.kIn (show PySem.W.InstAt s.heap a _ D none from ⟨hget, rfl, rfl, trivial⟩) e (fun z => nomatch z) fun tk => ⟨.bl b, H, I.kept (t' := tk) fun _ _ z => z, rfl, q⟩
/-- name = [..] on one line while an exception is handled -/
theorem setLcK {X : Cx} {p : Addr × Obj} {i : Nat} {y : Str} {py : Pos} {elt tg iter : Expr} {ifs : List Expr} {scope : Scope} {own : List (Str × Nat)} {pos spos : Pos} {wi : TI} {g : TG} {tt : TT} {te : TE} (hot : Hot1 X.A p) (hp : p ∈ X.pn) (hN : X.N.Nodup) (hy : X.N[i]? = some y) (hyl : X.env.scope.names.lookup y = some .local)
    (hsw : swapsWith (.ListComp elt [⟨tg, iter, ifs, 0⟩] scope pos) (some (.Name y py)) spos.line X.env = pure true)
    (hi : ∀ (pins : List (Addr × Obj)) (s : Shared) (σ : L2.St) (H : Hp) R, Inv X pins σ H s → wi σ H R → wpAny (model X.prog X.w) X.A (eval iter X.env) (fun v s1 => wpAny (model X.prog X.w) X.A (pyIter v) (PIEK X pins σ p tg R) X.xe s1) X.xe s) (ok : BlkOk X.N X.env.scope scope own)
    (hg : ∀ (sb : Shared) (Hb : Hp) (C : Addr) (cl : List (Str × Addr)) (fp : List Addr) (pinsb : List (Addr × Obj)) (s : Shared) (σ : L2.St) (H : Hp) (v : V) (u : Value) (Q : L2.St → Hp → Prop), HotP (X.blk sb Hb scope (compEnvC scope cl C X.env) fp) pinsb p → Inv (X.blk sb Hb scope (compEnvC scope cl C X.env) fp) pinsb σ H s → RelV v u → g v σ H Q →
      wpAny (model X.prog X.w) X.A (assign tg (compEnvC scope cl C X.env) u) (fun _ s' => ∃ σ' H', Inv (X.blk sb Hb scope (compEnvC scope cl C X.env) fp) pinsb σ' H' s' ∧ Q σ' H') (fun _ _ => False) s)
    (ht : ∀ (s : Shared) (H : Hp) (C : Addr) (cl : List (Str × Addr)) (fp : List Addr), PTs (X.blk s H scope (compEnvC scope cl C X.env) fp) ifs tt)
    (he : ∀ (s : Shared) (H : Hp) (C : Addr) (cl : List (Str × Addr)) (fp : List Addr), PE (X.blk s H scope (compEnvC scope cl C X.env) fp) elt te) (hs : ∀ x, foldedSetIterable iter X.env x = pure x) :
    PS X (.Assign [.Name y py] (.ListComp elt [⟨tg, iter, ifs, 0⟩] scope pos) spos) (tAsg (tLc wi g tt te (own.map (·.2))) (gName i)) := by
  refine ⟨fun pins s σ H D I h => ?_⟩
  rw [exec_Assign_Name_used _ _ _ _ hsw]
  refine wpAny_bind (wpAny_standAt (wpAny_bind ?_))
  have h : tLc wi g tt te (own.map (·.2)) σ H (fun x H1 => gName i x σ H1 D.nx) := h
  show wpAny _ X.A (do let _ ← comprehension (.ListComp elt [⟨tg, iter, ifs, 0⟩] scope pos) scope X.env (firstIterPos [⟨tg, iter, ifs, 0⟩] pos) (newList []) false (eval iter X.env) (some (assign (.Name y py) X.env))) _ _ s
  refine wpAny_bind (thn (lcK (Qf := fun _ s' => SP X pins D .next s') hot hp hN I (fun R hw => hi pins s σ H R I hw) ok hg ht he hs h fun L C s' m H' I' q hn f => ?_) fun _ s' hq => wpAny_pure (wpAny_pure hq))
  show wpAny _ _ (assign (.Name y py) X.env (.ref L)) _ _ _
  refine wpAny_assign_Name (store_ok2 (v := V.ref L) I' hN hy (.inl hyl) rfl (fun s2 I2 ⟨a, sb, ha⟩ => ?_) (.inr hyl))
  obtain ⟨f0, f1, f2, f3, f4, f5⟩ := f
  have haC : C ≠ a := by
    rcases ha with z | z
    · rw [z]; exact f1
    · exact fun e => f4 y a z e.symm
  exact ⟨m, hn.sameBut sb haC, fun h3 sb3 => ⟨_, H', I2.turned (t' := s2.toks) (fun b o hb e => (sb3.2 b hb).trans e) f0 f1 f3 f4 f5, q⟩⟩
theorem DLz : sizeLine = 16777216 := sizeLine_eq
def Ext (H H' : Hp) : Prop := ∀ b o, H b = some o → H' b = some o
theorem Ext.refl (H : Hp) : Ext H H := fun _ _ h => h
theorem Ext.trans {H H1 H2 : Hp} (a : Ext H H1) (b : Ext H1 H2) : Ext H H2 := fun c o h => b c o (a c o h)
theorem Ext.new {H : Hp} {q : Addr} {o : HO} (n : H q = none) : Ext H (upd H q o) := fun b u h => by rw [upd_ne (ne_of_none h n)]; exact h
/-- a row of tests isinstance(e, C) -/
def tRow (a : Addr) (bs : List Bool) : TA := fun σ H Q => σ[0]? = some (some (.ref a)) ∧ Q (bs.map V.bl) H
def tWords (ws : List Str) : TA := fun _ H Q => Q (ws.map V.str) H
theorem PEw {X : Cx} {e : Expr} {t t' : TE} (h : PE X e t) (w : ∀ σ H Q, t' σ H Q → t σ H Q) : PE X e t' := ⟨fun pins s σ H Q I hq => h.run pins s σ H Q I (w σ H Q hq)⟩
theorem PAw {X : Cx} {e : List Expr} {t t' : TA} (h : PA X e t) (w : ∀ σ H Q, t' σ H Q → t σ H Q) : PA X e t' := ⟨fun pos pins s σ H Q I hq => h.run pos pins s σ H Q I (w σ H Q hq)⟩
theorem PSw {X : Cx} {e : Stmt} {t t' : TS} (h : PS X e t) (w : ∀ D σ H, t' D σ H → t D σ H) : PS X e t' := ⟨fun pins s σ H D I hq => h.run pins s σ H D I (w D σ H hq)⟩
structure IsX (X : Cx) (p : Addr × Obj) (D : Addr) : Prop where
  C : ExcC X.K D
  hp : p ∈ X.pn
  hz : Zc (.ref D) none p.2
  hf : ∃ vs, p.2.data = .fields vs
  hN : X.N[0]? = some ("_law_e" : Str)
  hv : Vis X.env.scope "_law_e"
  hg : Gl X "isinstance"
  hm : X.mg "isinstance" = none
section
variable {X : Cx} {p : Addr × Obj} {D : Addr}
theorem pe_isP (S : IsX X p D) {c : Str} {Ca : Value} {cv : V} {b : Bool} {q q1 q2 pos : Pos} (hc : PE X (.Name c q2) (tC cv)) (hr : ∀ u, RelV cv u → u = Ca) (hk : PySem.W.kitOne X.K (.ref D) Ca = some b) :
    PE X (.Call (.Name "isinstance" q) [.Name "_law_e" q1, .Name c q2] [] pos) (fun σ H Q => σ[0]? = some (some (.ref p.1)) ∧ Q (.bl b) H) := by
  refine PEw (pe_callB (call_isP S.C S.hp S.hz S.hf) S.hg S.hm (by decide +kernel) (pa_cons (pe_var (i := 0) S.hN S.hv) (pa_cons hc pa_nil))) ?_
  rintro σ H Q ⟨h0, h⟩
  exact ⟨_, h0, cv, Ca, b, rfl, hr, hk, h⟩
/-- the classes by their names, and what isinstance says -/
inductive Row (X : Cx) (D : Addr) : List Str → List Bool → Prop
  | nil : Row X D [] []
  | cons {c : Str} {Ca : Addr} {b : Bool} {cs : List Str} {bs : List Bool} : Gl X c → X.mg c = some (.ref Ca) → (c == ("__debug__" : Str)) = false → PySem.W.kitOne X.K (.ref D) (.ref Ca) = some b → Row X D cs bs → Row X D (c :: cs) (b :: bs)
def isE1 (c : Str) : Expr → Bool
  | .Call (.Name f _) [.Name x _, .Name y _] [] _ => f == ("isinstance" : Str) && x == ("_law_e" : Str) && y == c
  | _ => false
def isEs : List Str → List Expr → Bool
  | [], [] => true
  | c :: cs, e :: es => isE1 c e && isEs cs es
  | _, _ => false
theorem band {a b : Bool} (h : (a && b) = true) : a = true ∧ b = true := Bool.and_eq_true_iff.mp h
theorem isE1_star {c : Str} {e : Expr} {es : List Expr} {env : Env} (h : isE1 c e = true) : starEach (e :: es) env = (false, eval e env) :: starEach es env := by
  unfold isE1 at h
  split at h
  · rfl
  · cases h
theorem row_ok (S : IsX X p D) : ∀ {cs : List Str} {bs : List Bool} {es : List Expr}, Row X D cs bs → isEs cs es = true → PA X es (tRow p.1 bs)
  | [], _, [], .nil, _ => PAw pa_nil fun σ H Q h => h.2
  | [], _, _ :: _, .nil, h => by cases h
  | _ :: _, _, [], .cons _ _ _ _ _, h => by cases h
  | c :: cs, _, e :: es, .cons (Ca := Ca) h1 h2 h3 h4 r, h => by
    obtain ⟨g1, g2⟩ := band h
    have rest := row_ok S r g2
    have st := isE1_star (es := es) (env := X.env) g1
    unfold isE1 at g1
    split at g1
    · obtain ⟨g1, e3⟩ := band g1
      obtain ⟨e1, e2⟩ := band g1
      obtain rfl := eq_of_beq e1
      obtain rfl := eq_of_beq e2
      obtain rfl := eq_of_beq e3
      exact PAw (pa_cons (pe_isP S (pe_glob (v := .ref Ca) h1 h2 rfl h3) (fun u hu => hu) h4) rest st) fun σ H Q ⟨h0, q⟩ => ⟨h0, h0, q⟩
    · cases g1
def strE : List Str → List Expr → Bool
  | [], [] => true
  | w :: ws, .Constant (.str x) _ _ :: es => x == w && strE ws es
  | _, _ => false
theorem strs_ok : ∀ {ws : List Str} {es : List Expr}, strE ws es = true → PA X es (tWords ws)
  | [], [], _ => pa_nil
  | [], _ :: _, h => by cases h
  | w :: ws, [], h => by cases h
  | w :: ws, e :: es, h => by
    unfold strE at h
    split at h
    · rename_i h1 h2; cases h1
    · rename_i w' ws' x p1 p2 es' h1 h2
      cases h1; cases h2
      obtain ⟨h1, h2⟩ := band h
      obtain rfl := eq_of_beq h1
      exact PAw (pa_cons pe_str (strs_ok h2)) fun σ H Q h => h
    · cases h
/-! the statements -/
theorem st_first (S : IsX X p D) {i : Nat} {y : Str} {bs : List Bool} {es : List Expr} {py pl pos : Pos} (nd : X.N.Nodup) (hy : X.N[i]? = some y) (hl : X.env.scope.names.lookup y = some .local) (h : PA X es (tRow p.1 bs)) (hz : bs.length ≤ 100) :
    PS X (.Assign [.Name y py] (.List es pl) pos) (fun D σ H => σ[0]? = some (some (.ref p.1)) ∧ ∀ q, H q = none → D.nx (σ.set i (some (.ref q))) (upd H q (.lst (bs.map V.bl)))) := by
  refine PSw (ps_set (i := i) nd hy (.inl hl) (pe_lst h) rfl (.inr hl)) ?_
  rintro D σ H ⟨h0, h⟩
  exact ⟨h0, by rw [List.length_map, DLz]; omega, fun q hq => h q hq⟩
theorem st_more (S : IsX X p D) {i : Nat} {y : Str} {bs : List Bool} {es : List Expr} {py pl pos p2 p3 : Pos} (nd : X.N.Nodup) (hy : X.N[i]? = some y) (hl : X.env.scope.names.lookup y = some .local) (hd : (y == ("__debug__" : Str)) = false) (hcd : (y == ("__classdict__" : Str)) = false) (h : PA X es (tRow p.1 bs)) (hz : bs.length ≤ 100) :
    PS X (.Assign [.Name y py] (.BinOp (.Name y p2) .Add (.List es pl) p3) pos) (fun D σ H => σ[0]? = some (some (.ref p.1)) ∧ ∃ l xs, σ[i]? = some (some (.ref l)) ∧ H l = some (.lst xs) ∧ xs.length ≤ 100 ∧ ∀ H' q, Ext H H' → H' q = some (.lst (xs ++ bs.map V.bl)) → D.nx (σ.set i (some (.ref q))) H') := by
  refine PSw (ps_set (i := i) nd hy (.inl hl) (pe_op op_cat (pe_var (i := i) hy (.inl hl) hd hcd) (pe_lst h)) rfl (.inr hl)) ?_
  rintro D σ H ⟨h0, l, xs, h1, h2, h3, h⟩
  refine ⟨_, h1, h0, by rw [List.length_map, DLz]; omega, fun q hq => ⟨l, q, xs, _, rfl, rfl, by rw [upd_ne (ne_of_none h2 hq)]; exact h2, upd_same, by rw [List.length_map, DLz]; omega, fun q2 hq2 => ?_⟩⟩
  exact h _ q2 ((Ext.new hq).trans (Ext.new hq2)) upd_same
theorem st_words {i : Nat} {y : Str} {ws : List Str} {es : List Expr} {py pl pos : Pos} (nd : X.N.Nodup) (hy : X.N[i]? = some y) (hl : X.env.scope.names.lookup y = some .local) (h : PA X es (tWords ws)) (hz : ws.length ≤ 100) :
    PS X (.Assign [.Name y py] (.List es pl) pos) (fun D σ H => ∀ q, H q = none → D.nx (σ.set i (some (.ref q))) (upd H q (.lst (ws.map V.str)))) := by
  refine PSw (ps_set (i := i) nd hy (.inl hl) (pe_lst h) rfl (.inr hl)) ?_
  rintro D σ H h
  exact ⟨by rw [List.length_map, DLz]; omega, fun q hq => h q hq⟩
end
end HN

namespace HN
open PySem PySem.Spec PyProof.Rows L2 HotX
open L2H (Hot1)
/-- what the comprehension leaves -/
def kept : List Str → List Bool → List Str
  | w :: ws, b :: bs => if b = true then w :: kept ws bs else kept ws bs
  | _, _ => []
theorem kept_take : ∀ (ws : List Str) (bs : List Bool) (i : Nat) (w : Str) (b : Bool), ws[i]? = some w → bs[i]? = some b → kept (ws.take (i + 1)) (bs.take (i + 1)) = kept (ws.take i) (bs.take i) ++ if b = true then [w] else []
  | [], _, _, _, _, h, _ => by simp at h
  | _ :: _, [], _, _, _, _, h => by simp at h
  | w0 :: ws, b0 :: bs, 0, w, b, h1, h2 => by
    simp at h1 h2; subst h1 h2
    simp [kept]
  | w0 :: ws, b0 :: bs, i + 1, w, b, h1, h2 => by
    have ih := kept_take ws bs i w b (by simpa using h1) (by simpa using h2)
    rw [List.take_succ_cons, List.take_succ_cons, List.take_succ_cons, List.take_succ_cons]
    unfold kept
    rw [ih]
    split <;> simp
theorem kept_len : ∀ (ws : List Str) (bs : List Bool), (kept ws bs).length ≤ ws.length
  | [], _ => by simp [kept]
  | _ :: _, [] => by simp [kept]
  | w :: ws, b :: bs => by
    have := kept_len ws bs
    unfold kept
    split <;> simp <;> omega
section
variable {X : Cx} {p : Addr × Obj} {D : Addr}
/-- the comprehension's reading over two known lists -/
theorem zip_read {K : PySem.W.Frag} {la lb : Addr} {ws : List Str} {bs : List Bool} {σ : L2.St} {H : Hp} {Q : VK} (hab : ws.length = bs.length) (hl : ws.length ≤ 100) (h1 : H la = some (.lst (ws.map V.str))) (h2 : H lb = some (.lst (bs.map V.bl))) (h4 : σ[4]? = some none) (h5 : σ[5]? = some none)
    (hq : ∀ H' q, Ext H H' → H' q = some (.lst ((kept ws bs).map V.str)) → Q (.ref q) H') (ta : TA) (hta : ∀ Q, Q [V.ref la, V.ref lb] H → ta σ H Q) :
    tLc (iZipK K ta) (gTup K 2 (gCons (gName 4) (gCons (gName 5) gNil))) (tB (tVar 5)) (tVar 4) [4, 5] σ H Q := by
  refine hta _ ⟨la, lb, _, _, ws.length, rfl, .inl (.inl h1), .inl (.inl h2), by rw [List.length_map], by rw [List.length_map, hab], fun Dn hD => ?_⟩
  have g : ∀ i, σ[i]? = some none → σ.set i none = σ := fun i h => by
    obtain ⟨hi, e⟩ := List.getElem?_eq_some_iff.mp h
    have := List.set_getElem_self hi
    rw [e] at this
    exact this
  have hw : wipe σ [4, 5] = σ := by
    show ((wipe σ []).set 5 none).set 4 none = σ
    show (σ.set 5 none).set 4 none = σ
    rw [g 5 h5, g 4 h4]
  rw [hw]
  have l4 : 4 < σ.length := (List.getElem?_eq_some_iff.mp h4).1
  have l5 : 5 < σ.length := (List.getElem?_eq_some_iff.mp h5).1
  refine ⟨fun i m H' => m = ws.length - i ∧ i ≤ ws.length ∧ Ext H H' ∧ H' Dn = some (.lst ((kept (ws.take i) (bs.take i)).map V.str)), ⟨ws.length, by omega, Nat.zero_le _, Ext.new hD, upd_same⟩, ?_⟩
  rintro i m H' ⟨rfl, hi, ex, eD⟩
  by_cases hlt : i < ws.length
  · have hb : i < bs.length := by omega
    have g1 : (ws.map V.str)[i]? = some (.str ws[i]) := by simp [hlt]
    have g2 : (bs.map V.bl)[i]? = some (.bl bs[i]) := by simp [hb]
    refine .inr ⟨⟨_, _, _, _, .inl (.inl (ex _ _ h1)), .inl (.inl (ex _ _ h2)), g1, g2⟩, fun H2 => Ext H H2 ∧ H2 Dn = some (.lst ((kept (ws.take (i + 1)) (bs.take (i + 1))).map V.str)), fun H2 h => ⟨ws.length - (i + 1), by omega, rfl, hlt, h⟩, ?_⟩
    rintro x H2 ⟨T, u, v, rfl, hT, rfl, yu, yv⟩
    have eu := yu _ (.inl (.inl (ex _ _ h1)))
    have ev := yv _ (.inl (.inl (ex _ _ h2)))
    rw [g1] at eu; cases eu
    rw [g2] at ev; cases ev
    refine ⟨T, _, rfl, .inl (.inl upd_same), rfl, _, _, rfl, _, _, rfl, rfl, ?_⟩
    have nTD : Dn ≠ T := ne_of_none eD hT
    have s4 : ((σ.set 4 (some (V.str ws[i]))).set 5 (some (.bl bs[i])))[4]? = some (some (.str ws[i])) := by rw [List.getElem?_set_ne (by decide), List.getElem?_set_self l4]
    have s5 : ((σ.set 4 (some (V.str ws[i]))).set 5 (some (.bl bs[i])))[5]? = some (some (.bl bs[i])) := by rw [List.getElem?_set_self (by rw [List.length_set]; exact l5)]
    have kt := kept_take ws bs i ws[i] bs[i] (by simp [hlt]) (by simp [hb])
    refine ⟨?_, _, s5, _, rfl, ?_⟩
    · show ((((σ.set 4 _).set 5 _).set 5 none).set 4 none) = _
      rw [List.set_set, List.set_comm _ _ (show (4 : Nat) ≠ 5 by decide), List.set_set]
      rw [g 5 h5, g 4 h4]
    · dsimp only
      by_cases hbi : bs[i] = true
      · rw [if_pos hbi]
        refine ⟨_, s4, _, by rw [upd_ne nTD]; exact eD, ?_, fun b o hb2 => ?_, ?_⟩
        · have := kept_len (ws.take i) (bs.take i)
          rw [List.length_map, DLz]
          rw [List.length_take] at this
          omega
        · have n1 : b ≠ Dn := ne_of_none hb2 hD
          rw [upd_ne n1]
          exact (ex.trans (Ext.new hT)) b o hb2
        · rw [upd_same, kt, if_pos hbi, List.map_append]; rfl
      · rw [if_neg hbi]
        exact ⟨ex.trans (Ext.new hT), by rw [upd_ne nTD, eD, kt, if_neg hbi, List.append_nil]⟩
  · have e : i = ws.length := by omega
    subst e
    refine .inl ⟨⟨rfl, _, _, .inl (.inl (ex _ _ h1)), .inl (.inl (ex _ _ h2)), by rw [List.length_map], by rw [List.length_map, hab]⟩, hq _ Dn ex ?_⟩
    rw [eD, List.take_length, hab, List.take_length]
end
end HN

namespace HN
open PySem PySem.Spec PyProof.Rows L2 HotX
open L2H (Hot1)
def NM : List Str := ["_law_e", "_law_matching", "_law_words", "_law_found", "_law_word", "_law_good"]
def cls11 : List Str := ["InvalidManner", "InvalidTime", "InvalidDay", "InvalidWeek", "InvalidNumber", "InvalidSeen", "InvalidPart", "WrongPunch", "NothingToUndo", "TooMany", "InvalidText"]
def wrd11 : List Str := ["Manner", "Time", "Day", "Week", "Number", "Seen", "Part", "Punch", "Undo", "Many", "Text"]
def isGl (nm : List (Str × NameKind)) (x : Str) : Bool := nm.lookup x == some .globalImplicit
def isLo (nm : List (Str × NameKind)) (x : Str) : Bool := nm.lookup x == some .local
def s1B : Stmt → Bool
  | .Assign [.Name y _] (.List es _) _ => y == ("_law_matching" : Str) && isEs (cls11.take 3) es
  | _ => false
def s2B (cs : List Str) : Stmt → Bool
  | .Assign [.Name y _] (.BinOp (.Name z _) .Add (.List es _) _) _ => y == ("_law_matching" : Str) && (z == ("_law_matching" : Str) && isEs cs es)
  | _ => false
def s5B : Stmt → Bool
  | .Assign [.Name y _] (.List es _) _ => y == ("_law_words" : Str) && strE wrd11 es
  | _ => false
def tgB : Expr → Bool
  | .Tuple [.Name y _, .Name z _] _ _ => y == ("_law_word" : Str) && z == ("_law_good" : Str)
  | _ => false
def zpB : Expr → Bool
  | .Call (.Name f _) [.Name x _, .Name y _] [] _ => f == ("zip" : Str) && (x == ("_law_words" : Str) && y == ("_law_matching" : Str))
  | _ => false
def nmB (c : Str) : Expr → Bool
  | .Name x _ => x == c
  | _ => false
def s6B (sc : Scope) : Stmt → Bool
  | .Assign [.Name y p] (.ListComp elt [⟨tg, it, [c], k⟩] bs q) _ => y == ("_law_found" : Str) && (nmB "_law_word" elt && (tgB tg && (zpB it && (nmB "_law_good" c && (k == 0 && (p.line == q.line && (!(bs.names.any fun (n, k) => n == ("_law_found" : Str) && (k == .local || k == .cell)) && (blkC NM sc bs [("_law_word", 4), ("_law_good", 5)] && (isLo bs.names "_law_word" && isLo bs.names "_law_good")))))))))
  | _ => false
def joB : Expr → Bool
  | .Call (.Attribute (.Constant (.str c) _ _) j ap) [.Name f _] [] cp => c == ("" : Str) && (j == ("join" : Str) && (f == ("_law_found" : Str) && ap.endLine == cp.line))
  | _ => false
def ifB : Expr → Bool
  | .IfExp (.Call (.Name i _) [.Name e _, .Name v _] [] _) (.Constant (.str c) _ _) (.Constant (.str d) _ _) _ => i == ("isinstance" : Str) && (e == ("_law_e" : Str) && (v == ("ValueError" : Str) && (c == ("+" : Str) && d == ("" : Str))))
  | _ => false
def s7B : Stmt → Bool
  | .Return (some (.BinOp a .Add b _)) _ => joB a && ifB b
  | _ => false
/-- _law_name_of's body -/
def nameB (sc : Scope) : List Stmt → Bool
  | [s1, s2, s3, s4, s5, s6, s7] => s1B s1 && (s2B ((cls11.drop 3).take 3) s2 && (s2B ((cls11.drop 6).take 3) s3 && (s2B (cls11.drop 9) s4 && (s5B s5 && (s6B sc s6 && s7B s7)))))
  | _ => false
/-- its names -/
def namesB (sc : Scope) : Bool := isLo sc.names "_law_e" && (isLo sc.names "_law_matching" && (isLo sc.names "_law_words" && (isLo sc.names "_law_found" && (isGl sc.names "isinstance" && (isGl sc.names "zip" && (isGl sc.names "ValueError" && cls11.all (isGl sc.names)))))))
theorem isGl_ok {X : Cx} {x : Str} (h : isGl X.env.scope.names x = true) : Gl X x := by
  unfold isGl at h
  exact eq_of_beq h
theorem isLo_ok {X : Cx} {x : Str} (h : isLo X.env.scope.names x = true) : X.env.scope.names.lookup x = some .local := by
  unfold isLo at h
  exact eq_of_beq h
section
variable {X : Cx} {p : Addr × Obj} {D : Addr}
theorem jo_ok (hN : X.N[3]? = some ("_law_found" : Str)) (hl : X.env.scope.names.lookup ("_law_found" : Str) = some .local) {e : Expr} (h : joB e = true) :
    PE X e (fun σ H Q => ∃ l ys, σ[3]? = some (some (.ref l)) ∧ H l = some (.lst (ys.map V.str)) ∧ (ys.map (·.length)).sum ≤ 1000 ∧ Q (.str (Txt.join "" ys)) H) := by
  unfold joB at h
  split at h
  · obtain ⟨h1, h⟩ := band h
    obtain ⟨h2, h⟩ := band h
    obtain ⟨h3, h⟩ := band h
    obtain rfl := eq_of_beq h1
    obtain rfl := eq_of_beq h2
    obtain rfl := eq_of_beq h3
    refine PEw (pe_join pe_str (pe_var (i := 3) hN (.inl hl)) rfl rfl h) ?_
    rintro σ H Q ⟨l, ys, h3, hl, hs, hq⟩
    have e0 : ("" : Str).length = 0 := by decide +kernel
    exact ⟨⟨_, rfl⟩, _, h3, ("" : Str), l, ys, rfl, rfl, .inl (.inl (.inl hl)), by rw [e0]; omega, hq⟩
  · cases h
theorem if_ok (S : IsX X p D) (hg : Gl X "ValueError") (hm : X.mg "ValueError" = none) (hk : PySem.W.kitOne X.K (.ref D) (.type "ValueError") = some true) {e : Expr} (h : ifB e = true) : PE X e (fun σ H Q => σ[0]? = some (some (.ref p.1)) ∧ Q (.str "+") H) := by
  unfold ifB at h
  split at h
  · obtain ⟨h1, h⟩ := band h
    obtain ⟨h2, h⟩ := band h
    obtain ⟨h3, h⟩ := band h
    obtain ⟨h4, h5⟩ := band h
    obtain rfl := eq_of_beq h1
    obtain rfl := eq_of_beq h2
    obtain rfl := eq_of_beq h3
    obtain rfl := eq_of_beq h4
    obtain rfl := eq_of_beq h5
    refine PEw (pe_ifExp (pt_val (pe_isP S (pe_bltn (v := .ty "ValueError") hg hm (by decide +kernel) rfl) (fun u hu => hu) hk)) pe_str pe_str) ?_
    rintro σ H Q ⟨h0, hq⟩
    refine ⟨h0, _, rfl, ?_⟩
    dsimp only
    rw [if_pos rfl]
    exact hq
  · cases h
theorem s7_ok (S : IsX X p D) (hN : X.N[3]? = some ("_law_found" : Str)) (hl : X.env.scope.names.lookup ("_law_found" : Str) = some .local) (hg : Gl X "ValueError") (hm : X.mg "ValueError" = none) (hk : PySem.W.kitOne X.K (.ref D) (.type "ValueError") = some true) {s : Stmt} (h : s7B s = true) :
    PS X s (fun Dn σ H => σ[0]? = some (some (.ref p.1)) ∧ ∃ l ys, σ[3]? = some (some (.ref l)) ∧ H l = some (.lst (ys.map V.str)) ∧ (ys.map (·.length)).sum ≤ 1000 ∧ (Txt.join "" ys).length ≤ 1000 ∧ Dn.rt (.str (Txt.join "" ys ++ ("+" : Str))) H) := by
  unfold s7B at h
  split at h
  · obtain ⟨h1, h2⟩ := band h
    refine PSw (ps_ret (pe_op op_add_str (jo_ok hN hl h1) (if_ok S hg hm hk h2))) ?_
    rintro Dn σ H ⟨h0, l, ys, h3, hl, hs, hj, hq⟩
    have e1 : ("+" : Str).length = 1 := by decide +kernel
    exact ⟨l, ys, h3, hl, hs, h0, _, _, rfl, rfl, by rw [e1, DLz]; omega, hq⟩
  · cases h
theorem s1_ok (S : IsX X p D) {bs : List Bool} (nd : X.N.Nodup) (hN : X.N[1]? = some ("_law_matching" : Str)) (hl : X.env.scope.names.lookup ("_law_matching" : Str) = some .local) (r : Row X D (cls11.take 3) bs) (hz : bs.length ≤ 100) {s : Stmt} (h : s1B s = true) :
    PS X s (fun Dn σ H => σ[0]? = some (some (.ref p.1)) ∧ ∀ q, H q = none → Dn.nx (σ.set 1 (some (.ref q))) (upd H q (.lst (bs.map V.bl)))) := by
  unfold s1B at h
  split at h
  · obtain ⟨h1, h2⟩ := band h
    obtain rfl := eq_of_beq h1
    exact st_first S nd hN hl (row_ok S r h2) hz
  · cases h
theorem s2_ok (S : IsX X p D) {cs : List Str} {bs : List Bool} (nd : X.N.Nodup) (hN : X.N[1]? = some ("_law_matching" : Str)) (hl : X.env.scope.names.lookup ("_law_matching" : Str) = some .local) (r : Row X D cs bs) (hz : bs.length ≤ 100) {s : Stmt} (h : s2B cs s = true) :
    PS X s (fun Dn σ H => σ[0]? = some (some (.ref p.1)) ∧ ∃ l xs, σ[1]? = some (some (.ref l)) ∧ H l = some (.lst xs) ∧ xs.length ≤ 100 ∧ ∀ H' q, Ext H H' → H' q = some (.lst (xs ++ bs.map V.bl)) → Dn.nx (σ.set 1 (some (.ref q))) H') := by
  unfold s2B at h
  split at h
  · obtain ⟨h1, h⟩ := band h
    obtain ⟨h2, h3⟩ := band h
    obtain rfl := eq_of_beq h1
    obtain rfl := eq_of_beq h2
    exact st_more S nd hN hl (by decide) (by decide) (row_ok S r h3) hz
  · cases h
theorem s5_ok (nd : X.N.Nodup) (hN : X.N[2]? = some ("_law_words" : Str)) (hl : X.env.scope.names.lookup ("_law_words" : Str) = some .local) {s : Stmt} (h : s5B s = true) :
    PS X s (fun Dn σ H => ∀ q, H q = none → Dn.nx (σ.set 2 (some (.ref q))) (upd H q (.lst (wrd11.map V.str)))) := by
  unfold s5B at h
  split at h
  · obtain ⟨h1, h2⟩ := band h
    obtain rfl := eq_of_beq h1
    exact st_words nd hN hl (strs_ok h2) (by decide)
  · cases h
theorem nm_eq {c : Str} {e : Expr} (h : nmB c e = true) : ∃ p, e = .Name c p := by
  unfold nmB at h
  split at h
  · obtain rfl := eq_of_beq h; exact ⟨_, rfl⟩
  · cases h
theorem tg_eq {e : Expr} (h : tgB e = true) : ∃ p q k r, e = .Tuple [.Name "_law_word" p, .Name "_law_good" q] k r := by
  unfold tgB at h
  split at h
  · obtain ⟨h1, h2⟩ := band h
    obtain rfl := eq_of_beq h1
    obtain rfl := eq_of_beq h2
    exact ⟨_, _, _, _, rfl⟩
  · cases h
theorem zp_eq {e : Expr} (h : zpB e = true) : ∃ p q r z, e = .Call (.Name "zip" p) [.Name "_law_words" q, .Name "_law_matching" r] [] z := by
  unfold zpB at h
  split at h
  · obtain ⟨h1, h⟩ := band h
    obtain ⟨h2, h3⟩ := band h
    obtain rfl := eq_of_beq h1
    obtain rfl := eq_of_beq h2
    obtain rfl := eq_of_beq h3
    exact ⟨_, _, _, _, rfl⟩
  · cases h
theorem blk_loc {s : Shared} {H : Hp} {C : Addr} {cl : List (Str × Addr)} {fp : List Addr} {bs : Scope} {x : Str} (hk : X.env.scope.kind = .function) (h : isLo bs.names x = true) : (X.blk s H bs (compEnvC bs cl C X.env) fp).env.scope.names.lookup x = some .local := by
  have h := eq_of_beq (show (bs.names.lookup x == some NameKind.local) = true from h)
  show (relabel bs X.env).names.lookup x = _
  unfold relabel
  dsimp only
  generalize bs.names = l at h
  induction l with
  | nil => cases h
  | cons a l ih =>
    obtain ⟨n, k⟩ := a
    rw [List.map_cons]
    by_cases e : x = n
    · subst e
      rw [List.lookup_cons_self] at h
      cases h
      have : (NameKind.local == NameKind.free) = false := rfl
      simp only [this, Bool.false_and, Bool.false_eq_true, if_false, List.lookup_cons_self]
    · have hb : (x == n) = false := by simpa using e
      rw [List.lookup_cons, hb] at h
      have := ih h
      dsimp only at this ⊢
      split <;> (rw [List.lookup_cons, hb]; exact this)
theorem s6_ok (hot : Hot1 X.A p) (S : IsX X p D) (nd : X.N.Nodup) (hN : X.N = NM) (hk : X.env.scope.kind = .function) (n1 : X.env.scope.names.lookup ("_law_matching" : Str) = some .local) (n2 : X.env.scope.names.lookup ("_law_words" : Str) = some .local) (n3 : X.env.scope.names.lookup ("_law_found" : Str) = some .local) (hg : Gl X "zip") (hm : X.mg "zip" = none) {s : Stmt} (h : s6B X.env.scope s = true) {bs : List Bool} (hl : bs.length = 11) :
    PS X s (fun Dn σ H => ∃ la lb, σ[2]? = some (some (.ref la)) ∧ σ[1]? = some (some (.ref lb)) ∧ H la = some (.lst (wrd11.map V.str)) ∧ H lb = some (.lst (bs.map V.bl)) ∧ σ[4]? = some none ∧ σ[5]? = some none ∧ ∀ H' q, Ext H H' → H' q = some (.lst ((kept wrd11 bs).map V.str)) → Dn.nx (σ.set 3 (some (.ref q))) H') := by
  unfold s6B at h
  split at h
  · obtain ⟨q0, h⟩ := band h
    obtain ⟨q1, h⟩ := band h
    obtain ⟨q2, h⟩ := band h
    obtain ⟨q3, h⟩ := band h
    obtain ⟨q4, h⟩ := band h
    obtain ⟨q5, h⟩ := band h
    obtain ⟨q6, h⟩ := band h
    obtain ⟨q7, h⟩ := band h
    obtain ⟨q8, h⟩ := band h
    obtain ⟨q9, q10⟩ := band h
    obtain rfl := eq_of_beq q0
    obtain ⟨_, rfl⟩ := nm_eq q1
    obtain ⟨_, _, _, _, rfl⟩ := tg_eq q2
    obtain ⟨_, _, _, _, rfl⟩ := zp_eq q3
    obtain ⟨_, rfl⟩ := nm_eq q4
    obtain rfl := eq_of_beq q5
    have h1 : X.N[1]? = some ("_law_matching" : Str) := by rw [hN]; rfl
    have h2 : X.N[2]? = some ("_law_words" : Str) := by rw [hN]; rfl
    have h3 : X.N[3]? = some ("_law_found" : Str) := by rw [hN]; rfl
    have h4 : X.N[4]? = some ("_law_word" : Str) := by rw [hN]; rfl
    have h5 : X.N[5]? = some ("_law_good" : Str) := by rw [hN]; rfl
    refine PSw (setLcK (i := 3) (own := [("_law_word", 4), ("_law_good", 5)]) (g := gTup X.K 2 (gCons (gName 4) (gCons (gName 5) gNil))) (tt := tB (tVar 5)) (te := tVar 4) (wi := iZipK X.K (tCons (tVar 2) (tCons (tVar 1) tNil))) hot S.hp nd h3 n3 (sw_true hk n3 q6 (by simpa using q7))
      (fun pins s σ H R I hw => zip_itK hg hm (pa_cons (pe_var (i := 2) h2 (.inl n2)) (pa_cons (pe_var (i := 1) h1 (.inl n1)) pa_nil)) rfl rfl pins s σ H R I hw) (by rw [hN]; exact blkOk_by q8)
      (fun sb Hb C cl fp pinsb s σ H v u Q hp I r hw => pg_tupK (X := X.blk sb Hb _ (compEnvC _ cl C X.env) fp) (n := 2) (t := gCons (gName 4) (gCons (gName 5) gNil)) (pgs_cons (pg_name (i := 4) nd h4 (.inl (blk_loc hk q9)) (.inr (blk_loc hk q9))) (pgs_cons (pg_name (i := 5) nd h5 (.inl (blk_loc hk q10)) (.inr (blk_loc hk q10))) pgs_nil)) rfl rfl pinsb s σ H v u Q hp I r hw)
      (fun s H C cl fp => pts_one (pt_val (pe_var (i := 5) h5 (.inl (blk_loc hk q10))))) (fun s H C cl fp => pe_var (i := 4) h4 (.inl (blk_loc hk q9))) (fun _ => rfl)) ?_
    rintro Dn σ H ⟨la, lb, e2, e1, ea, eb, e4, e5, hq⟩
    exact zip_read (by rw [hl]; rfl) (by decide) ea eb e4 e5 (fun H' q ex eq => hq H' q ex eq) _ fun Q hQ => ⟨_, e2, _, e1, hQ⟩
  · cases h
end
theorem Row.take {X : Cx} {D : Addr} : ∀ {cs : List Str} {bs : List Bool} (n : Nat), Row X D cs bs → Row X D (cs.take n) (bs.take n)
  | _, _, 0, _ => .nil
  | _, _, _ + 1, .nil => .nil
  | _, _, n + 1, .cons h1 h2 h3 h4 r => .cons h1 h2 h3 h4 (Row.take n r)
theorem Row.drop {X : Cx} {D : Addr} : ∀ {cs : List Str} {bs : List Bool} (n : Nat), Row X D cs bs → Row X D (cs.drop n) (bs.drop n)
  | _, _, 0, r => r
  | _, _, _ + 1, .nil => .nil
  | _, _, n + 1, .cons _ _ _ _ r => Row.drop n r
/-- the body -/
theorem name_body {X : Cx} {p : Addr × Obj} {D : Addr} {bs : List Bool} {body : List Stmt} (hot : Hot1 X.A p) (S : IsX X p D) (hN : X.N = NM) (hk : X.env.scope.kind = .function) (hb : nameB X.env.scope body = true) (hn : namesB X.env.scope = true) (hm : X.mg "zip" = none) (hmv : X.mg "ValueError" = none)
    (hve : PySem.W.kitOne X.K (.ref D) (.type "ValueError") = some true) (hr : Row X D cls11 bs) (hl : bs.length = 11) (hs : ((kept wrd11 bs).map (·.length)).sum ≤ 1000) (hj : (Txt.join "" (kept wrd11 bs)).length ≤ 1000) :
    ∃ t, PSs X body t ∧ ∀ (H : Hp) (Q : VK), (∀ H', Ext H H' → Q (.str (Txt.join "" (kept wrd11 bs) ++ ("+" : Str))) H') → t { nx := fun _ H' => Q .non H', rt := Q } (L2.start NM [.ref p.1]) H := by
  unfold namesB at hn
  obtain ⟨n0, hn⟩ := band hn
  obtain ⟨n1, hn⟩ := band hn
  obtain ⟨n2, hn⟩ := band hn
  obtain ⟨n3, hn⟩ := band hn
  obtain ⟨g0, hn⟩ := band hn
  obtain ⟨g1, hn⟩ := band hn
  obtain ⟨g2, g3⟩ := band hn
  have n1 := isLo_ok (X := X) n1
  have n2 := isLo_ok (X := X) n2
  have n3 := isLo_ok (X := X) n3
  have nd : X.N.Nodup := by rw [hN]; decide +kernel
  have h1 : X.N[1]? = some ("_law_matching" : Str) := by rw [hN]; rfl
  have h2 : X.N[2]? = some ("_law_words" : Str) := by rw [hN]; rfl
  have h3 : X.N[3]? = some ("_law_found" : Str) := by rw [hN]; rfl
  obtain ⟨b0, b1, b2, b3, b4, b5, b6, b7, b8, b9, b10, rfl⟩ : ∃ b0 b1 b2 b3 b4 b5 b6 b7 b8 b9 b10, bs = [b0, b1, b2, b3, b4, b5, b6, b7, b8, b9, b10] := by
    match bs, hl with
    | [b0, b1, b2, b3, b4, b5, b6, b7, b8, b9, b10], _ => exact ⟨_, _, _, _, _, _, _, _, _, _, _, rfl⟩
  have r1 : Row X D (cls11.take 3) [b0, b1, b2] := hr.take 3
  have r2 : Row X D ((cls11.drop 3).take 3) [b3, b4, b5] := (hr.drop 3).take 3
  have r3 : Row X D ((cls11.drop 6).take 3) [b6, b7, b8] := (hr.drop 6).take 3
  have r4 : Row X D (cls11.drop 9) [b9, b10] := hr.drop 9
  unfold nameB at hb
  split at hb
  · obtain ⟨q1, hb⟩ := band hb
    obtain ⟨q2, hb⟩ := band hb
    obtain ⟨q3, hb⟩ := band hb
    obtain ⟨q4, hb⟩ := band hb
    obtain ⟨q5, hb⟩ := band hb
    obtain ⟨q6, q7⟩ := band hb
    refine ⟨_, pss_cons (s1_ok S nd h1 n1 r1 (by simp) q1) (pss_cons (s2_ok S nd h1 n1 r2 (by simp) q2) (pss_cons (s2_ok S nd h1 n1 r3 (by simp) q3) (pss_cons (s2_ok S nd h1 n1 r4 (by simp) q4) (pss_cons (s5_ok nd h2 n2 q5) (pss_cons (s6_ok hot S nd hN hk n1 n2 n3 (isGl_ok g1) hm q6 (bs := [b0, b1, b2, b3, b4, b5, b6, b7, b8, b9, b10]) rfl) (pss_one (s7_ok S h3 n3 (isGl_ok g2) hmv hve q7))))))), ?_⟩
    intro H Q hq
    refine ⟨rfl, fun a1 e1 => ⟨rfl, a1, _, rfl, upd_same, by simp, fun H2 a2 x2 e2 => ⟨rfl, a2, _, rfl, e2, by simp, fun H3 a3 x3 e3 => ⟨rfl, a3, _, rfl, e3, by simp, fun H4 a4 x4 e4 => fun a5 e5 => ?_⟩⟩⟩⟩
    have n45 : a4 ≠ a5 := ne_of_none e4 e5
    refine ⟨a5, a4, rfl, rfl, upd_same, by rw [upd_ne n45]; exact e4, rfl, rfl, fun H6 a6 x6 e6 => ⟨rfl, a6, _, rfl, e6, hs, hj, hq H6 ?_⟩⟩
    exact (Ext.new e1).trans (x2.trans (x3.trans (x4.trans ((Ext.new e5).trans x6))))
  · cases hb
end HN

namespace HN
open PySem PySem.Spec PyProof.Rows L2 HotX
open L2H (Hot1 PinOk cxH inv_startH RoomH)
/-- a class of exceptions as the laws' names tell it: i its place among the eleven -/
structure ClsK (K : PySem.W.Frag) (ca : List Addr) (ce : Addr) (i : Nat) (D : Addr) : Prop where
  C : ExcC K D
  row : ∀ (j : Nat) (c : Addr), ca[j]? = some c → PySem.W.kitOne K (.ref D) (.ref c) = some (decide (j = i))
  ve : PySem.W.kitOne K (.ref D) (.type "ValueError") = some true
  ex : PySem.W.exmOne K (.ref D) (.ref ce) = some true
  lt : i < 11
structure NameK (K : PySem.W.Frag) (mg : Str → Option Value) (ca : List Addr) (ce : Addr) (fn : Addr) (fdn : FuncData) (pn : Arguments) (bn : List Stmt) (sn : Scope) : Prop where
  F : FunD K "_law_name_of" "_law_name_of" pn bn sn [] [] fn fdn
  sc : FnScope NM ["_law_e"] sn
  nb : nameB sn bn = true
  ns : namesB sn = true
  bd : Binds K fdn ["_law_e"] []
  len : ca.length = 11
  cls : ∀ (j : Nat) (x : Str) (c : Addr), cls11[j]? = some x → ca[j]? = some c → mg x = some (.ref c)
  zp : mg "zip" = none
  ii : mg "isinstance" = none
  ve : mg "ValueError" = none
def bs11 (i : Nat) : List Bool := (List.range 11).map fun j => decide (j = i)
def nm11 (i : Nat) : Str := Txt.join "" (kept wrd11 (bs11 i)) ++ ("+" : Str)
theorem row_of {X : Cx} {ca : List Addr} {ce D : Addr} {i : Nat} (k : ClsK X.K ca ce i D) : ∀ (cs : List Str) (as : List Addr) (n : Nat), cs.length = as.length → (∀ (j : Nat) (c : Addr), as[j]? = some c → ca[n + j]? = some c) → (∀ (j : Nat) (x : Str) (c : Addr), cs[j]? = some x → as[j]? = some c → X.mg x = some (.ref c)) →
    (∀ x ∈ cs, Gl X x ∧ (x == ("__debug__" : Str)) = false) → Row X D cs ((List.range' n cs.length).map fun j => decide (j = i))
  | [], [], _, _, _, _, _ => .nil
  | [], _ :: _, _, h, _, _, _ => by cases h
  | _ :: _, [], _, h, _, _, _ => by cases h
  | c :: cs, a :: as, n, h, h1, h2, h3 => by
    rw [List.length_cons, List.range'_succ, List.map_cons]
    refine .cons (h3 c List.mem_cons_self).1 (h2 0 c a rfl rfl) (h3 c List.mem_cons_self).2 (k.row n a (h1 0 a rfl)) (row_of k cs as (n + 1) (by simpa using h) (fun j c hj => by have := h1 (j + 1) c (by simpa using hj); rwa [show n + (j + 1) = n + 1 + j by omega] at this) (fun j x c hx hc => h2 (j + 1) x c (by simpa using hx) (by simpa using hc)) fun x hx => h3 x (List.mem_cons_of_mem _ hx))
theorem name_ok : ∀ i, i < 11 → ((kept wrd11 (bs11 i)).map (·.length)).sum ≤ 1000 ∧ (Txt.join "" (kept wrd11 (bs11 i))).length ≤ 1000 := by decide +kernel
theorem dbg11 : ∀ x ∈ cls11, (x == ("__debug__" : Str)) = false := by decide +kernel
section
variable {P : Program} {w : World} {K : PySem.W.Frag} {mg : Str → Option Value} {base : Heap} {ca : List Addr} {ce fn : Addr} {fdn : FuncData} {pn : Arguments} {bn : List Stmt} {sn : Scope}
/-- _law_name_of(e), e the exception that is handled -/
theorem name_run (N : NameK K mg ca ce fn fdn pn bn sn) {i : Nat} {D : Addr} (k : ClsK K ca ce i D) {A : Around} {outer : List Env} {s : Shared} {H : Hp} {p : Addr × Obj} {Q : VK} (hr : RoomH 1 A) (hot : Hot1 A p) (hpin : PinOk outer H s p) (e0 : Env0 P w K mg base A outer s H) (hz : Zc (.ref D) none p.2) (hf : ∃ vs, p.2.data = .fields vs)
    (hq : ∀ H', Ext H H' → Q (.str (nm11 i)) H') : codeAny (model P w) A (.call (.ref fn) ⟨[.ref p.1], []⟩) (CR (L2N.CX P w) outer P w H s Q fun _ _ _ => False) s := by
  obtain ⟨oc, od, dV, kV, doc, pm, an, cdv, ct, osl, rfl, lk, hcd, _, _⟩ := N.F.ex
  have KX : K.In s.heap := e0.mod.kin.keeps fun b o e => (e0.bs b o e).1
  have lim : s.heap.NoLimit := e0.mod.nolimit.keeps fun b o e => (e0.bs b o e).1
  have S := N.sc
  have hkind : ∀ y ∈ (["_law_e"] : List Str).zip [Value.ref p.1], sn.names.lookup y.1 = some .local ∨ (sn.names.lookup y.1 = some .cell ∧ ((cellsFrom (s.heap.objs.size + 1) sn.names []).lookup y.1).isSome = true) := fun ⟨n, v⟩ hy => by
    rcases S.par n (List.of_mem_zip hy).1 with q | q
    · exact .inl q
    · exact .inr ⟨q, PySem.W.cellsFrom_some _ _ _ (.inl q)⟩
  have hb := N.bd s [.ref p.1] KX rfl
  refine codeAny_call_function hr.depth (KX _ _ lk) rfl S.co S.gen rfl (PySem.W.codeRec_of KX hcd) (hb _ _ _ _ ?_)
  refine wpAny_newFunctionEnv_cells S.kind hkind fun env he s1 x => ?_
  subst he
  refine ⟨lim.keeps x.toInCall.keep, codeAny_func ?_⟩
  have I : Inv (cxH (L2N.CX P w) P w K mg base NM "_law_name_of" sn fn cdv A outer s H (fun _ _ _ => False) p) [] (L2.start NM [.ref p.1]) H s1 := inv_startH S hpin e0 rfl (.cons rfl .nil) x
  have nn := N.ns
  unfold namesB at nn
  obtain ⟨n0, nn⟩ := band nn
  obtain ⟨n1, nn⟩ := band nn
  obtain ⟨n2, nn⟩ := band nn
  obtain ⟨n3, nn⟩ := band nn
  obtain ⟨g0, nn⟩ := band nn
  obtain ⟨g1, nn⟩ := band nn
  obtain ⟨g2, g3⟩ := band nn
  have hS : IsX (cxH (L2N.CX P w) P w K mg base NM "_law_name_of" sn fn cdv A outer s H (fun _ _ _ => False) p) p D := ⟨k.C, by show p ∈ [p]; simp, hz, hf, rfl, .inl (by have := eq_of_beq (show (sn.names.lookup ("_law_e" : Str) == some NameKind.local) = true from n0); exact this), by have := eq_of_beq (show (sn.names.lookup ("isinstance" : Str) == some NameKind.globalImplicit) = true from g0); exact this, N.ii⟩
  have hR : Row (cxH (L2N.CX P w) P w K mg base NM "_law_name_of" sn fn cdv A outer s H (fun _ _ _ => False) p) D cls11 (bs11 i) := by
    have := row_of (X := cxH (L2N.CX P w) P w K mg base NM "_law_name_of" sn fn cdv A outer s H (fun _ _ _ => False) p) k cls11 ca 0 (by rw [N.len]; rfl) (fun j c hj => by rw [Nat.zero_add]; exact hj) N.cls (fun x hx => ⟨by have := List.all_eq_true.mp g3 x hx; exact eq_of_beq (show (sn.names.lookup x == some NameKind.globalImplicit) = true from this), dbg11 x hx⟩)
    exact this
  obtain ⟨q1, q2⟩ := name_ok i k.lt
  obtain ⟨t, ht, hq'⟩ := name_body (X := cxH (L2N.CX P w) P w K mg base NM "_law_name_of" sn fn cdv A outer s H (fun _ _ _ => False) p) hot hS rfl S.kind N.nb N.ns N.zp N.ve k.ve hR rfl q1 q2
  refine wpAny_mono (ht.run [] s1 (L2.start NM [.ref p.1]) H _ I (hq' H Q hq)) (fun fl s' hs => ?_) fun e s' hs => hs
  have fin : ∀ {σ' : L2.St} {H' : Hp} {v : V} {u : Value}, Inv (cxH (L2N.CX P w) P w K mg base NM "_law_name_of" sn fn cdv A outer s H (fun _ _ _ => False) p) [] σ' H' s' → RelV v u → Q v H' → CE outer P w H s Q u s' :=
    fun {σ' H' v u} J rv q => ⟨v, H', J.os, J.bare, J.base, J.hok, rv, q⟩
  cases fl with
  | ret u => obtain ⟨v, σ', H', J, rv, q⟩ := hs; exact fin J rv q
  | next => obtain ⟨σ', H', J, q⟩ := hs; exact fin (v := V.non) (u := Value.none) J rfl q
  | brk => obtain ⟨_, _, _, q⟩ := hs; exact False.elim q
  | cont => obtain ⟨_, _, _, q⟩ := hs; exact False.elim q
end
end HN

namespace HN
open PySem PySem.Spec PyProof.Rows L2 HotX
open L2H (Hot1 PinOk RoomH)
def TM : List Str := ["_law_door", "_law_found", "_law_e"]
section
variable {X : Cx} {ca : List Addr} {ce fn : Addr} {fdn : FuncData} {pn : Arguments} {bn : List Stmt} {sn : Scope}
/-- what the clause leaves in _law_found -/
def tSuite (K : PySem.W.Frag) (ca : List Addr) (ce : Addr) (a : Addr) (cls : Value) (d : Option Addr) : TS := fun Dn σ H => ∃ i D, cls = .ref D ∧ d = none ∧ ClsK K ca ce i D ∧ σ[2]? = some (some (.ref a)) ∧ ∀ H', Ext H H' → Dn.nx (σ.set 1 (some (.str (nm11 i)))) H'
theorem suite_ok (N : NameK X.K X.mg ca ce fn fdn pn bn sn) (hr : RoomH 1 X.A) (hg : Gl X "_law_name_of") (hm : X.mg "_law_name_of" = some (.ref fn)) (hN : X.N = TM) (l1 : X.env.scope.names.lookup ("_law_found" : Str) = some .local) (l2 : X.env.scope.names.lookup ("_law_e" : Str) = some .local)
    {a : Addr} {oe : Obj} {cls : Value} {d : Option Addr} {pins' : List (Addr × Obj)} (hz : L2N.Zn cls d oe) (hf : ∃ vs, oe.data = .fields vs) {p1 p2 p3 p4 p5 : Pos} :
    PS (X.suite a ((a, oe) :: pins')) (.Assign [.Name "_law_found" p1] (.Call (.Name "_law_name_of" p2) [.Name "_law_e" p3] [] p4) p5) (tSuite X.K ca ce a cls d) := by
  refine ⟨fun pins s σ H Dn I h => ?_⟩
  obtain ⟨i, D, rfl, rfl, k, h2, hq⟩ := h
  have nd : (X.suite a ((a, oe) :: pins')).N.Nodup := by show X.N.Nodup; rw [hN]; decide +kernel
  have hot : Hot1 (X.suite a ((a, oe) :: pins')).A (a, oe) := by
    obtain ⟨vs, hv⟩ := hf
    exact ⟨rfl, vs, hv, hz.2.2 vs hv⟩
  have hp : (a, oe) ∈ (X.suite a ((a, oe) :: pins')).pn := List.mem_cons_self
  have call : PE (X.suite a ((a, oe) :: pins')) (.Call (.Name "_law_name_of" p2) [.Name "_law_e" p3] [] p4) (fun σ H Q => σ[2]? = some (some (.ref a)) ∧ ∀ H', Ext H H' → Q (.str (nm11 i)) H') := by
    refine ⟨fun pins s σ H Q I ⟨e2, hq⟩ => ?_⟩
    refine wpAny_Call_Name_kw (ld_glob I hg hm ?_ (by decide))
    have ha : PA (X.suite a ((a, oe) :: pins')) [.Name "_law_e" p3] (tCons (tVar 2) tNil) := pa_cons (pe_var (i := 2) (by show X.N[2]? = _; rw [hN]; rfl) (.inl l2)) pa_nil
    refine PySem.W.callWith_K (h₀ := X.base) I.ok.mod.kin N.F.kp (thn (ha.run p4 pins s σ H (fun vs H1 => vs = [.ref a] ∧ H1 = H) I ⟨_, e2, rfl, rfl⟩) fun us s1 ⟨vs, H1, I1, r, ev, eH⟩ => ⟨I1.kIn, ?_⟩) rfl rfl
    subst ev eH
    cases r with
    | cons r rr =>
      cases rr
      cases r
      have P1 := I1.pin (a, oe) (List.mem_append_left _ hp)
      have hpin : PinOk (X.suite a ((a, oe) :: pins')).stack H1 s1 (a, oe) := ⟨P1.1, P1.2.1, fun hm => (List.mem_cons.mp (I1.stkSub a hm)).elim P1.2.2.1 P1.2.2.2.1, P1.2.2.2.2⟩
      refine wpAny_call (codeAny_mono (name_run (P := X.prog) (w := X.w) (base := X.base) (A := (X.suite a ((a, oe) :: pins')).A) (outer := (X.suite a ((a, oe) :: pins')).stack) (Q := Q) N k ⟨hr.dp, hr.un⟩ hot hpin I1.env0 hz.zc hf hq) fun r s' hq => ?_)
      cases r with
      | error e => obtain ⟨_, _, _, _, _, _, _, _, _, _, _, _, z⟩ := hq; exact z.elim
      | ok fl =>
        cases fl with
        | ret u => exact I1.after hq
        | next => exact False.elim hq
        | brk => exact False.elim hq
        | cont => exact False.elim hq
  exact (ps_set (i := 1) nd (by show X.N[1]? = _; rw [hN]; rfl) (.inl l1) call rfl (.inr l1)).run pins s σ H Dn I ⟨h2, hq⟩
/-- _law_try's text -/
def tryB : List Stmt → Bool
  | [.Assign [.Name a _] (.Constant .none _ _) _, .Try [.Assign [.Name b _] (.Tuple [.Constant (.str t) _ _, .Call (.Name d _) [] [] _] _ _) _] [.ExceptHandler (some (.Name c _)) (some n) [.Assign [.Name e _] (.Call (.Name f _) [.Name g _] [] _) _] _] [] [] _, .Return (some (.Name r _)) _] =>
    a == ("_law_found" : Str) && (b == ("_law_found" : Str) && (t == ("told" : Str) && (d == ("_law_door" : Str) && (c == ("CardError" : Str) && (n == ("_law_e" : Str) && (e == ("_law_found" : Str) && (f == ("_law_name_of" : Str) && (g == ("_law_e" : Str) && r == ("_law_found" : Str)))))))))
  | _ => false
def tryNB (sc : Scope) : Bool := isLo sc.names "_law_door" && (isLo sc.names "_law_found" && (isLo sc.names "_law_e" && (isGl sc.names "CardError" && isGl sc.names "_law_name_of")))
def TTtry (K : PySem.W.Frag) (ca : List Addr) (ce : Addr) : (XK → Hp → VK → Prop) → Hp → VK → Prop := fun tl H Q =>
  tl (fun cls d H' => ∃ i D, cls = .ref D ∧ d = none ∧ ClsK K ca ce i D ∧ ∀ H'', Ext H' H'' → Q (.str (nm11 i)) H'') H (fun v H1 => [V.str "told", v].length ≤ sizeLine ∧ ∀ q, H1 q = none → Q (.ref q) (upd H1 q (.tup [.str "told", v])))
/-- the body in a context that lets nothing out -/
theorem try_body (N : NameK X.K X.mg ca ce fn fdn pn bn sn) (hr : RoomH 1 X.A) (hs : X.stack = X.env :: X.outer) (hfr : X.env.frame = some X.env.locals) (hm : X.mg "_law_name_of" = some (.ref fn)) (hce : X.mg "CardError" = some (.ref ce)) (hN : X.N = TM) (hk : X.env.scope.kind = .function) (hn : tryNB X.env.scope = true) {body : List Stmt} (hb : tryB body = true)
    {f c' : Addr} {q : Str} {tl : XK → Hp → VK → Prop} {H : Hp} {Q : VK}
    (act : ∀ (W : WX) (pn : List (Addr × Obj)) (xe : Value → Shared → Prop) (E : XK) (p1 p2 : Pos), L2N.Takes (X.tr pn xe) W → PE (X.tr pn xe) (.Call (.Name "_law_door" p1) [] [] p2) (fun σZ HZ Q => σZ[0]? = some (some (.ref f)) ∧ HZ c' = some (LamX.CodeO c' q) ∧ (∀ cls d H', E cls d H' → W cls d σZ H') ∧ tl E HZ Q))
    (mono : ∀ E H Q Q', tl E H Q → (∀ v H, Q v H → Q' v H) → tl E H Q') (hc : H c' = some (LamX.CodeO c' q)) (hq : TTtry X.K ca ce tl H Q) : ∃ t, PSs X body t ∧ t { nx := fun _ H' => Q .non H', rt := Q } (L2.start TM [.ref f]) H := by
  unfold tryNB at hn
  obtain ⟨n0, hn⟩ := band hn
  obtain ⟨n1, hn⟩ := band hn
  obtain ⟨n2, hn⟩ := band hn
  obtain ⟨g0, g1⟩ := band hn
  have n1 := isLo_ok (X := X) n1
  have n2 := isLo_ok (X := X) n2
  have nd : X.N.Nodup := by rw [hN]; decide +kernel
  have i1 : X.N[1]? = some ("_law_found" : Str) := by rw [hN]; rfl
  have i2 : X.N[2]? = some ("_law_e" : Str) := by rw [hN]; rfl
  unfold tryB at hb
  split at hb
  · obtain ⟨q1, hb⟩ := band hb
    obtain ⟨q2, hb⟩ := band hb
    obtain ⟨q3, hb⟩ := band hb
    obtain ⟨q4, hb⟩ := band hb
    obtain ⟨q5, hb⟩ := band hb
    obtain ⟨q6, hb⟩ := band hb
    obtain ⟨q7, hb⟩ := band hb
    obtain ⟨q8, hb⟩ := band hb
    obtain ⟨q9, q10⟩ := band hb
    obtain rfl := eq_of_beq q1
    obtain rfl := eq_of_beq q2
    obtain rfl := eq_of_beq q3
    obtain rfl := eq_of_beq q4
    obtain rfl := eq_of_beq q5
    obtain rfl := eq_of_beq q6
    obtain rfl := eq_of_beq q7
    obtain rfl := eq_of_beq q8
    obtain rfl := eq_of_beq q9
    obtain rfl := eq_of_beq q10
    refine ⟨_, pss_cons (ps_set (i := 1) nd i1 (.inl n1) pe_non rfl (.inr n1)) (pss_cons (L2N.ps_try_as (X := X) (i := 2) (c := .ref ce) (Wout := fun _ _ _ _ => False)
      (tb := fun W Dn σ H => ∃ E : XK, (∀ cls d H', E cls d H' → W cls d σ H') ∧ σ[0]? = some (some (.ref f)) ∧ H c' = some (LamX.CodeO c' q) ∧ tl E H fun v H1 => [V.str "told", v].length ≤ sizeLine ∧ ∀ q, H1 q = none → Dn.nx (σ.set 1 (some (.ref q))) (upd H1 q (.tup [.str "told", v])))
      (ts := fun a cls d => tSuite X.K ca ce a cls d) hs hfr nd i2 n2 ⟨isGl_ok g0, by decide, .inl hce⟩ (fun _ _ x => ?_) (fun W pn xe tk _ => ?_) (fun a oe cls d pn hz hf => pss_one (suite_ok N hr (isGl_ok g1) hm hN n1 n2 hz hf))) (pss_one (ps_ret (pe_var (i := 1) i1 (.inl n1))))), ?_⟩
    · obtain ⟨_, _, _, _, _, _, _, _, _, _, _, _, _, _, _, _, z⟩ := x
      exact z.elim
    · refine pss_one ⟨fun pins s σ H Dn I h => ?_⟩
      obtain ⟨E, hW, h1, h2, h3⟩ := h
      refine (ps_set (X := X.tr pn xe) (i := 1) nd i1 (.inl n1) (pe_tup (pa_cons pe_str (pa_cons (act W pn xe E _ _ tk) pa_nil))) rfl (.inr n1)).run pins s σ H Dn I ?_
      exact ⟨h1, h2, hW, h3⟩
    · refine ⟨_, ?_, rfl, hc, mono _ _ _ _ hq fun v H1 ⟨z1, z2⟩ => ⟨z1, fun q nq => ⟨_, rfl, z2 q nq⟩⟩⟩
      rintro cls d H' ⟨i, D, rfl, rfl, k, hk2⟩
      exact ⟨true, k.ex, fun _ a _ => ⟨i, D, rfl, rfl, k, rfl, fun H'' ex => ⟨_, rfl, hk2 H'' ex⟩⟩, fun z => by cases z⟩
  · cases hb
end
end HN

namespace HN
open PySem PySem.Spec PyProof.Rows L2 LamX
open L2H (Hot1 PinOk RoomH)
/-- nothing that was known is forgotten -/
abbrev DomE (H H1 : Hp) : Prop := ∀ b, H1 b = none → H b = none
theorem tab_app {H H1 : Hp} {P c' : Addr} {q : Str} {ps : Array Value} {pos : Pos} (hE : ExtN H H1) (h1 : H1 P = some (.tbl (ps ++ #[rawInt pos.line, rawInt pos.col, .ref c']))) (hc : H1 c' = some (CodeO c' q)) (ht : TriplesOk ps.toList)
    (ha : ∀ (p : Pos) (cv : Value), codeAmong p ps.toList = some cv → ∃ c, cv = .ref c ∧ H c = some (CodeO c q)) : TabS H1 P q := by
  have eL : (ps ++ #[rawInt pos.line, rawInt pos.col, .ref c']).toList = ps.toList ++ [rawInt pos.line, rawInt pos.col, .ref c'] := by simp
  refine ⟨_, h1, eL ▸ PySem.TriplesOk_snoc _ _ _ _ ht, fun p cv h => ?_⟩
  rw [eL] at h
  cases among_app _ ht h with
  | inl z => exact (ha p cv z).elim fun d ⟨e1, e2⟩ => ⟨d, e1, hE _ _ e2 codeO_ne⟩
  | inr z => exact ⟨c', z, hc⟩
section
variable {X : Cx} {pins : List (Addr × Obj)} {σ : L2.St} {H : Hp} {s : Shared}
theorem new_nofr (I : Inv X pins σ H s) {f : Addr} (hf : s.heap.objs.size ≤ f) : f ∉ frs X.stack := by
  intro z
  cases List.mem_cons.mp (I.stkSub _ z) with
  | inl e => subst e; exact Nat.not_lt.mpr hf I.lt
  | inr e => exact I.nofs hf e
/-- the making of a lambda, the known part only grown -/
theorem lam_make3 {T : List (Addr × Str)} {c P : Addr} {params : Arguments} {body : Expr} {scope : Scope} {pos : Pos} {E : Value → Shared → Prop} {Q : Value → Shared → Prop} (I : Inv X pins σ H s) (B : TabB X.base X.mg c P) (hcode : X.env.code = .ref c)
    (hm : (P, X.env.qual ++ "<lambda>") ∈ T) (hu : ∀ p ∈ T, p.1 = P → p.2 = X.env.qual ++ "<lambda>") (hT : Tabs T H) (hdef : defaultsOf params X.env = ([], [])) (hfree : ∀ y ∈ scope.names, y.2 = .free → ∃ c, X.env.cells.lookup y.1 = some c)
    (h : ∀ (f c' : Addr) (pm ctv : Value) (H1 : Hp) (s' : Shared), Inv X pins σ H1 s' → ExtN H H1 ∧ DomE H H1 → Tabs T H1 →
      s'.heap.get? f = some (PySem.W.kla_obj "<lambda>" (X.env.qual ++ "<lambda>") params body scope (cloFrom X.env.cells scope.names []) pm c' ctv) → H1 f = none → f ∉ frs X.stack → H1 c' = some (CodeO c' (X.env.qual ++ "<lambda>")) → Q (.ref f) s') :
    wpAny (model X.prog X.w) X.A (eval (.Lambda params body scope pos) X.env) Q E s := by
  have tP := hT _ hm
  generalize hq : X.env.qual ++ ("<lambda>" : Str) = q at hm hu h tP ⊢
  obtain ⟨ps, hP, ht, ha⟩ := tP
  have oP : s.heap.get? P = some { cls := .none, data := .fields ps } := I.hok P _ hP
  have bP := B.bm.keeps I.bk
  have gB := I.mod.glob.keeps I.bk
  have cB := B.code.keeps I.bk
  apply PySem.W.kla_eval hdef
  cases hc : codeAmong pos ps.toList with
  | some cv =>
    obtain ⟨c', rfl, hco⟩ := ha pos cv hc
    refine PySem.W.kla_makeFunctionHit (closure_ok hfree) I.ok.glob gB hcode cB oP ht hc bP fun ctv h' tk hx hsz => ?_
    rw [hq]
    exact h _ c' _ ctv H _ (I.kept (t' := tk) fun b o e => Heap.get?_push_of_some _ (hx b o e)) ⟨ExtN.refl H, fun _ z => z⟩ hT (Heap.get?_push_size _ rfl) (I.hok.fresh hsz) (new_nofr I hsz) hco
  | none =>
    refine PySem.W.kla_makeFunction (closure_ok hfree) I.ok.glob gB hcode cB oP ht hc B.gP bP fun c' ctv h' tk hx hge hlt hrec htb => ?_
    rw [hq] at hrec ⊢
    obtain ⟨_, oc, vs, t, e2, hoc, hd, hv⟩ := hrec
    cases e2
    have nC : H c' = none := I.hok.fresh hge
    have hsz := Nat.le_trans hge (Nat.le_of_lt hlt)
    have J := inv_table (t' := tk) (h' := h'.push (PySem.W.kla_obj "<lambda>" q params body scope (cloFrom X.env.cells scope.names []) ((X.mg "__name__").getD .none) c' ctv)) I hP (fun b o hb e => Heap.get?_push_of_some _ (hx b o hb e)) (Heap.get?_push_of_some _ htb) hge ⟨oc, vs, t, Heap.get?_push_of_some _ hoc, hd, hv⟩
    generalize hH1 : upd (upd H P (.tbl (ps ++ #[rawInt pos.line, rawInt pos.col, .ref c']))) c' (CodeO c' q) = H1 at J
    have a1 : H1 c' = some (CodeO c' q) := by rw [← hH1, upd_same]
    have a2 : H1 P = some (.tbl (ps ++ #[rawInt pos.line, rawInt pos.col, .ref c'])) := by rw [← hH1, upd_ne (ne_of_none hP nC), upd_same]
    have a3 : ∀ b, b ≠ P → b ≠ c' → H1 b = H b := fun b n1 n2 => by rw [← hH1, upd_ne n2, upd_ne n1]
    have hE : ExtN H H1 := fun b o e n => by
      rw [a3 b (fun z => by subst z; rw [hP] at e; cases e; exact n _ rfl) (ne_of_none e nC)]
      exact e
    have hD : DomE H H1 := fun b z => by
      by_cases n1 : b = P
      · subst n1; rw [a2] at z; cases z
      · by_cases n2 : b = c'
        · subst n2; exact nC
        · rw [← a3 b n1 n2]; exact z
    have nf : h'.objs.size ≠ P := fun z => Nat.not_lt.mpr hsz (z ▸ Heap.lt_size oP)
    refine h h'.objs.size c' _ ctv H1 _ J ⟨hE, hD⟩ (fun p hp => ?_) (Heap.get?_push_size _ rfl) ((a3 _ nf (Nat.ne_of_gt hlt)).trans (I.hok.fresh hsz)) (new_nofr I hsz) a1
    by_cases hb : p.1 = P
    · rw [hu p hp hb, hb]
      exact tab_app hE a2 a1 ht ha
    · obtain ⟨qs, b1, b2, b3⟩ := hT p hp
      refine ⟨qs, (a3 _ hb (ne_of_none b1 nC)).trans b1, b2, fun p' cv z => ?_⟩
      exact (b3 p' cv z).elim fun d ⟨e1, e2⟩ => ⟨d, e1, hE _ _ e2 codeO_ne⟩
end
end HN

namespace HN
open PySem PySem.Spec PyProof.Rows L2 LamX
open L2H (Hot1 PinOk RoomH)
/-- a lambda's body, exceptions told with their context -/
def lamCxN (X : Cx) (A : Around) (outer : List Env) (s : Shared) (H : Hp) (E : XK) (scope : Scope) (f c' : Addr) : Cx :=
  (lamCx X A outer s H E scope f c').wish fun e s' => wpAny (model X.prog X.w) (A.deeper (lamEnv X scope s.heap.objs.size f c')) (leaving (lamEnv X scope s.heap.objs.size f c') e) (fun _ s'' => L2N.CX X.prog X.w outer H s E e s'') (fun e' s'' => L2N.CX X.prog X.w outer H s E e' s'') s'
section
variable {X : Cx} {pins : List (Addr × Obj)} {σ : L2.St} {H HZ : Hp} {s s1 : Shared}
/-- the call of what _law_try got -/
theorem pe_actN {CXg : CXT} {Eg : XK} {Ng : List Str} {qg : Str} {sg : Scope} {g f c' : Addr} {cdg pm ctv : Value} {params : Arguments} {body : Expr} {scope : Scope} {k i : Nat} {a : Str} {pn : List (Addr × Obj)} {xe : Value → Shared → Prop} {W : WX} {E : XK} {tb : TE} {p1 p2 : Pos}
    (I : Inv X pins σ H s) (L : LamS X.env.scope scope) (hf : s.heap.get? f = some (PySem.W.kla_obj "<lambda>" (X.env.qual ++ "<lambda>") params body scope (cloFrom X.env.cells scope.names []) pm c' ctv)) (hfn : H f = none) (hfr : f ∉ frs X.stack)
    (hbind : bindArgs (PySem.W.kla_fn "<lambda>" (X.env.qual ++ "<lambda>") params body scope (cloFrom X.env.cells scope.names []) pm (.ref c') ctv) ⟨[], []⟩ = pure [])
    (tk : L2N.Takes ((cxOf CXg X.prog X.w X.K X.mg X.base Ng qg sg g cdg X.A X.stack s H Eg).tr pn xe) W) (hr : Room (k + 1) (X.A.deeper (envOfC qg sg s.heap.objs.size g cdg)))
    (hbody : ∀ (A : Around) (outer : List Env) (s : Shared) (H : Hp), Room k (A.deeper (lamEnv X scope s.heap.objs.size f c')) → PE (lamCxN X A outer s H E scope f c') body tb)
    (hN : Ng[i]? = some a) (hv : Vis sg a) (hd : (a == ("__debug__" : Str)) = false) (hcd : (a == ("__classdict__" : Str)) = false) :
    PE ((cxOf CXg X.prog X.w X.K X.mg X.base Ng qg sg g cdg X.A X.stack s H Eg).tr pn xe) (.Call (.Name a p1) [] [] p2)
      (fun σZ HZ Q => σZ[i]? = some (some (.ref f)) ∧ HZ c' = some (CodeO c' (X.env.qual ++ "<lambda>")) ∧ (∀ cls d H', E cls d H' → W cls d σZ H') ∧ tb σ HZ Q) := by
  refine ⟨fun pinsZ sZ σZ HZ Q IZ ⟨hs, hc, hW, ht⟩ => ?_⟩
  refine wpAny_Call_Name_kw (thn ((pe_var (pos := p1) (i := i) hN hv hd hcd).run pinsZ sZ σZ HZ (fun v H1 => v = .ref f ∧ H1 = HZ) IZ ⟨.ref f, hs, rfl, rfl⟩) fun u s1 ⟨v, H1, I1, r1, ev, eH⟩ => ?_)
  subst ev
  rw [eH] at I1
  obtain rfl : u = Value.ref f := r1
  have of1 : s1.heap.get? f = some (PySem.W.kla_obj "<lambda>" (X.env.qual ++ "<lambda>") params body scope (cloFrom X.env.cells scope.names []) pm c' ctv) := I1.base.keep f _ hf hfn hfr (fun z => nomatch (show f ∈ ([] : List Addr) from z))
  refine PySem.W.callWith_F0 ⟨_, _, _, _, of1⟩ ?_
  have un : Un (frs X.stack) [] H HZ s.heap s1.heap := I1.base
  obtain ⟨⟨oc, vs, t, hoc, hdc, hvc⟩, _, _⟩ := I1.hok c' _ hc
  have rc : codeAny (model X.prog X.w) (X.A.deeper (envOfC qg sg s.heap.objs.size g cdg)) (.call (.ref f) ⟨[], []⟩) (CR (L2N.CX X.prog X.w) (envOfC qg sg s.heap.objs.size g cdg :: X.stack) X.prog X.w HZ s1 Q E) s1 := by
    refine PySem.W.kla_callFunE hr.depth of1 rfl L.co L.gen rfl ⟨c', oc, vs, t, rfl, hoc, hdc, hvc⟩ ?_
    rw [hbind]
    refine wpAny_pure (wpAny_newFunctionEnv (fun y hy => (L.own y hy).2) (fun y hy => absurd hy (by simp)) (fun h₁ hns hsb => ⟨I1.nolimit.fresh _ hsb, ?_⟩) L.kind)
    show codeAny _ _ (.expr body (lamEnv X scope s1.heap.objs.size f c')) _ _
    have kp : ∀ b o, s1.heap.get? b = some o → h₁.get? b = some o := fun b o e => hsb.extBut b o (Nat.ne_of_lt (Heap.lt_size e)) (Heap.get?_push_of_some _ e)
    have J : Inv (lamCxN X (X.A.deeper (envOfC qg sg s.heap.objs.size g cdg)) (envOfC qg sg s.heap.objs.size g cdg :: X.stack) s1 HZ E scope f c') [] σ HZ { s1 with heap := h₁, toks := s1.toks + ([] : List (Str × Value)).length } :=
      (lam_start2 (E := E) I L I1.env0 hr.hd un hns kp).wish _
    refine PySem.W.kla_codeExpr (wpAny_mono ((hbody _ _ s1 HZ (hr.deeper _)).run [] _ _ HZ Q J ht) (fun v s' ⟨w', H', J', rv, q⟩ => ⟨w', H', J'.os, J'.bare, J'.base, J'.hok, rv, q⟩) fun e s' hq => hq)
  refine wpAny_call (codeAny_mono rc fun r s' hq => ?_)
  cases r with
  | error e => exact tk e s' (L2N.XE.of_call I1 (fun cls d H' z => hW cls d H' z) hq)
  | ok fl =>
    cases fl with
    | ret u => exact I1.after hq
    | next => exact False.elim hq
    | brk => exact False.elim hq
    | cont => exact False.elim hq
end
/-- _law_try and what it needs -/
structure TryK (K : PySem.W.Frag) (mg : Str → Option Value) (ca : List Addr) (ce : Addr) : Prop where
  ex : ∃ (fn g : Addr) (fdn fdg : FuncData) (pn pg : Arguments) (bn bg : List Stmt) (sn sg : Scope), NameK K mg ca ce fn fdn pn bn sn ∧ mg "_law_name_of" = some (.ref fn) ∧ mg "CardError" = some (.ref ce) ∧ mg "_law_try" = some (.ref g) ∧ FunD K "_law_try" "_law_try" pg bg sg [] [] g fdg ∧
    FnScope TM ["_law_door"] sg ∧ Binds K fdg ["_law_door"] [] ∧ tryB bg = true ∧ tryNB sg = true
def tTry (T : List (Addr × Str)) (K : PySem.W.Frag) (ca : List Addr) (ce : Addr) (t : XK → TE) : TE := fun σ H Q => Tabs T H ∧ ∀ H1, ExtN H H1 ∧ DomE H H1 → Tabs T H1 → TTtry K ca ce (fun E H' Q' => t E σ H' Q') H1 Q
theorem pe_try {X : Cx} {T : List (Addr × Str)} {ca : List Addr} {ce : Addr} {c P : Addr} {k : Nat} {params : Arguments} {body : Expr} {scope : Scope} {t : XK → TE} {p lpos pos : Pos} (K : TryK X.K X.mg ca ce) (hg : Gl X "_law_try")
    (TB : TabB X.base X.mg c P) (hcode : X.env.code = .ref c) (hmT : (P, X.env.qual ++ "<lambda>") ∈ T) (hu : ∀ p ∈ T, p.1 = P → p.2 = X.env.qual ++ "<lambda>") (hr : Room (k + 2) X.A) (L : LamS X.env.scope scope) (hdef : defaultsOf params X.env = ([], []))
    (hbind : ∀ (q : Str) (cl : List (Str × Addr)) (pm cv ctv : Value), bindArgs (PySem.W.kla_fn "<lambda>" q params body scope cl pm cv ctv) ⟨[], []⟩ = pure [])
    (mono : ∀ E σ H Q Q', t E σ H Q → (∀ v H, Q v H → Q' v H) → t E σ H Q')
    (hbody : ∀ (A : Around) (outer : List Env) (s : Shared) (H : Hp) (E : XK) (f c' : Addr), Room k (A.deeper (lamEnv X scope s.heap.objs.size f c')) → PE (lamCxN X A outer s H E scope f c') body (t E)) :
    PE X (.Call (.Name "_law_try" p) [.Lambda params body scope lpos] [] pos) (tTry T X.K ca ce t) := by
  obtain ⟨fn, g, fdn, fdg, pn, pg, bn, bg, sn, sg, NK, hmn, hce, hm, F, Sg, hb, tb, tnb⟩ := K.ex
  refine ⟨fun pins s σ H Q I ⟨hT, h⟩ => ?_⟩
  refine wpAny_Call_Name_kw (ld_glob I hg hm ?_ (by decide))
  refine PySem.W.callWith_K (h₀ := X.base) I.ok.mod.kin F.kp ?_ (by rfl) (by rfl)
  show wpAny _ _ (spliced ((false, eval (.Lambda params body scope lpos) X.env) :: backTo pos (starEach [] X.env))) _ _ s
  refine Calls.spliced_cons (lam_make3 I TB hcode hmT hu hT hdef (L.has I.ok) fun f c' pm' ctv H1 s' I1 eN T1 hf hfn hfr hco => ?_)
  refine Calls.spliced_nil ⟨I1.kIn, ?_⟩
  obtain ⟨oc, od, dV, kV, doc, pm, an, cdv, ct, osl, rfl, lk, hcd, _, _⟩ := F.ex
  have rc : codeAny (model X.prog X.w) X.A (.call (.ref g) ⟨[.ref f], []⟩) (CR C8.CX0 X.stack X.prog X.w H1 s' Q C8.E0) s' := by
    refine run_ofS (N := TM) (ps := ["_law_door"]) (us := [.ref f]) (vs := [.ref f]) lk hcd Sg hr I1.env0 (hb s' [.ref f] I1.kIn rfl) (.cons rfl .nil) rfl fun hr' => ?_
    have tn0 : sg.names.lookup ("_law_door" : Str) = some .local := by
      unfold tryNB at tnb
      exact eq_of_beq (show (sg.names.lookup ("_law_door" : Str) == some NameKind.local) = true from (band tnb).1)
    obtain ⟨t', ht', hq'⟩ := try_body (X := (cxOf C8.CX0 X.prog X.w X.K X.mg X.base TM "_law_try" sg g cdv X.A X.stack s' H1 C8.E0).nox) (f := f) (c' := c') (q := X.env.qual ++ "<lambda>") (tl := fun E H' Q' => t E σ H' Q') (H := H1) (Q := Q) NK
      ⟨by have := hr'.dp; show (X.A.deeper (envOfC "_law_try" sg s'.heap.objs.size g cdv)).depth + 3 * 1 + 5 < _; omega, by have := hr'.un; show (X.A.deeper (envOfC "_law_try" sg s'.heap.objs.size g cdv)).units + 16 * 1 + 200 < _; omega⟩ rfl rfl hmn hce rfl Sg.kind tnb tb
      (fun W pn xe E p1 p2 tk => pe_actN (CXg := C8.CX0) (Eg := C8.E0) (Ng := TM) (qg := "_law_try") (sg := sg) (g := g) (cdg := cdv) (i := 0) (k := k) I1 L hf hfn hfr (hbind _ _ _ _ _) tk hr' (fun A outer s H hr2 => hbody A outer s H E f c' hr2) rfl (.inl tn0) (by decide) (by decide)) (fun E H Q Q' => mono E σ H Q Q') hco (h H1 eN T1)
    exact ⟨t', ht'.nox, hq'⟩
  refine wpAny_call (codeAny_mono rc fun r s2 hq => ?_)
  cases r with
  | error e => exact (show False from hq).elim
  | ok fl =>
    cases fl with
    | ret u => exact I1.after hq
    | next => exact False.elim hq
    | brk => exact False.elim hq
    | cont => exact False.elim hq
end HN

namespace DL
open PySem PySem.Spec PyProof.Rows L2
open LamX (lamEnv LamS TabB)
variable [TB]
theorem nmT_eq : ∀ i : Fin 11, HN.nm11 i.1 = nmT i.1 := by decide +kernel
/-- the wished exceptions are of the classes told -/
def ExOk (K : PySem.W.Frag) (EX : ExR) (ca : List Addr) (ce : Addr) : Prop := ∀ x cls d H, EX x cls d H → ∃ D, cls = .ref D ∧ d = none ∧ HN.ClsK K ca ce x.cls D
def Fix.lam (Z : Fix) (E : XK) : Fix := { Z with W := fun cls d _ H => E cls d H }
section
variable {K : PySem.W.Frag} {Z : Fix} {ca : List Addr} {ce : Addr} {σ : L2.St} {H H1 : Hp} {F : AP'} {ρ : Env'} {Q : VK}
theorem grow_lam (ok : EnvOk K Z.fa H F σ ρ) (e : LamX.ExtN H H1 ∧ HN.DomE H H1) (t : LamX.Tabs TB.T H1) : Grow H F H1 F :=
  ⟨fun a o h nt => .inl (e.1 a o h nt), fun _ h => h, fun _ h => .inl h, fun a h z => ok.fd a h (e.2 a z), fun a z => e.2 a z, fun _ => t⟩
theorem grow_ext (fd : ∀ a, F a → H a ≠ none) (e : HN.Ext H H1) (t : Tbs H) : Grow H F H1 F :=
  have d : ∀ a, H1 a = none → H a = none := fun a z => by
    cases q : H a with
    | none => rfl
    | some o => rw [e a o q] at z; cases z
  ⟨fun a o h _ => .inl (e a o h), fun _ h => h, fun _ h => .inl h, fun a h z => fd a h (d a z), d, fun _ => t.ext e⟩
theorem tri_weak {g : Env' → Res SV} (hX : ExOk K Z.EX ca ce) (ok : EnvOk K Z.fa H F σ ρ) (h : PostG K Z (RSV K Z) σ H F ρ (triR (g ρ)) Q) :
    HN.TTtry K ca ce (fun E H' Q' => ∃ F ρ, EnvOk K Z.fa H' F σ ρ ∧ PostG K (Z.lam E) (RSV K (Z.lam E)) σ H' F ρ (g ρ) Q') H Q := by
  refine ⟨F, ρ, ok, ?_⟩
  cases hg : g ρ with
  | stuck => rw [hg] at h; exact h
  | exc x ρ1 =>
    rw [hg] at h
    intro cls d H' F' st ok' ex
    obtain ⟨D, rfl, rfl, C⟩ := hX _ _ _ _ ex
    refine ⟨x.cls, D, rfl, rfl, C, fun H2 e => ?_⟩
    have gr := grow_ext ok'.fd e ok'.tb
    refine h _ H2 F' (st.trans gr.step) (ok'.grow gr) ⟨?_, trivial⟩
    rw [nmT_eq ⟨x.cls, C.lt⟩]
    exact .str _
  | ok sv ρ1 =>
    rw [hg] at h
    intro v H' F' st ok' r
    obtain ⟨F1, ok1, rep, m1, m2⟩ := ResOk.freeze ok' r
    refine ⟨by rw [z24]; show 2 ≤ Z24; decide, fun p hp => ?_⟩
    have h2 := PostG.after late_RSV (st.more m1 m2) h
    exact h2.made ok1 (made_tup ok1.fd hp (.cons (.str _) (.cons rep .nil)))
end
theorem pd_tri {X : Cx} {Z : Fix} {ca : List Addr} {ce c P : Addr} {k : Nat} {params : Arguments} {body : Expr} {scope : Scope} {g : Env' → Res SV} {p lpos pos : Pos} (K : HN.TryK X.K X.mg ca ce) (hX : ExOk X.K Z.EX ca ce) (hg : Gl X "_law_try")
    (B : TabB X.base X.mg c P) (hcode : X.env.code = .ref c) (hmT : (P, X.env.qual ++ "<lambda>") ∈ TB.T) (hu : ∀ p ∈ TB.T, p.1 = P → p.2 = X.env.qual ++ "<lambda>") (hr : Room (k + 2) X.A) (L : LamS X.env.scope scope) (hdef : defaultsOf params X.env = ([], []))
    (hbind : ∀ (q : Str) (cl : List (Str × Addr)) (pm cv ctv : Value), bindArgs (PySem.W.kla_fn "<lambda>" q params body scope cl pm cv ctv) ⟨[], []⟩ = pure [])
    (hbody : ∀ (A : Around) (outer : List Env) (s : Shared) (H : Hp) (E : XK) (f c' : Addr), Room k (A.deeper (lamEnv X scope s.heap.objs.size f c')) → PEd (HN.lamCxN X A outer s H E scope f c') (Z.lam E) body g) :
    PEd X Z (.Call (.Name "_law_try" p) [.Lambda params body scope lpos] [] pos) (fun ρ => triR (g ρ)) := by
  refine PE.weak (HN.pe_try (T := TB.T) (t := fun E => tD X (Z.lam E) (RSV X.K (Z.lam E)) g) K hg B hcode hmT hu hr L hdef hbind (fun E σ H Q Q' ⟨F, ρ, ok, h⟩ i => ⟨F, ρ, ok, h.imp i⟩) hbody) ?_
  rintro σ H Q ⟨F, ρ, ok, h⟩
  refine ⟨ok.tb, fun H1 e t1 => ?_⟩
  have gr := grow_lam ok e t1
  exact tri_weak hX (ok.grow gr) (PostG.after late_RSV gr.step h)
/-- a class to be raised -/
structure RaiseK (K : PySem.W.Frag) (D : Addr) : Prop where
  ex : ∃ (bmB : List Value) (B newId initId : String), ExcBaseFacts B newId initId bmB ∧ PySem.W.excIn K D bmB newId = true
  kp : PySem.W.keepIn K (.ref D) = true
  sub : PySem.W.subIn K (.ref D) (.type "BaseException") = some true
  ty : PySem.W.typeIn K (.ref D) = some (.type "type")
theorem psd_raise {X : Cx} {Z : Fix} {D : Addr} {x m : Str} {j i : Nat} {p p2 pos pos2 : Pos} (hc : X.calm = true) (tk : L2N.Takes X Z.W) (R : RaiseK X.K D) (gm : X.mg x = some (.ref D)) (hg : Gl X x) (hd : (x == ("__debug__" : Str)) = false) (hE : ∀ H, Z.EX ⟨i, none⟩ (.ref D) none H) :
    PSd X Z (.Raise (some (.Call (.Name x p) [.Constant (.str m) j p2] [] pos)) none pos2) (fun ρ => .exc ⟨i, none⟩ ρ) := by
  obtain ⟨bmB, B, newId, initId, e1, e2⟩ := R.ex
  refine PS.weak (L2N.ps_raise hc tk (L2N.pmk_own e1 e2 gm R.kp (raises_own R.sub R.ty) hg hd)) ?_
  rintro De σ H ⟨F, ρ, ok, h⟩
  exact h _ _ σ H F Step.refl ok (hE H)
end DL

namespace DL
open PySem PySem.Spec PyProof.Rows L2
variable [TB]

/-! ### what is seen of a def ahead of its run -/
structure Ck where
  N : List Str
  nm : List (Str × NameKind)
  fn : List (Str × Nat)
  gd : List (Str × Nat)
  bl : List Str
  st : List Str
  cl : List (Str × Nat)
  lm : Bool
def Ck.loc (C : Ck) (x : Str) (i : Nat) : Bool := (C.N[i]? == some x) && (C.nm.lookup x == some .local || (C.nm.lookup x == some .cell && C.st.contains x))
/-- a local, no cell -/
def Ck.locS (C : Ck) (x : Str) (i : Nat) : Bool := (C.N[i]? == some x) && (C.nm.lookup x == some .local)
def Ck.vis (C : Ck) (x : Str) (i : Nat) : Bool := (C.N[i]? == some x) && (C.nm.lookup x == some .local || C.nm.lookup x == some .free || C.nm.lookup x == some .cell) && !(x == ("__debug__" : Str)) && !(x == ("__classdict__" : Str))
def Ck.glob (C : Ck) (x : Str) : Bool := C.nm.lookup x == some .globalImplicit
/-- the defs, k calls deep -/
def FnsAt (P : Program) (w : World) (K : PySem.W.Frag) (mg : Str → Option Value) (base : Heap) (fa : Nat → Option Addr) (EX : ExR) (cf : Cf) (fn : List (Str × Nat)) (k : Nat) : Prop :=
  (∀ x j, fn.lookup x = some j → (x == ("__debug__" : Str)) = false ∧ ∃ f fd ps, FnOk P w K mg base (L2N.CX P w) k f fd ps (spF K fa EX (cf.run j)) ∧ mg x = some (.ref f) ∧ PySem.W.keepIn K (.ref f) = true ∧ Binds K fd ps [] ∧ fa j = some f) ∧
  (∀ j f, fa j = some f → ∃ fd ps, FnOk P w K mg base (L2N.CX P w) k f fd ps (spF K fa EX (cf.run j)) ∧ PySem.W.keepIn K (.ref f) = true ∧ Binds K fd ps [])
structure CtxOk (X : Cx) (Z : Fix) (C : Ck) (cf : Cf) : Prop where
  N : X.N = C.N
  nd : X.N.Nodup
  nm : X.env.scope.names = C.nm
  kind : X.env.scope.kind = .function
  calm : X.calm = true
  tk : L2N.Takes X Z.W
  po : PassesOwn (model X.prog X.w) X.A X.env X.xe
  room : X.A.units + 65 < cLine
  fns : ∃ k, FnsAt X.prog X.w X.K X.mg X.base Z.fa Z.EX cf C.fn k ∧ Room (k + cond C.lm 2 0) X.A
  gd : ∀ x j, C.gd.lookup x = some j → (x == ("__debug__" : Str)) = false ∧ ∃ u v d, X.mg x = some u ∧ RelV v u ∧ cf.gv j = some d ∧ ∀ H F, Rep X.K Z.fa H F v d
  bl : ∀ x, x ∈ C.bl → X.mg x = none
  st : ∀ x, x ∈ C.st → X.fn x = true
  cl : ∀ x j, C.cl.lookup x = some j → (x == ("__debug__" : Str)) = false ∧ ∃ D, X.mg x = some (.ref D) ∧ RaiseK X.K D ∧ ∀ H, Z.EX ⟨j, none⟩ (.ref D) none H
  lam : C.lm = true → ∃ ca ce c P, HN.TryK X.K X.mg ca ce ∧ ExOk X.K Z.EX ca ce ∧ LamX.TabB X.base X.mg c P ∧ X.env.code = .ref c ∧ (P, X.env.qual ++ "<lambda>") ∈ TB.T ∧ ∀ p ∈ TB.T, p.1 = P → p.2 = X.env.qual ++ "<lambda>"
section
variable {X : Cx} {Z : Fix} {C : Ck} {cf : Cf} {x : Str} {i : Nat}
theorem CtxOk.fn (c : CtxOk X Z C cf) : ∀ x j, C.fn.lookup x = some j → (x == ("__debug__" : Str)) = false ∧ ∃ k f fd ps, FnOk X.prog X.w X.K X.mg X.base (L2N.CX X.prog X.w) k f fd ps (spF X.K Z.fa Z.EX (cf.run j)) ∧ Room k X.A ∧ X.mg x = some (.ref f) ∧ PySem.W.keepIn X.K (.ref f) = true ∧ Binds X.K fd ps [] ∧ Z.fa j = some f := fun x j h => by
  obtain ⟨k, F, r⟩ := c.fns
  obtain ⟨h1, f, fd, ps, a1, a2, a3, a4, a5⟩ := F.1 x j h
  exact ⟨h1, k, f, fd, ps, a1, r.mono (Nat.le_add_right _ _), a2, a3, a4, a5⟩
theorem CtxOk.fv (c : CtxOk X Z C cf) : ∀ j f, Z.fa j = some f → ∃ k fd ps, FnOk X.prog X.w X.K X.mg X.base (L2N.CX X.prog X.w) k f fd ps (spF X.K Z.fa Z.EX (cf.run j)) ∧ Room k X.A ∧ PySem.W.keepIn X.K (.ref f) = true ∧ Binds X.K fd ps [] := fun j f h => by
  obtain ⟨k, F, r⟩ := c.fns
  obtain ⟨fd, ps, a1, a2, a3⟩ := F.2 j f h
  exact ⟨k, fd, ps, a1, r.mono (Nat.le_add_right _ _), a2, a3⟩
theorem CtxOk.hloc (c : CtxOk X Z C cf) (h : C.loc x i = true) : X.N[i]? = some x ∧ L2.Loc X.env.scope x ∧ (X.fn x = true ∨ X.env.scope.names.lookup x = some .local) := by
  unfold Ck.loc at h
  obtain ⟨h1, h2⟩ := Bool.and_eq_true_iff.mp h
  unfold L2.Loc
  rw [c.N, c.nm]
  refine ⟨by simpa using h1, ?_⟩
  rcases Bool.or_eq_true_iff.mp h2 with h2 | h2
  · have h3 : C.nm.lookup x = some .local := by simpa using h2
    exact ⟨.inl h3, .inr h3⟩
  · obtain ⟨h3, h4⟩ := Bool.and_eq_true_iff.mp h2
    exact ⟨.inr (by simpa using h3), .inl (c.st x (by simpa using h4))⟩
theorem CtxOk.hlocS (c : CtxOk X Z C cf) (h : C.locS x i = true) : X.N[i]? = some x ∧ X.env.scope.names.lookup x = some .local := by
  unfold Ck.locS at h
  obtain ⟨h1, h2⟩ := Bool.and_eq_true_iff.mp h
  rw [c.N, c.nm]
  exact ⟨by simpa using h1, by simpa using h2⟩
theorem CtxOk.hvis (c : CtxOk X Z C cf) (h : C.vis x i = true) : X.N[i]? = some x ∧ Vis X.env.scope x ∧ (x == ("__debug__" : Str)) = false ∧ (x == ("__classdict__" : Str)) = false := by
  unfold Ck.vis at h
  simp only [Bool.and_eq_true, Bool.or_eq_true, beq_iff_eq, Bool.not_eq_true'] at h
  obtain ⟨⟨⟨h1, h2⟩, h3⟩, h4⟩ := h
  refine ⟨by rw [c.N]; exact h1, ?_, h3, h4⟩
  unfold Vis
  rw [c.nm]
  rcases h2 with (h | h) | h
  · exact .inl h
  · exact .inr (.inr h)
  · exact .inr (.inl h)
theorem CtxOk.hgl (c : CtxOk X Z C cf) (h : C.glob x = true) : Gl X x := by
  unfold Ck.glob at h
  show X.env.scope.names.lookup x = _
  rw [c.nm]
  simpa using h
end

/-! ### shapes -/
def plainT : Expr → Bool
  | .UnaryOp .Not _ _ => false
  | .BoolOp _ _ _ => false
  | .IfExp _ _ _ _ => false
  | .Compare _ _ _ _ => false
  | _ => true
theorem plainT_ok {e : Expr} (h : plainT e = true) {env : Env} : ∀ whole, isTrue e env whole = (do let v ← whole; standAt e.pos; holding [v] (truthy v)) := by
  intro whole
  cases e with
  | UnaryOp o a p => cases o <;> first | rfl | cases h
  | _ => first | rfl | cases h
def plainI : Expr → Bool
  | .Slice _ _ _ _ => false
  | _ => true
theorem plainI_ok {e : Expr} (h : plainI e = true) : PlainIx e := by
  intro o i
  cases e <;> first | rfl | cases h
/-- not a comprehension -/
def plainC : Expr → Bool
  | .ListComp _ _ _ _ => false
  | .SetComp _ _ _ _ => false
  | .DictComp _ _ _ _ _ => false
  | _ => true
theorem plainC_ok {e : Expr} (h : plainC e = true) {t : Option Expr} {l : Nat} {env : Env} : swapsWith e t l env = pure false := by
  cases e <;> first | rfl | cases h
theorem plainC_sole {e tg : Expr} (h : plainC e = true) {l : Nat} {env : Env} : swapsWithSole [tg] e l env = pure false := plainC_ok h
theorem tup_sole {es : List Expr} {k : Nat} {p : Pos} {e : Expr} {l : Nat} {env : Env} : swapsWithSole [.Tuple es k p] e l env = pure false := by
  cases e <;> rfl
def plainF : Expr → Bool
  | .Set _ _ _ => false
  | _ => true
theorem plainF_ok {e : Expr} (h : plainF e = true) {env : Env} : ∀ x, foldedSetIterable e env x = pure x := by
  intro x
  cases e <;> first | rfl | cases h
theorem assign_plain {e : Expr} {es : List Expr} {env : Env} (h : plainE e = true) : assignEach (e :: es) env = (false, assign e env) :: assignEach es env := by
  cases e <;> first | rfl | cases h
theorem assign_all {env : Env} : ∀ {es : List Expr}, es.all plainE = true → (assignEach es env).length = es.length ∧ (assignEach es env).findIdx? (·.1) = none
  | [], _ => ⟨rfl, rfl⟩
  | e :: es, h => by
    rw [List.all_cons, Bool.and_eq_true] at h
    obtain ⟨h1, h2⟩ := assign_all (env := env) h.2
    rw [assign_plain h.1]
    refine ⟨by rw [List.length_cons, List.length_cons, h1], ?_⟩
    rw [List.findIdx?_cons, h2]
    rfl
/-- the swapped stores of a, b = x, y -/
def swapP (nm : List (Str × NameKind)) (ts vs : List Expr) : Option (Option (List Str)) :=
  if (!(ts.length == 2 || ts.length == 3) || vs.length != ts.length) = true then some none
  else if (vs.any fun | .Starred .. => true | _ => false) = true then some none
  else
    let line := (ts.head?.map (·.pos.line)).getD 0
    let names := ts.filterMap fun
      | .Name id pos => if nm.lookup id == some .local && pos.line == line then some id else none
      | _ => none
    if (names.length != ts.length || names.eraseDups.length != names.length) = true then some none
    else if vs.all (foldedForSure 8) = true then some none
    else if vs.all (constantsAlone 8) = true then none
    else some (some names)
theorem swapP_ok {nm : List (Str × NameKind)} {ts vs : List Expr} {env : Env} {r : Option (List Str)} {k k2 : Nat} {p p2 : Pos} (hn : env.scope.names = nm) (hk : env.scope.kind = .function) (h : swapP nm ts vs = some r) : swappedStores [.Tuple ts k p] (.Tuple vs k2 p2) env = pure r := by
  subst hn
  have hb : env.blockKind = .function := by unfold Env.blockKind; rw [hk]; rfl
  unfold swapP at h
  unfold swappedStores
  rw [hb]
  have e0 : (ScopeKind.function != ScopeKind.function) = false := rfl
  rw [e0]
  dsimp only at h ⊢
  rw [Bool.or_false]
  split at h
  · rename_i h1
    cases h
    rw [if_pos h1]
  · rename_i h1
    rw [if_neg h1]
    split at h
    · rename_i h2
      cases h
      exact if_pos h2
    · rename_i h2
      refine (if_neg h2).trans ?_
      split at h
      · rename_i h3
        cases h
        exact if_pos h3
      · rename_i h3
        refine (if_neg h3).trans ?_
        split at h
        · rename_i h4
          cases h
          exact if_pos h4
        · rename_i h4
          refine (if_neg h4).trans ?_
          split at h
          · cases h
          · rename_i h5
            cases h
            exact if_neg h5
theorem swap_value {ts : List Expr} {e : Expr} {env : Env} {k : Nat} {p : Pos} (h : ∀ vs k2 p2, e ≠ .Tuple vs k2 p2) : swappedStores [.Tuple ts k p] e env = pure none := by
  cases e <;> first | rfl | exact absurd rfl (h _ _ _)
/-! ### a comprehension's block -/
def Ck.blk (C : Ck) (scope : Scope) : Ck := { C with lm := false, nm := scope.names.map fun (n, k) => if (k == .free && C.nm.lookup n == some .cell) = true then (n, .cell) else (n, k), st := (scope.names.filter fun p => scope.names.lookup p.1 == some .cell).map (·.1) }
def Ck.own (C : Ck) (vs : List Nat) : List (Str × Nat) := vs.map fun i => (C.N.getD i "", i)
def Ck.blkB (C : Ck) (vs : List Nat) (scope : Scope) : Bool := blkC C.N { scope with names := C.nm } scope (C.own vs)
theorem own_map (C : Ck) (vs : List Nat) : (C.own vs).map (·.2) = vs := by
  unfold Ck.own
  rw [List.map_map]
  exact List.map_id'' (fun _ => rfl) vs
section
variable {X : Cx} {Z : Fix} {C : Ck} {cf : Cf} {vs : List Nat} {scope : Scope}
theorem CtxOk.blkOk (c : CtxOk X Z C cf) (h : C.blkB vs scope = true) : BlkOk X.N X.env.scope scope (C.own vs) := by
  refine blkOk_by ?_
  unfold Ck.blkB blkC at h
  unfold blkC
  rw [c.N, c.nm]
  exact h
theorem takesQ {X : Cx} : L2N.Takes X (fun _ _ _ _ => False) := fun _ _ x => by
  obtain ⟨_, _, _, _, _, _, _, _, _, _, _, _, _, _, _, _, z⟩ := x
  exact z.elim
theorem CtxOk.blk (c : CtxOk X Z C cf) (h : C.blkB vs scope = true) (s : Shared) (H : Hp) (A : Addr) (cl : List (Str × Addr)) (fp : List Addr) : CtxOk (X.blk s H scope (compEnvC scope cl A X.env) fp) Z.quiet (C.blk scope) cf := by
  refine ⟨c.N, c.nd, ?_, (c.blkOk h).kind, c.calm, takesQ, PassesOwn.never, c.room, ?_, c.gd, c.bl, fun x hx => ?_, c.cl, fun z => (by cases z)⟩
  rotate_left
  · obtain ⟨k, F, r⟩ := c.fns
    exact ⟨k, F, r.mono (Nat.le_add_right _ _)⟩
  · obtain ⟨p, hp, e⟩ := List.mem_map.mp hx
    have := (List.mem_filter.mp hp).2
    rw [e] at this
    exact this
  show (relabel scope X.env).names = _
  unfold relabel Ck.blk
  have e : ∀ n, X.env.kindOf n = C.nm.lookup n := fun n => by unfold Env.kindOf; rw [c.nm]
  have k : (X.env.scope.kind == ScopeKind.function) = true := by rw [c.kind]; rfl
  simp only [e, k, Bool.and_true]
/-- within a lambda -/
def Ck.lam (C : Ck) (scope : Scope) : Ck := { C with nm := scope.names, st := [], lm := false }
theorem CtxOk.lamOk (c : CtxOk X Z C cf) {k : Nat} (F : FnsAt X.prog X.w X.K X.mg X.base Z.fa Z.EX cf C.fn k) (L : LamX.LamS X.env.scope scope) (A : Around) (outer : List Env) (s : Shared) (H : Hp) (E : XK) (f c' : Addr) (hr : Room k (A.deeper (LamX.lamEnv X scope s.heap.objs.size f c'))) :
    CtxOk (HN.lamCxN X A outer s H E scope f c') (Z.lam E) (C.lam scope) cf := by
  refine ⟨c.N, c.nd, rfl, L.kind, rfl, L2N.takes_of rfl rfl rfl rfl, passes_of rfl, ?_, ⟨k, F, hr⟩, c.gd, c.bl, fun x hx => (by cases hx), c.cl, fun z => (by cases z)⟩
  have := hr.un
  show (A.deeper (LamX.lamEnv X scope s.heap.objs.size f c')).units + 65 < cLine
  omega
end
end DL

namespace DL
open PySem PySem.Spec PyProof.Rows L2
variable [TB]

/-! ### the check of an expression -/
def noPar : Arguments → Bool
  | ⟨[], [], none, [], [], none, []⟩ => true
  | _ => false
theorem noPar_ok {params : Arguments} (h : noPar params = true) : params = ⟨[], [], none, [], [], none, []⟩ := by
  unfold noPar at h
  split at h
  · rfl
  · cases h
def ckC : D → Expr → Bool
  | .non, .Constant .none _ _ => true
  | .bl b, .Constant (.bool c) _ _ => b == c
  | .int i, .Constant (.int j) _ _ => i == j
  | .str x, .Constant (.str y) _ _ => x == y
  | _, _ => false
def tyOk (z : Str) (T : String) : Bool :=
  (z == ("int" : Str) && T == "int") || (z == ("str" : Str) && T == "str") || (z == ("tuple" : Str) && T == "tuple") || (z == ("list" : Str) && T == "list") || (z == ("bool" : Str) && T == "bool") || (z == ("dict" : Str) && T == "dict")
theorem tyOk_ok {z : Str} {T : String} (h : tyOk z T = true) : bootBuiltins z = some (.type T) ∧ z ≠ "__name__" ∧ (z == ("__debug__" : Str)) = false := by
  unfold tyOk at h
  simp only [Bool.or_eq_true, Bool.and_eq_true, beq_iff_eq] at h
  rcases h with ((((⟨rfl, rfl⟩ | ⟨rfl, rfl⟩) | ⟨rfl, rfl⟩) | ⟨rfl, rfl⟩) | ⟨rfl, rfl⟩) | ⟨rfl, rfl⟩ <;> exact ⟨by decide +kernel, by decide, by decide⟩
/-- a builtin's name -/
def Ck.blt (C : Ck) (x : Str) : Bool := C.glob x && C.bl.contains x
def isTup : Expr → Bool
  | .Tuple _ _ _ => true
  | _ => false
mutual
def ckG (C : Ck) : Nat → Tg → Expr → Bool
  | 0, _, _ => false
  | n + 1, T, e => match T with
    | .nm i => (match e with
      | .Name x _ => C.loc x i
      | _ => false)
    | .tup ts => (match e with
      | .Tuple es _ _ => ckGs C n ts es
      | _ => false)
def ckGs (C : Ck) : Nat → List Tg → List Expr → Bool
  | 0, _, _ => false
  | _ + 1, [], [] => true
  | n + 1, T :: ts, e :: es => plainE e && ckG C n T e && ckGs C n ts es
  | _, _, _ => false
end

def slIn (ts vs : List Nat) : Bool := ts.all fun i => vs.contains i
theorem slIn_ok {ts vs : List Nat} (h : slIn ts vs = true) : ∀ i ∈ ts, i ∈ vs := fun i hi => by
  have := List.all_eq_true.mp h i hi
  simpa using this
def abOk : Expr → Bool
  | .Name _ _ => true
  | .Call (.Name _ _) (_ :: _) _ _ => true
  | _ => false
theorem abOk_ok {e : Expr} (h : abOk e = true) {m : Str} {env : Env} {whole : Sem Value} : attributeBase e m env whole = whole := by
  unfold abOk at h
  split at h <;> first | rfl | cases h
mutual
def ckE (C : Ck) : Nat → Q → Expr → Bool
  | 0, _, _ => false
  | n + 1, q, e => match q with
    | .cst d => ckC d e
    | .var i => (match e with
      | .Name x _ => C.vis x i
      | _ => false)
    | .glb j => (match e with
      | .Name x _ => C.glob x && C.gd.lookup x == some j
      | _ => false)
    | .fnv j => (match e with
      | .Name x _ => C.glob x && C.fn.lookup x == some j
      | _ => false)
    | .callv i args => (match e with
      | .Call (.Name x _) (e :: es) [] _ => C.vis x i && ckL C n args (e :: es)
      | _ => false)
    | .tup qs => (match e with
      | .Tuple es _ _ => ckL C n qs es
      | _ => false)
    | .lst qs => (match e with
      | .List es _ => ckL C n qs es
      | _ => false)
    | .lmul qs b => (match e with
      | .BinOp (.List es _) .Mult e _ => ckL C n qs es && ckE C n b e
      | _ => false)
    | .dic _ => (match e with
      | .Dict [] [] _ => true
      | _ => false)
    | .dic1 k v => (match e with
      | .Dict [some a] [b] _ => ckE C n k a && ckE C n v b
      | _ => false)
    | .bin o a b => (match e with
      | .BinOp x o' y _ => o == o' && ckE C n a x && ckE C n b y
      | _ => false)
    | .neg a => (match e with
      | .UnaryOp .USub x _ => ckE C n a x
      | _ => false)
    | .cmp o a b => (match e with
      | .Compare x [o'] [y] _ => o == o' && !(behindInMarks o y) && ckE C n a x && ckE C n b y
      | _ => false)
    | .chain o o' a b c => (match e with
      | .Compare x [p, p'] [y, z] _ => o == p && o' == p' && !(lastMarks [o, o'] [y, z]) && ckE C n a x && ckE C n b y && ckE C n c z
      | _ => false)
    | .and a b => (match e with
      | .BoolOp .And (x :: y :: r) pos => ckE C n a x && (match r with
        | [] => ckE C n b y
        | _ => ckE C n b (.BoolOp .And (y :: r) pos))
      | _ => false)
    | .or a b => (match e with
      | .BoolOp .Or (x :: y :: r) pos => ckE C n a x && (match r with
        | [] => ckE C n b y
        | _ => ckE C n b (.BoolOp .Or (y :: r) pos))
      | _ => false)
    | .not a => (match e with
      | .UnaryOp .Not x _ => ckE C n a x
      | _ => false)
    | .ite c a b => (match e with
      | .IfExp x y z _ => ckT C n c x && ckE C n a y && ckE C n b z
      | _ => false)
    | .idx a b => (match e with
      | .Subscript x y _ => plainI y && ckE C n a x && ckE C n b y
      | _ => false)
    | .slc a lo hi => (match e with
      | .Subscript x (.Slice l h none _) _ => ckE C n a x && ckO C n lo l && ckO C n hi h
      | _ => false)
    | .rev a => (match e with
      | .Subscript x (.Slice none none (some (.UnaryOp .USub (.Constant (.int i) _ _) _)) _) _ => i == 1 && ckE C n a x
      | _ => false)
    | .call j args => (match e with
      | .Call (.Name x _) es [] _ => C.glob x && C.fn.lookup x == some j && ckL C n args es
      | _ => false)
    | .bi b args => (match e with
      | .Call (.Name x _) (e :: es) [] _ => x == b.name && C.blt x && ckL C n args (e :: es)
      | _ => false)
    | .inst a T => (match e with
      | .Call (.Name x _) [y, .Name z _] [] _ => x == ("isinstance" : Str) && C.blt x && C.blt z && tyOk z T && plainE y && ckE C n a y
      | _ => false)
    | .lrng a => (match e with
      | .Call (.Name x _) [.Call (.Name y _) [z] [] _] [] _ => x == ("list" : Str) && y == ("range" : Str) && C.blt x && C.blt y && plainE z && ckE C n a z
      | _ => false)
    | .dcp a => (match e with
      | .Call (.Name x _) [y] [] _ => x == ("dict" : Str) && C.blt x && plainE y && ckE C n a y
      | _ => false)
    | .dprs a => (match e with
      | .Call (.Name x _) [y] [] _ => x == ("dict" : Str) && C.blt x && plainE y && ckE C n a y
      | _ => false)
    | .get a k d => (match e with
      | .Call (.Attribute o m apos) [y, z] [] cpos => m == ("get" : Str) && abOk o && plainE y && plainE z && (apos.endLine == cpos.line) && ckE C n a o && ckE C n k y && ckE C n d z
      | _ => false)
    | .lc vs T it c q => (match e with
      | .ListComp elt [⟨g, iter, ifs, k⟩] scope _ => k == 0 && C.blkB vs scope && slIn T.sl vs && plainF iter && ckI C n it g iter && ckG (C.blk scope) n T g && ckTs (C.blk scope) n c ifs && ckE (C.blk scope) n q elt
      | _ => false)
    | .lc2 vs vs1 T it T1 it1 c q => (match e with
      | .ListComp elt [⟨g, iter, [], k⟩, ⟨g1, iter1, ifs, k1⟩] scope _ => k == 0 && k1 == 0 && C.blkB vs scope && slIn T.sl vs && slIn T1.sl vs1 && slIn vs1 vs && plainF iter && plainF iter1 && ckI C n it g iter && ckG (C.blk scope) n T g && ckI (C.blk scope) n it1 g1 iter1 && ckG (C.blk scope) n T1 g1 && ckTs (C.blk scope) n c ifs && ckE (C.blk scope) n q elt
      | _ => false)
    | .lc3 vs vs1 vs2 T it T1 it1 T2 it2 c q => (match e with
      | .ListComp elt [⟨g, iter, [], k⟩, ⟨g1, iter1, [], k1⟩, ⟨g2, iter2, ifs, k2⟩] scope _ => k == 0 && k1 == 0 && k2 == 0 && C.blkB vs scope && slIn T.sl vs && slIn T1.sl vs1 && slIn T2.sl vs2 && slIn vs1 vs && slIn vs2 vs1 && plainF iter && plainF iter1 && plainF iter2 && ckI C n it g iter && ckG (C.blk scope) n T g && ckI (C.blk scope) n it1 g1 iter1 && ckG (C.blk scope) n T1 g1 && ckI (C.blk scope) n it2 g2 iter2 && ckG (C.blk scope) n T2 g2 && ckTs (C.blk scope) n c ifs && ckE (C.blk scope) n q elt
      | _ => false)
    | .tri q => (match e with
      | .Call (.Name x _) [.Lambda params body scope _] [] _ => x == ("_law_try" : Str) && C.lm && C.glob x && noPar params && LamX.lamSB { scope with names := C.nm } scope && ckE (C.lam scope) n q body
      | _ => false)
def ckTs (C : Ck) : Nat → Option Q → List Expr → Bool
  | 0, _, _ => false
  | _ + 1, none, [] => true
  | n + 1, some q, [e] => ckT C n q e
  | _, _, _ => false
def ckI (C : Ck) : Nat → It → Expr → Expr → Bool
  | 0, _, _, _ => false
  | n + 1, it, tg, e => match it with
    | .seq q => ckE C n q e
    | .rng a => (match e with
      | .Call (.Name x _) [y] [] _ => x == ("range" : Str) && C.blt x && plainE y && ckE C n a y
      | _ => false)
    | .rng2 a b => (match e with
      | .Call (.Name x _) [y, z] [] _ => x == ("range" : Str) && C.blt x && plainE y && plainE z && ckE C n a y && ckE C n b z
      | _ => false)
    | .enum a => (match e with
      | .Call (.Name x _) [y] [] _ => x == ("enumerate" : Str) && C.blt x && plainE y && isTup tg && ckE C n a y
      | _ => false)
    | .zip a b => (match e with
      | .Call (.Name x _) [y, z] [] _ => x == ("zip" : Str) && C.blt x && plainE y && plainE z && isTup tg && ckE C n a y && ckE C n b z
      | _ => false)
    | .zip3 a b c => (match e with
      | .Call (.Name x _) [y, z, u] [] _ => x == ("zip" : Str) && C.blt x && plainE y && plainE z && plainE u && isTup tg && ckE C n a y && ckE C n b z && ckE C n c u
      | _ => false)
    | .items a => (match e with
      | .Call (.Attribute y m apos) [] [] cpos => m == ("items" : Str) && isTup tg && abOk y && (apos.endLine == cpos.line) && ckE C n a y
      | _ => false)
def ckL (C : Ck) : Nat → List Q → List Expr → Bool
  | 0, _, _ => false
  | _ + 1, [], [] => true
  | n + 1, q :: qs, e :: es => plainE e && ckE C n q e && ckL C n qs es
  | _, _, _ => false
def ckO (C : Ck) : Nat → Option Q → Option Expr → Bool
  | 0, _, _ => false
  | _ + 1, none, none => true
  | n + 1, some q, some e => ckE C n q e
  | _, _, _ => false
def ckT (C : Ck) : Nat → Q → Expr → Bool
  | 0, _, _ => false
  | n + 1, q, e => match q with
    | .and a b => (match e with
      | .BoolOp .And (x :: y :: r) pos => ckT C n a x && (match r with
        | [] => ckT C n b y
        | _ => ckT C n b (.BoolOp .And (y :: r) pos))
      | _ => false)
    | .or a b => (match e with
      | .BoolOp .Or (x :: y :: r) pos => ckT C n a x && (match r with
        | [] => ckT C n b y
        | _ => ckT C n b (.BoolOp .Or (y :: r) pos))
      | _ => false)
    | .not a => (match e with
      | .UnaryOp .Not x _ => ckT C n a x
      | _ => false)
    | .cmp o a b => (match e with
      | .Compare x [o'] [y] _ => o == o' && !(behindInMarks o y) && ckE C n a x && ckE C n b y
      | _ => false)
    | .chain o o' a b c => (match e with
      | .Compare x [p, p'] [y, z] _ => o == p && o' == p' && !(lastMarks [o, o'] [y, z]) && ckE C n a x && ckE C n b y && ckE C n c z
      | _ => false)
    | q => plainT e && ckE C n q e
end

/-! ### it tells the truth -/
section
variable {X : Cx} {Z : Fix} {cf : Cf} {e : Expr}
theorem pd_stuck : PEd X Z e (fun _ => .stuck) := ⟨fun _ _ _ _ _ _ ⟨_, _, _, h⟩ => h.elim⟩
theorem ptd_stuck : PTd X Z e (fun _ => .stuck) := ⟨fun _ _ _ _ _ _ ⟨_, _, _, h⟩ => h.elim⟩
theorem pwd_stuck : PWd X Z e (fun _ => .stuck) := ⟨fun _ _ _ _ _ _ _ ⟨_, _, _, h⟩ => h.elim⟩
theorem po_stuck {o : Option Expr} : POpt X Z o (fun _ => .stuck) := ⟨fun _ _ _ _ _ _ ⟨_, _, _, h⟩ => h.elim⟩
theorem pd_bool1 {f : Env' → Res SV} {op : BoolOp} {pos : Pos} (h : PEd X Z e f) : PEd X Z (.BoolOp op [e] pos) f := ⟨fun pins s σ H Q I q => h.run pins s σ H Q I q⟩
theorem PEd.congr {f g : Env' → Res SV} (h : PEd X Z e f) (e2 : ∀ ρ, f ρ = g ρ) : PEd X Z e g := by
  have : f = g := funext e2
  rw [← this]; exact h
theorem PTd.congr {f g : Env' → Res Bool} (h : PTd X Z e f) (e2 : ∀ ρ, f ρ = g ρ) : PTd X Z e g := by
  have : f = g := funext e2
  rw [← this]; exact h
structure Snd (cf : Cf) (n : Nat) : Prop where
  e : ∀ (Z : Fix) (C : Ck) (X : Cx) q e, CtxOk X Z C cf → ckE C n q e = true → ∀ m, PEd X Z e (ev cf m q)
  l : ∀ (Z : Fix) (C : Ck) (X : Cx) qs es, CtxOk X Z C cf → ckL C n qs es = true → es.all plainE = true ∧ ∀ m, PVd X Z es (vals (ev cf m) qs) ∧ PAd X Z es (opds (ev cf m) qs)
  o : ∀ (Z : Fix) (C : Ck) (X : Cx) q o, CtxOk X Z C cf → ckO C n q o = true → ∀ m, POpt X Z o (part cf m q)
  t : ∀ (Z : Fix) (C : Ck) (X : Cx) q e, CtxOk X Z C cf → ckT C n q e = true → ∀ m, PTd X Z e (evT cf m q) ∧ ((∃ op es pos, e = .BoolOp op es pos) → PWd X Z e (evT cf m q))
  ts : ∀ (Z : Fix) (C : Ck) (X : Cx) q es, CtxOk X Z C cf → ckTs C n q es = true → ∀ m, PTs X es (tD X Z RB (testO (evT cf m) q))
  i : ∀ (Z : Fix) (C : Ck) (X : Cx) it tg e, CtxOk X Z C cf → ckI C n it tg e = true → ∀ m, PId X Z tg e (evIt (ev cf m) it)
theorem snd_zero : Snd cf 0 := ⟨fun _ _ _ _ _ _ h => (by cases h), fun _ _ _ _ _ _ h => (by cases h), fun _ _ _ _ _ _ h => (by cases h), fun _ _ _ _ _ _ h => (by cases h), fun _ _ _ _ _ _ h => (by cases h), fun _ _ _ _ _ _ _ h => (by cases h)⟩
/-- an operand -/
theorem pod_of {C : Ck} {q : Q} (c : CtxOk X Z C cf) {n : Nat} (h : ckE C n q e = true) (hp : ∀ m, PEd X Z e (ev cf m q)) (m : Nat) : POd X Z e (opd (ev cf m) q) := by
  by_cases hq : ∃ i, q = .var i
  · obtain ⟨i, rfl⟩ := hq
    cases n with
    | zero => cases h
    | succ n =>
      unfold ckE at h
      dsimp only at h
      split at h
      · obtain ⟨h1, h2, h3, h4⟩ := c.hvis h
        exact po_var h1 h2 h3 h4
      · cases h
  · have : opd (ev cf m) q = fun ρ => (ev cf m q ρ).bind fun sv ρ' => .ok (.dd sv.d) ρ' := by
      funext ρ
      cases q <;> first | rfl | exact absurd ⟨_, rfl⟩ hq
    rw [this]
    exact po_val (hp m)

theorem pvad {C : Ck} {n : Nat} {q : Q} {qs : List Q} {es : List Expr} (c : CtxOk X Z C cf) (hq : ckE C n q e = true) (hp : ∀ m, PEd X Z e (ev cf m q)) (pl : plainE e = true) (r : ∀ m, PVd X Z es (vals (ev cf m) qs) ∧ PAd X Z es (opds (ev cf m) qs)) (m : Nat) :
    PVd X Z (e :: es) (vals (ev cf m) (q :: qs)) ∧ PAd X Z (e :: es) (opds (ev cf m) (q :: qs)) := ⟨pvd_cons (hp m) (r m).1 pl, pad_cons (pod_of c hq hp m) (r m).2 pl⟩
theorem ckC_ok {d : D} (h : ckC d e = true) : PEd X Z e (fun ρ => .ok (.dat d) ρ) := by
  unfold ckC at h
  split at h
  · exact pd_con pe_non fun _ _ => .non
  · obtain rfl := eq_of_beq h; exact pd_con pe_bl fun _ _ => .bl _
  · obtain rfl := eq_of_beq h; exact pd_con pe_int fun _ _ => .int _
  · obtain rfl := eq_of_beq h; exact pd_con pe_str fun _ _ => .str _
  · cases h
theorem blt_ok {C : Ck} {x : Str} (c : CtxOk X Z C cf) (h : C.blt x = true) : Gl X x ∧ X.mg x = none := by
  unfold Ck.blt at h
  obtain ⟨h1, h2⟩ := Bool.and_eq_true_iff.mp h
  exact ⟨c.hgl h1, c.bl x (by simpa using h2)⟩
theorem call_any {C : Ck} {x : Str} {p pos : Pos} {es : List Expr} {args : List Q} {j k : Nat} {f : Addr} {fd : FuncData} {ps : List Str} {m : Nat} (c : CtxOk X Z C cf) (F : FnOk X.prog X.w X.K X.mg X.base (L2N.CX X.prog X.w) k f fd ps (spF X.K Z.fa Z.EX (cf.run j))) (hr : Room k X.A) (hg : Gl X x) (hm : X.mg x = some (.ref f)) (hk : PySem.W.keepIn X.K (.ref f) = true) (hb : Binds X.K fd ps [])
    (hd : (x == ("__debug__" : Str)) = false) (pl : es.all plainE = true) (hn : es = [] → args = []) (ha : ∀ m, PAd X Z es (opds (ev cf m) args)) : PEd X Z (.Call (.Name x p) es [] pos) (ev cf (m + 1) (.call j args)) := by
  cases es with
  | nil =>
    obtain rfl := hn rfl
    exact pd_call0 F c.tk hr hg hm hk hb hd
  | cons e0 es =>
    have pl' := pl
    rw [List.all_cons, Bool.and_eq_true] at pl'
    exact pd_call F c.tk hr hg hm hk hb (ha m) hd (star_plain pl'.1) (back_plain pl'.2)
theorem band {a b : Bool} (h : (a && b) = true) : a = true ∧ b = true := Bool.and_eq_true_iff.mp h
theorem bnot {a : Bool} (h : (!a) = true) : a = false := by cases a <;> first | rfl | cases h
structure SndG (cf : Cf) (n : Nat) : Prop where
  g : ∀ (Z : Fix) (C : Ck) (X : Cx) T e, CtxOk X Z C cf → ckG C n T e = true → PGd X Z e T
  gs : ∀ (Z : Fix) (C : Ck) (X : Cx) ts es, CtxOk X Z C cf → ckGs C n ts es = true → PGsd X Z es ts ∧ es.all plainE = true ∧ es.length = ts.length
theorem sndG : ∀ n, SndG cf n
  | 0 => ⟨fun _ _ _ _ _ _ h => (by cases h), fun _ _ _ _ _ _ h => (by cases h)⟩
  | n + 1 => by
    have S := sndG n
    refine ⟨fun Z C X T e c h => ?_, fun Z C X ts es c h => ?_⟩
    · unfold ckG at h
      cases T with
      | nm i =>
        dsimp only at h
        split at h
        · obtain ⟨h1, h2, h3⟩ := c.hloc h
          exact pgd_name c.nd h1 h2 h3
        · cases h
      | tup ts =>
        dsimp only at h
        split at h
        · obtain ⟨h1, h2, h3⟩ := S.gs Z C X _ _ c h
          exact pgd_tup c.calm h1 h3 (assign_all h2).1 (assign_all h2).2
        · cases h
    · unfold ckGs at h
      split at h
      · rename_i hh; cases hh
      · exact ⟨pgsd_nil, rfl, rfl⟩
      · rename_i n' T ts e es hn
        cases hn
        obtain ⟨h1, h3⟩ := band h
        obtain ⟨h1, h2⟩ := band h1
        obtain ⟨r1, r2, r3⟩ := S.gs Z C X _ _ c h3
        refine ⟨pgsd_cons (S.g Z C X _ _ c h2) r1 (by rw [assign_plain h1]; rfl), by rw [List.all_cons, h1, r2]; rfl, by rw [List.length_cons, List.length_cons, r3]⟩
      · cases h
theorem snd_e {n : Nat} (S : Snd cf n) (Z : Fix) (C : Ck) (X : Cx) (q : Q) (e : Expr) (c : CtxOk X Z C cf) (h : ckE C (n + 1) q e = true) : ∀ m, PEd X Z e (ev cf m q) := by
  intro m
  cases m with
  | zero => exact pd_stuck
  | succ m =>
    have hu1 : X.A.units + 1 < cLine := by have := c.room; omega
    unfold ckE at h
    cases q with
    | var i =>
      dsimp only at h
      split at h
      · obtain ⟨h1, h2, h3, h4⟩ := c.hvis h
        exact pd_var h1 h2 h3 h4
      · cases h
    | tri q =>
      dsimp only at h
      split at h
      · rename_i x p params body scope lp pos
        obtain ⟨h1, h6⟩ := band h
        obtain ⟨h1, h5⟩ := band h1
        obtain ⟨h1, h4⟩ := band h1
        obtain ⟨h1, h3⟩ := band h1
        obtain ⟨h1, h2⟩ := band h1
        obtain rfl := eq_of_beq h1
        obtain rfl := noPar_ok h4
        obtain ⟨ca, ce, co, P, l1, l2, l3, l4, l5, l6⟩ := c.lam h2
        obtain ⟨k, F, r⟩ := c.fns
        rw [h2] at r
        have L : LamX.LamS X.env.scope scope := LamX.lamS_by (by
          unfold LamX.lamSB at h5 ⊢
          rw [c.nm]
          exact h5)
        exact pd_tri l1 l2 (c.hgl h3) l3 l4 l5 l6 r L rfl (fun _ _ _ _ _ => rfl) fun A outer s H E f c' hr => S.e (Z.lam E) (C.lam _) _ q _ (c.lamOk F L A outer s H E f c' hr) h6 m
      · cases h
    | cst d => exact ckC_ok h
    | glb j =>
      dsimp only at h
      split at h
      · obtain ⟨h1, h2⟩ := band h
        obtain ⟨hd, u, v, d, k1, k2, k3, k4⟩ := c.gd _ _ (eq_of_beq h2)
        refine (pd_con (pe_glob (c.hgl h1) k1 k2 hd) k4).congr fun ρ => ?_
        show (Res.ok (SV.dat d) ρ : Res SV) = (match cf.gv j with
          | some d => (Res.ok (SV.dat d) ρ : Res SV)
          | none => Res.stuck)
        rw [k3]
      · cases h
    | fnv j =>
      dsimp only at h
      split at h
      · obtain ⟨h1, h2⟩ := band h
        obtain ⟨hd, k, f, fd, ps, k1, k2, k3, k4, k5, k6⟩ := c.fn _ _ (eq_of_beq h2)
        exact pd_con (v := .ref f) (pe_glob (c.hgl h1) k3 rfl hd) fun _ _ => .fn k6
      · cases h
    | callv i args =>
      dsimp only at h
      split at h
      · obtain ⟨h1, h2⟩ := band h
        obtain ⟨g1, g2, g3, g4⟩ := c.hvis h1
        obtain ⟨pl, ha⟩ := S.l Z C X _ _ c h2
        have pl' := pl
        rw [List.all_cons, Bool.and_eq_true] at pl'
        exact pd_callv g1 g2 g4 c.tk c.fv (ha m).2 g3 (star_plain pl'.1) (back_plain pl'.2)
      · cases h
    | tup qs =>
      dsimp only at h
      split at h
      · exact pd_tup ((S.l Z C X _ _ c h).2 m).1
      · cases h
    | lst qs =>
      dsimp only at h
      split at h
      · exact pd_lst ((S.l Z C X _ _ c h).2 m).1
      · cases h
    | lmul qs b =>
      dsimp only at h
      split at h
      · obtain ⟨h1, h2⟩ := band h
        exact pd_lmul ((S.l Z C X _ _ c h1).2 m).1 (S.e Z C X _ _ c h2 m)
      · cases h
    | dic t =>
      dsimp only at h
      split at h
      · cases t
        · exact pd_dicK
        · exact pd_dicT
      · cases h
    | dic1 k v =>
      dsimp only at h
      split at h
      · obtain ⟨h1, h2⟩ := band h
        exact pd_dic1 (S.e Z C X _ _ c h1 m) (S.e Z C X _ _ c h2 m)
      · cases h
    | bin o a b =>
      dsimp only at h
      split at h
      · obtain ⟨h1, h3⟩ := band h
        obtain ⟨h1, h2⟩ := band h1
        obtain rfl := eq_of_beq h1
        exact pd_bin (pod_of c h2 (S.e Z C X _ _ c h2) m) (pod_of c h3 (S.e Z C X _ _ c h3) m)
      · cases h
    | neg a =>
      dsimp only at h
      split at h
      · exact pd_neg (S.e Z C X _ _ c h m)
      · cases h
    | cmp o a b =>
      dsimp only at h
      split at h
      · obtain ⟨h1, h4⟩ := band h
        obtain ⟨h1, h3⟩ := band h1
        obtain ⟨h1, h2⟩ := band h1
        obtain rfl := eq_of_beq h1
        exact pd_cmp c.room (pod_of c h3 (S.e Z C X _ _ c h3) m) (pod_of c h4 (S.e Z C X _ _ c h4) m) (bnot h2)
      · cases h
    | chain o o' a b d =>
      dsimp only at h
      split at h
      · obtain ⟨h1, h6⟩ := band h
        obtain ⟨h1, h5⟩ := band h1
        obtain ⟨h1, h4⟩ := band h1
        obtain ⟨h1, h3⟩ := band h1
        obtain ⟨h1, h2⟩ := band h1
        obtain rfl := eq_of_beq h1
        obtain rfl := eq_of_beq h2
        exact pd_chain c.room (S.e Z C X _ _ c h4 m) (S.e Z C X _ _ c h5 m) (S.e Z C X _ _ c h6 m) (bnot h3)
      · cases h
    | and a b =>
      dsimp only at h
      split at h
      · obtain ⟨h1, h2⟩ := band h
        split at h2
        · exact pd_and (S.e Z C X _ _ c h1 m) (pd_bool1 (S.e Z C X _ _ c h2 m))
        · exact pd_and (S.e Z C X _ _ c h1 m) (S.e Z C X _ _ c h2 m)
      · cases h
    | or a b =>
      dsimp only at h
      split at h
      · obtain ⟨h1, h2⟩ := band h
        split at h2
        · exact pd_or (S.e Z C X _ _ c h1 m) (pd_bool1 (S.e Z C X _ _ c h2 m))
        · exact pd_or (S.e Z C X _ _ c h1 m) (S.e Z C X _ _ c h2 m)
      · cases h
    | not a =>
      dsimp only at h
      split at h
      · exact pd_not (S.e Z C X _ _ c h m)
      · cases h
    | ite t a b =>
      dsimp only at h
      split at h
      · obtain ⟨h1, h3⟩ := band h
        obtain ⟨h1, h2⟩ := band h1
        exact pd_ite (S.t Z C X _ _ c h1 m).1 (S.e Z C X _ _ c h2 m) (S.e Z C X _ _ c h3 m)
      · cases h
    | idx a b =>
      dsimp only at h
      split at h
      · obtain ⟨h1, h3⟩ := band h
        obtain ⟨h1, h2⟩ := band h1
        exact pd_idx hu1 (pod_of c h2 (S.e Z C X _ _ c h2) m) (pod_of c h3 (S.e Z C X _ _ c h3) m) (plainI_ok h1)
      · cases h
    | slc a lo hi =>
      dsimp only at h
      split at h
      · obtain ⟨h1, h3⟩ := band h
        obtain ⟨h1, h2⟩ := band h1
        exact pd_slc (pod_of c h1 (S.e Z C X _ _ c h1) m) (S.o Z C X _ _ c h2 m) (S.o Z C X _ _ c h3 m)
      · cases h
    | rev a =>
      dsimp only at h
      split at h
      · obtain ⟨h1, h2⟩ := band h
        obtain rfl := eq_of_beq h1
        exact pd_rev (pod_of c h2 (S.e Z C X _ _ c h2) m)
      · cases h
    | call j args =>
      dsimp only at h
      split at h
      · obtain ⟨h1, h3⟩ := band h
        obtain ⟨h1, h2⟩ := band h1
        obtain ⟨hd, k, f, fd, ps, k1, k2, k3, k4, k5, _⟩ := c.fn _ _ (eq_of_beq h2)
        obtain ⟨pl, ha⟩ := S.l Z C X _ _ c h3
        refine call_any c k1 k2 (c.hgl h1) k3 k4 k5 hd pl (fun z => ?_) (fun m => (ha m).2)
        rw [z] at h3
        cases n with
        | zero => cases h3
        | succ n => cases args <;> first | rfl | cases h3
      · cases h
    | bi b args =>
      dsimp only at h
      split at h
      · obtain ⟨h1, h3⟩ := band h
        obtain ⟨h1, h2⟩ := band h1
        obtain rfl := eq_of_beq h1
        obtain ⟨g1, g2⟩ := blt_ok c h2
        obtain ⟨pl, ha⟩ := S.l Z C X _ _ c h3
        exact pd_bi c.calm g1 g2 (ha m).2 pl
      · cases h
    | inst a T =>
      dsimp only at h
      split at h
      · obtain ⟨h1, h6⟩ := band h
        obtain ⟨h1, h5⟩ := band h1
        obtain ⟨h1, h4⟩ := band h1
        obtain ⟨h1, h3⟩ := band h1
        obtain ⟨h1, h2⟩ := band h1
        obtain rfl := eq_of_beq h1
        obtain ⟨g1, g2⟩ := blt_ok c h2
        obtain ⟨g3, g4⟩ := blt_ok c h3
        obtain ⟨t1, t2, t3⟩ := tyOk_ok h4
        exact pd_inst g1 g2 g3 g4 t1 t2 t3 (pod_of c h6 (S.e Z C X _ _ c h6) m) h5
      · cases h
    | lrng a =>
      dsimp only at h
      split at h
      · obtain ⟨h1, h6⟩ := band h
        obtain ⟨h1, h5⟩ := band h1
        obtain ⟨h1, h4⟩ := band h1
        obtain ⟨h1, h3⟩ := band h1
        obtain ⟨h1, h2⟩ := band h1
        obtain rfl := eq_of_beq h1
        obtain rfl := eq_of_beq h2
        obtain ⟨g1, g2⟩ := blt_ok c h3
        obtain ⟨g3, g4⟩ := blt_ok c h4
        exact pd_lrng c.calm g1 g2 g3 g4 (S.e Z C X _ _ c h6 m) h5
      · cases h
    | dcp a =>
      dsimp only at h
      split at h
      · obtain ⟨h1, h4⟩ := band h
        obtain ⟨h1, h3⟩ := band h1
        obtain ⟨h1, h2⟩ := band h1
        obtain rfl := eq_of_beq h1
        obtain ⟨g1, g2⟩ := blt_ok c h2
        exact pd_dcp g1 g2 (pod_of c h4 (S.e Z C X _ _ c h4) m) h3
      · cases h
    | dprs a =>
      dsimp only at h
      split at h
      · obtain ⟨h1, h4⟩ := band h
        obtain ⟨h1, h3⟩ := band h1
        obtain ⟨h1, h2⟩ := band h1
        obtain rfl := eq_of_beq h1
        obtain ⟨g1, g2⟩ := blt_ok c h2
        exact pd_dprs c.calm g1 g2 (pod_of c h4 (S.e Z C X _ _ c h4) m) h3
      · cases h
    | get a k d =>
      dsimp only at h
      split at h
      · obtain ⟨h1, h8⟩ := band h
        obtain ⟨h1, h7⟩ := band h1
        obtain ⟨h1, h6⟩ := band h1
        obtain ⟨h1, h5⟩ := band h1
        obtain ⟨h1, h4⟩ := band h1
        obtain ⟨h1, h3⟩ := band h1
        obtain ⟨h1, h2⟩ := band h1
        obtain rfl := eq_of_beq h1
        refine pd_get hu1 (pod_of c h6 (S.e Z C X _ _ c h6) m) (S.e Z C X _ _ c h7 m) (S.e Z C X _ _ c h8 m) ⟨abOk_ok h2, ?_, h5, ?_⟩
        · rw [star_plain h3, star_plain h4]; rfl
        · rw [star_plain h3, star_plain h4]; rfl
      · cases h
    | lc vs T it t q =>
      dsimp only at h
      split at h
      · obtain ⟨h1, h8⟩ := band h
        obtain ⟨h1, h7⟩ := band h1
        obtain ⟨h1, h6⟩ := band h1
        obtain ⟨h1, h5⟩ := band h1
        obtain ⟨h1, h4⟩ := band h1
        obtain ⟨h1, h3⟩ := band h1
        obtain ⟨h1, h2⟩ := band h1
        obtain rfl := eq_of_beq h1
        exact pd_lc c.calm c.nd (S.i Z C X _ _ _ c h5 m) (c.blkOk h2) (own_map C vs) (slIn_ok h3) (fun s H A cl fp => (sndG n).g Z.quiet _ _ _ _ (c.blk h2 s H A cl fp) h6) (fun s H A cl fp => S.ts Z.quiet _ _ _ _ (c.blk h2 s H A cl fp) h7 m) (fun s H A cl fp => S.e Z.quiet _ _ _ _ (c.blk h2 s H A cl fp) h8 m) (plainF_ok h4)
      · cases h
    | lc2 vs vs1 T it T1 it1 t q =>
      dsimp only at h
      split at h
      · obtain ⟨h1, h14⟩ := band h
        obtain ⟨h1, h13⟩ := band h1
        obtain ⟨h1, h12⟩ := band h1
        obtain ⟨h1, h11⟩ := band h1
        obtain ⟨h1, h10⟩ := band h1
        obtain ⟨h1, h9⟩ := band h1
        obtain ⟨h1, h8⟩ := band h1
        obtain ⟨h1, h7⟩ := band h1
        obtain ⟨h1, h6⟩ := band h1
        obtain ⟨h1, h5⟩ := band h1
        obtain ⟨h1, h4⟩ := band h1
        obtain ⟨h1, h3⟩ := band h1
        obtain ⟨h1, h2⟩ := band h1
        obtain rfl := eq_of_beq h1
        obtain rfl := eq_of_beq h2
        exact pd_lc2 c.calm c.nd (S.i Z C X _ _ _ c h9 m) (c.blkOk h3) (own_map C vs) (slIn_ok h4) (slIn_ok h5) (slIn_ok h6) (fun s H A cl fp => (sndG n).g Z.quiet _ _ _ _ (c.blk h3 s H A cl fp) h10) (fun s H A cl fp => S.i Z.quiet _ _ _ _ _ (c.blk h3 s H A cl fp) h11 m) (fun s H A cl fp => (sndG n).g Z.quiet _ _ _ _ (c.blk h3 s H A cl fp) h12) (fun s H A cl fp => S.ts Z.quiet _ _ _ _ (c.blk h3 s H A cl fp) h13 m) (fun s H A cl fp => S.e Z.quiet _ _ _ _ (c.blk h3 s H A cl fp) h14 m) (plainF_ok h7) (fun env => plainF_ok h8)
      · cases h
    | lc3 vs vs1 vs2 T it T1 it1 T2 it2 t q =>
      dsimp only at h
      split at h
      · obtain ⟨h1, h20⟩ := band h
        obtain ⟨h1, h19⟩ := band h1
        obtain ⟨h1, h18⟩ := band h1
        obtain ⟨h1, h17⟩ := band h1
        obtain ⟨h1, h16⟩ := band h1
        obtain ⟨h1, h15⟩ := band h1
        obtain ⟨h1, h14⟩ := band h1
        obtain ⟨h1, h13⟩ := band h1
        obtain ⟨h1, h12⟩ := band h1
        obtain ⟨h1, h11⟩ := band h1
        obtain ⟨h1, h10⟩ := band h1
        obtain ⟨h1, h9⟩ := band h1
        obtain ⟨h1, h8⟩ := band h1
        obtain ⟨h1, h7⟩ := band h1
        obtain ⟨h1, h6⟩ := band h1
        obtain ⟨h1, h5⟩ := band h1
        obtain ⟨h1, h4⟩ := band h1
        obtain ⟨h1, h3⟩ := band h1
        obtain ⟨h1, h2⟩ := band h1
        obtain rfl := eq_of_beq h1
        obtain rfl := eq_of_beq h2
        obtain rfl := eq_of_beq h3
        exact pd_lc3 c.calm c.nd (S.i Z C X _ _ _ c h13 m) (c.blkOk h4) (own_map C vs) (slIn_ok h5) (slIn_ok h6) (slIn_ok h7) (slIn_ok h8) (slIn_ok h9) (fun s H A cl fp => (sndG n).g Z.quiet _ _ _ _ (c.blk h4 s H A cl fp) h14) (fun s H A cl fp => S.i Z.quiet _ _ _ _ _ (c.blk h4 s H A cl fp) h15 m) (fun s H A cl fp => (sndG n).g Z.quiet _ _ _ _ (c.blk h4 s H A cl fp) h16) (fun s H A cl fp => S.i Z.quiet _ _ _ _ _ (c.blk h4 s H A cl fp) h17 m) (fun s H A cl fp => (sndG n).g Z.quiet _ _ _ _ (c.blk h4 s H A cl fp) h18) (fun s H A cl fp => S.ts Z.quiet _ _ _ _ (c.blk h4 s H A cl fp) h19 m) (fun s H A cl fp => S.e Z.quiet _ _ _ _ (c.blk h4 s H A cl fp) h20 m) (plainF_ok h10) (fun env => plainF_ok h11) (fun env => plainF_ok h12)
      · cases h
theorem snd_l {n : Nat} (S : Snd cf n) (Z : Fix) (C : Ck) (X : Cx) (qs : List Q) (es : List Expr) (c : CtxOk X Z C cf) (h : ckL C (n + 1) qs es = true) : es.all plainE = true ∧ ∀ m, PVd X Z es (vals (ev cf m) qs) ∧ PAd X Z es (opds (ev cf m) qs) := by
  unfold ckL at h
  split at h
  · rename_i hh; cases hh
  · exact ⟨rfl, fun m => ⟨pvd_nil, pad_nil⟩⟩
  · rename_i n' q qs e es hn
    cases hn
    obtain ⟨h1, h3⟩ := band h
    obtain ⟨h1, h2⟩ := band h1
    obtain ⟨pl, r⟩ := S.l Z C X _ _ c h3
    exact ⟨by rw [List.all_cons, h1, pl]; rfl, pvad c h2 (S.e Z C X _ _ c h2) h1 r⟩
  · cases h
theorem snd_o {n : Nat} (S : Snd cf n) (Z : Fix) (C : Ck) (X : Cx) (q : Option Q) (o : Option Expr) (c : CtxOk X Z C cf) (h : ckO C (n + 1) q o = true) : ∀ m, POpt X Z o (part cf m q) := by
  intro m
  cases m with
  | zero => exact po_stuck
  | succ m =>
    unfold ckO at h
    split at h
    · rename_i hh; cases hh
    · exact pod_none
    · rename_i n' q e hn
      cases hn
      exact pod_some (S.e Z C X _ _ c h m)
    · cases h
theorem notBool {P : Prop} (h : plainT e = true) (op : BoolOp) (es : List Expr) (pos : Pos) : e = .BoolOp op es pos → P := by
  rintro rfl; cases h
theorem ptd_val' {f : Env' → Res SV} (pl : plainT e = true) (h : PEd X Z e f) : PTd X Z e (fun ρ => (f ρ).bind fun sv ρ1 => lift (tru sv.d) ρ1) ∧ ((∃ op es pos, e = .BoolOp op es pos) → PWd X Z e (fun ρ => (f ρ).bind fun sv ρ1 => lift (tru sv.d) ρ1)) :=
  ⟨ptd_val h (plainT_ok pl), fun ⟨_, _, _, e1⟩ => notBool pl _ _ _ e1⟩
theorem snd_t {n : Nat} (S : Snd cf n) (Z : Fix) (C : Ck) (X : Cx) (q : Q) (e : Expr) (c : CtxOk X Z C cf) (h : ckT C (n + 1) q e = true) : ∀ m, PTd X Z e (evT cf m q) ∧ ((∃ op es pos, e = .BoolOp op es pos) → PWd X Z e (evT cf m q)) := by
  intro m
  cases m with
  | zero => exact ⟨ptd_stuck, fun _ => pwd_stuck⟩
  | succ m =>
    unfold ckT at h
    cases q with
    | and a b =>
      dsimp only at h
      split at h
      · obtain ⟨h1, h2⟩ := band h
        split at h2
        · exact ⟨(pwd_and (S.t Z C X _ _ c h1 m).1 (pwd_and1 (S.t Z C X _ _ c h2 m).1)).pt, fun _ => pwd_and (S.t Z C X _ _ c h1 m).1 (pwd_and1 (S.t Z C X _ _ c h2 m).1)⟩
        · have w := pwd_and (S.t Z C X _ _ c h1 m).1 ((S.t Z C X _ _ c h2 m).2 ⟨_, _, _, rfl⟩)
          exact ⟨w.pt, fun _ => w⟩
      · cases h
    | or a b =>
      dsimp only at h
      split at h
      · obtain ⟨h1, h2⟩ := band h
        split at h2
        · exact ⟨(pwd_or (S.t Z C X _ _ c h1 m).1 (pwd_or1 (S.t Z C X _ _ c h2 m).1)).pt, fun _ => pwd_or (S.t Z C X _ _ c h1 m).1 (pwd_or1 (S.t Z C X _ _ c h2 m).1)⟩
        · have w := pwd_or (S.t Z C X _ _ c h1 m).1 ((S.t Z C X _ _ c h2 m).2 ⟨_, _, _, rfl⟩)
          exact ⟨w.pt, fun _ => w⟩
      · cases h
    | not a =>
      dsimp only at h
      split at h
      · exact ⟨ptd_not (S.t Z C X _ _ c h m).1, fun ⟨_, _, _, z⟩ => by cases z⟩
      · cases h
    | cmp o a b =>
      dsimp only at h
      split at h
      · obtain ⟨h1, h4⟩ := band h
        obtain ⟨h1, h3⟩ := band h1
        obtain ⟨h1, h2⟩ := band h1
        obtain rfl := eq_of_beq h1
        refine ⟨?_, fun ⟨_, _, _, z⟩ => by cases z⟩
        cases m with
        | zero => exact ptd_stuck
        | succ m =>
          refine (ptd_cmp c.room (pod_of c h3 (S.e Z C X _ _ c h3) m) (pod_of c h4 (S.e Z C X _ _ c h4) m) (bnot h2)).congr fun ρ => ?_
          show op2 (ev cf m) (cmpP o) a b ρ = Res.bind (α := SV) ((op2 (ev cf m) (cmpP o) a b ρ).bind fun c ρ1 => .ok (.dat (.bl c)) ρ1) fun sv ρ1 => lift (tru sv.d) ρ1
          cases op2 (ev cf m) (cmpP o) a b ρ <;> rfl
      · cases h
    | chain o o' a b d =>
      dsimp only at h
      split at h
      · obtain ⟨h1, h6⟩ := band h
        obtain ⟨h1, h5⟩ := band h1
        obtain ⟨h1, h4⟩ := band h1
        obtain ⟨h1, h3⟩ := band h1
        obtain ⟨h1, h2⟩ := band h1
        obtain rfl := eq_of_beq h1
        obtain rfl := eq_of_beq h2
        refine ⟨?_, fun ⟨_, _, _, z⟩ => by cases z⟩
        cases m with
        | zero => exact ptd_stuck
        | succ m => exact ptd_chain c.room (S.e Z C X _ _ c h4 m) (S.e Z C X _ _ c h5 m) (S.e Z C X _ _ c h6 m) (bnot h3)
      · cases h
    | _ =>
      dsimp only at h
      obtain ⟨h1, h2⟩ := band h
      exact ptd_val' h1 (S.e Z C X _ _ c h2 m)
theorem snd_ts {n : Nat} (S : Snd cf n) (Z : Fix) (C : Ck) (X : Cx) (q : Option Q) (es : List Expr) (c : CtxOk X Z C cf) (h : ckTs C (n + 1) q es = true) (m : Nat) : PTs X es (tD X Z RB (testO (evT cf m) q)) := by
  unfold ckTs at h
  split at h
  · rename_i hh; cases hh
  · exact ptsd_nil
  · rename_i n' q e hn
    cases hn
    exact pts_one (S.t Z C X _ _ c h m).1
  · cases h
theorem snd_i {n : Nat} (S : Snd cf n) (Z : Fix) (C : Ck) (X : Cx) (it : It) (tg e : Expr) (c : CtxOk X Z C cf) (h : ckI C (n + 1) it tg e = true) (m : Nat) : PId X Z tg e (evIt (ev cf m) it) := by
  unfold ckI at h
  cases it with
  | seq q => exact pid_seq (S.e Z C X _ _ c h m)
  | rng a =>
    dsimp only at h
    split at h
    · obtain ⟨h1, h4⟩ := band h
      obtain ⟨h1, h3⟩ := band h1
      obtain ⟨h1, h2⟩ := band h1
      obtain rfl := eq_of_beq h1
      obtain ⟨g1, g2⟩ := blt_ok c h2
      exact pid_rng g1 g2 (S.e Z C X _ _ c h4 m) (star_plain h3)
    · cases h
  | rng2 a b =>
    dsimp only at h
    split at h
    · obtain ⟨h1, h6⟩ := band h
      obtain ⟨h1, h5⟩ := band h1
      obtain ⟨h1, h4⟩ := band h1
      obtain ⟨h1, h3⟩ := band h1
      obtain ⟨h1, h2⟩ := band h1
      obtain rfl := eq_of_beq h1
      obtain ⟨g1, g2⟩ := blt_ok c h2
      exact pid_rng2 g1 g2 (S.e Z C X _ _ c h5 m) (S.e Z C X _ _ c h6 m) (star_plain h3) (star_plain h4)
    · cases h
  | enum a =>
    dsimp only at h
    split at h
    · obtain ⟨h1, h5⟩ := band h
      obtain ⟨h1, h4⟩ := band h1
      obtain ⟨h1, h3⟩ := band h1
      obtain ⟨h1, h2⟩ := band h1
      obtain rfl := eq_of_beq h1
      obtain ⟨g1, g2⟩ := blt_ok c h2
      cases tg <;> first | exact pid_enumA g1 g2 (S.e Z C X _ _ c h5 m) (star_plain h3) | cases h4
    · cases h
  | zip a b =>
    dsimp only at h
    split at h
    · obtain ⟨h1, h7⟩ := band h
      obtain ⟨h1, h6⟩ := band h1
      obtain ⟨h1, h5⟩ := band h1
      obtain ⟨h1, h4⟩ := band h1
      obtain ⟨h1, h3⟩ := band h1
      obtain ⟨h1, h2⟩ := band h1
      obtain rfl := eq_of_beq h1
      obtain ⟨g1, g2⟩ := blt_ok c h2
      cases tg <;> first | exact pid_zip g1 g2 (S.e Z C X _ _ c h6 m) (S.e Z C X _ _ c h7 m) (star_plain h3) (star_plain h4) | cases h5
    · cases h
  | zip3 a b d =>
    dsimp only at h
    split at h
    · obtain ⟨h1, h9⟩ := band h
      obtain ⟨h1, h8⟩ := band h1
      obtain ⟨h1, h7⟩ := band h1
      obtain ⟨h1, h6⟩ := band h1
      obtain ⟨h1, h5⟩ := band h1
      obtain ⟨h1, h4⟩ := band h1
      obtain ⟨h1, h3⟩ := band h1
      obtain ⟨h1, h2⟩ := band h1
      obtain rfl := eq_of_beq h1
      obtain ⟨g1, g2⟩ := blt_ok c h2
      cases tg <;> first | exact pid_zip3 g1 g2 (S.e Z C X _ _ c h7 m) (S.e Z C X _ _ c h8 m) (S.e Z C X _ _ c h9 m) h3 h4 h5 | cases h6
    · cases h
  | items a =>
    dsimp only at h
    split at h
    · obtain ⟨h1, h5⟩ := band h
      obtain ⟨h1, h4⟩ := band h1
      obtain ⟨h1, h3⟩ := band h1
      obtain ⟨h1, h2⟩ := band h1
      obtain rfl := eq_of_beq h1
      cases tg <;> first | exact pid_items (S.e Z C X _ _ c h5 m) (abOk_ok h3) h4 | cases h2
    · cases h
theorem snd_all : ∀ n, Snd cf n
  | 0 => snd_zero
  | n + 1 => ⟨snd_e (snd_all n), snd_l (snd_all n), snd_o (snd_all n), snd_t (snd_all n), snd_ts (snd_all n), snd_i (snd_all n)⟩
end
end DL

namespace DL
open PySem PySem.Spec PyProof.Rows L2
variable [TB]

/-- name = [..] -/
def lcSet (C : Ck) (x : Str) (px : Pos) : Expr → Bool
  | .ListComp _ gs scope pos => decide (gs.length < 3) && (C.nm.lookup x == some .local) && (px.line == pos.line) && !(scope.names.any fun (n, k) => n == x && (k == .local || k == .cell))
  | _ => false
def swapNone (nm : List (Str × NameKind)) (ts : List Expr) (e : Expr) : Bool := match e with
  | .Tuple vs _ _ => swapP nm ts vs == some none
  | _ => true
mutual
def ckS (C : Ck) : Nat → S → Stmt → Bool
  | 0, _, _ => false
  | n + 1, s, st => match s with
    | .set i q => (match st with
      | .Assign [.Name x px] e _ => C.loc x i && (plainC e || lcSet C x px e || C.nm.lookup x == some .cell) && ckE C n q e
      | _ => false)
    | .unp ts q => (match st with
      | .Assign [.Tuple es k p] e _ => ckG C n (.tup ts) (.Tuple es k p) && swapNone C.nm es e && ckE C n q e
      | _ => false)
    | .par i j a b => (match st with
      | .Assign [.Tuple [.Name x px, .Name y py] _ _] (.Tuple [c, d] _ _) _ => i != j && C.locS x i && C.locS y j && (swapP C.nm [.Name x px, .Name y py] [c, d] == some (some [x, y])) && plainE c && plainE d && ckE C n a c && ckE C n b d
      | _ => false)
    | .parO _ i j a b => (match st with
      | .Assign [.Tuple [.Name x px, .Name y py] _ _] (.Tuple [c, d] _ _) _ => i != j && C.loc x i && C.loc y j && ((C.locS x i && C.locS y j && swapP C.nm [.Name x px, .Name y py] [c, d] == some (some [x, y])) || swapP C.nm [.Name x px, .Name y py] [c, d] == some none) && plainE c && plainE d && ckE C n a c && ckE C n b d
      | _ => false)
    | .store i k v => (match st with
      | .Assign [.Subscript (.Name x _) y _] e _ => plainI y && C.vis x i && plainC e && ckE C n v e && ckE C n k y
      | _ => false)
    | .app i q => (match st with
      | .Expr (.Call (.Attribute (.Name x _) a apos) [e] [] p2) _ => a == ("append" : Str) && C.vis x i && plainE e && (apos.endLine == p2.line) && ckE C n q e
      | _ => false)
    | .expr q => (match st with
      | .Expr e _ => plainC e && ckE C n q e
      | _ => false)
    | .ifs c a b => (match st with
      | .If c' a' b' _ => ckT C n c c' && ckSs C n a a' && ckSs C n b b'
      | _ => false)
    | .for_ T it body => (match st with
      | .For tg iter body' [] _ => ckG C n T tg && ckI C n it tg iter && plainF iter && ckSs C n body body'
      | _ => false)
    | .whil _ c body => (match st with
      | .While c' body' [] _ => ckT C n c c' && ckSs C n body body'
      | _ => false)
    | .ret q => (match st with
      | .Return (some e) _ => ckE C n q e
      | _ => false)
    | .retv i => (match st with
      | .Return (some (.Name x _)) _ => C.vis x i
      | _ => false)
    | .retN => (match st with
      | .Return none _ => true
      | _ => false)
    | .raise k => (match st with
      | .Raise (some (.Call (.Name x _) [.Constant (.str _) _ _] [] _)) none _ => C.glob x && C.cl.lookup x == some k
      | _ => false)
    | .brk => (match st with
      | .Break _ => true
      | _ => false)
    | .cont => (match st with
      | .Continue _ => true
      | _ => false)
    | .pass => (match st with
      | .Pass _ => true
      | _ => false)
    | .never => true
def ckSs (C : Ck) : Nat → List S → List Stmt → Bool
  | 0, _, _ => false
  | _ + 1, [], [] => true
  | n + 1, s :: ss, st :: sts => ckS C n s st && ckSs C n ss sts
  | _, _, _ => false
end
section
variable {X : Cx} {Z : Fix} {cf : Cf} {e : Expr}
structure SndS (Z : Fix) (cf : Cf) (n : Nat) : Prop where
  s : ∀ (C : Ck) (X : Cx) s st, CtxOk X Z C cf → ckS C n s st = true → ∀ m, PSd X Z st (exS cf m s)
  ss : ∀ (C : Ck) (X : Cx) s st, CtxOk X Z C cf → ckSs C n s st = true → ∀ m, PSsd X Z st (exSs cf m s)
theorem psd_stuck {st : Stmt} : PSd X Z st (fun _ => .stuck) := psd_never
theorem pssd_stuck {st : List Stmt} : PSsd X Z st (fun _ => .stuck) := by
  refine PSs.weak pss_never ?_
  rintro D σ H ⟨F, ρ, ok, h⟩
  exact h
theorem few_ok {x : Expr} {p2 : Pos} {env : Env} (h : plainE x = true) : ((backTo p2 (starEach (x :: []) env)).all (fun x => !x.1) && (backToKw p2 (keywordEach [] env)).all (fun x => x.1.isSome)
      && decide ((x :: ([] : List Expr)).length + ([] : List Keyword).length + (if ([] : List Keyword).isEmpty then 0 else 1) < 30)) = true := by
  rw [star_plain h]; rfl
theorem assign_sub {o y : Expr} {p2 : Pos} {env : Env} {v : Value} (h : plainI y = true) : assign (.Subscript o y p2) env v = (do
      let ov ← holding [v] (eval o env)
      let iv ← holding [v, ov] (eval y env)
      standAt p2
      holding [v, ov, iv] (setItem ov iv v)
      release [v, ov, iv] []) := by
  cases y <;> first | rfl | cases h
theorem sw_cell {e : Expr} {x : Str} {p : Pos} {l : Nat} {env : Env} (h : env.kindOf x = some .cell) : swapsWith e (some (.Name x p)) l env = pure false := by
  have e0 : (env.kindOf x == some NameKind.local) = false := by rw [h]; rfl
  unfold swapsWith
  cases e <;> first | rfl | (simp only [e0, Bool.and_false, Bool.false_and])
theorem psd_setC {n i : Nat} {C : Ck} {q : Q} {x : Str} {px pos : Pos} (c : CtxOk X Z C cf) (g1 : X.N[i]? = some x) (h2 : lcSet C x px e = true) (h : ckE C n q e = true) (m : Nat) : PSd X Z (.Assign [.Name x px] e pos) (fun ρ => (ev cf m q ρ).sb fun sv ρ1 => setS i sv ρ1) := by
  cases n with
  | zero => cases h
  | succ n =>
    have S : Snd cf n := snd_all n
    unfold lcSet at h2
    split at h2
    · obtain ⟨a1, l2⟩ := band h2
      obtain ⟨a2, l1⟩ := band a1
      obtain ⟨l3, l0⟩ := band a2
      clear h2 a1 a2
      have g2 : X.env.scope.names.lookup x = some .local := by rw [c.nm]; simpa using l0
      cases m with
      | zero =>
        have : (fun ρ => (ev cf 0 q ρ).sb fun sv ρ1 => setS i sv ρ1) = fun _ => SRes.stuck := rfl
        rw [this]; exact psd_never
      | succ m =>
        have sw : ∀ {elt gs scope lpos}, (px.line == lpos.line) = true → (!(scope.names.any fun (n, k) => n == x && (k == .local || k == .cell))) = true → swapsWith (.ListComp elt gs scope lpos) (some (.Name x px)) pos.line X.env = pure true := fun h1 h2 => sw_true c.kind g2 h1 (bnot h2)
        unfold ckE at h
        cases q with
        | lc vs T it t q =>
          dsimp only at h
          split at h
          · rename_i heq
            cases heq
            obtain ⟨h1, h8⟩ := band h
            obtain ⟨h1, h7⟩ := band h1
            obtain ⟨h1, h6⟩ := band h1
            obtain ⟨h1, h5⟩ := band h1
            obtain ⟨h1, h4⟩ := band h1
            obtain ⟨h1, h3⟩ := band h1
            obtain ⟨h1, h2⟩ := band h1
            obtain rfl := eq_of_beq h1
            exact psd_lc c.calm c.nd g1 g2 (sw l1 l2) (S.i Z C X _ _ _ c h5 m) (c.blkOk h2) (own_map C vs) (slIn_ok h3) (fun s H A cl fp => (sndG n).g Z.quiet _ _ _ _ (c.blk h2 s H A cl fp) h6) (fun s H A cl fp => S.ts Z.quiet _ _ _ _ (c.blk h2 s H A cl fp) h7 m) (fun s H A cl fp => S.e Z.quiet _ _ _ _ (c.blk h2 s H A cl fp) h8 m) (plainF_ok h4)
          · cases h
        | lc2 vs vs1 T it T1 it1 t q =>
          dsimp only at h
          split at h
          · rename_i heq
            cases heq
            obtain ⟨h1, h14⟩ := band h
            obtain ⟨h1, h13⟩ := band h1
            obtain ⟨h1, h12⟩ := band h1
            obtain ⟨h1, h11⟩ := band h1
            obtain ⟨h1, h10⟩ := band h1
            obtain ⟨h1, h9⟩ := band h1
            obtain ⟨h1, h8⟩ := band h1
            obtain ⟨h1, h7⟩ := band h1
            obtain ⟨h1, h6⟩ := band h1
            obtain ⟨h1, h5⟩ := band h1
            obtain ⟨h1, h4⟩ := band h1
            obtain ⟨h1, h3⟩ := band h1
            obtain ⟨h1, h2⟩ := band h1
            obtain rfl := eq_of_beq h1
            obtain rfl := eq_of_beq h2
            exact psd_lc2 c.calm c.nd g1 g2 (sw l1 l2) (S.i Z C X _ _ _ c h9 m) (c.blkOk h3) (own_map C vs) (slIn_ok h4) (slIn_ok h5) (slIn_ok h6) (fun s H A cl fp => (sndG n).g Z.quiet _ _ _ _ (c.blk h3 s H A cl fp) h10) (fun s H A cl fp => S.i Z.quiet _ _ _ _ _ (c.blk h3 s H A cl fp) h11 m) (fun s H A cl fp => (sndG n).g Z.quiet _ _ _ _ (c.blk h3 s H A cl fp) h12) (fun s H A cl fp => S.ts Z.quiet _ _ _ _ (c.blk h3 s H A cl fp) h13 m) (fun s H A cl fp => S.e Z.quiet _ _ _ _ (c.blk h3 s H A cl fp) h14 m) (plainF_ok h7) (fun env => plainF_ok h8)
          · cases h
        | cst d => dsimp only at h; cases d <;> cases h
        | lc3 a0 a1 a2 a3 a4 a5 a6 a7 a8 a9 a10 =>
          dsimp only at h
          split at h
          · rename_i heq
            cases heq
            simp at l3
          · cases h
        | _ => dsimp only at h; cases h
    · cases h2
theorem snd_s {n : Nat} (S : SndS Z cf n) (C : Ck) (X : Cx) (s : DL.S) (st : Stmt) (c : CtxOk X Z C cf) (h : ckS C (n + 1) s st = true) : ∀ m, PSd X Z st (exS cf m s) := by
  intro m
  have E : Snd cf n := snd_all n
  have G : SndG cf n := sndG n
  have hu1 : X.A.units + 1 < cLine := by have := c.room; omega
  cases m with
  | zero => exact psd_stuck
  | succ m =>
    unfold ckS at h
    cases s with
    | set i q =>
      dsimp only at h
      split at h
      · obtain ⟨h1, h3⟩ := band h
        obtain ⟨h1, h2⟩ := band h1
        obtain ⟨g1, g2, g3⟩ := c.hloc h1
        rcases Bool.or_eq_true_iff.mp h2 with h2 | h2
        · rcases Bool.or_eq_true_iff.mp h2 with h2 | h2
          · exact psd_set c.nd g1 g2 g3 (E.e Z C X _ _ c h3 m) (plainC_ok h2)
          · exact psd_setC c g1 h2 h3 m
        · exact psd_set c.nd g1 g2 g3 (E.e Z C X _ _ c h3 m) (sw_cell (by unfold Env.kindOf; rw [c.nm]; simpa using h2))
      · cases h
    | unp ts q =>
      dsimp only at h
      split at h
      · obtain ⟨h1, h4⟩ := band h
        obtain ⟨h1, h3⟩ := band h1
        refine psd_unp (E.e Z C X _ _ c h4 m) (G.g Z C X _ _ c h1) tup_sole ?_ rfl
        unfold swapNone at h3
        split at h3
        · exact swapP_ok c.nm c.kind (by simpa using h3)
        · rename_i hx
          exact swap_value fun vs k2 p2 z => hx vs k2 p2 z
      · cases h
    | par i j a b =>
      dsimp only at h
      split at h
      · obtain ⟨h1, h8⟩ := band h
        obtain ⟨h1, h7⟩ := band h1
        obtain ⟨h1, h6⟩ := band h1
        obtain ⟨h1, h5⟩ := band h1
        obtain ⟨h1, h4⟩ := band h1
        obtain ⟨h1, h3⟩ := band h1
        obtain ⟨h1, h2⟩ := band h1
        obtain ⟨g1, g2⟩ := c.hlocS h2
        obtain ⟨g3, g4⟩ := c.hlocS h3
        exact psd_par c.calm c.nd g1 g3 (by simpa using h1) g2 g4 (E.e Z C X _ _ c h7 m) (E.e Z C X _ _ c h8 m) (star_plain h5) (star_plain h6) (swapP_ok c.nm c.kind (by simpa using h4)) rfl
      · cases h
    | parO ka i j a b =>
      dsimp only at h
      split at h
      · obtain ⟨h1, h8⟩ := band h
        obtain ⟨h1, h7⟩ := band h1
        obtain ⟨h1, h6⟩ := band h1
        obtain ⟨h1, h5⟩ := band h1
        obtain ⟨h1, h4⟩ := band h1
        obtain ⟨h1, h3⟩ := band h1
        obtain ⟨h1, h2⟩ := band h1
        obtain ⟨g1, g2, g3⟩ := c.hloc h2
        obtain ⟨g4, g5, g6⟩ := c.hloc h3
        rcases Bool.or_eq_true_iff.mp h4 with h4 | h4
        · obtain ⟨h4, k3⟩ := band h4
          obtain ⟨k1, k2⟩ := band h4
          obtain ⟨_, j2⟩ := c.hlocS k1
          obtain ⟨_, j4⟩ := c.hlocS k2
          exact psd_parO c.calm c.nd g1 g4 (by simpa using h1) j2 j4 (E.e Z C X _ _ c h7 m) (E.e Z C X _ _ c h8 m) (star_plain h5) (star_plain h6) (swapP_ok c.nm c.kind (by simpa using k3)) rfl
        · exact psd_parP c.calm c.nd g1 g4 (by simpa using h1) g2 g5 g3 g6 (E.e Z C X _ _ c h7 m) (E.e Z C X _ _ c h8 m) (star_plain h5) (star_plain h6) (swapP_ok c.nm c.kind (by simpa using h4)) rfl
      · cases h
    | store i k v =>
      dsimp only at h
      split at h
      · obtain ⟨h1, h4⟩ := band h
        obtain ⟨h1, h3⟩ := band h1
        obtain ⟨h1, h2⟩ := band h1
        obtain ⟨h0, h1⟩ := band h1
        obtain ⟨g1, g2, g3, g4⟩ := c.hvis h1
        refine psd_store hu1 g1 g2 g3 g4 (E.e Z C X _ _ c h3 m) (E.e Z C X _ _ c h4 m) (plainC_sole h2) rfl (fun _ => ?_) rfl
        exact assign_sub h0
      · cases h
    | app i q =>
      dsimp only at h
      split at h
      · obtain ⟨h1, h5⟩ := band h
        obtain ⟨h1, h4⟩ := band h1
        obtain ⟨h1, h3⟩ := band h1
        obtain ⟨h1, h2⟩ := band h1
        obtain rfl := eq_of_beq h1
        obtain ⟨g1, g2, g3, g4⟩ := c.hvis h2
        exact psd_app g1 g2 g3 g4 (E.e Z C X _ _ c h5 m) rfl (few_ok h3) h4 (star_plain h3) rfl
      · cases h
    | expr q =>
      dsimp only at h
      split at h
      · obtain ⟨h1, h2⟩ := band h
        exact psd_expr (E.e Z C X _ _ c h2 m) (plainC_ok h1)
      · cases h
    | ifs t a b =>
      dsimp only at h
      split at h
      · obtain ⟨h1, h3⟩ := band h
        obtain ⟨h1, h2⟩ := band h1
        exact psd_if (E.t Z C X _ _ c h1 m).1 (S.ss C X _ _ c h2 m) (S.ss C X _ _ c h3 m)
      · cases h
    | for_ T it body =>
      dsimp only at h
      split at h
      · obtain ⟨h1, h4⟩ := band h
        obtain ⟨h1, h3⟩ := band h1
        obtain ⟨h1, h2⟩ := band h1
        exact psd_for c.po c.calm (E.i Z C X _ _ _ c h2 m) (G.g Z C X _ _ c h1) (S.ss C X _ _ c h4 m) (plainF_ok h3)
      · cases h
    | whil k t body =>
      dsimp only at h
      split at h
      · obtain ⟨h1, h2⟩ := band h
        exact psd_while c.po (E.t Z C X _ _ c h1 m).1 (S.ss C X _ _ c h2 m)
      · cases h
    | ret q =>
      dsimp only at h
      split at h
      · exact psd_ret (E.e Z C X _ _ c h m)
      · cases h
    | retv i =>
      dsimp only at h
      split at h
      · obtain ⟨g1, g2, g3, g4⟩ := c.hvis h
        exact psd_retv g1 g2 g3 g4
      · cases h
    | retN =>
      dsimp only at h
      split at h
      · exact psd_retN
      · cases h
    | raise k =>
      dsimp only at h
      split at h
      · obtain ⟨h1, h2⟩ := band h
        obtain ⟨hd, D, g1, g2, g3⟩ := c.cl _ _ (eq_of_beq h2)
        exact psd_raise c.calm c.tk g2 g1 (c.hgl h1) hd g3
      · cases h
    | brk =>
      dsimp only at h
      split at h
      · exact psd_brk
      · cases h
    | cont =>
      dsimp only at h
      split at h
      · exact psd_cont
      · cases h
    | pass =>
      dsimp only at h
      split at h
      · exact psd_pass
      · cases h
    | never => exact psd_never
theorem snd_ss {n : Nat} (S : SndS Z cf n) (C : Ck) (X : Cx) (s : List DL.S) (st : List Stmt) (c : CtxOk X Z C cf) (h : ckSs C (n + 1) s st = true) : ∀ m, PSsd X Z st (exSs cf m s) := by
  intro m
  unfold ckSs at h
  split at h
  · rename_i hh; cases hh
  · cases m with
    | zero => exact pssd_stuck
    | succ m => exact pssd_nil
  · rename_i n' s ss st sts hn
    cases hn
    obtain ⟨h1, h2⟩ := band h
    cases m with
    | zero => exact pssd_stuck
    | succ m => exact pssd_cons (S.s C X _ _ c h1 m) (S.ss C X _ _ c h2 m)
  · cases h
theorem sndS : ∀ n, SndS Z cf n
  | 0 => ⟨fun _ _ _ _ _ h => (by cases h), fun _ _ _ _ _ h => (by cases h)⟩
  | n + 1 => ⟨snd_s (sndS n), snd_ss (sndS n)⟩
end
end DL

namespace DL
open PySem PySem.Spec PyProof.Rows L2

/-! ### a law as data -/
structure DefI where
  id : Nat
  x : Str
  st : Stmt
  N : List Str
  ps : List Str
  fd : Fd
inductive Cst where
  | int (i : Int) | tup (vs : List He.Dv)
def dvD : He.Dv → D
  | .bl b => .bl b
  | .int i => .int i
  | .str x => .str x
  | _ => .non
def dvOk : He.Dv → Bool
  | .non => true
  | .bl _ => true
  | .int _ => true
  | .str _ => true
  | _ => false
def Cst.d : Cst → D
  | .int i => .int i
  | .tup vs => .ktup (vs.map dvD)
structure CstI where
  id : Nat
  x : Str
  c : Cst
structure LawI where
  ds : List DefI
  cs : List CstI
  bl : List Str
  cl : List (Str × Nat)
  lm : List Str
  sp : Option (Stmt × Stmt)
def mkD (x : Str) (st : Stmt) : He.DefD := ⟨(x, none), x, x, defArgs st, defBody st, defScope st, [], []⟩
def LawI.spD (L : LawI) : List He.DefD := match L.sp with
  | none => []
  | some (a, b) => [mkD "_law_name_of" a, mkD "_law_try" b]
def LawI.fn (L : LawI) : List He.DefD := L.ds.map (fun d => mkD d.x d.st) ++ L.spD
def cstFa (c : CstI) : He.Fa := match c.c with
  | .int i => .int c.x i
  | .tup _ => .glo c.x
def LawI.trF (L : LawI) : List He.Fa := match L.sp with
  | none => []
  | some _ => [.glo "_law_name_of", .glo "_law_try", .glo "CardError", .free "zip", .free "isinstance", .free "ValueError"] ++ HN.cls11.map He.Fa.glo
def LawI.clF (L : LawI) : List He.Fa := L.cl.map (fun c => He.Fa.glo c.1) ++ L.cl.map (fun c => He.Fa.exc c.1)
def LawI.fa (L : LawI) : List He.Fa := (L.ds.map fun d => He.Fa.glo d.x) ++ (L.cs.map cstFa ++ (L.bl.map He.Fa.free ++ (L.clF ++ L.trF)))
def noLst (o : Obj) : Bool := match o.cls with
  | .type c => !(decide (c = "list"))
  | _ => true
def cstEx (K : PySem.W.Frag) (c : CstI) : Bool := match c.c with
  | .int _ => true
  | .tup vs => He.tupB K c.x vs && vs.all dvOk
def caK (K : PySem.W.Frag) : List Addr := HN.cls11.map (He.ga K)
def ceK (K : PySem.W.Frag) : Addr := He.ga K "CardError"
/-- a class that is raised -/
def clsB (K : PySem.W.Frag) (c : Str × Nat) : Bool :=
  (decide (PySem.W.findIn K (.ref (He.ga K c.1)) "__getattribute__" = some (some (.builtin "BaseException.__getattribute__"))) && (decide (PySem.W.findIn K (.ref (He.ga K c.1)) "__getattr__" = some none) &&
  (decide (PySem.W.subIn K (.ref (He.ga K c.1)) (.type "BaseException") = some true) && (PySem.W.hasDictIn K (He.ga K c.1) && (decide (PySem.W.findIn K (.ref (He.ga K c.1)) "__class__" = some (some (.builtin "object.__class__"))) &&
  (decide (PySem.W.specialIn K (.builtin "object.__class__") "__get__" = some (some (.builtin "getset_descriptor.__get__"))) && (decide (PySem.W.takesIn K (.builtin "object.__class__") = some true) && decide (PySem.W.mroIn K (He.ga K c.1) (.type "object") = some true)))))))) &&
  ((List.range 11).all (fun j => decide (PySem.W.kitOne K (.ref (He.ga K c.1)) (.ref ((caK K).getD j 0)) = some (decide (j = c.2)))) && (decide (PySem.W.kitOne K (.ref (He.ga K c.1)) (.type "ValueError") = some true) &&
  (decide (PySem.W.exmOne K (.ref (He.ga K c.1)) (.ref (ceK K)) = some true) && decide (c.2 < 11))))
def LawI.tf (L : LawI) : List He.Defn := L.lm.map fun x => (x, none)
def LawI.T (L : LawI) (K : PySem.W.Frag) : List (Addr × Str) := L.lm.map fun x => ((He.cT K (x, none)).2, (x ++ ".<locals>.") ++ "<lambda>")
def LawI.ex (L : LawI) (K : PySem.W.Frag) : Bool := (K.all fun p => noLst p.2) && (L.cs.all (cstEx K) && ((!L.sp.isSome || L.cl.all (clsB K)) && (decide ((L.lm.map fun x => (He.cT K (x, none)).2).Nodup) && (L.lm.isEmpty || L.sp.isSome))))
def LawI.ck (L : LawI) (d : DefI) : Ck := ⟨d.N, (defScope d.st).names, L.ds.map fun d => (d.x, d.id), L.cs.map fun c => (c.x, c.id), L.bl, ((defScope d.st).names.filter fun p => (defScope d.st).names.lookup p.1 == some .cell).map (·.1), L.cl, L.lm.contains d.x⟩
/-- where a def stands -/
def LawI.at (L : LawI) (K : PySem.W.Frag) (j : Nat) : Option Addr := (L.ds.find? fun d => d.id == j).map fun d => He.fAd K (d.x, none)
structure DefOk (G : Nat → Option Fd) (L : LawI) (m : Nat) (d : DefI) : Prop where
  gl : G d.id = some d.fd
  sc : FnScope d.N d.ps (defScope d.st)
  np : d.fd.np = d.ps.length
  nl : d.fd.nl = d.N.length
  bd : ∀ (kV doc pm : Value) (an : Option Addr) (cdv ct : Value) (us : List Value), us.length = d.ps.length → bindArgs (PySem.W.fnOf d.x d.x (defArgs d.st) (defBody d.st) (defScope d.st) .none kV doc pm an cdv ct) ⟨us, []⟩ = pure (d.ps.zip us)
  ck : ckSs (L.ck d) m d.fd.body (defBody d.st) = true
structure SpOk (a b : Stmt) : Prop where
  sc1 : FnScope HN.NM ["_law_e"] (defScope a)
  nb : HN.nameB (defScope a) (defBody a) = true
  ns : HN.namesB (defScope a) = true
  bd1 : ∀ (kV doc pm : Value) (an : Option Addr) (cdv ct : Value) (us : List Value), us.length = 1 → bindArgs (PySem.W.fnOf "_law_name_of" "_law_name_of" (defArgs a) (defBody a) (defScope a) .none kV doc pm an cdv ct) ⟨us, []⟩ = pure ((["_law_e"] : List Str).zip us)
  sc2 : FnScope HN.TM ["_law_door"] (defScope b)
  bd2 : ∀ (kV doc pm : Value) (an : Option Addr) (cdv ct : Value) (us : List Value), us.length = 1 → bindArgs (PySem.W.fnOf "_law_try" "_law_try" (defArgs b) (defBody b) (defScope b) .none kV doc pm an cdv ct) ⟨us, []⟩ = pure ((["_law_door"] : List Str).zip us)
  tb : HN.tryB (defBody b) = true
  tn : HN.tryNB (defScope b) = true
structure LawOk (G : Nat → Option Fd) (gv : Nat → Option D) (L : LawI) (m : Nat) : Prop where
  defs : ∀ d ∈ L.ds, DefOk G L m d
  ids : (L.ds.map (·.id)).Nodup
  cst : ∀ c ∈ L.cs, gv c.id = some c.c.d
  dbg : ((L.ds.map (·.x) ++ (L.cs.map (·.x) ++ L.cl.map (·.1))).all fun x => !(x == ("__debug__" : Str))) = true
  sp : ∀ a b, L.sp = some (a, b) → SpOk a b
/-- what an exception is -/
def LawI.EX (L : LawI) (K : PySem.W.Frag) : ExR := fun x cls d _ => ∃ D, cls = .ref D ∧ d = none ∧ (L.sp.isSome = true → HN.ClsK K (caK K) (ceK K) x.cls D)
/-- the promise of the j-th def -/
abbrev LawI.pr [TB] (G : Nat → Option Fd) (gv : Nat → Option D) (L : LawI) (K : PySem.W.Frag) (n k j : Nat) : Sp := spF K (L.at K) (L.EX K) (semK G gv n k j)

theorem lk_mem {a : Addr} {o : Obj} : ∀ {K : PySem.W.Frag}, K.lookup a = some o → (a, o) ∈ K
  | [], h => by cases h
  | (b, u) :: K, h => by
    rw [List.lookup_cons] at h
    split at h
    · rename_i e
      obtain rfl : a = b := by simpa using e
      cases h
      exact List.mem_cons_self
    · exact List.mem_cons_of_mem _ (lk_mem h)
theorem ids_find : ∀ {ds : List DefI} {d : DefI}, (ds.map (·.id)).Nodup → d ∈ ds → ds.find? (fun e => e.id == d.id) = some d
  | e :: ds, d, nd, h => by
    rw [List.map_cons, List.nodup_cons] at nd
    rw [List.find?_cons]
    rcases List.mem_cons.mp h with rfl | h
    · rw [beq_self_eq_true]
    · have ne : (e.id == d.id) = false := by
        refine beq_eq_false_iff_ne.mpr fun z => nd.1 ?_
        rw [z]; exact List.mem_map_of_mem h
      rw [ne]
      exact ids_find nd.2 h
section
variable {P : Program} {w : World} {K : PySem.W.Frag} {mg : Str → Option Value} {base h : Heap} {L : LawI} {m n : Nat} {Gd : Nat → Option Fd} {gv : Nat → Option D}
theorem stuck_ok [TB] {CX : CXT} {f : Addr} {fd : FuncData} {ps : List Str} {fa : Nat → Option Addr} {EX : ExR} : FnOk P w K mg base CX 0 f fd ps (spF K fa EX fun _ => .stuck) :=
  ⟨fun vs H Q E ⟨_, _, _, _, _, z⟩ => z.elim, fun A outer s H args us vs Q E _ _ _ _ ⟨_, _, _, _, _, z⟩ => z.elim⟩
theorem relAll_rep [TB] {H : Hp} {F : AP'} {fa : Nat → Option Addr} : ∀ {vs : List He.Dv}, vs.all dvOk = true → RepL K fa H F (vs.map (He.Dv.v K)) (vs.map dvD)
  | [], _ => .nil
  | v :: vs, h => by
    rw [List.all_cons, Bool.and_eq_true] at h
    refine .cons ?_ (relAll_rep h.2)
    cases v <;> first | exact .non | exact .bl _ | exact .int _ | exact .str _ | exact absurd h.1 Bool.false_ne_true
theorem gd_ok [TB] (X : K.In h) (G : h.Ns mainGlobals mg) (c : He.SaysD L.fa L.fn K) (ex : L.ex K = true) {cc : CstI} (hm : cc ∈ L.cs) :
    ∃ u v, mg cc.x = some u ∧ RelV v u ∧ ∀ fa H F, Rep K fa H F v cc.c.d := by
  have hf : cstFa cc ∈ L.fa := List.mem_append_right _ (List.mem_append_left _ (List.mem_map_of_mem (f := cstFa) hm))
  have c1 := c.facts hf
  obtain ⟨id, x, cst⟩ := cc
  cases cst with
  | int i =>
    obtain ⟨t, e⟩ := He.int_ok X G (x := x) (i := i) c1
    exact ⟨_, .int i, e, ⟨t, rfl⟩, fun _ _ _ => .int i⟩
  | tup vs =>
    have e := He.glo_ok X G (x := x) c1
    have ex2 := List.all_eq_true.mp (Bool.and_eq_true_iff.mp (Bool.and_eq_true_iff.mp ex).2).1 _ hm
    obtain ⟨t1, t2⟩ := Bool.and_eq_true_iff.mp (show (He.tupB K x vs && vs.all dvOk) = true from ex2)
    refine ⟨_, .ref (He.ga K x), e, rfl, fun fa H F => ?_⟩
    rcases He.tupB_ok t1 (fun _ => none) with q | ⟨o, its, k, q1, q2, q3, q4, q5⟩
    · rcases q with q | ⟨_, q⟩ <;> cases q
    · exact .ktup ⟨o, its, k, q1, q2, q3, q4, q5⟩ (relAll_rep t2)
theorem cls_ok {x : Str} {i : Nat} (h : clsB K (x, i) = true) : HN.ClsK K (caK K) (ceK K) i (He.ga K x) := by
  unfold clsB at h
  obtain ⟨h1, h2⟩ := He.ba h
  obtain ⟨a1, h1⟩ := He.ba h1
  obtain ⟨a2, h1⟩ := He.ba h1
  obtain ⟨a3, h1⟩ := He.ba h1
  obtain ⟨a4, h1⟩ := He.ba h1
  obtain ⟨a5, h1⟩ := He.ba h1
  obtain ⟨a6, h1⟩ := He.ba h1
  obtain ⟨a7, a8⟩ := He.ba h1
  obtain ⟨b1, h2⟩ := He.ba h2
  obtain ⟨b2, h2⟩ := He.ba h2
  obtain ⟨b3, b4⟩ := He.ba h2
  refine ⟨⟨of_decide_eq_true a1, of_decide_eq_true a2, of_decide_eq_true a3, a4, of_decide_eq_true a5, of_decide_eq_true a6, of_decide_eq_true a7, of_decide_eq_true a8⟩, fun j c hc => ?_, of_decide_eq_true b2, of_decide_eq_true b3, of_decide_eq_true b4⟩
  have hj : j < 11 := by
    have := (List.getElem?_eq_some_iff.mp hc).1
    have l : (caK K).length = 11 := rfl
    omega
  have := of_decide_eq_true (List.all_eq_true.mp b1 j (List.mem_range.mpr hj))
  rw [List.getD_eq_getElem?_getD, hc] at this
  exact this
theorem spD_mem {a b : Stmt} (e : L.sp = some (a, b)) : mkD "_law_name_of" a ∈ L.fn ∧ mkD "_law_try" b ∈ L.fn := by
  have : L.spD = [mkD "_law_name_of" a, mkD "_law_try" b] := by unfold LawI.spD; rw [e]
  unfold LawI.fn
  rw [this]
  exact ⟨List.mem_append_right _ List.mem_cons_self, List.mem_append_right _ (List.mem_cons_of_mem _ List.mem_cons_self)⟩
theorem try_ok (LO : LawOk Gd gv L m) (X : K.In h) (G : h.Ns mainGlobals mg) (c : He.SaysD L.fa L.fn K) {a b : Stmt} (e : L.sp = some (a, b)) : HN.TryK K mg (caK K) (ceK K) := by
  have S := LO.sp a b e
  obtain ⟨m1, m2⟩ := spD_mem e
  obtain ⟨fdn, Fn⟩ := c.defs m1
  obtain ⟨fdg, Fg⟩ := c.defs m2
  have hs : ∀ f ∈ ([.glo "_law_name_of", .glo "_law_try", .glo "CardError", .free "zip", .free "isinstance", .free "ValueError"] ++ HN.cls11.map He.Fa.glo : List He.Fa), f ∈ L.fa := fun f hf => by
    have : L.trF = [.glo "_law_name_of", .glo "_law_try", .glo "CardError", .free "zip", .free "isinstance", .free "ValueError"] ++ HN.cls11.map He.Fa.glo := by unfold LawI.trF; rw [e]
    unfold LawI.fa
    rw [this]
    exact List.mem_append_right _ (List.mem_append_right _ (List.mem_append_right _ (List.mem_append_right _ hf)))
  have gl : ∀ x, He.Fa.glo x ∈ ([.glo "_law_name_of", .glo "_law_try", .glo "CardError", .free "zip", .free "isinstance", .free "ValueError"] ++ HN.cls11.map He.Fa.glo : List He.Fa) → mg x = some (.ref (He.ga K x)) := fun x hx => He.glo_ok X G (c.facts (hs _ hx))
  have fr : ∀ x, He.Fa.free x ∈ ([.glo "_law_name_of", .glo "_law_try", .glo "CardError", .free "zip", .free "isinstance", .free "ValueError"] ++ HN.cls11.map He.Fa.glo : List He.Fa) → mg x = none := fun x hx => He.free_ok X G (c.facts (hs _ hx))
  refine ⟨_, _, fdn, fdg, _, _, _, _, _, _, ⟨Fn, S.sc1, S.nb, S.ns, Fn.bindsN S.bd1, rfl, fun j x cc h1 h2 => ?_, fr _ (by simp), fr _ (by simp), fr _ (by simp)⟩, gl _ (by simp), gl _ (by simp), gl _ (by simp), Fg, S.sc2, Fg.bindsN S.bd2, S.tb, S.tn⟩
  have e2 : cc = He.ga K x := by
    unfold caK at h2
    rw [List.getElem?_map, h1] at h2
    exact (Option.some.inj h2).symm
  rw [e2]
  exact gl _ (List.mem_append_right _ (List.mem_map_of_mem (f := He.Fa.glo) (List.mem_of_getElem? h1)))
theorem lm_uniq {f : Str → Addr} {g : Str → Str} : ∀ {lm : List Str} {x : Str}, (lm.map f).Nodup → x ∈ lm → ∀ p ∈ lm.map (fun y => (f y, g y)), p.1 = f x → p.2 = g x
  | y :: lm, x, nd, hx, p, hp, e => by
    rw [List.map_cons, List.nodup_cons] at nd
    rw [List.map_cons] at hp
    rcases List.mem_cons.mp hx with rfl | hx
    · rcases List.mem_cons.mp hp with rfl | hp
      · rfl
      · obtain ⟨z, hz, rfl⟩ := List.mem_map.mp hp
        exact absurd (List.mem_map.mpr ⟨z, hz, e⟩) nd.1
    · rcases List.mem_cons.mp hp with rfl | hp
      · exact absurd (List.mem_map.mpr ⟨x, hx, e.symm⟩) nd.1
      · exact lm_uniq (lm := lm) nd.2 hx p hp e
theorem fns_ok [TB] (hT : TB.T = L.T K) (LO : LawOk Gd gv L m) (X : K.In h) (G : h.Ns mainGlobals mg) (c : He.SaysD L.fa L.fn K) (ex : L.ex K = true) (hB : ∀ p ∈ L.tf, LamX.TabB base mg (He.cT K p).1 (He.cT K p).2) : ∀ (k : Nat) (d : DefI) (fd : FuncData), d ∈ L.ds → FunD K d.x d.x (defArgs d.st) (defBody d.st) (defScope d.st) [] [] (He.fAd K (d.x, none)) fd →
    FnOk P w K mg base (L2N.CX P w) (3 * k) (He.fAd K (d.x, none)) fd d.ps (L.pr Gd gv K n k d.id) := by
  obtain ⟨_, ex1⟩ := He.ba ex
  obtain ⟨_, ex1⟩ := He.ba ex1
  obtain ⟨exc, ex1⟩ := He.ba ex1
  obtain ⟨exn, exs⟩ := He.ba ex1
  intro k
  induction k with
  | zero => intro d fd hj F; exact stuck_ok
  | succ k ih =>
    intro d fd hj F
    have D := LO.defs d hj
    have all : ∀ d' ∈ L.ds, ∃ fd', FnOk P w K mg base (L2N.CX P w) (3 * k) (He.fAd K (d'.x, none)) fd' d'.ps (L.pr Gd gv K n k d'.id) ∧ mg d'.x = some (.ref (He.fAd K (d'.x, none))) ∧ PySem.W.keepIn K (.ref (He.fAd K (d'.x, none))) = true ∧ Binds K fd' d'.ps [] ∧ L.at K d'.id = some (He.fAd K (d'.x, none)) := fun d' dm => by
      obtain ⟨fd', F'⟩ := c.defs (d := mkD d'.x d'.st) (List.mem_append_left _ (List.mem_map_of_mem (f := fun d : DefI => mkD d.x d.st) dm))
      have g := He.glo_ok X G (x := d'.x) (c.facts (f := .glo d'.x) (List.mem_append_left _ (List.mem_map_of_mem (f := fun d : DefI => He.Fa.glo d.x) dm)))
      refine ⟨fd', ih d' fd' dm F', g, F'.kp, F'.bindsN (LO.defs d' dm).bd, ?_⟩
      unfold LawI.at
      rw [ids_find LO.ids dm]
      rfl
    have dbg : ∀ x ∈ L.ds.map (·.x) ++ (L.cs.map (·.x) ++ L.cl.map (·.1)), (x == ("__debug__" : Str)) = false := fun x hx => by
      have := List.all_eq_true.mp LO.dbg x hx
      simpa using this
    refine fn_ok (r := 3 * k + 2) F D.sc D.gl D.np D.nl fun cdv hlk hcd A outer s H E hr => ?_
    refine (sndS m).ss (L.ck d) _ _ _ ?_ D.ck n
    refine ⟨rfl, D.sc.nd, rfl, D.sc.kind, rfl, L2N.takes_of rfl rfl rfl rfl, passes_of rfl, ?_, ⟨3 * k, ⟨fun x j' hx => ?_, fun j' f hf => ?_⟩, ?_⟩, fun x j' hx => ?_, fun x hx => ?_, fun _ _ => rfl, fun x j' hx => ?_, fun hlm => ?_⟩
    · have := hr.un
      show (A.deeper (envOfC d.x (defScope d.st) s.heap.objs.size (He.fAd K (d.x, none)) cdv)).units + 65 < cLine
      omega
    · obtain ⟨d', dm, e⟩ := List.mem_map.mp (PySem.mem_of_lookup hx)
      cases e
      obtain ⟨fd', a1, a2, a3, a4, a5⟩ := all d' dm
      exact ⟨dbg d'.x (List.mem_append_left _ (List.mem_map_of_mem dm)), _, fd', d'.ps, a1, a2, a3, a4, a5⟩
    · have hf : L.at K j' = some f := hf
      unfold LawI.at at hf
      obtain ⟨d', e1, e2⟩ := Option.map_eq_some_iff.mp hf
      have dm := List.mem_of_find?_eq_some e1
      have ej : d'.id = j' := by have := List.find?_some e1; simpa using this
      obtain ⟨fd', a1, a2, a3, a4, a5⟩ := all d' dm
      rw [← ej, ← e2]
      exact ⟨fd', d'.ps, a1, a3, a4⟩
    · refine hr.mono ?_
      cases (L.ck d).lm <;> simp
    · obtain ⟨cc, cm, e⟩ := List.mem_map.mp (PySem.mem_of_lookup hx)
      cases e
      obtain ⟨u, v, g1, g2, g3⟩ := gd_ok X G c ex cm
      exact ⟨dbg cc.x (List.mem_append_right _ (List.mem_append_left _ (List.mem_map_of_mem cm))), u, v, cc.c.d, g1, g2, LO.cst cc cm, g3 _⟩
    · exact He.free_ok X G (x := x) (c.facts (f := .free x) (List.mem_append_right _ (List.mem_append_right _ (List.mem_append_left _ (List.mem_map_of_mem (f := He.Fa.free) hx)))))
    · have cm : (x, j') ∈ L.cl := PySem.mem_of_lookup hx
      have inF : ∀ f, f ∈ L.clF → f ∈ L.fa := fun f hf => List.mem_append_right _ (List.mem_append_right _ (List.mem_append_right _ (List.mem_append_left _ hf)))
      have g := He.glo_ok X G (x := x) (c.facts (inF _ (List.mem_append_left _ (List.mem_map_of_mem (f := fun c : Str × Nat => He.Fa.glo c.1) cm))))
      obtain ⟨q1, q2, q3, q4⟩ := He.exc_ok (x := x) (c.facts (inF _ (List.mem_append_right _ (List.mem_map_of_mem (f := fun c : Str × Nat => He.Fa.exc c.1) cm))))
      refine ⟨dbg x (List.mem_append_right _ (List.mem_append_right _ (List.mem_map_of_mem (f := Prod.fst) cm))), _, g, ⟨⟨_, _, _, _, PySem.F.excBase_ValueError, q1⟩, q2, q3, q4⟩, fun H => ⟨_, rfl, rfl, fun hs => ?_⟩⟩
      rw [hs] at exc
      exact cls_ok (List.all_eq_true.mp (by simpa using exc) _ cm)
    · have lmm : d.x ∈ L.lm := by
        have : (L.lm.contains d.x) = true := hlm
        simpa using this
      have spe : ∃ a b, L.sp = some (a, b) := by
        cases hl : L.lm with
        | nil => rw [hl] at lmm; cases lmm
        | cons y ys =>
          rw [hl] at exs
          cases hs : L.sp with
          | none => rw [hs] at exs; cases exs
          | some ab => exact ⟨ab.1, ab.2, rfl⟩
      obtain ⟨a, b, hs⟩ := spe
      obtain ⟨co, rfl⟩ := He.codeIn_ref hcd
      obtain ⟨oc, od, osl, lk, ec⟩ := hlk
      have e1 : He.codeOf K (d.x, none) = co := He.codeOf_eq lk ec
      have B := hB (d.x, none) (List.mem_map_of_mem (f := fun x : Str => ((x, none) : He.Defn)) lmm)
      refine ⟨caK K, ceK K, (He.cT K (d.x, none)).1, (He.cT K (d.x, none)).2, try_ok LO X G c hs, fun x cls dd H ⟨D, q1, q2, q3⟩ => ⟨D, q1, q2, q3 (by rw [hs]; rfl)⟩, B, ?_, ?_, ?_⟩
      · show Value.ref co = _
        rw [← e1] <;> rfl
      · rw [hT]
        exact List.mem_map_of_mem (f := fun x : Str => ((He.cT K (x, none)).2, (x ++ ".<locals>.") ++ ("<lambda>" : Str))) lmm
      · rw [hT]
        exact lm_uniq (f := fun x => (He.cT K (x, none)).2) (g := fun x => (x ++ ".<locals>.") ++ ("<lambda>" : Str)) (of_decide_eq_true exn) lmm
/-- no exception leaves -/
theorem FnOk.calm0 {k : Nat} {f : Addr} {fd : FuncData} {ps : List Str} {sp : Sp} (F : FnOk P w K mg base (L2N.CX P w) k f fd ps sp) : FnOk P w K mg base CX0 k f fd ps (fun vs H Q _ => sp vs H Q fun _ _ _ => False) := by
  refine ⟨fun vs H Q E h => F.len vs H Q _ h, fun A outer s H args us vs Q E hr he hb hv h => codeAny_mono (F.run A outer s H args us vs Q _ hr he hb hv h) fun r s' q => ?_⟩
  cases r with
  | error e =>
    obtain ⟨_, _, _, _, _, _, _, _, _, _, _, _, z⟩ := q
    exact z.elim
  | ok fl => cases fl <;> exact q
end

/-! ### the head's hook: the part of the heap without its lists and the empty tables -/
def frL (n : Nat) (g : Addr → Option Obj) : PySem.W.Frag := He.frT g ((He.asD g n).filter fun a => match g a with
  | some o => noLst o
  | none => false)
def obsL (n : Nat) (L : LawI) (g : Addr → Option Obj) : He.AlD × Bool := (He.obsD L.fa L.fn (frL n g), L.ex (frL n g) && He.tabsB g L.tf (frL n g))
/-- what is told of the head's heap -/
structure SaysL (L : LawI) (h : Heap) (K : PySem.W.Frag) : Prop where
  d : He.SaysD L.fa L.fn K
  ex : L.ex K = true
  hd : ∀ p ∈ L.tf, PySem.W.codeHdIn K (He.cT K p).1 (He.cT K p).2 = true
  out : ∀ p ∈ L.tf, K.lookup (He.cT K p).2 = none
  empty : ∀ p ∈ L.tf, h.get? (He.cT K p).2 = some { cls := .none, data := .fields #[] }
theorem saysL_of {n : Nat} {L : LawI} {h : Heap} (e : obsL n L h.get? = (He.valD L.fn, true)) : SaysL L h (frL n h.get?) := by
  have e1 : He.SaysD L.fa L.fn (frL n h.get?) := congrArg Prod.fst e
  have e2 : (L.ex (frL n h.get?) && He.tabsB h.get? L.tf (frL n h.get?)) = true := congrArg Prod.snd e
  clear e
  obtain ⟨h1, h2⟩ := He.ba e2
  have tab : ∀ p ∈ L.tf, PySem.W.codeHdIn (frL n h.get?) (He.cT (frL n h.get?) p).1 (He.cT (frL n h.get?) p).2 = true ∧ ∃ o, h.get? (He.cT (frL n h.get?) p).2 = some o ∧ He.emptyTab o = true := fun p hp => by
    obtain ⟨q1, q2⟩ := He.ba (List.all_eq_true.mp h2 p hp)
    cases q : h.get? (He.cT (frL n h.get?) p).2 with
    | none => rw [q] at q2; cases q2
    | some o => rw [q] at q2; exact ⟨q1, o, rfl, q2⟩
  refine ⟨e1, h1, fun p hp => (tab p hp).1, fun p hp => ?_, fun p hp => ?_⟩
  · obtain ⟨_, o, q, z⟩ := tab p hp
    exact He.frT_none q z
  · obtain ⟨_, o, q, z⟩ := tab p hp
    rw [q, He.emptyTab_eq z]
def hookL (n : Nat) (L : LawI) : PySem.W.Hook where
  α := He.AlD × Bool
  obs := fun s => obsL n L s.heap.get?
  val := fun _ => (He.valD L.fn, true)
  says := fun _ h => ∃ K : PySem.W.Frag, K.In h ∧ SaysL L h K
  of := fun _ _ e => ⟨_, He.frT_in, saysL_of e⟩
  keeps := fun _ _ _ ⟨K, hK, c⟩ k => ⟨K, PySem.W.Frag.In.keeps hK k, c.d, c.ex, c.hd, c.out, fun p hp => k _ _ (c.empty p hp)⟩
theorem obsL_eq {n : Nat} {L : LawI} {g : Addr → Option Obj} {s : Shared} (h : ∀ a, g a = s.heap.get? a) : obsL n L g = (hookL n L).obs s := by
  have e : g = s.heap.get? := funext h
  rw [e] <;> rfl
/-- the law: its last def, its promise -/
theorem law_facts {Gd : Nat → Option Fd} {gv : Nat → Option D} {l : PySem.W.OpenLaw} {w : World} {K : PySem.W.Frag} {h : Heap} {mg : Str → Option Value} {f : Addr} {L : LawI} {m n k : Nat} {d : DefI} {N : Nat} {x : Str} (LO : LawOk Gd gv L m) (X : K.In h) (G : h.Ns mainGlobals mg) (c : SaysL L h K)
    (dm : d ∈ L.ds) (hx : d.ps = [x]) (hfa : mg d.x = some (.ref f)) (hlaw : ∀ ns : List Int, ns.length ≤ N → semK Gd gv n k d.id [.dat (.lst (ns.map D.int))] = .ok (.dat (.bl true)) none) :
    LamX.LawAtS l w K CX0 (3 * k) N x mg f h := by
  obtain ⟨fd, F⟩ := c.d.defs (d := mkD d.x d.st) (List.mem_append_left _ (List.mem_map_of_mem (f := fun d : DefI => mkD d.x d.st) dm))
  have g := He.glo_ok X G (x := d.x) (c.d.facts (f := .glo d.x) (List.mem_append_left _ (List.mem_map_of_mem (f := fun d : DefI => He.Fa.glo d.x) dm)))
  rw [hfa] at g
  have ef : f = He.fAd K (d.x, none) := by have := Option.some.inj g; cases this; rfl
  subst ef
  have DO := LO.defs d dm
  letI : TB := ⟨L.T K⟩
  have tf : ∀ {Q : Addr × Addr → Prop}, (∀ p ∈ L.tf, Q (He.cT K p)) → ∀ p ∈ L.tf.map (He.cT K), Q p := fun hq p hp => by
    obtain ⟨q, hq2, rfl⟩ := List.mem_map.mp hp
    exact hq q hq2
  refine ⟨fd, L.tf.map (He.cT K), fun vs H Q _ => L.pr Gd gv K n k d.id vs H Q fun _ _ _ => False, tf c.empty, tf c.out, tf fun p hp => PySem.W.codeHd_of_K X (c.hd p hp), fun s u => ?_, fun H a ns hl hbits hT hS => ?_, fun base KB GB hB => ?_⟩
  · have := F.bindsA (ps := [x]) (by rw [← hx]; exact DO.bd) s [u] rfl
    exact this
  · have rd : Rd H a (.lst (ns.map V.int)) := by
      rcases hS with h | ⟨o, its, k', q1, q2, _⟩
      · exact h
      · have := List.all_eq_true.mp (Bool.and_eq_true_iff.mp c.ex).1 (a, o) (lk_mem q1)
        dsimp only at this
        unfold noLst at this
        rw [q2] at this
        simp at this
    have rl : RepL K (L.at K) H (fun b => b = a) (ns.map V.int) (ns.map D.int) := by
      clear hl hS rd hlaw hbits
      induction ns with
      | nil => exact .nil
      | cons i ns ih => exact .cons (.int i) ih
    refine ⟨fun b => b = a, [.dat (.lst (ns.map D.int))], ⟨fun b hb => ?_, fun p hp => ?_⟩, .cons (.lst rfl rd rl) .nil, ⟨fun _ z => (by cases z), fun _ z => (by cases z)⟩, ?_⟩
    · subst hb
      rcases rd with e | ⟨_, e⟩ <;> (rw [e]; exact fun z => nomatch z)
    · have hp : p ∈ L.T K := hp
      obtain ⟨y, hy, rfl⟩ := List.mem_map.mp hp
      exact LamX.TabS.nil (hT (He.cT K (y, none)) (List.mem_map_of_mem (List.mem_map_of_mem (f := fun x : Str => ((x, none) : He.Defn)) hy)))
    · rw [hlaw ns hl]
      intro v H' F' st fd' rep mine back
      cases (show Rep K _ H' F' v (.bl true) from rep)
      rfl
  · have := FnOk.calm0 (fns_ok (P := l.prog) (w := w) (base := base) (n := n) rfl LO X G c.d c.ex (fun p hp => hB _ (List.mem_map_of_mem hp)) k d fd dm F)
    rw [hx] at this
    exact this
end DL

namespace DL
/-! the defs of the program and of the laws, with numbers of their own -/
def F_is_from : Fd := ⟨3, 3, false, [.ret (.and (.inst (.var 0) "int") (.and (.not (.inst (.var 0) "bool")) (.chain .LtE .LtE (.var 1) (.var 0) (.var 2))))]⟩
def F_is_rounding_of : Fd := ⟨1, 4, false, [.ifs (.or (.not (.inst (.var 0) "tuple")) (.cmp .NotEq (.bi .len [.var 0]) (.cst (.int 3)))) [.ret (.cst (.bl false))] [],
    .unp [.nm 1, .nm 2, .nm 3] (.var 0),
    .ifs (.or (.not (.call 0 [.var 1, .cst (.int 1), .cst (.int 12)])) (.or (.cmp .NotIn (.var 1) (.glb 0)) (.or (.not (.inst (.var 2) "str")) (.cmp .NotIn (.var 2) (.glb 1))))) [.ret (.cst (.bl false))] [],
    .ret (.call 0 [.var 3, .cst (.int 0), .bin .Sub (.var 1) (.cst (.int 1))])]⟩
def F_are_breaks_of : Fd := ⟨1, 2, false, [.ifs (.or (.not (.inst (.var 0) "tuple")) (.cmp .Gt (.bi .len [.var 0]) (.cst (.int 2)))) [.ret (.cst (.bl false))] [],
    .for_ (.nm 1) (.seq (.var 0)) [.ifs (.or (.not (.inst (.var 1) "tuple")) (.cmp .NotEq (.bi .len [.var 1]) (.cst (.int 2)))) [.ret (.cst (.bl false))] [],
    .ifs (.or (.not (.call 0 [.idx (.var 1) (.cst (.int 0)), .cst (.int 1), .glb 2])) (.not (.call 0 [.idx (.var 1) (.cst (.int 1)), .cst (.int 1), .glb 3]))) [.ret (.cst (.bl false))] []],
    .ret (.or (.cmp .Lt (.bi .len [.var 0]) (.cst (.int 2))) (.cmp .Lt (.idx (.idx (.var 0) (.cst (.int 0))) (.cst (.int 0))) (.idx (.idx (.var 0) (.cst (.int 1))) (.cst (.int 0)))))]⟩
def F_is_manner_of : Fd := ⟨1, 6, false, [.ifs (.or (.not (.inst (.var 0) "tuple")) (.cmp .NotEq (.bi .len [.var 0]) (.cst (.int 5)))) [.ret (.cst (.bl false))] [],
    .unp [.nm 1, .nm 2, .nm 3, .nm 4, .nm 5] (.var 0),
    .ifs (.or (.not (.call 1 [.var 1])) (.or (.not (.call 1 [.var 2])) (.not (.call 2 [.var 3])))) [.ret (.cst (.bl false))] [],
    .ret (.and (.or (.cmp .Is (.var 4) (.cst .non)) (.call 0 [.var 4, .cst (.int 1), .glb 2])) (.or (.cmp .Is (.var 5) (.cst .non)) (.call 0 [.var 5, .cst (.int 1), .bin .Mult (.glb 4) (.glb 2)])))]⟩
def F_is_manner : Fd := ⟨1, 1, false, [.ret (.call 3 [.var 0])]⟩
def F__law_deck : Fd := ⟨2, 2, false, [.ifs (.cmp .GtE (.var 0) (.bin .Pow (.cst (.int 10)) (.cst (.int 18)))) [.ret (.lst [.bin .Sub (.var 0) (.bin .Pow (.cst (.int 10)) (.cst (.int 18))), .bin .Mod (.bi .int [.var 0]) (.cst (.int 2147483579)), .var 1])] [],
    .ret (.lst [.cst (.int 0), .bin .Mod (.bi .int [.var 0]) (.cst (.int 2147483579)), .var 1])]⟩
def F__law_pick : Fd := ⟨2, 4, true, [.ifs (.cmp .Gt (.idx (.var 0) (.cst (.int 0))) (.cst (.int 1))) [.set 2 (.bin .Mod (.bi .int [.idx (.var 0) (.cst (.int 0))]) (.var 1)),
    .store 0 (.cst (.int 0)) (.bin .FloorDiv (.idx (.var 0) (.cst (.int 0))) (.var 1)),
    .retv 2] [],
    .store 0 (.cst (.int 2)) (.bin .Add (.idx (.var 0) (.cst (.int 2))) (.cst (.int 1))),
    .set 3 (.bin .Mod (.bi .int [.bin .Pow (.bi .int [.bin .Add (.idx (.var 0) (.cst (.int 1))) (.bin .Mult (.cst (.int 15485867)) (.idx (.var 0) (.cst (.int 2))))]) (.cst (.int 5))]) (.cst (.int 2147483647))),
    .set 2 (.bin .FloorDiv (.bin .Mod (.bi .int [.bin .Pow (.bi .int [.bin .Add (.var 3) (.bin .Mult (.cst (.int 7919)) (.idx (.var 0) (.cst (.int 2))))]) (.cst (.int 3))]) (.cst (.int 2147483629))) (.cst (.int 32))),
    .ret (.bin .Mod (.bi .int [.var 2]) (.var 1))]⟩
def F__law_one : Fd := ⟨2, 2, true, [.ret (.idx (.var 1) (.call 6 [.var 0, .bi .len [.var 1]]))]⟩
def F__law_whole : Fd := ⟨1, 1, false, [.ret (.and (.inst (.var 0) "int") (.not (.inst (.var 0) "bool")))]⟩
def F__law_rounding : Fd := ⟨1, 2, true, [.set 1 (.idx (.lst [.cst (.int 1), .cst (.int 2), .cst (.int 3), .cst (.int 4), .cst (.int 6), .cst (.int 8), .cst (.int 12)]) (.call 6 [.var 0, .cst (.int 7)])),
    .ret (.tup [.var 1, .idx (.lst [.cst (.str "down"), .cst (.str "near"), .cst (.str "up")]) (.call 6 [.var 0, .cst (.int 3)]), .call 6 [.var 0, .var 1]])]⟩
def F__law_manner : Fd := ⟨1, 6, true, [.unp [.nm 1, .nm 2] (.tup [.tup [], .cst (.int 0)]),
    .for_ (.nm 3) (.rng (.call 6 [.var 0, .cst (.int 3)])) [.set 2 (.bin .Add (.bin .Add (.var 2) (.cst (.int 1))) (.call 6 [.var 0, .cst (.int 40)])),
    .set 1 (.bin .Add (.var 1) (.tup [.tup [.var 2, .bin .Add (.cst (.int 1)) (.call 6 [.var 0, .cst (.int 8)])]]))],
    .set 4 (.ite (.cmp .Eq (.call 6 [.var 0, .cst (.int 2)]) (.cst (.int 0))) (.cst .non) (.bin .Add (.cst (.int 1)) (.call 6 [.var 0, .cst (.int 60)]))),
    .set 5 (.ite (.cmp .Eq (.call 6 [.var 0, .cst (.int 2)]) (.cst (.int 0))) (.cst .non) (.bin .Add (.cst (.int 1)) (.call 6 [.var 0, .cst (.int 300)]))),
    .ret (.tup [.call 9 [.var 0], .call 9 [.var 0], .var 1, .var 4, .var 5])]⟩
def F__law_is_from : Fd := ⟨3, 3, false, [.ret (.and (.call 8 [.var 0]) (.chain .LtE .LtE (.var 1) (.var 0) (.var 2)))]⟩
def F__law_is_rounding : Fd := ⟨1, 1, false, [.ifs (.or (.not (.inst (.var 0) "tuple")) (.or (.cmp .NotEq (.bi .len [.var 0]) (.cst (.int 3))) (.not (.call 8 [.idx (.var 0) (.cst (.int 0))])))) [.ret (.cst (.bl false))] [],
    .ifs (.or (.cmp .NotIn (.idx (.var 0) (.cst (.int 0))) (.tup [.cst (.int 1), .cst (.int 2), .cst (.int 3), .cst (.int 4), .cst (.int 6), .cst (.int 8), .cst (.int 12)])) (.not (.inst (.idx (.var 0) (.cst (.int 1))) "str"))) [.ret (.cst (.bl false))] [],
    .ret (.and (.cmp .In (.idx (.var 0) (.cst (.int 1))) (.tup [.cst (.str "up"), .cst (.str "down"), .cst (.str "near")])) (.call 11 [.idx (.var 0) (.cst (.int 2)), .cst (.int 0), .bin .Sub (.idx (.var 0) (.cst (.int 0))) (.cst (.int 1))]))]⟩
def F__law_is : Fd := ⟨1, 3, false, [.ifs (.or (.not (.inst (.var 0) "tuple")) (.cmp .NotEq (.bi .len [.var 0]) (.cst (.int 5)))) [.ret (.cst (.bl false))] [],
    .ifs (.or (.not (.call 12 [.idx (.var 0) (.cst (.int 0))])) (.not (.call 12 [.idx (.var 0) (.cst (.int 1))]))) [.ret (.cst (.bl false))] [],
    .ifs (.or (.not (.inst (.idx (.var 0) (.cst (.int 2))) "tuple")) (.cmp .Gt (.bi .len [.idx (.var 0) (.cst (.int 2))]) (.cst (.int 2)))) [.ret (.cst (.bl false))] [],
    .set 1 (.cst (.int 0)),
    .for_ (.nm 2) (.seq (.idx (.var 0) (.cst (.int 2)))) [.ifs (.or (.not (.inst (.var 2) "tuple")) (.or (.cmp .NotEq (.bi .len [.var 2]) (.cst (.int 2))) (.not (.call 11 [.idx (.var 2) (.cst (.int 0)), .bin .Add (.var 1) (.cst (.int 1)), .cst (.int 96)])))) [.ret (.cst (.bl false))] [],
    .ifs (.not (.call 11 [.idx (.var 2) (.cst (.int 1)), .cst (.int 1), .cst (.int 8)])) [.ret (.cst (.bl false))] [],
    .set 1 (.idx (.var 2) (.cst (.int 0)))],
    .ifs (.and (.cmp .IsNot (.idx (.var 0) (.cst (.int 3))) (.cst .non)) (.not (.call 11 [.idx (.var 0) (.cst (.int 3)), .cst (.int 1), .cst (.int 96)]))) [.ret (.cst (.bl false))] [],
    .ret (.or (.cmp .Is (.idx (.var 0) (.cst (.int 4))) (.cst .non)) (.call 11 [.idx (.var 0) (.cst (.int 4)), .cst (.int 1), .cst (.int 480)]))]⟩
def F__law_changed : Fd := ⟨2, 5, true, [.ifs (.and (.inst (.var 1) "tuple") (.and (.cmp .NotEq (.var 1) (.tup [])) (.cmp .Gt (.call 6 [.var 0, .cst (.int 6)]) (.cst (.int 0))))) [.par 2 3 (.call 6 [.var 0, .bi .len [.var 1]]) (.call 6 [.var 0, .cst (.int 9)]),
    .ifs (.cmp .Eq (.var 3) (.cst (.int 0))) [.ret (.bin .Add (.slc (.var 1) none (some (.var 2))) (.slc (.var 1) (some (.bin .Add (.var 2) (.cst (.int 1)))) none))] [],
    .ifs (.cmp .Eq (.var 3) (.cst (.int 1))) [.ret (.bin .Add (.slc (.var 1) none (some (.bin .Add (.var 2) (.cst (.int 1))))) (.slc (.var 1) (some (.var 2)) none))] [],
    .ret (.bin .Add (.bin .Add (.slc (.var 1) none (some (.var 2))) (.tup [.call 14 [.var 0, .idx (.var 1) (.var 2)]])) (.slc (.var 1) (some (.bin .Add (.var 2) (.cst (.int 1)))) none))] [],
    .set 4 (.lst [.cst .non, .cst (.bl true), .cst (.bl false), .cst (.int 0), .cst (.int 1), .cst (.int 5), .cst (.int 12), .cst (.int 8), .cst (.int 96), .cst (.int 97), .cst (.int 480), .cst (.int 481), .cst (.str "near"), .cst (.str "Up"), .cst (.str ""), .tup [], .lst [], .bin .Pow (.cst (.int 10)) (.cst (.int 30)), .tup [.cst (.int 1), .cst (.int 1)], .tup [.tup [.cst (.int 1), .cst (.int 1)]]]),
    .ifs (.and (.inst (.var 1) "int") (.cmp .Eq (.call 6 [.var 0, .cst (.int 2)]) (.cst (.int 0)))) [.ret (.bin .Add (.var 1) (.call 7 [.var 0, .lst [.cst (.int 1), .neg (.cst (.int 1))]]))] [],
    .ret (.ite (.and (.inst (.var 1) "tuple") (.cmp .Eq (.call 6 [.var 0, .cst (.int 3)]) (.cst (.int 0)))) (.bi .list [.var 1]) (.call 7 [.var 0, .var 4]))]⟩
def F_law_k01 : Fd := ⟨1, 8, false, [.for_ (.nm 1) (.rng (.cst (.int 8))) [.set 2 (.call 5 [.idx (.bin .Add (.var 0) (.lmul [.cst (.int 0)] (.cst (.int 8)))) (.var 1), .var 1]),
    .for_ (.nm 3) (.rng (.cst (.int 12))) [.set 4 (.call 10 [.var 2]),
    .ifs (.cmp .IsNot (.call 4 [.var 4]) (.cst (.bl true))) [.ret (.cst (.bl false))] [],
    .set 5 (.call 14 [.var 2, .var 4]),
    .ifs (.cmp .Eq (.call 6 [.var 2, .cst (.int 3)]) (.cst (.int 0))) [.set 5 (.call 14 [.var 2, .var 5])] [],
    .set 6 (.call 4 [.var 5]),
    .ifs (.or (.not (.inst (.var 6) "bool")) (.cmp .NotEq (.var 6) (.call 13 [.var 5]))) [.ret (.cst (.bl false))] []]],
    .set 7 (.tup [.tup [.cst (.int 12), .cst (.str "up"), .cst (.int 11)], .tup [.cst (.int 12), .cst (.str "down"), .cst (.int 0)], .tup [.tup [.cst (.int 1), .cst (.int 8)], .tup [.cst (.int 96), .cst (.int 1)]], .cst (.int 96), .cst (.int 480)]),
    .ifs (.or (.cmp .IsNot (.call 4 [.var 7]) (.cst (.bl true))) (.cmp .IsNot (.call 4 [.bin .Add (.bin .Add (.slc (.var 7) none (some (.cst (.int 2)))) (.tup [.tup [.tup [.cst (.int 5), .cst (.int 1)], .tup [.cst (.int 5), .cst (.int 2)]]])) (.slc (.var 7) (some (.cst (.int 3))) none)]) (.cst (.bl false)))) [.ret (.cst (.bl false))] [],
    .ret (.and (.cmp .Is (.call 4 [.bin .Add (.tup [.tup [.cst (.int 5), .cst (.str "up"), .cst (.int 0)]]) (.slc (.var 7) (some (.cst (.int 1))) none)]) (.cst (.bl false))) (.cmp .Is (.call 4 [.bin .Add (.tup [.tup [.cst (.int 1), .cst (.str "up"), .cst (.int 1)]]) (.slc (.var 7) (some (.cst (.int 1))) none)]) (.cst (.bl false))))]⟩
def F_need_manner : Fd := ⟨1, 1, false, [.ifs (.not (.call 3 [.var 0])) [.raise 0] []]⟩
def F_need_time : Fd := ⟨1, 1, false, [.ifs (.not (.call 0 [.var 0, .cst (.int 0), .glb 2])) [.raise 1] []]⟩
def F_came : Fd := ⟨2, 6, false, [.unp [.nm 2, .nm 3, .nm 4] (.var 0),
    .set 5 (.bin .Mod (.var 1) (.var 2)),
    .ifs (.or (.cmp .LtE (.var 5) (.var 4)) (.or (.cmp .Eq (.var 3) (.cst (.str "down"))) (.and (.cmp .Eq (.var 3) (.cst (.str "near"))) (.cmp .Lt (.bin .Mult (.cst (.int 2)) (.var 5)) (.var 2))))) [.ret (.bin .Sub (.var 1) (.var 5))] [],
    .ret (.bin .Add (.bin .Sub (.var 1) (.var 5)) (.var 2))]⟩
def F_went : Fd := ⟨2, 6, false, [.unp [.nm 2, .nm 3, .nm 4] (.var 0),
    .set 5 (.bin .Mod (.bin .Sub (.cst (.int 0)) (.var 1)) (.var 2)),
    .ifs (.or (.cmp .LtE (.var 5) (.var 4)) (.or (.cmp .Eq (.var 3) (.cst (.str "up"))) (.and (.cmp .Eq (.var 3) (.cst (.str "near"))) (.cmp .LtE (.bin .Mult (.cst (.int 2)) (.var 5)) (.var 2))))) [.ret (.bin .Add (.var 1) (.var 5))] [],
    .ret (.bin .Sub (.bin .Add (.var 1) (.var 5)) (.var 2))]⟩
def F_time_in : Fd := ⟨2, 2, false, [.expr (.call 16 [.var 0]),
    .expr (.call 17 [.var 1]),
    .ret (.call 18 [.idx (.var 0) (.cst (.int 0)), .var 1])]⟩
def F_time_out : Fd := ⟨2, 2, false, [.expr (.call 16 [.var 0]),
    .expr (.call 17 [.var 1]),
    .ret (.call 19 [.idx (.var 0) (.cst (.int 1)), .var 1])]⟩
def F__law_sort : Fd := ⟨1, 1, false, [.ifs (.inst (.var 0) "bool") [.ret (.cst (.int 1))] [],
    .ifs (.inst (.var 0) "int") [.ret (.cst (.int 2))] [],
    .ifs (.inst (.var 0) "str") [.ret (.cst (.int 3))] [],
    .ifs (.inst (.var 0) "list") [.ret (.cst (.int 4))] [],
    .ret (.ite (.inst (.var 0) "tuple") (.cst (.int 5)) (.cst (.int 6)))]⟩
def F__law_same : Fd := ⟨2, 4, false, [.ifs (.cmp .NotEq (.call 24 [.var 0]) (.call 24 [.var 1])) [.ret (.cst (.bl false))] [],
    .ifs (.and (.cmp .Gt (.call 24 [.var 0]) (.cst (.int 3))) (.cmp .Lt (.call 24 [.var 0]) (.cst (.int 6)))) [.ifs (.cmp .NotEq (.bi .len [.var 0]) (.bi .len [.var 1])) [.ret (.cst (.bl false))] [],
    .ret (.cmp .Eq (.lc [2, 3] (.tup [.nm 2, .nm 3]) (.enum (.var 0)) (some (.not (.call 25 [.var 3, .idx (.var 1) (.var 2)]))) (.var 2)) (.lst []))] [],
    .ret (.cmp .Eq (.var 0) (.var 1))]⟩
def F__law_punch : Fd := ⟨3, 8, false, [.unp [.nm 3, .nm 4, .nm 5] (.var 0),
    .set 6 (.bin .Sub (.var 1) (.bin .Mod (.bi .int [.var 1]) (.var 3))),
    .set 7 (.ite (.cmp .Eq (.var 6) (.var 1)) (.var 6) (.bin .Add (.var 6) (.var 3))),
    .ifs (.or (.and (.var 2) (.cmp .LtE (.bin .Sub (.var 1) (.var 6)) (.var 5))) (.and (.not (.var 2)) (.cmp .LtE (.bin .Sub (.var 7) (.var 1)) (.var 5)))) [.ret (.ite (.var 2) (.var 6) (.var 7))] [],
    .ifs (.cmp .Eq (.var 4) (.cst (.str "near"))) [.ret (.ite (.cmp .Lt (.bin .Sub (.var 1) (.var 6)) (.bin .Sub (.var 7) (.var 1))) (.var 6) (.var 7))] [],
    .ret (.ite (.cmp .Eq (.var 4) (.cst (.str "down"))) (.var 6) (.var 7))]⟩
def F_law_k02 : Fd := ⟨1, 11, false, [.for_ (.nm 1) (.rng (.cst (.int 8))) [.set 2 (.call 5 [.idx (.bin .Add (.var 0) (.lmul [.cst (.int 0)] (.cst (.int 8)))) (.var 1), .var 1]),
    .for_ (.nm 3) (.rng (.cst (.int 4))) [.set 4 (.call 10 [.var 2]),
    .par 5 6 (.lc [7] (.nm 7) (.rng (.cst (.int 97))) none (.call 20 [.var 4, .var 7])) (.lc [7] (.nm 7) (.rng (.cst (.int 97))) none (.call 21 [.var 4, .var 7])),
    .ifs (.not (.call 25 [.var 5, .lc [7] (.nm 7) (.rng (.cst (.int 97))) none (.call 26 [.idx (.var 4) (.cst (.int 0)), .var 7, .cst (.bl true)])])) [.ret (.cst (.bl false))] [],
    .ifs (.not (.call 25 [.var 6, .lc [7] (.nm 7) (.rng (.cst (.int 97))) none (.call 26 [.idx (.var 4) (.cst (.int 1)), .var 7, .cst (.bl false)])])) [.ret (.cst (.bl false))] [],
    .ifs (.or (.cmp .NotEq (.var 5) (.bi .sorted [.var 5])) (.cmp .NotEq (.var 6) (.bi .sorted [.var 6]))) [.ret (.cst (.bl false))] [],
    .for_ (.nm 8) (.seq (.tup [.neg (.cst (.int 1)), .cst (.int 97), .cst .non, .cst (.bl true), .cst (.str "0")])) [.ifs (.cmp .NotEq (.tri (.call 20 [.var 4, .var 8])) (.cst (.str "Time+"))) [.ret (.cst (.bl false))] [],
    .ifs (.cmp .NotEq (.tri (.call 21 [.var 4, .var 8])) (.cst (.str "Time+"))) [.ret (.cst (.bl false))] []]]],
    .set 9 (.tup [.tup [.cst (.int 4), .cst (.str "near"), .cst (.int 0)], .tup [.cst (.int 4), .cst (.str "near"), .cst (.int 0)], .tup [], .cst .non, .cst .non]),
    .ifs (.cmp .NotEq (.lc [7] (.nm 7) (.rng2 (.cst (.int 32)) (.cst (.int 37))) none (.call 20 [.var 9, .var 7])) (.lst [.cst (.int 32), .cst (.int 32), .cst (.int 36), .cst (.int 36), .cst (.int 36)])) [.ret (.cst (.bl false))] [],
    .set 10 (.tup [.tup [.cst (.int 4), .cst (.str "up"), .cst (.int 1)], .tup [.cst (.int 4), .cst (.str "down"), .cst (.int 1)], .tup [], .cst .non, .cst .non]),
    .ifs (.cmp .NotEq (.lc [7] (.nm 7) (.rng2 (.cst (.int 32)) (.cst (.int 37))) none (.call 20 [.var 10, .var 7])) (.lst [.cst (.int 32), .cst (.int 32), .cst (.int 36), .cst (.int 36), .cst (.int 36)])) [.ret (.cst (.bl false))] [],
    .ret (.and (.cmp .Eq (.lc [7] (.nm 7) (.rng2 (.cst (.int 32)) (.cst (.int 37))) none (.call 21 [.var 10, .var 7])) (.lst [.cst (.int 32), .cst (.int 32), .cst (.int 32), .cst (.int 36), .cst (.int 36)])) (.cmp .Eq (.call 21 [.var 9, .cst (.int 70)]) (.cst (.int 72))))]⟩
def F_is_day_of : Fd := ⟨1, 2, false, [.ifs (.or (.not (.inst (.var 0) "tuple")) (.cmp .NotEq (.bi .len [.var 0]) (.cst (.int 2)))) [.ret (.cst (.bl false))] [],
    .ret (.and (.bi .all [.lc [1] (.nm 1) (.seq (.var 0)) none (.call 0 [.var 1, .cst (.int 0), .glb 2])]) (.cmp .Lt (.idx (.var 0) (.cst (.int 0))) (.idx (.var 0) (.cst (.int 1)))))]⟩
def F_is_week_of : Fd := ⟨1, 2, false, [.ret (.and (.inst (.var 0) "tuple") (.and (.cmp .LtE (.bi .len [.var 0]) (.glb 4)) (.bi .all [.lc [1] (.nm 1) (.seq (.var 0)) none (.call 28 [.var 1])])))]⟩
def F_need_day : Fd := ⟨1, 1, false, [.ifs (.not (.call 28 [.var 0])) [.raise 2] []]⟩
def F_need_week : Fd := ⟨1, 1, false, [.ifs (.not (.call 29 [.var 0])) [.raise 3] []]⟩
def F_counted_of : Fd := ⟨2, 2, false, [.ret (.bi .max [.cst (.int 0), .bin .Sub (.call 19 [.idx (.var 0) (.cst (.int 1)), .idx (.var 1) (.cst (.int 1))]) (.call 18 [.idx (.var 0) (.cst (.int 0)), .idx (.var 1) (.cst (.int 0))])])]⟩
def F_left_of : Fd := ⟨2, 5, false, [.set 2 (.lc [3, 4] (.tup [.nm 3, .nm 4]) (.seq (.idx (.var 0) (.cst (.int 2)))) (some (.cmp .LtE (.var 3) (.var 1))) (.var 4)),
    .ret (.ite (.cmp .NotEq (.var 2) (.lst [])) (.bi .max [.cst (.int 0), .bin .Sub (.var 1) (.idx (.var 2) (.neg (.cst (.int 1))))]) (.var 1))]⟩
def F_split_of : Fd := ⟨2, 4, false, [.set 2 (.call 33 [.var 0, .var 1]),
    .set 3 (.ite (.cmp .Is (.idx (.var 0) (.cst (.int 3))) (.cst .non)) (.var 2) (.bi .min [.var 2, .idx (.var 0) (.cst (.int 3))])),
    .ret (.tup [.var 3, .bin .Sub (.var 2) (.var 3)])]⟩
def F_parts_of : Fd := ⟨2, 2, false, [.ret (.call 34 [.var 0, .call 32 [.var 0, .var 1]])]⟩
def F_paid_of : Fd := ⟨2, 9, false, [.set 2 (.lc [3] (.nm 3) (.seq (.var 1)) none (.call 35 [.var 0, .var 3])),
    .par 4 5 (.bi .sum [.lc [6, 7] (.tup [.nm 6, .nm 7]) (.seq (.var 2)) none (.var 6)]) (.bi .sum [.lc [6, 7] (.tup [.nm 6, .nm 7]) (.seq (.var 2)) none (.var 7)]),
    .set 8 (.ite (.cmp .Is (.idx (.var 0) (.cst (.int 4))) (.cst .non)) (.cst (.int 0)) (.bi .max [.cst (.int 0), .bin .Sub (.var 4) (.idx (.var 0) (.cst (.int 4)))])),
    .ret (.bin .Add (.bin .Add (.bin .Mult (.cst (.int 2)) (.var 4)) (.bin .Mult (.cst (.int 3)) (.var 5))) (.var 8))]⟩
def F_counted : Fd := ⟨2, 2, false, [.expr (.call 16 [.var 0]),
    .expr (.call 30 [.var 1]),
    .ret (.call 32 [.var 0, .var 1])]⟩
def F_parts : Fd := ⟨2, 2, false, [.expr (.call 16 [.var 0]),
    .expr (.call 30 [.var 1]),
    .ret (.call 35 [.var 0, .var 1])]⟩
def F_paid : Fd := ⟨2, 2, false, [.expr (.call 16 [.var 0]),
    .expr (.call 31 [.var 1]),
    .ret (.call 36 [.var 0, .var 1])]⟩
def F__law_split : Fd := ⟨2, 4, false, [.for_ (.tup [.nm 2, .nm 3]) (.seq (.rev (.idx (.var 0) (.cst (.int 2))))) [.ifs (.cmp .LtE (.var 2) (.var 1)) [.set 1 (.ite (.cmp .Gt (.var 1) (.var 3)) (.bin .Sub (.var 1) (.var 3)) (.cst (.int 0))),
    .brk] []],
    .ifs (.or (.cmp .Is (.idx (.var 0) (.cst (.int 3))) (.cst .non)) (.cmp .LtE (.var 1) (.idx (.var 0) (.cst (.int 3))))) [.ret (.tup [.var 1, .cst (.int 0)])] [],
    .ret (.tup [.idx (.var 0) (.cst (.int 3)), .bin .Sub (.var 1) (.idx (.var 0) (.cst (.int 3)))])]⟩
def F__law_counts : Fd := ⟨2, 3, false, [.set 2 (.bin .Sub (.call 26 [.idx (.var 0) (.cst (.int 1)), .idx (.var 1) (.cst (.int 1)), .cst (.bl false)]) (.call 26 [.idx (.var 0) (.cst (.int 0)), .idx (.var 1) (.cst (.int 0)), .cst (.bl true)])),
    .ret (.ite (.cmp .Gt (.var 2) (.cst (.int 0))) (.var 2) (.cst (.int 0)))]⟩
def F__law_worth : Fd := ⟨2, 7, false, [.unp [.nm 2, .nm 3] (.tup [.cst (.int 0), .cst (.int 0)]),
    .for_ (.nm 4) (.seq (.var 1)) [.unp [.nm 5, .nm 6] (.call 40 [.var 0, .call 41 [.var 0, .var 4]]),
    .par 2 3 (.bin .Add (.bin .Add (.var 2) (.bin .Mult (.cst (.int 2)) (.var 5))) (.bin .Mult (.cst (.int 3)) (.var 6))) (.bin .Add (.var 3) (.var 5))],
    .ifs (.and (.cmp .IsNot (.idx (.var 0) (.cst (.int 4))) (.cst .non)) (.cmp .Gt (.var 3) (.idx (.var 0) (.cst (.int 4))))) [.set 2 (.bin .Sub (.bin .Add (.var 2) (.var 3)) (.idx (.var 0) (.cst (.int 4))))] [],
    .retv 2]⟩
def F__law_pair : Fd := ⟨1, 2, true, [.set 1 (.call 6 [.var 0, .cst (.int 96)]),
    .ret (.tup [.var 1, .bin .Add (.bin .Add (.var 1) (.cst (.int 1))) (.call 6 [.var 0, .bin .Sub (.cst (.int 96)) (.var 1)])])]⟩
def F__law_days : Fd := ⟨2, 3, true, [.ret (.bi .tuple [.lc [2] (.nm 2) (.rng (.call 6 [.var 0, .bin .Add (.var 1) (.cst (.int 1))])) none (.call 43 [.var 0])])]⟩
def F_law_k03 : Fd := ⟨1, 14, false, [.for_ (.nm 1) (.rng (.cst (.int 8))) [.set 2 (.call 5 [.idx (.bin .Add (.var 0) (.lmul [.cst (.int 0)] (.cst (.int 8)))) (.var 1), .var 1]),
    .for_ (.nm 3) (.rng (.cst (.int 8))) [.unp [.nm 4, .nm 5] (.tup [.call 10 [.var 2], .call 43 [.var 2]]),
    .set 6 (.call 44 [.var 2, .cst (.int 5)]),
    .set 7 (.call 41 [.var 4, .var 5]),
    .ifs (.not (.call 25 [.call 37 [.var 4, .var 5], .var 7])) [.ret (.cst (.bl false))] [],
    .ifs (.not (.call 25 [.call 38 [.var 4, .var 5], .call 40 [.var 4, .var 7]])) [.ret (.cst (.bl false))] [],
    .ifs (.not (.call 25 [.call 39 [.var 4, .var 6], .call 42 [.var 4, .var 6]])) [.ret (.cst (.bl false))] [],
    .ifs (.cmp .NotEq (.call 39 [.var 4, .rev (.var 6)]) (.call 39 [.var 4, .var 6])) [.ret (.cst (.bl false))] [],
    .ifs (.cmp .Lt (.call 39 [.var 4, .var 6]) (.bi .sum [.lc [8] (.nm 8) (.seq (.var 6)) none (.call 39 [.var 4, .tup [.var 8]])])) [.ret (.cst (.bl false))] [],
    .for_ (.nm 9) (.seq (.tup [.cst .non, .tup [.cst (.int 3), .cst (.int 3)], .lst [.cst (.int 1), .cst (.int 2)], .tup [.cst (.int 1)], .tup [.neg (.cst (.int 1)), .cst (.int 5)], .tup [.cst (.int 5), .cst (.int 97)], .tup [.cst (.bl true), .cst (.int 5)], .tup [.cst (.int 1), .cst (.int 2), .cst (.int 3)]])) [.ifs (.cmp .NotEq (.tri (.call 37 [.var 4, .var 9])) (.cst (.str "Day+"))) [.ret (.cst (.bl false))] [],
    .ifs (.cmp .NotEq (.tri (.call 39 [.var 4, .tup [.var 9]])) (.cst (.str "Week+"))) [.ret (.cst (.bl false))] []],
    .ifs (.cmp .NotEq (.tri (.call 39 [.var 4, .bin .Mult (.tup [.tup [.cst (.int 0), .cst (.int 1)]]) (.cst (.int 6))])) (.cst (.str "Week+"))) [.ret (.cst (.bl false))] []]],
    .set 10 (.tup [.tup [.cst (.int 4), .cst (.str "up"), .cst (.int 1)], .tup [.cst (.int 4), .cst (.str "down"), .cst (.int 1)], .tup [.tup [.cst (.int 24), .cst (.int 2)]], .cst (.int 32), .cst .non]),
    .ifs (.or (.cmp .NotEq (.call 37 [.var 10, .tup [.cst (.int 33), .cst (.int 71)]]) (.cst (.int 40))) (.cmp .NotEq (.call 38 [.var 10, .tup [.cst (.int 33), .cst (.int 71)]]) (.tup [.cst (.int 32), .cst (.int 6)]))) [.ret (.cst (.bl false))] [],
    .ifs (.cmp .NotEq (.call 39 [.var 10, .tup [.tup [.cst (.int 33), .cst (.int 71)]]]) (.cst (.int 82))) [.ret (.cst (.bl false))] [],
    .set 11 (.tup [.tup [.cst (.int 1), .cst (.str "down"), .cst (.int 0)], .tup [.cst (.int 1), .cst (.str "down"), .cst (.int 0)], .tup [], .cst .non, .cst (.int 200)]),
    .ifs (.or (.cmp .NotEq (.call 39 [.var 11, .tup [.tup [.cst (.int 0), .cst (.int 96)], .tup [.cst (.int 0), .cst (.int 96)], .tup [.cst (.int 0), .cst (.int 9)]]]) (.cst (.int 403))) (.cmp .NotEq (.call 37 [.var 10, .tup [.cst (.int 34), .cst (.int 35)]]) (.cst (.int 0)))) [.ret (.cst (.bl false))] [],
    .set 12 (.tup [.tup [.cst (.int 1), .cst (.str "up"), .cst (.int 0)], .tup [.cst (.int 1), .cst (.str "up"), .cst (.int 0)], .tup [.tup [.cst (.int 4), .cst (.int 6)], .tup [.cst (.int 8), .cst (.int 1)]], .cst (.int 5), .cst (.int 6)]),
    .ifs (.cmp .NotEq (.lc [13] (.nm 13) (.seq (.tup [.cst (.int 3), .cst (.int 4), .cst (.int 7), .cst (.int 8)])) none (.call 38 [.var 12, .tup [.cst (.int 0), .var 13]])) (.lst [.tup [.cst (.int 3), .cst (.int 0)], .tup [.cst (.int 0), .cst (.int 0)], .tup [.cst (.int 1), .cst (.int 0)], .tup [.cst (.int 5), .cst (.int 2)]])) [.ret (.cst (.bl false))] [],
    .ret (.cmp .Eq (.call 39 [.var 12, .tup [.tup [.cst (.int 0), .cst (.int 8)], .tup [.cst (.int 0), .cst (.int 8)]]]) (.cst (.int 36)))]⟩
def F_need_manners : Fd := ⟨2, 2, false, [.expr (.call 16 [.var 0]),
    .expr (.call 16 [.var 1])]⟩
def F_lists_of : Fd := ⟨1, 5, false, [.set 1 (.lrng (.bin .Add (.glb 2) (.cst (.int 1)))),
    .set 2 (.lc [3] (.nm 3) (.seq (.var 1)) none (.call 34 [.var 0, .var 3])),
    .ret (.tup [.lc [4] (.nm 4) (.seq (.var 1)) none (.call 18 [.idx (.var 0) (.cst (.int 0)), .var 4]), .lc [4] (.nm 4) (.seq (.var 1)) none (.call 19 [.idx (.var 0) (.cst (.int 1)), .var 4]), .var 2])]⟩
def F_all_parts : Fd := ⟨1, 6, false, [.unp [.nm 1, .nm 2, .nm 3] (.call 47 [.var 0]),
    .ret (.lc2 [4, 5] [5] (.nm 4) (.rng (.glb 2)) (.nm 5) (.rng2 (.bin .Add (.var 4) (.cst (.int 1))) (.bin .Add (.glb 2) (.cst (.int 1)))) none (.idx (.var 3) (.bi .max [.cst (.int 0), .bin .Sub (.idx (.var 2) (.var 5)) (.idx (.var 1) (.var 4))])))]⟩
def F_every_day : Fd := ⟨0, 2, false, [.ret (.lc2 [0, 1] [1] (.nm 0) (.rng (.glb 2)) (.nm 1) (.rng2 (.bin .Add (.var 0) (.cst (.int 1))) (.bin .Add (.glb 2) (.cst (.int 1)))) none (.tup [.var 0, .var 1]))]⟩
def F_best_days : Fd := ⟨3, 8, false, [.set 3 (.dic false),
    .for_ (.tup [.nm 4, .nm 5, .nm 6]) (.zip3 (.call 49 []) (.call 48 [.var 0]) (.call 48 [.var 1])) [.set 7 (.bin .Add (.bin .Sub (.bin .Sub (.bin .Add (.bin .Mult (.cst (.int 2)) (.idx (.var 5) (.cst (.int 0)))) (.bin .Mult (.cst (.int 3)) (.idx (.var 5) (.cst (.int 1))))) (.bin .Mult (.cst (.int 2)) (.idx (.var 6) (.cst (.int 0))))) (.bin .Mult (.cst (.int 3)) (.idx (.var 6) (.cst (.int 1))))) (.bin .Mult (.var 2) (.idx (.var 5) (.cst (.int 0))))),
    .ifs (.or (.cmp .NotIn (.idx (.var 6) (.cst (.int 0))) (.var 3)) (.cmp .Lt (.idx (.idx (.var 3) (.idx (.var 6) (.cst (.int 0)))) (.cst (.int 0))) (.var 7))) [.store 3 (.idx (.var 6) (.cst (.int 0))) (.tup [.var 7, .var 4])] []],
    .retv 3]⟩
def F_best_weeks : Fd := ⟨2, 12, false, [.set 2 (.dic1 (.cst (.int 0)) (.tup [.cst (.int 0), .tup []])),
    .for_ (.nm 3) (.rng (.glb 4)) [.set 4 (.dcp (.var 2)),
    .for_ (.tup [.nm 5, .tup [.nm 6, .nm 7]]) (.items (.var 2)) [.for_ (.tup [.nm 8, .tup [.nm 9, .nm 10]]) (.items (.var 0)) [.set 11 (.ite (.var 1) (.bin .Add (.var 5) (.var 8)) (.cst (.int 0))),
    .ifs (.or (.cmp .NotIn (.var 11) (.var 4)) (.cmp .Lt (.idx (.idx (.var 4) (.var 11)) (.cst (.int 0))) (.bin .Add (.var 6) (.var 9)))) [.store 4 (.var 11) (.tup [.bin .Add (.var 6) (.var 9), .bin .Add (.var 7) (.tup [.var 10])])] []]],
    .set 2 (.var 4)],
    .retv 2]⟩
def F_lead_of : Fd := ⟨2, 9, false, [.set 2 (.tup [.cst (.int 0), .tup []]),
    .for_ (.nm 3) (.seq (.ite (.cmp .Is (.idx (.var 0) (.cst (.int 4))) (.cst .non)) (.tup [.cst (.int 0)]) (.tup [.cst (.int 0), .cst (.int 1)]))) [.set 4 (.call 51 [.call 50 [.var 0, .var 1, .var 3], .cmp .IsNot (.idx (.var 1) (.cst (.int 4))) (.cst .non)]),
    .for_ (.tup [.nm 5, .tup [.nm 6, .nm 7]]) (.items (.var 4)) [.set 8 (.bin .Sub (.call 36 [.var 0, .var 7]) (.call 36 [.var 1, .var 7])),
    .ifs (.cmp .Gt (.var 8) (.idx (.var 2) (.cst (.int 0)))) [.set 2 (.tup [.var 8, .var 7])] []]],
    .retv 2]⟩
def F_greatest_lead : Fd := ⟨2, 2, false, [.expr (.call 46 [.var 0, .var 1]),
    .ret (.idx (.call 52 [.var 0, .var 1]) (.cst (.int 0)))]⟩
def F_lead_week : Fd := ⟨2, 2, false, [.expr (.call 46 [.var 0, .var 1]),
    .ret (.idx (.call 52 [.var 0, .var 1]) (.cst (.int 1)))]⟩
def F_never_less : Fd := ⟨2, 2, false, [.expr (.call 46 [.var 0, .var 1]),
    .ret (.cmp .Eq (.idx (.call 52 [.var 1, .var 0]) (.cst (.int 0))) (.cst (.int 0)))]⟩
def F__law_bool : Fd := ⟨2, 2, false, [.ret (.and (.inst (.var 0) "bool") (.cmp .Eq (.var 0) (.var 1)))]⟩
def F__law_worth__k04 : Fd := ⟨2, 7, false, [.unp [.nm 2, .nm 3] (.tup [.cst (.int 0), .cst (.int 0)]),
    .for_ (.nm 4) (.seq (.var 1)) [.unp [.nm 5, .nm 6] (.call 40 [.var 0, .call 41 [.var 0, .var 4]]),
    .par 2 3 (.bin .Add (.bin .Add (.var 2) (.bin .Mult (.cst (.int 2)) (.var 5))) (.bin .Mult (.cst (.int 3)) (.var 6))) (.bin .Add (.var 3) (.var 5))],
    .ifs (.and (.cmp .IsNot (.idx (.var 0) (.cst (.int 4))) (.cst .non)) (.cmp .Gt (.var 3) (.idx (.var 0) (.cst (.int 4))))) [.set 2 (.bin .Sub (.bin .Add (.var 2) (.var 3)) (.idx (.var 0) (.cst (.int 4))))] [],
    .retv 2]⟩
def F__law_bent : Fd := ⟨2, 7, true, [.set 2 (.call 6 [.var 0, .cst (.int 6)]),
    .ifs (.cmp .Lt (.var 2) (.cst (.int 2))) [.unp [.nm 3, .nm 4, .nm 5] (.idx (.var 1) (.var 2)),
    .set 6 (.call 7 [.var 0, .lst [.tup [.var 3, .var 4, .call 6 [.var 0, .var 3]], .tup [.var 3, .cst (.str "near"), .var 5], .call 9 [.var 0]]]),
    .ret (.bin .Add (.bin .Add (.slc (.var 1) none (some (.var 2))) (.tup [.var 6])) (.slc (.var 1) (some (.bin .Add (.var 2) (.cst (.int 1)))) none))] [],
    .ifs (.cmp .Eq (.var 2) (.cst (.int 2))) [.ret (.bin .Add (.bin .Add (.slc (.var 1) none (some (.cst (.int 2)))) (.tup [.slc (.idx (.var 1) (.cst (.int 2))) (some (.cst (.int 1))) none])) (.slc (.var 1) (some (.cst (.int 3))) none))] [],
    .ifs (.cmp .Eq (.var 2) (.cst (.int 3))) [.ret (.bin .Add (.slc (.var 1) none (some (.cst (.int 3)))) (.tup [.call 7 [.var 0, .lst [.cst .non, .cst (.int 96), .bin .Add (.cst (.int 1)) (.call 6 [.var 0, .cst (.int 96)])]], .idx (.var 1) (.cst (.int 4))]))] [],
    .ret (.bin .Add (.slc (.var 1) none (some (.cst (.int 4)))) (.tup [.call 7 [.var 0, .lst [.cst .non, .cst (.int 480), .bin .Add (.cst (.int 1)) (.call 6 [.var 0, .cst (.int 480)])]]]))]⟩
def F__law_every : Fd := ⟨0, 3, false, [.set 0 (.lst []),
    .for_ (.nm 1) (.rng (.cst (.int 96))) [.set 0 (.bin .Add (.var 0) (.lc [2] (.nm 2) (.rng2 (.bin .Add (.var 1) (.cst (.int 1))) (.cst (.int 97))) none (.tup [.var 1, .var 2])))],
    .retv 0]⟩
def F__law_splits : Fd := ⟨1, 9, false, [.set 1 (.lc [2] (.nm 2) (.rng (.cst (.int 97))) none (.call 26 [.idx (.var 0) (.cst (.int 0)), .var 2, .cst (.bl true)])),
    .set 3 (.lc [2] (.nm 2) (.rng (.cst (.int 97))) none (.call 26 [.idx (.var 0) (.cst (.int 1)), .var 2, .cst (.bl false)])),
    .set 4 (.lc [5] (.nm 5) (.rng (.cst (.int 97))) none (.call 40 [.var 0, .var 5])),
    .set 6 (.lst []),
    .for_ (.nm 7) (.rng (.cst (.int 96))) [.set 6 (.bin .Add (.var 6) (.lc [8] (.nm 8) (.rng2 (.bin .Add (.var 7) (.cst (.int 1))) (.cst (.int 97))) none (.idx (.var 4) (.bi .max [.cst (.int 0), .bin .Sub (.idx (.var 3) (.var 8)) (.idx (.var 1) (.var 7))]))))],
    .retv 6]⟩
def F__law_lead : Fd := ⟨2, 16, false, [.set 2 (.dic false),
    .for_ (.tup [.nm 3, .nm 4]) (.zip (.call 60 [.var 0]) (.call 60 [.var 1])) [.store 2 (.tup [.var 3, .var 4]) (.cst (.bl true))],
    .set 5 (.cst (.int 0)),
    .for_ (.nm 6) (.seq (.ite (.cmp .Is (.idx (.var 0) (.cst (.int 4))) (.cst .non)) (.tup [.cst (.int 0)]) (.tup [.cst (.int 0), .cst (.int 1)]))) [.parO true 7 8 (.dic false) (.dic1 (.cst (.int 0)) (.cst (.int 0))),
    .for_ (.tup [.nm 3, .nm 4]) (.seq (.var 2)) [.set 9 (.bin .Sub (.bin .Sub (.bin .Add (.bin .Mult (.bin .Add (.cst (.int 2)) (.var 6)) (.idx (.var 3) (.cst (.int 0)))) (.bin .Mult (.cst (.int 3)) (.idx (.var 3) (.cst (.int 1))))) (.bin .Mult (.cst (.int 2)) (.idx (.var 4) (.cst (.int 0))))) (.bin .Mult (.cst (.int 3)) (.idx (.var 4) (.cst (.int 1))))),
    .set 10 (.ite (.cmp .IsNot (.idx (.var 1) (.cst (.int 4))) (.cst .non)) (.idx (.var 4) (.cst (.int 0))) (.cst (.int 0))),
    .ifs (.or (.cmp .NotIn (.var 10) (.var 7)) (.cmp .Lt (.idx (.var 7) (.var 10)) (.var 9))) [.store 7 (.var 10) (.var 9)] []],
    .for_ (.nm 11) (.rng (.cst (.int 5))) [.set 12 (.dcp (.lc [13] (.nm 13) (.seq (.var 8)) none (.tup [.var 13, .idx (.var 8) (.var 13)]))),
    .for_ (.nm 13) (.seq (.var 8)) [.for_ (.nm 10) (.seq (.var 7)) [.set 14 (.bin .Add (.idx (.var 8) (.var 13)) (.idx (.var 7) (.var 10))),
    .ifs (.or (.cmp .NotIn (.bin .Add (.var 13) (.var 10)) (.var 12)) (.cmp .Lt (.idx (.var 12) (.bin .Add (.var 13) (.var 10))) (.var 14))) [.store 12 (.bin .Add (.var 13) (.var 10)) (.var 14)] []]],
    .set 8 (.var 12)],
    .for_ (.nm 13) (.seq (.var 8)) [.set 15 (.bin .Sub (.idx (.var 8) (.var 13)) (.ite (.cmp .Is (.idx (.var 1) (.cst (.int 4))) (.cst .non)) (.cst (.int 0)) (.bi .max [.cst (.int 0), .bin .Sub (.var 13) (.idx (.var 1) (.cst (.int 4)))]))),
    .set 5 (.bi .max [.var 5, .bin .Sub (.var 15) (.ite (.or (.cmp .Eq (.var 6) (.cst (.int 0))) (.cmp .Is (.idx (.var 0) (.cst (.int 4))) (.cst .non))) (.cst (.int 0)) (.idx (.var 0) (.cst (.int 4))))])]],
    .retv 5]⟩
def F__law_is_week : Fd := ⟨1, 3, false, [.set 1 (.call 59 []),
    .ifs (.or (.not (.inst (.var 0) "tuple")) (.cmp .Gt (.bi .len [.var 0]) (.cst (.int 5)))) [.ret (.cst (.bl false))] [],
    .ret (.cmp .Eq (.lc [2] (.nm 2) (.seq (.var 0)) (some (.cmp .NotIn (.var 2) (.var 1))) (.cst (.int 1))) (.lst []))]⟩
def F_law_k04 : Fd := ⟨1, 14, false, [.for_ (.nm 1) (.rng (.cst (.int 1))) [.set 2 (.call 5 [.idx (.bin .Add (.var 0) (.lst [.cst (.int 0)])) (.var 1), .var 1]),
    .set 3 (.call 10 [.var 2]),
    .set 4 (.call 58 [.var 2, .var 3]),
    .for_ (.tup [.nm 5, .nm 6]) (.seq (.tup [.tup [.var 3, .var 4], .tup [.var 4, .var 3]])) [.par 7 8 (.call 61 [.var 5, .var 6]) (.call 54 [.var 5, .var 6]),
    .ifs (.or (.cmp .NotEq (.call 53 [.var 5, .var 6]) (.var 7)) (.not (.call 62 [.var 8]))) [.ret (.cst (.bl false))] [],
    .ifs (.or (.cmp .NotEq (.bin .Sub (.call 57 [.var 5, .var 8]) (.call 57 [.var 6, .var 8])) (.var 7)) (.and (.cmp .Eq (.var 7) (.cst (.int 0))) (.cmp .NotEq (.var 8) (.tup [])))) [.ret (.cst (.bl false))] [],
    .ifs (.not (.call 56 [.call 55 [.var 6, .var 5], .cmp .Eq (.var 7) (.cst (.int 0))])) [.ret (.cst (.bl false))] [],
    .for_ (.nm 9) (.rng (.cst (.int 5))) [.set 10 (.call 44 [.var 2, .cst (.int 5)]),
    .ifs (.cmp .Gt (.bin .Sub (.call 39 [.var 5, .var 10]) (.call 39 [.var 6, .var 10])) (.var 7)) [.ret (.cst (.bl false))] []]]],
    .unp [.nm 11, .nm 12] (.tup [.tup [.tup [.cst (.int 1), .cst (.str "down"), .cst (.int 0)], .tup [.cst (.int 1), .cst (.str "down"), .cst (.int 0)], .tup [], .cst .non, .cst .non], .tup [.tup [.cst (.int 1), .cst (.str "down"), .cst (.int 0)], .tup [.cst (.int 1), .cst (.str "down"), .cst (.int 0)], .tup [], .cst .non, .cst (.int 200)]]),
    .ifs (.or (.cmp .NotEq (.call 53 [.var 12, .var 11]) (.cst (.int 280))) (.cmp .NotEq (.call 53 [.var 11, .var 12]) (.cst (.int 0)))) [.ret (.cst (.bl false))] [],
    .set 13 (.tup [.tup [.cst (.int 4), .cst (.str "near"), .cst (.int 0)], .tup [.cst (.int 4), .cst (.str "near"), .cst (.int 0)], .tup [], .cst .non, .cst .non]),
    .ret (.and (.cmp .Eq (.call 53 [.var 13, .var 11]) (.cst (.int 30))) (.cmp .Eq (.call 53 [.var 11, .var 13]) (.cst (.int 30))))]⟩
def F_same_for_all : Fd := ⟨2, 2, false, [.ret (.and (.cmp .Eq (.idx (.call 52 [.var 0, .var 1]) (.cst (.int 0))) (.cst (.int 0))) (.cmp .Eq (.idx (.call 52 [.var 1, .var 0]) (.cst (.int 0))) (.cst (.int 0))))]⟩
def F_alike : Fd := ⟨2, 2, false, [.expr (.call 46 [.var 0, .var 1]),
    .ret (.call 64 [.var 0, .var 1])]⟩
def F_first_day : Fd := ⟨2, 3, false, [.for_ (.nm 2) (.seq (.call 49 [])) [.ifs (.cmp .NotEq (.call 36 [.var 0, .tup [.var 2]]) (.call 36 [.var 1, .tup [.var 2]])) [.retv 2] []],
    .ret (.cst .non)]⟩
def F_parting_day : Fd := ⟨2, 2, false, [.expr (.call 46 [.var 0, .var 1]),
    .ret (.call 66 [.var 0, .var 1])]⟩
def F_parting_week : Fd := ⟨2, 7, false, [.expr (.call 46 [.var 0, .var 1]),
    .set 2 (.call 66 [.var 0, .var 1]),
    .ifs (.cmp .IsNot (.var 2) (.cst .non)) [.ret (.tup [.var 2])] [],
    .for_ (.tup [.nm 3, .nm 4]) (.seq (.tup [.tup [.var 0, .var 1], .tup [.var 1, .var 0]])) [.unp [.nm 5, .nm 6] (.call 52 [.var 3, .var 4]),
    .ifs (.cmp .Gt (.var 5) (.cst (.int 0))) [.retv 6] []],
    .ret (.cst .non)]⟩
def F__law_alone : Fd := ⟨2, 2, false, [.ret (.bin .Add (.bin .Add (.bin .Mult (.cst (.int 2)) (.idx (.var 1) (.cst (.int 0)))) (.bin .Mult (.cst (.int 3)) (.idx (.var 1) (.cst (.int 1))))) (.ite (.cmp .IsNot (.idx (.var 0) (.cst (.int 4))) (.cst .non)) (.bi .max [.cst (.int 0), .bin .Sub (.idx (.var 1) (.cst (.int 0))) (.idx (.var 0) (.cst (.int 4)))]) (.cst (.int 0))))]⟩
def F__law_same_so : Fd := ⟨2, 4, true, [.par 2 3 (.idx (.var 1) (.cst (.int 0))) (.idx (.var 1) (.cst (.int 1))),
    .ifs (.cmp .Eq (.idx (.var 2) (.cst (.int 0))) (.cst (.int 1))) [.set 2 (.tup [.cst (.int 1), .idx (.lst [.cst (.str "down"), .cst (.str "near"), .cst (.str "up")]) (.call 6 [.var 0, .cst (.int 3)]), .cst (.int 0)])] [],
    .ifs (.cmp .Eq (.idx (.var 2) (.cst (.int 1))) (.cst (.str "down"))) [.set 2 (.tup [.idx (.var 2) (.cst (.int 0)), .cst (.str "down"), .call 6 [.var 0, .idx (.var 2) (.cst (.int 0))]])] [],
    .ifs (.cmp .Eq (.idx (.var 3) (.cst (.int 1))) (.cst (.str "up"))) [.set 3 (.tup [.idx (.var 3) (.cst (.int 0)), .cst (.str "up"), .call 6 [.var 0, .idx (.var 3) (.cst (.int 0))]])] [],
    .ret (.tup [.var 2, .var 3, .idx (.var 1) (.cst (.int 2)), .ite (.cmp .Is (.idx (.var 1) (.cst (.int 3))) (.cst .non)) (.cst (.int 96)) (.idx (.var 1) (.cst (.int 3))), .ite (.cmp .Is (.idx (.var 1) (.cst (.int 4))) (.cst .non)) (.cst (.int 480)) (.idx (.var 1) (.cst (.int 4)))])]⟩
def F_law_k05 : Fd := ⟨1, 13, false, [.for_ (.nm 1) (.rng (.cst (.int 1))) [.set 2 (.call 5 [.idx (.bin .Add (.var 0) (.lst [.cst (.int 0)])) (.var 1), .var 1]),
    .set 3 (.call 10 [.var 2]),
    .set 4 (.ite (.cmp .Eq (.call 6 [.var 2, .cst (.int 3)]) (.cst (.int 0))) (.call 70 [.var 2, .var 3]) (.call 58 [.var 2, .var 3])),
    .set 5 (.and (.cmp .Eq (.call 53 [.var 3, .var 4]) (.cst (.int 0))) (.cmp .Eq (.call 53 [.var 4, .var 3]) (.cst (.int 0)))),
    .ifs (.not (.call 56 [.call 65 [.var 3, .var 4], .var 5])) [.ret (.cst (.bl false))] [],
    .set 6 (.cst .non),
    .for_ (.tup [.nm 7, .nm 8, .nm 9]) (.zip3 (.call 59 []) (.call 60 [.var 3]) (.call 60 [.var 4])) [.ifs (.and (.cmp .Is (.var 6) (.cst .non)) (.cmp .NotEq (.call 69 [.var 3, .var 8]) (.call 69 [.var 4, .var 9]))) [.set 6 (.var 7)] []],
    .ifs (.or (.cmp .NotEq (.call 67 [.var 3, .var 4]) (.var 6)) (.cmp .NotEq (.call 67 [.var 4, .var 3]) (.var 6))) [.ret (.cst (.bl false))] [],
    .set 10 (.call 68 [.var 3, .var 4]),
    .ifs (.or (.cmp .NotEq (.cmp .Is (.var 10) (.cst .non)) (.var 5)) (.and (.cmp .IsNot (.var 6) (.cst .non)) (.var 5))) [.ret (.cst (.bl false))] [],
    .ifs (.and (.cmp .IsNot (.var 10) (.cst .non)) (.cmp .Eq (.call 39 [.var 3, .var 10]) (.call 39 [.var 4, .var 10]))) [.ret (.cst (.bl false))] [],
    .ifs (.cmp .IsNot (.call 65 [.var 3, .call 70 [.var 2, .var 3]]) (.cst (.bl true))) [.ret (.cst (.bl false))] []],
    .unp [.nm 11, .nm 12] (.tup [.tup [.tup [.cst (.int 1), .cst (.str "down"), .cst (.int 0)], .tup [.cst (.int 1), .cst (.str "down"), .cst (.int 0)], .tup [], .cst .non, .cst .non], .tup [.tup [.cst (.int 1), .cst (.str "up"), .cst (.int 0)], .tup [.cst (.int 1), .cst (.str "near"), .cst (.int 0)], .tup [], .cst .non, .cst (.int 200)]]),
    .ifs (.or (.cmp .IsNot (.call 65 [.var 11, .var 12]) (.cst (.bl false))) (.cmp .IsNot (.call 67 [.var 11, .var 12]) (.cst .non))) [.ret (.cst (.bl false))] [],
    .ret (.and (.cmp .Is (.call 65 [.var 11, .bin .Add (.slc (.var 12) none (some (.cst (.int 4)))) (.tup [.cst (.int 480)])]) (.cst (.bl true))) (.cmp .Is (.call 65 [.var 11, .bin .Add (.slc (.var 12) none (some (.cst (.int 3)))) (.tup [.cst (.int 96), .cst (.int 480)])]) (.cst (.bl true))))]⟩
def F_need_number : Fd := ⟨3, 3, false, [.ifs (.not (.call 0 [.var 0, .var 1, .var 2])) [.raise 4] []]⟩
def F_lowest_terms : Fd := ⟨2, 4, false, [.par 2 3 (.bi .abs [.var 0]) (.var 1),
    .whil 1000 (.cmp .Gt (.var 3) (.cst (.int 0))) [.par 2 3 (.var 3) (.bin .Mod (.var 2) (.var 3))],
    .ret (.tup [.bin .FloorDiv (.var 0) (.var 2), .bin .FloorDiv (.var 1) (.var 2)])]⟩
def F_won : Fd := ⟨2, 2, false, [.expr (.call 16 [.var 0]),
    .expr (.call 30 [.var 1]),
    .ret (.bin .Sub (.call 32 [.var 0, .var 1]) (.bin .Sub (.idx (.var 1) (.cst (.int 1))) (.idx (.var 1) (.cst (.int 0)))))]⟩
def F_ends_of : Fd := ⟨2, 3, false, [.ifs (.var 1) [.ret (.lc [2] (.nm 2) (.rng (.idx (.var 0) (.cst (.int 0)))) none (.bin .Sub (.var 2) (.call 18 [.var 0, .var 2])))] [],
    .ret (.lc [2] (.nm 2) (.rng (.idx (.var 0) (.cst (.int 0)))) none (.bin .Sub (.call 19 [.var 0, .var 2]) (.var 2)))]⟩
def F_most_won : Fd := ⟨1, 1, false, [.expr (.call 16 [.var 0]),
    .ret (.bin .Add (.bi .max [.call 75 [.idx (.var 0) (.cst (.int 0)), .cst (.bl true)]]) (.bi .max [.call 75 [.idx (.var 0) (.cst (.int 1)), .cst (.bl false)]]))]⟩
def F_most_lost : Fd := ⟨1, 1, false, [.expr (.call 16 [.var 0]),
    .ret (.bin .Sub (.bin .Sub (.cst (.int 0)) (.bi .min [.call 75 [.idx (.var 0) (.cst (.int 0)), .cst (.bl true)]])) (.bi .min [.call 75 [.idx (.var 0) (.cst (.int 1)), .cst (.bl false)]]))]⟩
def F_mean_of : Fd := ⟨1, 3, false, [.par 1 2 (.call 75 [.idx (.var 0) (.cst (.int 0)), .cst (.bl true)]) (.call 75 [.idx (.var 0) (.cst (.int 1)), .cst (.bl false)]),
    .ret (.call 73 [.bin .Add (.bin .Mult (.bi .sum [.var 1]) (.bi .len [.var 2])) (.bin .Mult (.bi .sum [.var 2]) (.bi .len [.var 1])), .bin .Mult (.bi .len [.var 1]) (.bi .len [.var 2])])]⟩
def F_mean_won : Fd := ⟨1, 1, false, [.expr (.call 16 [.var 0]),
    .ret (.call 78 [.var 0])]⟩
def F_won_day : Fd := ⟨2, 3, false, [.expr (.call 16 [.var 0]),
    .expr (.call 72 [.var 1, .bin .Sub (.cst (.int 0)) (.glb 2), .glb 2]),
    .for_ (.nm 2) (.seq (.call 49 [])) [.ifs (.cmp .Eq (.bin .Sub (.call 32 [.var 0, .var 2]) (.bin .Sub (.idx (.var 2) (.cst (.int 1))) (.idx (.var 2) (.cst (.int 0))))) (.var 1)) [.retv 2] []],
    .ret (.cst .non)]⟩
def F__law_terms : Fd := ⟨2, 4, false, [.par 2 3 (.bi .abs [.var 0]) (.var 1),
    .whil 1000 (.cmp .Gt (.var 3) (.cst (.int 0))) [.par 2 3 (.var 3) (.bin .Mod (.bi .int [.var 2]) (.var 3))],
    .ret (.tup [.bin .FloorDiv (.var 0) (.var 2), .bin .FloorDiv (.var 1) (.var 2)])]⟩
def F__law_ends : Fd := ⟨2, 6, false, [.set 2 (.ite (.var 1) (.idx (.var 0) (.cst (.int 0))) (.idx (.var 0) (.cst (.int 1)))),
    .set 3 (.lst []),
    .for_ (.nm 4) (.rng (.idx (.var 2) (.cst (.int 0)))) [.set 5 (.bin .Sub (.call 26 [.var 2, .var 4, .var 1]) (.var 4)),
    .app 3 (.ite (.var 1) (.bin .Sub (.cst (.int 0)) (.var 5)) (.var 5))],
    .retv 3]⟩
def F_steps_of : Fd := ⟨1, 7, false, [.set 1 (.lst []),
    .for_ (.nm 2) (.rng (.glb 2)) [.for_ (.nm 3) (.rng2 (.bin .Add (.var 2) (.cst (.int 1))) (.glb 2)) [.unp [.nm 4, .nm 5] (.lc [6] (.nm 6) (.seq (.tup [.var 3, .bin .Add (.var 3) (.cst (.int 1))])) none (.call 36 [.var 0, .tup [.tup [.var 2, .var 6]]])),
    .app 1 (.tup [.bin .Sub (.var 5) (.var 4), .tup [.var 2, .var 3]])]],
    .retv 1]⟩
def F_best_quarter : Fd := ⟨1, 5, false, [.expr (.call 16 [.var 0]),
    .set 1 (.call 84 [.var 0]),
    .set 2 (.bi .max [.lc [3, 4] (.tup [.nm 3, .nm 4]) (.seq (.var 1)) none (.var 3)]),
    .ret (.tup [.var 2, .idx (.lc [3, 4] (.tup [.nm 3, .nm 4]) (.seq (.var 1)) (some (.cmp .Eq (.var 3) (.var 2))) (.var 4)) (.cst (.int 0))])]⟩
def F_worse_quarter : Fd := ⟨1, 4, false, [.expr (.call 16 [.var 0]),
    .set 1 (.lc [2, 3] (.tup [.nm 2, .nm 3]) (.seq (.call 84 [.var 0])) (some (.cmp .Lt (.var 2) (.cst (.int 0)))) (.var 3)),
    .ret (.ite (.cmp .NotEq (.var 1) (.lst [])) (.idx (.var 1) (.cst (.int 0))) (.cst .non))]⟩
def F__law_more : Fd := ⟨1, 7, false, [.parO true 1 2 (.dic true) (.lst []),
    .for_ (.tup [.nm 3, .nm 4]) (.zip (.call 59 []) (.call 60 [.var 0])) [.store 1 (.var 3) (.call 69 [.var 0, .var 4])],
    .for_ (.tup [.nm 5, .nm 6]) (.seq (.call 59 [])) [.ifs (.cmp .Lt (.var 6) (.cst (.int 96))) [.app 2 (.tup [.bin .Sub (.idx (.var 1) (.tup [.var 5, .bin .Add (.var 6) (.cst (.int 1))])) (.idx (.var 1) (.tup [.var 5, .var 6])), .tup [.var 5, .var 6]])] []],
    .retv 2]⟩
def F_law_k07 : Fd := ⟨1, 17, false, [.for_ (.nm 1) (.rng (.cst (.int 3))) [.set 2 (.call 5 [.idx (.bin .Add (.var 0) (.lmul [.cst (.int 0)] (.cst (.int 3)))) (.var 1), .var 1]),
    .set 3 (.call 10 [.var 2]),
    .set 4 (.call 87 [.var 3]),
    .set 5 (.bi .max [.lc [6, 7] (.tup [.nm 6, .nm 7]) (.seq (.var 4)) none (.var 6)]),
    .set 8 (.lc [6, 7] (.tup [.nm 6, .nm 7]) (.seq (.var 4)) (some (.cmp .Eq (.var 6) (.var 5))) (.var 7)),
    .ifs (.not (.call 25 [.call 85 [.var 3], .tup [.var 5, .idx (.var 8) (.cst (.int 0))]])) [.ret (.cst (.bl false))] [],
    .set 9 (.lc [6, 7] (.tup [.nm 6, .nm 7]) (.seq (.var 4)) (some (.cmp .Lt (.var 6) (.cst (.int 0)))) (.var 7)),
    .ifs (.cmp .NotEq (.call 86 [.var 3]) (.ite (.cmp .NotEq (.var 9) (.lst [])) (.idx (.var 9) (.cst (.int 0))) (.cst .non))) [.ret (.cst (.bl false))] [],
    .set 10 (.bin .Add (.bin .Add (.slc (.var 3) none (some (.cst (.int 2)))) (.tup [.tup []])) (.slc (.var 3) (some (.cst (.int 3))) none)),
    .ifs (.cmp .IsNot (.call 86 [.var 10]) (.cst .non)) [.ret (.cst (.bl false))] [],
    .unp [.nm 11, .nm 12, .nm 13] (.idx (.var 3) (.cst (.int 0))),
    .set 14 (.bin .Add (.var 13) (.call 6 [.var 2, .bin .Sub (.var 11) (.var 13)])),
    .set 15 (.bin .Add (.tup [.tup [.var 11, .var 12, .var 14]]) (.slc (.var 10) (some (.cst (.int 1))) none)),
    .ifs (.cmp .IsNot (.call 55 [.var 15, .var 10]) (.cst (.bl true))) [.ret (.cst (.bl false))] [],
    .unp [.nm 11, .nm 12, .nm 13] (.idx (.var 3) (.cst (.int 1))),
    .set 14 (.bin .Add (.var 13) (.call 6 [.var 2, .bin .Sub (.var 11) (.var 13)])),
    .set 15 (.bin .Add (.bin .Add (.slc (.var 10) none (some (.cst (.int 1)))) (.tup [.tup [.var 11, .var 12, .var 14]])) (.slc (.var 10) (some (.cst (.int 2))) none)),
    .ifs (.cmp .IsNot (.call 55 [.var 15, .var 10]) (.cst (.bl true))) [.ret (.cst (.bl false))] []],
    .set 16 (.tup [.tup [.cst (.int 4), .cst (.str "up"), .cst (.int 1)], .tup [.cst (.int 4), .cst (.str "down"), .cst (.int 1)], .tup [.tup [.cst (.int 24), .cst (.int 2)]], .cst (.int 32), .cst .non]),
    .ifs (.or (.cmp .NotEq (.call 85 [.var 16]) (.tup [.cst (.int 12), .tup [.cst (.int 0), .cst (.int 38)]])) (.cmp .IsNot (.call 86 [.var 16]) (.cst .non))) [.ret (.cst (.bl false))] [],
    .ret (.cmp .Eq (.call 86 [.tup [.tup [.cst (.int 1), .cst (.str "down"), .cst (.int 0)], .tup [.cst (.int 1), .cst (.str "down"), .cst (.int 0)], .tup [.tup [.cst (.int 24), .cst (.int 2)]], .cst .non, .cst .non]]) (.tup [.cst (.int 0), .cst (.int 23)]))]⟩
def F_same_punches : Fd := ⟨2, 8, false, [.expr (.call 16 [.var 0]),
    .expr (.call 30 [.var 1]),
    .unp [.nm 2, .nm 3, .nm 4] (.call 47 [.var 0]),
    .set 5 (.lc [6] (.nm 6) (.rng (.idx (.var 1) (.cst (.int 1)))) (some (.cmp .Eq (.idx (.var 2) (.var 6)) (.idx (.var 2) (.idx (.var 1) (.cst (.int 0)))))) (.var 6)),
    .set 7 (.lc [6] (.nm 6) (.rng2 (.bin .Add (.idx (.var 1) (.cst (.int 0))) (.cst (.int 1))) (.bin .Add (.glb 2) (.cst (.int 1)))) (some (.cmp .Eq (.idx (.var 3) (.var 6)) (.idx (.var 3) (.idx (.var 1) (.cst (.int 1)))))) (.var 6)),
    .ret (.tup [.tup [.idx (.var 5) (.cst (.int 0)), .idx (.var 5) (.neg (.cst (.int 1)))], .tup [.idx (.var 7) (.cst (.int 0)), .idx (.var 7) (.neg (.cst (.int 1)))]])]⟩
def F_law_k08 : Fd := ⟨1, 16, false, [.for_ (.nm 1) (.rng (.cst (.int 8))) [.set 2 (.call 5 [.idx (.bin .Add (.var 0) (.lmul [.cst (.int 0)] (.cst (.int 8)))) (.var 1), .var 1]),
    .for_ (.nm 3) (.rng (.cst (.int 4))) [.unp [.nm 4, .nm 5] (.tup [.call 10 [.var 2], .call 43 [.var 2]]),
    .set 6 (.call 26 [.idx (.var 4) (.cst (.int 0)), .idx (.var 5) (.cst (.int 0)), .cst (.bl true)]),
    .set 7 (.lc [8] (.nm 8) (.rng (.idx (.var 5) (.cst (.int 1)))) (some (.cmp .Eq (.call 26 [.idx (.var 4) (.cst (.int 0)), .var 8, .cst (.bl true)]) (.var 6))) (.var 8)),
    .set 6 (.call 26 [.idx (.var 4) (.cst (.int 1)), .idx (.var 5) (.cst (.int 1)), .cst (.bl false)]),
    .set 9 (.lc [8] (.nm 8) (.rng2 (.bin .Add (.idx (.var 5) (.cst (.int 0))) (.cst (.int 1))) (.cst (.int 97))) (some (.cmp .Eq (.call 26 [.idx (.var 4) (.cst (.int 1)), .var 8, .cst (.bl false)]) (.var 6))) (.var 8)),
    .set 10 (.call 89 [.var 4, .var 5]),
    .ifs (.not (.call 25 [.var 10, .tup [.tup [.idx (.var 7) (.cst (.int 0)), .idx (.var 7) (.neg (.cst (.int 1)))], .tup [.idx (.var 9) (.cst (.int 0)), .idx (.var 9) (.neg (.cst (.int 1)))]]])) [.ret (.cst (.bl false))] [],
    .unp [.nm 11, .nm 12] (.idx (.var 10) (.cst (.int 0))),
    .set 13 (.bin .Add (.var 11) (.call 6 [.var 2, .bin .Add (.bin .Sub (.var 12) (.var 11)) (.cst (.int 1))])),
    .ifs (.cmp .NotEq (.call 37 [.var 4, .tup [.var 13, .idx (.var 5) (.cst (.int 1))]]) (.call 37 [.var 4, .var 5])) [.ret (.cst (.bl false))] [],
    .unp [.nm 11, .nm 12] (.idx (.var 10) (.cst (.int 1))),
    .set 14 (.bin .Add (.var 11) (.call 6 [.var 2, .bin .Add (.bin .Sub (.var 12) (.var 11)) (.cst (.int 1))])),
    .ifs (.cmp .NotEq (.call 37 [.var 4, .tup [.idx (.var 5) (.cst (.int 0)), .var 14]]) (.call 37 [.var 4, .var 5])) [.ret (.cst (.bl false))] []]],
    .set 15 (.tup [.tup [.cst (.int 4), .cst (.str "up"), .cst (.int 1)], .tup [.cst (.int 4), .cst (.str "down"), .cst (.int 1)], .tup [.tup [.cst (.int 24), .cst (.int 2)]], .cst (.int 32), .cst .non]),
    .ifs (.cmp .NotEq (.call 89 [.var 15, .tup [.cst (.int 33), .cst (.int 71)]]) (.tup [.tup [.cst (.int 30), .cst (.int 33)], .tup [.cst (.int 71), .cst (.int 74)]])) [.ret (.cst (.bl false))] [],
    .ret (.and (.cmp .Eq (.call 89 [.var 15, .tup [.cst (.int 0), .cst (.int 1)]]) (.tup [.tup [.cst (.int 0), .cst (.int 0)], .tup [.cst (.int 1), .cst (.int 2)]])) (.cmp .Eq (.call 89 [.var 15, .tup [.cst (.int 30), .cst (.int 31)]]) (.tup [.tup [.cst (.int 30), .cst (.int 30)], .tup [.cst (.int 31), .cst (.int 34)]])))]⟩
def F_pay_of : Fd := ⟨3, 3, false, [.ret (.bin .Add (.bin .Add (.bin .Mult (.cst (.int 2)) (.var 1)) (.bin .Mult (.cst (.int 3)) (.var 2))) (.ite (.cmp .Is (.idx (.var 0) (.cst (.int 4))) (.cst .non)) (.cst (.int 0)) (.bi .max [.cst (.int 0), .bin .Sub (.var 1) (.idx (.var 0) (.cst (.int 4)))])))]⟩
def F_most_paid : Fd := ⟨3, 10, false, [.expr (.call 16 [.var 0]),
    .expr (.call 72 [.var 1, .cst (.int 1), .cst (.int 2)]),
    .expr (.call 72 [.var 2, .cst (.int 1), .bin .Mult (.cst (.int 2)) (.glb 2)]),
    .parO false 3 4 (.call 91 [.var 0]) (.lst []),
    .ifs (.cmp .Eq (.var 1) (.cst (.int 1))) [.set 4 (.ite (.cmp .LtE (.var 2) (.glb 2)) (.lc [5, 6] (.tup [.nm 5, .nm 6]) (.seq (.idx (.var 3) (.var 2))) none (.call 92 [.var 0, .var 5, .var 6])) (.lst []))] [.for_ (.nm 7) (.rng2 (.bi .max [.cst (.int 1), .bin .Sub (.var 2) (.glb 2)]) (.bin .Add (.bi .min [.glb 2, .bin .Sub (.var 2) (.cst (.int 1))]) (.cst (.int 1)))) [.for_ (.tup [.nm 5, .nm 6]) (.seq (.idx (.var 3) (.var 7))) [.for_ (.tup [.nm 8, .nm 9]) (.seq (.idx (.var 3) (.bin .Sub (.var 2) (.var 7)))) [.app 4 (.call 92 [.var 0, .bin .Add (.var 5) (.var 8), .bin .Add (.var 6) (.var 9)])]]]],
    .ret (.ite (.cmp .NotEq (.var 4) (.lst [])) (.bi .max [.var 4]) (.cst .non))]⟩
def F_least_time : Fd := ⟨2, 4, false, [.expr (.call 16 [.var 0]),
    .expr (.call 72 [.var 1, .cst (.int 1), .glb 5]),
    .set 2 (.cst .non),
    .for_ (.nm 3) (.seq (.call 49 [])) [.ifs (.and (.cmp .GtE (.call 36 [.var 0, .tup [.var 3]]) (.var 1)) (.or (.cmp .Is (.var 2) (.cst .non)) (.cmp .Lt (.bin .Sub (.idx (.var 3) (.cst (.int 1))) (.idx (.var 3) (.cst (.int 0)))) (.idx (.var 2) (.cst (.int 0)))))) [.set 2 (.tup [.bin .Sub (.idx (.var 3) (.cst (.int 1))) (.idx (.var 3) (.cst (.int 0))), .var 3])] []],
    .retv 2]⟩
def F__law_manner__k09 : Fd := ⟨1, 6, true, [.unp [.nm 1, .nm 2] (.tup [.tup [], .cst (.int 0)]),
    .for_ (.nm 3) (.rng (.call 6 [.var 0, .cst (.int 3)])) [.set 2 (.bin .Add (.bin .Add (.var 2) (.cst (.int 1))) (.call 6 [.var 0, .cst (.int 40)])),
    .set 1 (.bin .Add (.var 1) (.tup [.tup [.var 2, .bin .Add (.cst (.int 1)) (.call 6 [.var 0, .cst (.int 8)])]]))],
    .set 4 (.ite (.cmp .Eq (.call 6 [.var 0, .cst (.int 2)]) (.cst (.int 0))) (.cst .non) (.bin .Add (.cst (.int 1)) (.call 6 [.var 0, .cst (.int 60)]))),
    .set 5 (.ite (.cmp .Eq (.call 6 [.var 0, .cst (.int 2)]) (.cst (.int 0))) (.cst .non) (.bin .Add (.cst (.int 1)) (.call 6 [.var 0, .cst (.int 300)]))),
    .ret (.tup [.call 9 [.var 0], .call 9 [.var 0], .var 1, .var 4, .var 5])]⟩
def F__law_most : Fd := ⟨4, 8, false, [.set 4 (.lst []),
    .ifs (.cmp .Eq (.var 2) (.cst (.int 1))) [.set 4 (.ite (.cmp .Lt (.var 3) (.cst (.int 97))) (.idx (.var 1) (.var 3)) (.lst []))] [.for_ (.nm 5) (.rng2 (.cst (.int 1)) (.cst (.int 97))) [.ifs (.chain .LtE .LtE (.cst (.int 1)) (.bin .Sub (.var 3) (.var 5)) (.cst (.int 96))) [.for_ (.nm 6) (.seq (.idx (.var 1) (.var 5))) [.set 4 (.bin .Add (.var 4) (.lc [7] (.nm 7) (.seq (.idx (.var 1) (.bin .Sub (.var 3) (.var 5)))) none (.tup [.bin .Add (.idx (.var 6) (.cst (.int 0))) (.idx (.var 7) (.cst (.int 0))), .bin .Add (.idx (.var 6) (.cst (.int 1))) (.idx (.var 7) (.cst (.int 1)))])))]] []]],
    .ret (.ite (.cmp .NotEq (.var 4) (.lst [])) (.bi .max [.lc [5] (.nm 5) (.seq (.var 4)) none (.call 69 [.var 0, .var 5])]) (.cst .non))]⟩
def F_law_k09 : Fd := ⟨1, 14, false, [.for_ (.nm 1) (.rng (.cst (.int 4))) [.set 2 (.call 5 [.idx (.bin .Add (.var 0) (.lmul [.cst (.int 0)] (.cst (.int 4)))) (.var 1), .var 1]),
    .set 3 (.call 95 [.var 2]),
    .set 4 (.call 96 [.var 3]),
    .for_ (.nm 5) (.rng (.cst (.int 3))) [.set 6 (.bin .Add (.cst (.int 1)) (.call 6 [.var 2, .cst (.int 192)])),
    .for_ (.nm 7) (.seq (.tup [.cst (.int 1), .cst (.int 2)])) [.ifs (.cmp .NotEq (.call 93 [.var 3, .var 7, .var 6]) (.call 97 [.var 3, .var 4, .var 7, .var 6])) [.ret (.cst (.bl false))] []],
    .par 8 9 (.bin .Add (.cst (.int 1)) (.call 6 [.var 2, .cst (.int 300)])) (.cst .non),
    .for_ (.tup [.nm 10, .nm 11]) (.zip (.call 59 []) (.call 60 [.var 3])) [.ifs (.and (.cmp .GtE (.call 69 [.var 3, .var 11]) (.var 8)) (.or (.cmp .Is (.var 9) (.cst .non)) (.cmp .Lt (.bin .Sub (.idx (.var 10) (.cst (.int 1))) (.idx (.var 10) (.cst (.int 0)))) (.idx (.var 9) (.cst (.int 0)))))) [.set 9 (.tup [.bin .Sub (.idx (.var 10) (.cst (.int 1))) (.idx (.var 10) (.cst (.int 0))), .var 10])] []],
    .ifs (.not (.call 25 [.call 94 [.var 3, .var 8], .var 9])) [.ret (.cst (.bl false))] []],
    .for_ (.nm 12) (.seq (.tup [.cst (.int 0), .cst .non, .cst (.bl true), .cst (.str "1")])) [.ifs (.cmp .NotEq (.tri (.call 93 [.var 3, .var 12, .cst .non])) (.cst (.str "Number+"))) [.ret (.cst (.bl false))] [],
    .ifs (.cmp .NotEq (.tri (.call 94 [.var 3, .var 12])) (.cst (.str "Number+"))) [.ret (.cst (.bl false))] []],
    .ifs (.cmp .NotEq (.tri (.call 93 [.var 3, .cst (.int 3), .cst (.int 5)])) (.cst (.str "Number+"))) [.ret (.cst (.bl false))] [],
    .ifs (.cmp .NotEq (.tri (.call 93 [.var 3, .cst (.int 2), .cst (.int 193)])) (.cst (.str "Number+"))) [.ret (.cst (.bl false))] []],
    .set 13 (.tup [.tup [.cst (.int 4), .cst (.str "near"), .cst (.int 0)], .tup [.cst (.int 4), .cst (.str "near"), .cst (.int 0)], .tup [], .cst .non, .cst .non]),
    .ifs (.cmp .NotEq (.lst [.call 93 [.var 13, .cst (.int 1), .cst (.int 10)], .call 93 [.var 13, .cst (.int 2), .cst (.int 10)], .call 93 [.var 13, .cst (.int 1), .cst (.int 97)]]) (.lst [.cst (.int 24), .cst (.int 32), .cst .non])) [.ret (.cst (.bl false))] [],
    .ret (.and (.cmp .Eq (.call 94 [.var 13, .cst (.int 8)]) (.tup [.cst (.int 1), .tup [.cst (.int 1), .cst (.int 2)]])) (.and (.cmp .Is (.call 94 [.var 13, .cst (.int 200)]) (.cst .non)) (.cmp .Is (.call 93 [.var 13, .cst (.int 2), .cst (.int 1)]) (.cst .non))))]⟩
def F_same_graces : Fd := ⟨1, 8, false, [.expr (.call 16 [.var 0]),
    .set 1 (.lst []),
    .for_ (.nm 2) (.rng (.cst (.int 2))) [.unp [.nm 3, .nm 4, .nm 5] (.idx (.var 0) (.var 2)),
    .set 6 (.lst []),
    .for_ (.nm 7) (.rng (.var 3)) [.ifs (.call 64 [.var 0, .bin .Add (.bin .Add (.slc (.var 0) none (some (.var 2))) (.tup [.tup [.var 3, .var 4, .var 7]])) (.slc (.var 0) (some (.bin .Add (.var 2) (.cst (.int 1)))) none)]) [.app 6 (.var 7)] []],
    .app 1 (.var 6)],
    .ret (.tup [.idx (.var 1) (.cst (.int 0)), .idx (.var 1) (.cst (.int 1))])]⟩
def F_same_sides : Fd := ⟨1, 8, false, [.expr (.call 16 [.var 0]),
    .set 1 (.lst []),
    .for_ (.nm 2) (.rng (.cst (.int 2))) [.unp [.nm 3, .nm 4, .nm 5] (.idx (.var 0) (.var 2)),
    .set 6 (.lst []),
    .for_ (.nm 7) (.seq (.glb 1)) [.ifs (.call 64 [.var 0, .bin .Add (.bin .Add (.slc (.var 0) none (some (.var 2))) (.tup [.tup [.var 3, .var 7, .var 5]])) (.slc (.var 0) (some (.bin .Add (.var 2) (.cst (.int 1)))) none)]) [.app 6 (.var 7)] []],
    .app 1 (.var 6)],
    .ret (.tup [.idx (.var 1) (.cst (.int 0)), .idx (.var 1) (.cst (.int 1))])]⟩
def F_needless_breaks : Fd := ⟨1, 4, false, [.expr (.call 16 [.var 0]),
    .set 1 (.lst []),
    .for_ (.nm 2) (.rng (.bi .len [.idx (.var 0) (.cst (.int 2))])) [.set 3 (.bin .Add (.slc (.idx (.var 0) (.cst (.int 2))) none (some (.var 2))) (.slc (.idx (.var 0) (.cst (.int 2))) (some (.bin .Add (.var 2) (.cst (.int 1)))) none)),
    .ifs (.call 64 [.var 0, .bin .Add (.bin .Add (.slc (.var 0) none (some (.cst (.int 2)))) (.tup [.var 3])) (.slc (.var 0) (some (.cst (.int 3))) none)]) [.app 1 (.var 2)] []],
    .retv 1]⟩
def F_is_needless : Fd := ⟨2, 3, false, [.expr (.call 16 [.var 0]),
    .ifs (.or (.not (.inst (.var 1) "str")) (.cmp .NotIn (.var 1) (.tup [.cst (.str "day"), .cst (.str "week")]))) [.raise 6] [],
    .set 2 (.ite (.cmp .Eq (.var 1) (.cst (.str "day"))) (.cst (.int 3)) (.cst (.int 4))),
    .ret (.call 64 [.var 0, .bin .Add (.bin .Add (.slc (.var 0) none (some (.var 2))) (.tup [.cst .non])) (.slc (.var 0) (some (.bin .Add (.var 2) (.cst (.int 1)))) none)])]⟩
def F__law_alike : Fd := ⟨2, 5, false, [.par 2 3 (.call 60 [.var 0]) (.call 60 [.var 1]),
    .ifs (.and (.cmp .Eq (.var 2) (.var 3)) (.cmp .Eq (.idx (.var 0) (.cst (.int 4))) (.idx (.var 1) (.cst (.int 4))))) [.ret (.cst (.bl true))] [],
    .ifs (.cmp .NotEq (.lc [4] (.nm 4) (.seq (.var 2)) none (.call 69 [.var 0, .var 4])) (.lc [4] (.nm 4) (.seq (.var 3)) none (.call 69 [.var 1, .var 4]))) [.ret (.cst (.bl false))] [],
    .ret (.and (.cmp .Eq (.call 53 [.var 0, .var 1]) (.cst (.int 0))) (.cmp .Eq (.call 53 [.var 1, .var 0]) (.cst (.int 0))))]⟩
def F__law_right : Fd := ⟨1, 10, false, [.parO true 1 2 (.lst []) (.lst []),
    .for_ (.nm 3) (.rng (.cst (.int 2))) [.unp [.nm 4, .nm 5, .nm 6] (.idx (.var 0) (.var 3)),
    .set 7 (.lc [8] (.nm 8) (.rng (.var 4)) none (.tup [.var 4, .var 5, .var 8])),
    .app 1 (.lc [9] (.nm 9) (.seq (.var 7)) (some (.call 103 [.var 0, .bin .Add (.bin .Add (.slc (.var 0) none (some (.var 3))) (.tup [.var 9])) (.slc (.var 0) (some (.bin .Add (.var 3) (.cst (.int 1)))) none)])) (.idx (.var 9) (.cst (.int 2)))),
    .set 7 (.lc [8] (.nm 8) (.seq (.tup [.cst (.str "down"), .cst (.str "near"), .cst (.str "up")])) none (.tup [.var 4, .var 8, .var 6])),
    .app 2 (.lc [9] (.nm 9) (.seq (.var 7)) (some (.call 103 [.var 0, .bin .Add (.bin .Add (.slc (.var 0) none (some (.var 3))) (.tup [.var 9])) (.slc (.var 0) (some (.bin .Add (.var 3) (.cst (.int 1)))) none)])) (.idx (.var 9) (.cst (.int 1))))],
    .ret (.and (.call 25 [.call 99 [.var 0], .bi .tuple [.var 1]]) (.call 25 [.call 100 [.var 0], .bi .tuple [.var 2]]))]⟩
def F_law_k10 : Fd := ⟨1, 8, false, [.set 1 (.call 5 [.idx (.bin .Add (.var 0) (.lst [.cst (.int 0)])) (.cst (.int 0)), .cst (.int 0)]),
    .set 2 (.call 10 [.var 1]),
    .ifs (.cmp .Gt (.call 6 [.var 1, .cst (.int 3)]) (.cst (.int 0))) [.set 2 (.bin .Add (.slc (.var 2) none (some (.cst (.int 4)))) (.tup [.cst .non]))] [],
    .set 3 (.bin .Add (.bin .Add (.tup [.tup [.bi .min [.idx (.idx (.var 2) (.cst (.int 0))) (.cst (.int 0)), .cst (.int 4)], .idx (.idx (.var 2) (.cst (.int 0))) (.cst (.int 1)), .cst (.int 0)], .tup [.bi .min [.idx (.idx (.var 2) (.cst (.int 1))) (.cst (.int 0)), .cst (.int 4)], .idx (.idx (.var 2) (.cst (.int 1))) (.cst (.int 1)), .cst (.int 0)]]) (.slc (.var 2) (some (.cst (.int 2))) (some (.cst (.int 4))))) (.tup [.cst .non])),
    .ifs (.not (.call 104 [.var 3])) [.ret (.cst (.bl false))] [],
    .set 4 (.lc [5] (.nm 5) (.rng (.bi .len [.idx (.var 2) (.cst (.int 2))])) (some (.call 103 [.var 2, .bin .Add (.bin .Add (.slc (.var 2) none (some (.cst (.int 2)))) (.tup [.bin .Add (.slc (.idx (.var 2) (.cst (.int 2))) none (some (.var 5))) (.slc (.idx (.var 2) (.cst (.int 2))) (some (.bin .Add (.var 5) (.cst (.int 1)))) none)])) (.slc (.var 2) (some (.cst (.int 3))) none)])) (.var 5)),
    .ifs (.cmp .NotEq (.call 101 [.var 2]) (.var 4)) [.ret (.cst (.bl false))] [],
    .ifs (.not (.call 56 [.call 102 [.var 2, .cst (.str "day")], .call 103 [.var 2, .bin .Add (.slc (.var 2) none (some (.cst (.int 3)))) (.tup [.cst .non, .idx (.var 2) (.cst (.int 4))])]])) [.ret (.cst (.bl false))] [],
    .ifs (.not (.call 56 [.call 102 [.var 2, .cst (.str "week")], .call 103 [.var 2, .bin .Add (.slc (.var 2) none (some (.cst (.int 4)))) (.tup [.cst .non])]])) [.ret (.cst (.bl false))] [],
    .for_ (.nm 6) (.seq (.tup [.cst (.str ""), .cst (.str "days"), .cst .non, .cst (.int 3)])) [.ifs (.cmp .NotEq (.tri (.call 102 [.var 2, .var 6])) (.cst (.str "Part+"))) [.ret (.cst (.bl false))] []],
    .set 7 (.tup [.tup [.cst (.int 4), .cst (.str "near"), .cst (.int 0)], .tup [.cst (.int 4), .cst (.str "near"), .cst (.int 0)], .tup [], .cst .non, .cst .non]),
    .ifs (.or (.cmp .NotEq (.call 99 [.var 7]) (.tup [.lst [.cst (.int 0), .cst (.int 1)], .lst [.cst (.int 0), .cst (.int 1), .cst (.int 2)]])) (.cmp .NotEq (.call 100 [.var 7]) (.tup [.lst [.cst (.str "near")], .lst [.cst (.str "near")]]))) [.ret (.cst (.bl false))] [],
    .ifs (.cmp .NotEq (.call 101 [.bin .Add (.slc (.var 7) none (some (.cst (.int 2)))) (.tup [.tup [.tup [.cst (.int 93), .cst (.int 2)], .tup [.cst (.int 96), .cst (.int 2)]], .cst .non, .cst .non])]) (.lst [.cst (.int 0), .cst (.int 1)])) [.ret (.cst (.bl false))] [],
    .ret (.and (.cmp .Is (.call 102 [.var 7, .cst (.str "day")]) (.cst (.bl true))) (.cmp .Is (.call 102 [.bin .Add (.slc (.var 7) none (some (.cst (.int 4)))) (.tup [.cst (.int 200)]), .cst (.str "week")]) (.cst (.bl false))))]⟩
def F_numbers_of : Fd := ⟨1, 3, false, [.set 1 (.dic true),
    .for_ (.nm 2) (.seq (.call 48 [.var 0])) [.store 1 (.var 2) (.bin .Add (.get (.var 1) (.var 2) (.cst (.int 0))) (.cst (.int 1)))],
    .retv 1]⟩
def F_pays : Fd := ⟨1, 1, false, [.expr (.call 16 [.var 0]),
    .ret (.call 108 [.var 0])]⟩
def F_count_weeks : Fd := ⟨3, 14, false, [.expr (.call 16 [.var 0]),
    .expr (.call 72 [.var 1, .cst (.int 0), .cst (.int 2)]),
    .expr (.call 72 [.var 2, .cst (.int 0), .glb 6]),
    .par 3 4 (.dic1 (.tup [.cst (.int 0), .cst (.int 0)]) (.cst (.int 1))) (.call 106 [.var 0]),
    .for_ (.nm 5) (.rng (.var 1)) [.set 6 (.dic true),
    .for_ (.tup [.tup [.nm 7, .nm 8], .nm 9]) (.items (.var 3)) [.for_ (.tup [.tup [.nm 10, .nm 11], .nm 12]) (.items (.var 4)) [.set 13 (.tup [.bin .Add (.var 7) (.var 10), .bin .Add (.var 8) (.var 11)]),
    .store 6 (.var 13) (.bin .Add (.get (.var 6) (.var 13) (.cst (.int 0))) (.bin .Mult (.var 9) (.var 12)))]],
    .set 3 (.var 6)],
    .ret (.bi .sum [.lc [9, 7, 8] (.tup [.tup [.nm 7, .nm 8], .nm 9]) (.items (.var 3)) (some (.cmp .Eq (.call 92 [.var 0, .var 7, .var 8]) (.var 2))) (.var 9)])]⟩
def F_day_for : Fd := ⟨2, 3, false, [.expr (.call 16 [.var 0]),
    .expr (.call 72 [.var 1, .cst (.int 0), .glb 6]),
    .for_ (.nm 2) (.seq (.call 49 [])) [.ifs (.cmp .Eq (.call 36 [.var 0, .tup [.var 2]]) (.var 1)) [.retv 2] []],
    .ret (.cst .non)]⟩
def F_most_day : Fd := ⟨1, 3, false, [.expr (.call 16 [.var 0]),
    .set 1 (.idx (.call 108 [.var 0]) (.neg (.cst (.int 1)))),
    .ret (.tup [.var 1, .idx (.lc [2] (.nm 2) (.seq (.call 49 [])) (some (.cmp .Eq (.call 36 [.var 0, .tup [.var 2]]) (.var 1))) (.var 2)) (.cst (.int 0))])]⟩
def F__law_numbers : Fd := ⟨1, 3, false, [.set 1 (.dic false),
    .for_ (.nm 2) (.seq (.call 60 [.var 0])) [.store 1 (.var 2) (.bin .Add (.get (.var 1) (.var 2) (.cst (.int 0))) (.cst (.int 1)))],
    .retv 1]⟩
def F__law_twice : Fd := ⟨1, 6, false, [.parO false 1 2 (.call 112 [.var 0]) (.dic false),
    .for_ (.nm 3) (.seq (.var 1)) [.for_ (.nm 4) (.seq (.var 1)) [.set 5 (.call 69 [.var 0, .tup [.bin .Add (.idx (.var 3) (.cst (.int 0))) (.idx (.var 4) (.cst (.int 0))), .bin .Add (.idx (.var 3) (.cst (.int 1))) (.idx (.var 4) (.cst (.int 1)))]]),
    .store 2 (.var 5) (.bin .Add (.get (.var 2) (.var 5) (.cst (.int 0))) (.bin .Mult (.idx (.var 1) (.var 3)) (.idx (.var 1) (.var 4))))]],
    .retv 2]⟩
def F__law_written : Fd := ⟨0, 3, false, [.unp [.nm 0, .nm 1] (.tup [.tup [.tup [.cst (.int 1), .cst (.str "down"), .cst (.int 0)], .tup [.cst (.int 1), .cst (.str "down"), .cst (.int 0)], .tup [], .cst .non, .cst .non], .tup [.tup [.cst (.int 4), .cst (.str "near"), .cst (.int 0)], .tup [.cst (.int 4), .cst (.str "near"), .cst (.int 0)], .tup [], .cst .non, .cst .non]]),
    .ifs (.or (.cmp .NotEq (.call 109 [.var 0, .cst (.int 1), .cst (.int 2)]) (.cst (.int 96))) (.or (.cmp .NotEq (.call 109 [.var 0, .cst (.int 2), .cst (.int 4)]) (.cst (.int 9216))) (.cmp .NotEq (.bi .len [.call 107 [.var 1]]) (.cst (.int 25))))) [.ret (.cst (.bl false))] [],
    .set 2 (.tup [.tup [.cst (.int 4), .cst (.str "up"), .cst (.int 1)], .tup [.cst (.int 4), .cst (.str "down"), .cst (.int 1)], .tup [.tup [.cst (.int 24), .cst (.int 2)]], .cst (.int 32), .cst .non]),
    .ret (.and (.cmp .Eq (.call 111 [.var 2]) (.tup [.cst (.int 250), .tup [.cst (.int 0), .cst (.int 95)]])) (.and (.cmp .Eq (.call 110 [.var 0, .cst (.int 4)]) (.tup [.cst (.int 0), .cst (.int 2)])) (.cmp .Is (.call 110 [.var 1, .cst (.int 4)]) (.cst .non))))]⟩
def F_law_k11 : Fd := ⟨1, 12, false, [.for_ (.nm 1) (.rng (.cst (.int 3))) [.set 2 (.call 5 [.idx (.bin .Add (.var 0) (.lmul [.cst (.int 0)] (.cst (.int 3)))) (.var 1), .var 1]),
    .set 3 (.call 10 [.var 2]),
    .parO true 4 5 (.dic false) (.dic false),
    .for_ (.tup [.nm 6, .nm 7]) (.zip (.call 59 []) (.call 60 [.var 3])) [.set 8 (.call 69 [.var 3, .var 7]),
    .store 5 (.var 8) (.bin .Add (.get (.var 5) (.var 8) (.cst (.int 0))) (.cst (.int 1))),
    .ifs (.cmp .NotIn (.var 8) (.var 4)) [.store 4 (.var 8) (.var 6)] []],
    .set 9 (.bi .sorted [.var 5]),
    .ifs (.or (.not (.call 25 [.call 107 [.var 3], .var 9])) (.not (.call 25 [.call 111 [.var 3], .tup [.idx (.var 9) (.neg (.cst (.int 1))), .idx (.var 4) (.idx (.var 9) (.neg (.cst (.int 1))))]]))) [.ret (.cst (.bl false))] [],
    .ifs (.cmp .NotEq (.bi .sum [.lc [8] (.nm 8) (.seq (.slc (.var 9) none (some (.cst (.int 12))))) none (.call 109 [.var 3, .cst (.int 1), .var 8])]) (.bi .sum [.lc [8] (.nm 8) (.seq (.slc (.var 9) none (some (.cst (.int 12))))) none (.idx (.var 5) (.var 8))])) [.ret (.cst (.bl false))] [],
    .for_ (.nm 8) (.seq (.tup [.call 7 [.var 2, .var 9], .idx (.var 9) (.cst (.int 0)), .idx (.var 9) (.neg (.cst (.int 1))), .call 6 [.var 2, .cst (.int 300)], .cst (.int 1500)])) [.ifs (.or (.cmp .NotEq (.call 109 [.var 3, .cst (.int 1), .var 8]) (.get (.var 5) (.var 8) (.cst (.int 0)))) (.cmp .NotEq (.call 110 [.var 3, .var 8]) (.get (.var 4) (.var 8) (.cst .non)))) [.ret (.cst (.bl false))] []],
    .set 10 (.call 113 [.var 3]),
    .ifs (.cmp .NotEq (.bi .sum [.lc [8] (.nm 8) (.seq (.var 10)) none (.idx (.var 10) (.var 8))]) (.bin .Mult (.cst (.int 4656)) (.cst (.int 4656)))) [.ret (.cst (.bl false))] [],
    .set 8 (.call 7 [.var 2, .bin .Add (.bi .sorted [.var 10]) (.lst [.call 6 [.var 2, .cst (.int 600)]])]),
    .ifs (.cmp .NotEq (.call 109 [.var 3, .cst (.int 2), .var 8]) (.get (.var 10) (.var 8) (.cst (.int 0)))) [.ret (.cst (.bl false))] [],
    .ifs (.or (.cmp .NotEq (.call 109 [.var 3, .cst (.int 0), .cst (.int 0)]) (.cst (.int 1))) (.cmp .NotEq (.call 109 [.var 3, .cst (.int 0), .cst (.int 2)]) (.cst (.int 0)))) [.ret (.cst (.bl false))] [],
    .for_ (.nm 11) (.seq (.tup [.neg (.cst (.int 1)), .cst (.int 3), .cst .non, .cst (.bl true)])) [.ifs (.cmp .NotEq (.tri (.call 109 [.var 3, .var 11, .cst .non])) (.cst (.str "Number+"))) [.ret (.cst (.bl false))] []],
    .for_ (.nm 11) (.seq (.tup [.neg (.cst (.int 1)), .cst (.int 1501), .cst .non, .cst (.bl true)])) [.ifs (.cmp .NotEq (.tri (.call 110 [.var 3, .var 11])) (.cst (.str "Number+"))) [.ret (.cst (.bl false))] []]],
    .ret (.call 114 [])]⟩
def F_need_manners_of : Fd := ⟨1, 2, false, [.ifs (.or (.not (.inst (.var 0) "tuple")) (.not (.chain .LtE .LtE (.cst (.int 1)) (.bi .len [.var 0]) (.glb 7)))) [.raise 0] [],
    .ifs (.not (.bi .all [.lc [1] (.nm 1) (.seq (.var 0)) none (.call 3 [.var 1])])) [.raise 0] []]⟩
def F_need_seen : Fd := ⟨1, 4, false, [.ifs (.or (.not (.inst (.var 0) "tuple")) (.cmp .Gt (.bi .len [.var 0]) (.glb 8))) [.raise 5] [],
    .ifs (.not (.bi .all [.lc [1] (.nm 1) (.seq (.var 0)) none (.and (.inst (.var 1) "tuple") (.cmp .Eq (.bi .len [.var 1]) (.cst (.int 2))))])) [.raise 5] [],
    .ifs (.not (.bi .all [.lc [2, 3] (.tup [.nm 2, .nm 3]) (.seq (.var 0)) none (.and (.call 29 [.var 2]) (.call 0 [.var 3, .cst (.int 0), .glb 6]))])) [.raise 5] []]⟩
def F_explains : Fd := ⟨2, 4, false, [.ret (.bi .all [.lc [2, 3] (.tup [.nm 2, .nm 3]) (.seq (.var 1)) none (.cmp .Eq (.call 36 [.var 0, .var 2]) (.var 3))])]⟩
def F_fitting : Fd := ⟨2, 4, false, [.expr (.call 116 [.var 0]),
    .expr (.call 117 [.var 1]),
    .ret (.lc [2, 3] (.tup [.nm 2, .nm 3]) (.enum (.var 0)) (some (.call 118 [.var 3, .var 1])) (.var 2))]⟩
def F_telling_day : Fd := ⟨1, 10, false, [.expr (.call 116 [.var 0]),
    .set 1 (.lc [3] (.nm 3) (.seq (.call 49 [])) none (.lc [2] (.nm 2) (.seq (.var 0)) none (.call 36 [.var 2, .tup [.var 3]]))),
    .set 4 (.lc2 [5, 6] [6] (.nm 5) (.rng (.bi .len [.var 0])) (.nm 6) (.rng (.var 5)) none (.tup [.var 5, .var 6])),
    .set 7 (.lc [8] (.nm 8) (.seq (.var 4)) (some (.bi .any [.lc [9] (.nm 9) (.seq (.var 1)) none (.cmp .NotEq (.idx (.var 9) (.idx (.var 8) (.cst (.int 0)))) (.idx (.var 9) (.idx (.var 8) (.cst (.int 1)))))])) (.var 8)),
    .for_ (.tup [.nm 3, .nm 9]) (.zip (.call 49 []) (.var 1)) [.ifs (.bi .all [.lc [5, 6] (.tup [.nm 5, .nm 6]) (.seq (.var 7)) none (.cmp .NotEq (.idx (.var 9) (.var 5)) (.idx (.var 9) (.var 6)))]) [.retv 3] []],
    .ret (.cst .non)]⟩
def F__law_telling : Fd := ⟨1, 9, false, [.set 1 (.lst []),
    .for_ (.nm 2) (.seq (.var 0)) [.app 1 (.lc [3] (.nm 3) (.seq (.call 60 [.var 2])) none (.call 69 [.var 2, .var 3]))],
    .set 4 (.lst []),
    .for_ (.nm 5) (.rng (.bi .len [.var 0])) [.set 4 (.bin .Add (.var 4) (.lc [6] (.nm 6) (.rng (.var 5)) (some (.cmp .NotEq (.idx (.var 1) (.var 5)) (.idx (.var 1) (.var 6)))) (.tup [.var 5, .var 6])))],
    .for_ (.tup [.nm 7, .nm 8]) (.enum (.call 59 [])) [.ifs (.cmp .Eq (.lc [5, 6] (.tup [.nm 5, .nm 6]) (.seq (.var 4)) (some (.cmp .Eq (.idx (.idx (.var 1) (.var 5)) (.var 7)) (.idx (.idx (.var 1) (.var 6)) (.var 7)))) (.cst (.int 1))) (.lst [])) [.retv 8] []],
    .ret (.cst .non)]⟩
def F_law_k12 : Fd := ⟨1, 17, false, [.for_ (.nm 1) (.rng (.cst (.int 4))) [.set 2 (.call 5 [.idx (.bin .Add (.var 0) (.lmul [.cst (.int 0)] (.cst (.int 4)))) (.var 1), .var 1]),
    .set 3 (.call 10 [.var 2]),
    .set 4 (.slc (.tup [.var 3, .call 58 [.var 2, .var 3], .call 58 [.var 2, .var 3], .call 10 [.var 2]]) none (some (.bin .Add (.cst (.int 1)) (.call 6 [.var 2, .cst (.int 4)])))),
    .ifs (.cmp .NotEq (.call 120 [.var 4]) (.call 121 [.var 4])) [.ret (.cst (.bl false))] [],
    .par 5 6 (.call 7 [.var 2, .var 4]) (.tup []),
    .for_ (.nm 7) (.rng (.call 6 [.var 2, .cst (.int 5)])) [.set 8 (.call 44 [.var 2, .cst (.int 5)]),
    .set 6 (.bin .Add (.var 6) (.tup [.tup [.var 8, .call 57 [.var 5, .var 8]]]))],
    .set 9 (.lst []),
    .for_ (.tup [.nm 10, .nm 11]) (.enum (.var 4)) [.ifs (.cmp .Eq (.lc [8, 12] (.tup [.nm 8, .nm 12]) (.seq (.var 6)) (some (.cmp .NotEq (.call 57 [.var 11, .var 8]) (.var 12))) (.cst (.int 1))) (.lst [])) [.app 9 (.var 10)] []],
    .ifs (.or (.cmp .NotEq (.call 119 [.var 4, .var 6]) (.var 9)) (.cmp .Eq (.var 9) (.lst []))) [.ret (.cst (.bl false))] [],
    .set 13 (.lst [.cst .non, .lst [], .tup [.cst (.int 1)], .tup [.tup [.tup [.tup [.cst (.int 0), .cst (.int 1)]], .neg (.cst (.int 1))]], .tup [.tup [.tup [.tup [.cst (.int 1), .cst (.int 1)]], .cst (.int 0)]], .bin .Mult (.tup [.tup [.tup [], .cst (.int 0)]]) (.cst (.int 7))]),
    .for_ (.nm 14) (.seq (.bin .Add (.var 13) (.lst [.tup [.tup [.tup [], .cst (.int 0), .cst (.int 1)]], .tup [.tup [.tup [], .cst (.bl true)]]]))) [.ifs (.cmp .NotEq (.tri (.call 119 [.var 4, .var 14])) (.cst (.str "Seen+"))) [.ret (.cst (.bl false))] []],
    .for_ (.nm 14) (.seq (.tup [.cst .non, .tup [], .lst [.var 3], .bin .Mult (.tup [.var 3]) (.cst (.int 5)), .tup [.var 3, .tup []]])) [.ifs (.cmp .NotEq (.tri (.call 120 [.var 14])) (.cst (.str "Manner+"))) [.ret (.cst (.bl false))] [],
    .ifs (.cmp .NotEq (.tri (.call 119 [.var 14, .cst .non])) (.cst (.str "Manner+"))) [.ret (.cst (.bl false))] []]],
    .unp [.nm 15, .nm 16] (.tup [.tup [.tup [.cst (.int 4), .cst (.str "near"), .cst (.int 0)], .tup [.cst (.int 4), .cst (.str "near"), .cst (.int 0)], .tup [], .cst .non, .cst .non], .tup [.tup [.cst (.int 1), .cst (.str "down"), .cst (.int 0)], .tup [.cst (.int 1), .cst (.str "down"), .cst (.int 0)], .tup [], .cst .non, .cst .non]]),
    .ifs (.or (.cmp .NotEq (.call 120 [.tup [.var 15, .var 16]]) (.tup [.cst (.int 0), .cst (.int 1)])) (.cmp .NotEq (.call 120 [.tup [.var 16, .bin .Add (.slc (.var 16) none (some (.cst (.int 4)))) (.tup [.cst (.int 200)])]]) (.tup [.cst (.int 0), .cst (.int 1)]))) [.ret (.cst (.bl false))] [],
    .ret (.cmp .Eq (.call 119 [.tup [.var 15, .var 16], .tup [.tup [.tup [.tup [.cst (.int 33), .cst (.int 71)]], .cst (.int 80)]]]) (.lst [.cst (.int 0)]))]⟩
def F_every_rounding : Fd := ⟨0, 3, false, [.ret (.lc3 [0, 1, 2] [1, 2] [2] (.nm 0) (.seq (.glb 0)) (.nm 1) (.seq (.glb 1)) (.nm 2) (.rng (.var 0)) none (.tup [.var 0, .var 1, .var 2]))]⟩
def F_roundings_for : Fd := ⟨3, 6, false, [.expr (.call 16 [.var 0]),
    .ifs (.or (.not (.inst (.var 1) "str")) (.cmp .NotIn (.var 1) (.tup [.cst (.str "ins"), .cst (.str "outs")]))) [.raise 6] [],
    .expr (.call 117 [.var 2]),
    .set 3 (.ite (.cmp .Eq (.var 1) (.cst (.str "ins"))) (.cst (.int 0)) (.cst (.int 1))),
    .set 4 (.call 123 []),
    .ret (.lc [5] (.nm 5) (.seq (.var 4)) (some (.call 118 [.bin .Add (.bin .Add (.slc (.var 0) none (some (.var 3))) (.tup [.var 5])) (.slc (.var 0) (some (.bin .Add (.var 3) (.cst (.int 1)))) none), .var 2])) (.var 5))]⟩
def F__law_all : Fd := ⟨0, 4, false, [.set 0 (.lst []),
    .for_ (.nm 1) (.seq (.tup [.cst (.int 1), .cst (.int 2), .cst (.int 3), .cst (.int 4), .cst (.int 6), .cst (.int 8), .cst (.int 12)])) [.for_ (.nm 2) (.seq (.tup [.cst (.str "down"), .cst (.str "near"), .cst (.str "up")])) [.set 0 (.bin .Add (.var 0) (.lc [3] (.nm 3) (.rng (.var 1)) none (.tup [.var 1, .var 2, .var 3])))]],
    .retv 0]⟩
def F_law_k13 : Fd := ⟨1, 16, false, [.for_ (.nm 1) (.rng (.cst (.int 3))) [.set 2 (.call 5 [.idx (.bin .Add (.var 0) (.lmul [.cst (.int 0)] (.cst (.int 3)))) (.var 1), .var 1]),
    .unp [.nm 3, .nm 4] (.tup [.call 10 [.var 2], .tup []]),
    .for_ (.nm 5) (.rng (.call 6 [.var 2, .cst (.int 5)])) [.set 6 (.call 44 [.var 2, .cst (.int 3)]),
    .set 4 (.bin .Add (.var 4) (.tup [.tup [.var 6, .call 42 [.var 3, .var 6]]]))],
    .for_ (.tup [.nm 7, .nm 8]) (.enum (.tup [.cst (.str "ins"), .cst (.str "outs")])) [.set 9 (.lst []),
    .for_ (.nm 10) (.seq (.call 125 [])) [.set 11 (.bin .Add (.bin .Add (.slc (.var 3) none (some (.var 7))) (.tup [.var 10])) (.slc (.var 3) (some (.bin .Add (.var 7) (.cst (.int 1)))) none)),
    .ifs (.cmp .Eq (.lc [6, 12] (.tup [.nm 6, .nm 12]) (.seq (.var 4)) (some (.cmp .NotEq (.call 42 [.var 11, .var 6]) (.var 12))) (.cst (.int 1))) (.lst [])) [.app 9 (.var 10)] []],
    .ifs (.or (.not (.call 25 [.call 124 [.var 3, .var 8, .var 4], .var 9])) (.cmp .NotIn (.idx (.var 3) (.var 7)) (.var 9))) [.ret (.cst (.bl false))] []],
    .for_ (.nm 13) (.seq (.tup [.cst (.str ""), .cst (.str "in"), .cst .non, .cst (.int 0), .lst [.cst (.str "ins")]])) [.ifs (.cmp .NotEq (.tri (.call 124 [.var 3, .var 13, .cst .non])) (.cst (.str "Part+"))) [.ret (.cst (.bl false))] []],
    .ifs (.cmp .NotEq (.tri (.call 124 [.var 3, .cst (.str "ins"), .cst .non])) (.cst (.str "Seen+"))) [.ret (.cst (.bl false))] []],
    .set 14 (.tup [.tup [.cst (.int 4), .cst (.str "near"), .cst (.int 0)], .tup [.cst (.int 4), .cst (.str "near"), .cst (.int 0)], .tup [], .cst .non, .cst .non]),
    .set 15 (.call 124 [.var 14, .cst (.str "ins"), .tup [.tup [.tup [.tup [.cst (.int 33), .cst (.int 71)]], .cst (.int 80)]]]),
    .ret (.and (.cmp .Eq (.bi .len [.var 15]) (.cst (.int 38))) (.and (.cmp .Eq (.idx (.var 15) (.cst (.int 0))) (.tup [.cst (.int 2), .cst (.str "down"), .cst (.int 0)])) (.cmp .Eq (.bi .len [.call 124 [.var 14, .cst (.str "outs"), .tup []]]) (.cst (.int 108)))))]⟩
def F_number_in : Fd := ⟨1, 2, false, [.ifs (.or (.not (.chain .LtE .LtE (.cst (.int 1)) (.bi .len [.var 0]) (.cst (.int 3)))) (.not (.bi .all [.lc [1] (.nm 1) (.seq (.var 0)) none (.cmp .In (.var 1) (.glb 9))]))) [.ret (.cst .non)] [],
    .ret (.ite (.cmp .Eq (.bi .str [.bi .int [.var 0]]) (.var 0)) (.bi .int [.var 0]) (.cst .non))]⟩
def F__law_pick__k16 : Fd := ⟨2, 4, true, [.ifs (.cmp .Gt (.idx (.var 0) (.cst (.int 0))) (.cst (.int 1))) [.set 2 (.bin .Mod (.bi .int [.idx (.var 0) (.cst (.int 0))]) (.var 1)),
    .store 0 (.cst (.int 0)) (.bin .FloorDiv (.idx (.var 0) (.cst (.int 0))) (.var 1)),
    .retv 2] [],
    .store 0 (.cst (.int 2)) (.bin .Add (.idx (.var 0) (.cst (.int 2))) (.cst (.int 1))),
    .set 3 (.bin .Mod (.bi .int [.bin .Pow (.bi .int [.bin .Add (.idx (.var 0) (.cst (.int 1))) (.bin .Mult (.cst (.int 15485867)) (.idx (.var 0) (.cst (.int 2))))]) (.cst (.int 5))]) (.cst (.int 2147483647))),
    .set 2 (.bin .FloorDiv (.bin .Mod (.bi .int [.bin .Pow (.bi .int [.bin .Add (.var 3) (.bin .Mult (.cst (.int 7919)) (.idx (.var 0) (.cst (.int 2))))]) (.cst (.int 3))]) (.cst (.int 2147483629))) (.cst (.int 32))),
    .ret (.bin .Mod (.bi .int [.var 2]) (.var 1))]⟩
def F__law_one__k16 : Fd := ⟨2, 2, true, [.ret (.idx (.var 1) (.call 139 [.var 0, .bi .len [.var 1]]))]⟩
def F__law_same__k16 : Fd := ⟨2, 4, false, [.ifs (.cmp .NotEq (.call 24 [.var 0]) (.call 24 [.var 1])) [.ret (.cst (.bl false))] [],
    .ifs (.and (.cmp .Gt (.call 24 [.var 0]) (.cst (.int 3))) (.cmp .Lt (.call 24 [.var 0]) (.cst (.int 6)))) [.ifs (.cmp .NotEq (.bi .len [.var 0]) (.bi .len [.var 1])) [.ret (.cst (.bl false))] [],
    .ret (.cmp .Eq (.lc [2, 3] (.tup [.nm 2, .nm 3]) (.enum (.var 0)) (some (.not (.call 141 [.var 3, .idx (.var 1) (.var 2)]))) (.var 2)) (.lst []))] [],
    .ret (.cmp .Eq (.var 0) (.var 1))]⟩
def F__law_rounding__k16 : Fd := ⟨1, 2, true, [.set 1 (.idx (.lst [.cst (.int 1), .cst (.int 2), .cst (.int 3), .cst (.int 4), .cst (.int 6), .cst (.int 8), .cst (.int 12)]) (.call 139 [.var 0, .cst (.int 7)])),
    .ret (.tup [.var 1, .idx (.lst [.cst (.str "down"), .cst (.str "near"), .cst (.str "up")]) (.call 139 [.var 0, .cst (.int 3)]), .call 139 [.var 0, .var 1]])]⟩
def F__law_manner__k16 : Fd := ⟨1, 6, true, [.unp [.nm 1, .nm 2] (.tup [.tup [], .cst (.int 0)]),
    .for_ (.nm 3) (.rng (.call 139 [.var 0, .cst (.int 3)])) [.set 2 (.bin .Add (.bin .Add (.var 2) (.cst (.int 1))) (.call 139 [.var 0, .cst (.int 40)])),
    .set 1 (.bin .Add (.var 1) (.tup [.tup [.var 2, .bin .Add (.cst (.int 1)) (.call 139 [.var 0, .cst (.int 8)])]]))],
    .set 4 (.ite (.cmp .Eq (.call 139 [.var 0, .cst (.int 2)]) (.cst (.int 0))) (.cst .non) (.bin .Add (.cst (.int 1)) (.call 139 [.var 0, .cst (.int 60)]))),
    .set 5 (.ite (.cmp .Eq (.call 139 [.var 0, .cst (.int 2)]) (.cst (.int 0))) (.cst .non) (.bin .Add (.cst (.int 1)) (.call 139 [.var 0, .cst (.int 300)]))),
    .ret (.tup [.call 142 [.var 0], .call 142 [.var 0], .var 1, .var 4, .var 5])]⟩
def F__law_number : Fd := ⟨3, 5, false, [.set 3 (.lc [4] (.nm 4) (.rng2 (.var 1) (.bin .Add (.var 2) (.cst (.int 1)))) (some (.cmp .Eq (.bi .str [.var 4]) (.var 0))) (.var 4)),
    .ret (.ite (.cmp .NotEq (.var 3) (.lst [])) (.idx (.var 3) (.cst (.int 0))) (.cst .non))]⟩
def F__law_rounded : Fd := ⟨1, 3, false, [.set 1 (.call 145 [.idx (.var 0) (.cst (.int 0)), .cst (.int 1), .cst (.int 12)]),
    .ifs (.or (.cmp .Is (.var 1) (.cst .non)) (.or (.cmp .NotIn (.var 1) (.tup [.cst (.int 1), .cst (.int 2), .cst (.int 3), .cst (.int 4), .cst (.int 6), .cst (.int 8), .cst (.int 12)])) (.cmp .NotIn (.idx (.var 0) (.cst (.int 1))) (.tup [.cst (.str "up"), .cst (.str "down"), .cst (.str "near")])))) [.ret (.cst .non)] [],
    .set 2 (.call 145 [.idx (.var 0) (.cst (.int 2)), .cst (.int 0), .bin .Sub (.var 1) (.cst (.int 1))]),
    .ret (.ite (.cmp .Is (.var 2) (.cst .non)) (.cst .non) (.tup [.var 1, .idx (.var 0) (.cst (.int 1)), .var 2]))]⟩
def F_least_time__k17 : Fd := ⟨2, 4, false, [.expr (.call 16 [.var 0]),
    .expr (.call 72 [.var 1, .cst (.int 1), .glb 10]),
    .set 2 (.cst .non),
    .for_ (.nm 3) (.seq (.call 49 [])) [.ifs (.and (.cmp .GtE (.call 36 [.var 0, .tup [.var 3]]) (.var 1)) (.or (.cmp .Is (.var 2) (.cst .non)) (.cmp .Lt (.bin .Sub (.idx (.var 3) (.cst (.int 1))) (.idx (.var 3) (.cst (.int 0)))) (.idx (.var 2) (.cst (.int 0)))))) [.set 2 (.tup [.bin .Sub (.idx (.var 3) (.cst (.int 1))) (.idx (.var 3) (.cst (.int 0))), .var 3])] []],
    .retv 2]⟩
def F_count_weeks__k17 : Fd := ⟨3, 14, false, [.expr (.call 16 [.var 0]),
    .expr (.call 72 [.var 1, .cst (.int 0), .cst (.int 2)]),
    .expr (.call 72 [.var 2, .cst (.int 0), .glb 11]),
    .par 3 4 (.dic1 (.tup [.cst (.int 0), .cst (.int 0)]) (.cst (.int 1))) (.call 106 [.var 0]),
    .for_ (.nm 5) (.rng (.var 1)) [.set 6 (.dic true),
    .for_ (.tup [.tup [.nm 7, .nm 8], .nm 9]) (.items (.var 3)) [.for_ (.tup [.tup [.nm 10, .nm 11], .nm 12]) (.items (.var 4)) [.set 13 (.tup [.bin .Add (.var 7) (.var 10), .bin .Add (.var 8) (.var 11)]),
    .store 6 (.var 13) (.bin .Add (.get (.var 6) (.var 13) (.cst (.int 0))) (.bin .Mult (.var 9) (.var 12)))]],
    .set 3 (.var 6)],
    .ret (.bi .sum [.lc [9, 7, 8] (.tup [.tup [.nm 7, .nm 8], .nm 9]) (.items (.var 3)) (some (.cmp .Eq (.call 92 [.var 0, .var 7, .var 8]) (.var 2))) (.var 9)])]⟩
def F_day_for__k17 : Fd := ⟨2, 3, false, [.expr (.call 16 [.var 0]),
    .expr (.call 72 [.var 1, .cst (.int 0), .glb 11]),
    .for_ (.nm 2) (.seq (.call 49 [])) [.ifs (.cmp .Eq (.call 36 [.var 0, .tup [.var 2]]) (.var 1)) [.retv 2] []],
    .ret (.cst .non)]⟩
def F_need_seen__k17 : Fd := ⟨1, 4, false, [.ifs (.or (.not (.inst (.var 0) "tuple")) (.cmp .Gt (.bi .len [.var 0]) (.glb 8))) [.raise 5] [],
    .ifs (.not (.bi .all [.lc [1] (.nm 1) (.seq (.var 0)) none (.and (.inst (.var 1) "tuple") (.cmp .Eq (.bi .len [.var 1]) (.cst (.int 2))))])) [.raise 5] [],
    .ifs (.not (.bi .all [.lc [2, 3] (.tup [.nm 2, .nm 3]) (.seq (.var 0)) none (.and (.call 29 [.var 2]) (.call 0 [.var 3, .cst (.int 0), .glb 12]))])) [.raise 5] []]⟩
def F_roundings_for__k17 : Fd := ⟨3, 6, false, [.expr (.call 16 [.var 0]),
    .ifs (.or (.not (.inst (.var 1) "str")) (.cmp .NotIn (.var 1) (.tup [.cst (.str "ins"), .cst (.str "outs")]))) [.raise 6] [],
    .expr (.call 154 [.var 2]),
    .set 3 (.ite (.cmp .Eq (.var 1) (.cst (.str "ins"))) (.cst (.int 0)) (.cst (.int 1))),
    .set 4 (.call 123 []),
    .ret (.lc [5] (.nm 5) (.seq (.var 4)) (some (.call 118 [.bin .Add (.bin .Add (.slc (.var 0) none (some (.var 3))) (.tup [.var 5])) (.slc (.var 0) (some (.bin .Add (.var 3) (.cst (.int 1)))) none), .var 2])) (.var 5))]⟩
def F__law_odd : Fd := ⟨2, 3, true, [.set 2 (.lst [.cst .non, .slc (.var 1) none (some (.cst (.int 4))), .bi .list [.var 1], .bin .Add (.tup [.tup [.cst (.int 5), .cst (.str "up"), .cst (.int 0)]]) (.slc (.var 1) (some (.cst (.int 1))) none), .bin .Add (.bin .Add (.slc (.var 1) none (some (.cst (.int 2)))) (.tup [.tup [.tup [.cst (.int 0), .cst (.int 1)]]])) (.slc (.var 1) (some (.cst (.int 3))) none), .bin .Add (.slc (.var 1) none (some (.cst (.int 3)))) (.tup [.cst (.int 97), .cst .non])]),
    .ret (.idx (.bin .Add (.var 2) (.lst [.bin .Add (.var 1) (.tup [.cst (.int 1)])])) (.call 6 [.var 0, .bin .Add (.bi .len [.var 2]) (.cst (.int 1))]))]⟩
def F__law_no_manner : Fd := ⟨2, 4, false, [.set 2 (.lst [.fnv 107, .fnv 111, .fnv 85, .fnv 79, .fnv 77, .fnv 76, .fnv 86, .fnv 101]),
    .for_ (.nm 3) (.seq (.bin .Add (.var 2) (.lst [.fnv 99, .fnv 100, .fnv 135]))) [.ifs (.cmp .NotEq (.tri (.callv 3 [.var 1])) (.cst (.str "Manner+"))) [.ret (.cst (.bl false))] []],
    .for_ (.nm 3) (.seq (.lst [.fnv 153, .fnv 89, .fnv 74, .fnv 80, .fnv 37, .fnv 39, .fnv 38, .fnv 20, .fnv 21, .fnv 102, .fnv 151])) [.ifs (.cmp .NotEq (.tri (.callv 3 [.var 1, .cst .non])) (.cst (.str "Manner+"))) [.ret (.cst (.bl false))] []],
    .for_ (.nm 3) (.seq (.lst [.fnv 65, .fnv 67, .fnv 68, .fnv 53, .fnv 54, .fnv 55])) [.ifs (.cmp .NotEq (.tri (.callv 3 [.var 1, .var 0])) (.cst (.str "Manner+"))) [.ret (.cst (.bl false))] [],
    .ifs (.cmp .NotEq (.tri (.callv 3 [.var 0, .var 1])) (.cst (.str "Manner+"))) [.ret (.cst (.bl false))] []],
    .for_ (.nm 3) (.seq (.lst [.fnv 152, .fnv 93, .fnv 155])) [.ifs (.cmp .NotEq (.tri (.callv 3 [.var 1, .cst .non, .cst .non])) (.cst (.str "Manner+"))) [.ret (.cst (.bl false))] []],
    .ret (.cst (.bl true))]⟩
def F_law_k17 : Fd := ⟨1, 7, false, [.for_ (.nm 1) (.rng (.cst (.int 4))) [.set 2 (.call 5 [.idx (.bin .Add (.var 0) (.lmul [.cst (.int 0)] (.cst (.int 4)))) (.var 1), .var 1]),
    .set 3 (.call 10 [.var 2]),
    .set 4 (.call 156 [.var 2, .var 3]),
    .ifs (.not (.call 157 [.var 3, .var 4])) [.ret (.cst (.bl false))] [],
    .for_ (.nm 5) (.seq (.tup [.cst .non, .tup [.cst (.int 3), .cst (.int 3)], .lst [.cst (.int 0), .cst (.int 1)], .tup [.cst (.int 0), .cst (.int 97)], .cst (.int 5), .tup [.cst (.int 0), .cst (.int 1), .cst (.int 2)]])) [.for_ (.nm 6) (.seq (.lst [.fnv 89, .fnv 74, .fnv 37, .fnv 38])) [.ifs (.cmp .NotEq (.tri (.callv 6 [.var 3, .var 5])) (.cst (.str "Day+"))) [.ret (.cst (.bl false))] []]],
    .for_ (.nm 6) (.seq (.lst [.fnv 80, .fnv 153, .fnv 151])) [.ifs (.cmp .NotEq (.tri (.callv 6 [.var 3, .cst .non])) (.cst (.str "Number+"))) [.ret (.cst (.bl false))] []]],
    .ret (.cst (.bl true))]⟩
def F_law_k18 : Fd := ⟨1, 11, false, [.for_ (.nm 1) (.rng (.cst (.int 3))) [.set 2 (.call 5 [.idx (.bin .Add (.var 0) (.lmul [.cst (.int 0)] (.cst (.int 3)))) (.var 1), .var 1]),
    .set 3 (.bin .Add (.slc (.call 10 [.var 2]) none (some (.cst (.int 4)))) (.tup [.cst .non])),
    .set 4 (.bin .Add (.slc (.call 58 [.var 2, .var 3]) none (some (.cst (.int 4)))) (.tup [.cst .non])),
    .ifs (.cmp .NotEq (.call 65 [.var 3, .var 4]) (.cmp .Is (.call 67 [.var 3, .var 4]) (.cst .non))) [.ret (.cst (.bl false))] [],
    .ifs (.cmp .NotEq (.cmp .Is (.call 68 [.var 3, .var 4]) (.cst .non)) (.cmp .Is (.call 67 [.var 3, .var 4]) (.cst .non))) [.ret (.cst (.bl false))] [],
    .set 5 (.lst [.cst (.int 0)]),
    .for_ (.tup [.nm 6, .nm 7]) (.zip (.call 60 [.var 3]) (.call 60 [.var 4])) [.app 5 (.bin .Sub (.bin .Sub (.bin .Add (.bin .Mult (.cst (.int 2)) (.idx (.var 6) (.cst (.int 0)))) (.bin .Mult (.cst (.int 3)) (.idx (.var 6) (.cst (.int 1))))) (.bin .Mult (.cst (.int 2)) (.idx (.var 7) (.cst (.int 0))))) (.bin .Mult (.cst (.int 3)) (.idx (.var 7) (.cst (.int 1)))))],
    .ifs (.or (.cmp .NotEq (.call 53 [.var 3, .var 4]) (.bin .Mult (.cst (.int 5)) (.bi .max [.var 5]))) (.cmp .NotEq (.call 53 [.var 4, .var 3]) (.bin .Sub (.cst (.int 0)) (.bin .Mult (.cst (.int 5)) (.bi .min [.var 5]))))) [.ret (.cst (.bl false))] [],
    .set 8 (.call 54 [.var 3, .var 4]),
    .ifs (.cmp .NotEq (.bin .Sub (.call 39 [.var 3, .var 8]) (.call 39 [.var 4, .var 8])) (.bin .Mult (.cst (.int 5)) (.bi .max [.var 5]))) [.ret (.cst (.bl false))] [],
    .set 9 (.bin .Mult (.cst (.int 5)) (.bi .max [.lc [10] (.nm 10) (.seq (.call 60 [.var 3])) none (.idx (.var 10) (.cst (.int 0)))])),
    .ifs (.and (.cmp .Gt (.var 9) (.cst (.int 0))) (.cmp .IsNot (.call 65 [.var 3, .bin .Add (.slc (.var 3) none (some (.cst (.int 4)))) (.tup [.var 9])]) (.cst (.bl true)))) [.ret (.cst (.bl false))] [],
    .ifs (.and (.cmp .Gt (.var 9) (.cst (.int 5))) (.cmp .IsNot (.call 65 [.var 3, .bin .Add (.slc (.var 3) none (some (.cst (.int 4)))) (.tup [.bin .Sub (.var 9) (.cst (.int 1))])]) (.cst (.bl false)))) [.ret (.cst (.bl false))] [],
    .ifs (.cmp .Lt (.call 53 [.bin .Add (.slc (.var 3) none (some (.cst (.int 4)))) (.tup [.bin .Add (.cst (.int 1)) (.call 6 [.var 2, .cst (.int 480)])]), .var 3]) (.cst (.int 0))) [.ret (.cst (.bl false))] []],
    .ret (.cst (.bl true))]⟩
def F_by_time : Fd := ⟨2, 11, false, [.unp [.nm 2, .nm 3, .nm 4] (.call 47 [.var 0]),
    .set 5 (.dic false),
    .for_ (.nm 6) (.seq (.call 49 [])) [.unp [.nm 7, .nm 8] (.idx (.var 4) (.bi .max [.cst (.int 0), .bin .Sub (.idx (.var 3) (.idx (.var 6) (.cst (.int 1)))) (.idx (.var 2) (.idx (.var 6) (.cst (.int 0))))])),
    .par 9 10 (.bin .Add (.bin .Mult (.bin .Add (.cst (.int 2)) (.var 1)) (.var 7)) (.bin .Mult (.cst (.int 3)) (.var 8))) (.bin .Sub (.idx (.var 6) (.cst (.int 1))) (.idx (.var 6) (.cst (.int 0)))),
    .ifs (.or (.cmp .NotIn (.var 10) (.var 5)) (.cmp .Lt (.idx (.idx (.var 5) (.var 10)) (.cst (.int 0))) (.var 9))) [.store 5 (.var 10) (.tup [.var 9, .var 6])] []],
    .retv 5]⟩
def F_weeks_by_time : Fd := ⟨2, 12, false, [.par 2 3 (.call 160 [.var 0, .var 1]) (.dic1 (.cst (.int 0)) (.tup [.cst (.int 0), .tup []])),
    .for_ (.nm 4) (.rng (.glb 4)) [.set 5 (.dcp (.var 3)),
    .for_ (.tup [.nm 6, .tup [.nm 7, .nm 8]]) (.items (.var 3)) [.for_ (.tup [.nm 9, .tup [.nm 10, .nm 11]]) (.items (.var 2)) [.ifs (.or (.cmp .NotIn (.bin .Add (.var 6) (.var 9)) (.var 5)) (.cmp .Lt (.idx (.idx (.var 5) (.bin .Add (.var 6) (.var 9))) (.cst (.int 0))) (.bin .Add (.var 7) (.var 10)))) [.store 5 (.bin .Add (.var 6) (.var 9)) (.tup [.bin .Add (.var 7) (.var 10), .bin .Add (.var 8) (.tup [.var 11])])] []]],
    .set 3 (.var 5)],
    .retv 3]⟩
def F_best_weeks_of : Fd := ⟨1, 7, false, [.set 1 (.dic false),
    .for_ (.nm 2) (.seq (.ite (.cmp .Is (.idx (.var 0) (.cst (.int 4))) (.cst .non)) (.tup [.cst (.int 0)]) (.tup [.cst (.int 0), .cst (.int 1)]))) [.for_ (.tup [.nm 3, .tup [.nm 4, .nm 5]]) (.items (.call 161 [.var 0, .var 2])) [.set 6 (.call 36 [.var 0, .var 5]),
    .ifs (.or (.cmp .NotIn (.var 3) (.var 1)) (.cmp .Lt (.idx (.idx (.var 1) (.var 3)) (.cst (.int 0))) (.var 6))) [.store 1 (.var 3) (.tup [.var 6, .var 5])] []]],
    .retv 1]⟩
def F_most_in_week : Fd := ⟨2, 2, false, [.expr (.call 16 [.var 0]),
    .expr (.call 72 [.var 1, .cst (.int 1), .glb 13]),
    .ret (.idx (.idx (.call 162 [.var 0]) (.var 1)) (.cst (.int 0)))]⟩
def F_week_for : Fd := ⟨2, 2, false, [.expr (.call 16 [.var 0]),
    .expr (.call 72 [.var 1, .cst (.int 1), .glb 13]),
    .ret (.idx (.idx (.call 162 [.var 0]) (.var 1)) (.cst (.int 1)))]⟩
def F__law_best : Fd := ⟨2, 11, false, [.set 2 (.dic false),
    .for_ (.tup [.nm 3, .nm 4]) (.zip (.call 59 []) (.call 60 [.var 0])) [.set 5 (.bin .Sub (.idx (.var 3) (.cst (.int 1))) (.idx (.var 3) (.cst (.int 0)))),
    .store 2 (.var 5) (.bi .max [.get (.var 2) (.var 5) (.cst (.int 0)), .bin .Add (.bin .Mult (.bin .Add (.cst (.int 2)) (.var 1)) (.idx (.var 4) (.cst (.int 0)))) (.bin .Mult (.cst (.int 3)) (.idx (.var 4) (.cst (.int 1))))])],
    .set 6 (.bin .Add (.lst [.cst (.int 0)]) (.lmul [.neg (.cst (.int 1))] (.cst (.int 480)))),
    .for_ (.nm 7) (.rng (.cst (.int 5))) [.set 8 (.bi .list [.var 6]),
    .for_ (.nm 9) (.rng (.cst (.int 481))) [.ifs (.cmp .GtE (.idx (.var 6) (.var 9)) (.cst (.int 0))) [.for_ (.nm 5) (.rng2 (.cst (.int 1)) (.bin .Add (.bi .min [.cst (.int 96), .bin .Sub (.cst (.int 480)) (.var 9)]) (.cst (.int 1)))) [.set 10 (.bin .Add (.idx (.var 6) (.var 9)) (.idx (.var 2) (.var 5))),
    .store 8 (.bin .Add (.var 9) (.var 5)) (.bi .max [.idx (.var 8) (.bin .Add (.var 9) (.var 5)), .var 10])]] []],
    .set 6 (.var 8)],
    .retv 6]⟩
def F_law_k19 : Fd := ⟨1, 17, false, [.set 1 (.call 5 [.idx (.bin .Add (.var 0) (.lst [.cst (.int 0)])) (.cst (.int 0)), .cst (.int 0)]),
    .set 2 (.call 10 [.var 1]),
    .set 3 (.call 165 [.var 2, .cst (.int 0)]),
    .ifs (.cmp .IsNot (.idx (.var 2) (.cst (.int 4))) (.cst .non)) [.set 3 (.lc [4, 5] (.tup [.nm 4, .nm 5]) (.zip (.var 3) (.call 165 [.var 2, .cst (.int 1)])) none (.bi .max [.var 4, .bin .Sub (.var 5) (.idx (.var 2) (.cst (.int 4)))]))] [],
    .for_ (.nm 6) (.rng (.cst (.int 2))) [.set 7 (.bin .Add (.cst (.int 1)) (.call 6 [.var 1, .idx (.lst [.cst (.int 480), .cst (.int 30)]) (.var 6)])),
    .set 8 (.call 164 [.var 2, .var 7]),
    .ifs (.or (.cmp .NotEq (.call 163 [.var 2, .var 7]) (.idx (.var 3) (.var 7))) (.not (.call 62 [.var 8]))) [.ret (.cst (.bl false))] [],
    .ifs (.cmp .NotEq (.bi .sum [.lc [9, 10] (.tup [.nm 9, .nm 10]) (.seq (.var 8)) none (.bin .Sub (.var 10) (.var 9))]) (.var 7)) [.ret (.cst (.bl false))] [],
    .ifs (.cmp .NotEq (.call 57 [.var 2, .var 8]) (.idx (.var 3) (.var 7))) [.ret (.cst (.bl false))] [],
    .for_ (.nm 11) (.seq (.tup [.cst (.int 1), .cst (.int 2)])) [.ifs (.and (.cmp .LtE (.var 7) (.cst (.int 96))) (.cmp .Gt (.or (.call 93 [.var 2, .var 11, .var 7]) (.cst (.int 0))) (.idx (.var 3) (.var 7)))) [.ret (.cst (.bl false))] []],
    .set 12 (.call 44 [.var 1, .cst (.int 5)]),
    .set 13 (.bi .sum [.lc [9, 10] (.tup [.nm 9, .nm 10]) (.seq (.var 12)) none (.bin .Sub (.var 10) (.var 9))]),
    .ifs (.and (.cmp .Gt (.var 13) (.cst (.int 0))) (.cmp .Gt (.call 39 [.var 2, .var 12]) (.idx (.var 3) (.var 13)))) [.ret (.cst (.bl false))] []],
    .for_ (.nm 14) (.seq (.tup [.cst (.int 0), .cst (.int 481), .cst .non, .cst (.bl true)])) [.ifs (.cmp .NotEq (.tri (.call 163 [.var 2, .var 14])) (.cst (.str "Number+"))) [.ret (.cst (.bl false))] [],
    .ifs (.cmp .NotEq (.tri (.call 164 [.var 2, .var 14])) (.cst (.str "Number+"))) [.ret (.cst (.bl false))] []],
    .unp [.nm 15, .nm 16] (.tup [.tup [.tup [.cst (.int 1), .cst (.str "down"), .cst (.int 0)], .tup [.cst (.int 1), .cst (.str "down"), .cst (.int 0)], .tup [], .cst .non, .cst .non], .tup [.tup [.cst (.int 4), .cst (.str "near"), .cst (.int 0)], .tup [.cst (.int 4), .cst (.str "near"), .cst (.int 0)], .tup [], .cst .non, .cst .non]]),
    .ret (.and (.cmp .Eq (.call 163 [.bin .Add (.slc (.var 15) none (some (.cst (.int 4)))) (.tup [.cst (.int 200)]), .cst (.int 480)]) (.cst (.int 1240))) (.cmp .Eq (.call 163 [.var 16, .cst (.int 10)]) (.cst (.int 48))))]⟩
def F_least_week : Fd := ⟨2, 6, false, [.expr (.call 16 [.var 0]),
    .expr (.call 72 [.var 1, .cst (.int 1), .glb 6]),
    .set 2 (.lc [3, 4, 5] (.tup [.nm 3, .tup [.nm 4, .nm 5]]) (.items (.call 162 [.var 0])) (some (.cmp .GtE (.var 4) (.var 1))) (.var 3)),
    .ret (.ite (.cmp .NotEq (.var 2) (.lst [])) (.bi .min [.var 2]) (.cst .non))]⟩
def F_law_k20 : Fd := ⟨1, 13, false, [.set 1 (.call 5 [.idx (.bin .Add (.var 0) (.lst [.cst (.int 0)])) (.cst (.int 0)), .cst (.int 0)]),
    .set 2 (.call 10 [.var 1]),
    .ifs (.cmp .Eq (.call 6 [.var 1, .cst (.int 2)]) (.cst (.int 0))) [.set 2 (.bin .Add (.slc (.var 2) none (some (.cst (.int 4)))) (.tup [.cst .non]))] [],
    .set 3 (.bi .sorted [.lc [4] (.nm 4) (.rng (.cst (.int 2))) none (.bin .Add (.cst (.int 1)) (.call 6 [.var 1, .cst (.int 480)]))]),
    .set 5 (.lc [6] (.nm 6) (.seq (.var 3)) none (.call 163 [.var 2, .var 6])),
    .set 7 (.idx (.lst [.idx (.var 5) (.cst (.int 0)), .idx (.var 5) (.cst (.int 1)), .bin .Add (.cst (.int 1)) (.call 6 [.var 1, .cst (.int 300)])]) (.call 6 [.var 1, .cst (.int 3)])),
    .ifs (.cmp .Gt (.var 7) (.cst (.int 0))) [.set 8 (.call 167 [.var 2, .var 7]),
    .ifs (.cmp .IsNot (.var 8) (.cst .non)) [.ifs (.or (.not (.chain .Lt .LtE (.cst (.int 0)) (.var 8) (.cst (.int 480)))) (.cmp .Lt (.call 163 [.var 2, .var 8]) (.var 7))) [.ret (.cst (.bl false))] [],
    .ifs (.and (.cmp .Gt (.var 8) (.cst (.int 1))) (.cmp .GtE (.call 163 [.var 2, .bin .Sub (.var 8) (.cst (.int 1))]) (.var 7))) [.ret (.cst (.bl false))] []] [],
    .ifs (.cmp .NotEq (.lc [6, 9] (.tup [.nm 6, .nm 9]) (.zip (.var 3) (.var 5)) (some (.and (.cmp .GtE (.var 9) (.var 7)) (.or (.cmp .Is (.var 8) (.cst .non)) (.cmp .Gt (.var 8) (.var 6))))) (.cst (.int 1))) (.lst [])) [.ret (.cst (.bl false))] []] [],
    .set 10 (.bin .Add (.bin .Add (.slc (.var 2) none (some (.cst (.int 2)))) (.tup [.tup []])) (.slc (.var 2) (some (.cst (.int 3))) none)),
    .ifs (.cmp .Gt (.call 163 [.var 10, .idx (.var 3) (.cst (.int 0))]) (.call 163 [.var 10, .idx (.var 3) (.cst (.int 1))])) [.ret (.cst (.bl false))] [],
    .for_ (.nm 11) (.seq (.tup [.cst (.int 0), .cst (.int 1501), .cst .non, .cst (.bl true)])) [.ifs (.cmp .NotEq (.tri (.call 167 [.var 2, .var 11])) (.cst (.str "Number+"))) [.ret (.cst (.bl false))] []],
    .set 12 (.tup [.tup [.cst (.int 1), .cst (.str "down"), .cst (.int 0)], .tup [.cst (.int 1), .cst (.str "down"), .cst (.int 0)], .tup [], .cst .non, .cst .non]),
    .ret (.and (.cmp .Eq (.call 167 [.var 12, .cst (.int 81)]) (.cst (.int 41))) (.cmp .Is (.call 167 [.var 12, .cst (.int 1000)]) (.cst .non)))]⟩
def F_need_roundings : Fd := ⟨2, 2, false, [.ifs (.or (.not (.call 1 [.var 0])) (.not (.call 1 [.var 1]))) [.raise 0] []]⟩
def F_need_end : Fd := ⟨1, 1, false, [.ifs (.or (.not (.inst (.var 0) "str")) (.cmp .NotIn (.var 0) (.tup [.cst (.str "in"), .cst (.str "out")]))) [.raise 6] []]⟩
def F_rounded : Fd := ⟨3, 3, false, [.ret (.ite (.cmp .Eq (.var 2) (.cst (.str "in"))) (.call 18 [.var 0, .var 1]) (.call 19 [.var 0, .var 1]))]⟩
def F_counts_twice : Fd := ⟨4, 4, false, [.expr (.call 169 [.var 0, .var 1]),
    .expr (.call 17 [.var 2]),
    .expr (.call 170 [.var 3]),
    .ret (.call 171 [.var 1, .call 171 [.var 0, .var 2, .var 3], .var 3])]⟩
def F_once_for : Fd := ⟨3, 7, false, [.expr (.call 169 [.var 0, .var 1]),
    .expr (.call 170 [.var 2]),
    .set 3 (.lrng (.bin .Add (.glb 2) (.cst (.int 1)))),
    .set 4 (.lc [5] (.nm 5) (.seq (.var 3)) none (.call 171 [.var 1, .call 171 [.var 0, .var 5, .var 2], .var 2])),
    .for_ (.nm 6) (.seq (.call 123 [])) [.ifs (.cmp .Eq (.lc [5] (.nm 5) (.seq (.var 3)) none (.call 171 [.var 6, .var 5, .var 2])) (.var 4)) [.retv 6] []],
    .ret (.cst .non)]⟩
def F_law_k21 : Fd := ⟨1, 15, false, [.for_ (.nm 1) (.rng (.cst (.int 8))) [.set 2 (.call 5 [.idx (.bin .Add (.var 0) (.lmul [.cst (.int 0)] (.cst (.int 8)))) (.var 1), .var 1]),
    .unp [.nm 3, .nm 4] (.tup [.call 9 [.var 2], .call 9 [.var 2]]),
    .ifs (.cmp .Eq (.call 6 [.var 2, .cst (.int 2)]) (.cst (.int 0))) [.set 5 (.call 7 [.var 2, .lc [6] (.nm 6) (.seq (.tup [.cst (.int 1), .cst (.int 2), .cst (.int 3), .cst (.int 4), .cst (.int 6), .cst (.int 8), .cst (.int 12)])) (some (.cmp .Eq (.bin .Mod (.idx (.var 3) (.cst (.int 0))) (.var 6)) (.cst (.int 0)))) (.var 6)]),
    .set 4 (.tup [.var 5, .idx (.var 4) (.cst (.int 1)), .call 6 [.var 2, .var 5]])] [],
    .for_ (.tup [.nm 7, .nm 8]) (.seq (.tup [.tup [.cst (.str "in"), .cst (.bl true)], .tup [.cst (.str "out"), .cst (.bl false)]])) [.set 9 (.lc [10] (.nm 10) (.rng (.cst (.int 97))) none (.call 26 [.var 3, .var 10, .var 8])),
    .set 11 (.lc [10] (.nm 10) (.seq (.var 9)) none (.call 26 [.var 4, .var 10, .var 8])),
    .ifs (.not (.call 25 [.lc [10] (.nm 10) (.rng (.cst (.int 97))) none (.call 172 [.var 3, .var 4, .var 10, .var 7]), .var 11])) [.ret (.cst (.bl false))] [],
    .ifs (.and (.cmp .Eq (.bin .Mod (.idx (.var 3) (.cst (.int 0))) (.idx (.var 4) (.cst (.int 0)))) (.cst (.int 0))) (.cmp .NotEq (.var 11) (.var 9))) [.ret (.cst (.bl false))] [],
    .set 12 (.cst .non),
    .for_ (.nm 13) (.seq (.call 125 [])) [.ifs (.and (.cmp .Is (.var 12) (.cst .non)) (.cmp .Eq (.lc [10] (.nm 10) (.rng (.cst (.int 97))) none (.call 26 [.var 13, .var 10, .var 8])) (.var 11))) [.set 12 (.var 13)] []],
    .ifs (.cmp .NotEq (.call 173 [.var 3, .var 4, .var 7]) (.var 12)) [.ret (.cst (.bl false))] []],
    .for_ (.nm 14) (.seq (.tup [.cst .non, .tup [.cst (.int 5), .cst (.str "up"), .cst (.int 0)], .tup [.cst (.int 4), .cst (.str "up"), .cst (.int 4)], .lst [.cst (.int 4), .cst (.str "up"), .cst (.int 0)], .tup [.cst (.int 4), .cst (.str "Up"), .cst (.int 0)]])) [.ifs (.cmp .NotEq (.tri (.call 172 [.var 14, .var 4, .cst .non, .cst .non])) (.cst (.str "Manner+"))) [.ret (.cst (.bl false))] [],
    .ifs (.cmp .NotEq (.tri (.call 173 [.var 3, .var 14, .cst .non])) (.cst (.str "Manner+"))) [.ret (.cst (.bl false))] []],
    .for_ (.nm 14) (.seq (.tup [.cst (.str ""), .cst (.str "ins"), .cst .non, .cst (.int 0)])) [.ifs (.cmp .NotEq (.tri (.call 173 [.var 3, .var 4, .var 14])) (.cst (.str "Part+"))) [.ret (.cst (.bl false))] [],
    .ifs (.cmp .NotEq (.tri (.call 172 [.var 3, .var 4, .cst (.int 3), .var 14])) (.cst (.str "Part+"))) [.ret (.cst (.bl false))] []],
    .ifs (.cmp .NotEq (.tri (.call 172 [.var 3, .var 4, .cst (.int 97), .cst .non])) (.cst (.str "Time+"))) [.ret (.cst (.bl false))] []],
    .ifs (.cmp .NotEq (.call 173 [.tup [.cst (.int 2), .cst (.str "up"), .cst (.int 0)], .tup [.cst (.int 4), .cst (.str "down"), .cst (.int 0)], .cst (.str "in")]) (.tup [.cst (.int 4), .cst (.str "near"), .cst (.int 2)])) [.ret (.cst (.bl false))] [],
    .ifs (.cmp .NotEq (.call 173 [.tup [.cst (.int 4), .cst (.str "near"), .cst (.int 0)], .tup [.cst (.int 2), .cst (.str "up"), .cst (.int 0)], .cst (.str "in")]) (.tup [.cst (.int 4), .cst (.str "near"), .cst (.int 0)])) [.ret (.cst (.bl false))] [],
    .ret (.cmp .Is (.call 173 [.tup [.cst (.int 3), .cst (.str "down"), .cst (.int 0)], .tup [.cst (.int 4), .cst (.str "down"), .cst (.int 0)], .cst (.str "in")]) (.cst .non))]⟩
def F_fair_outs : Fd := ⟨1, 2, false, [.expr (.call 16 [.var 0]),
    .ret (.lc [1] (.nm 1) (.seq (.call 123 [])) (some (.cmp .Eq (.call 78 [.bin .Add (.bin .Add (.slc (.var 0) none (some (.cst (.int 1)))) (.tup [.var 1])) (.slc (.var 0) (some (.cst (.int 2))) none)]) (.tup [.cst (.int 0), .cst (.int 1)]))) (.var 1))]⟩
def F_never_wins : Fd := ⟨1, 1, false, [.expr (.call 16 [.var 0]),
    .ret (.cmp .Eq (.bin .Add (.bi .max [.call 75 [.idx (.var 0) (.cst (.int 0)), .cst (.bl true)]]) (.bi .max [.call 75 [.idx (.var 0) (.cst (.int 1)), .cst (.bl false)]])) (.cst (.int 0)))]⟩
def F_never_loses : Fd := ⟨1, 1, false, [.expr (.call 16 [.var 0]),
    .ret (.cmp .Eq (.bin .Add (.bi .min [.call 75 [.idx (.var 0) (.cst (.int 0)), .cst (.bl true)]]) (.bi .min [.call 75 [.idx (.var 0) (.cst (.int 1)), .cst (.bl false)]])) (.cst (.int 0)))]⟩
def F__law_mean : Fd := ⟨1, 6, false, [.par 1 2 (.idx (.var 0) (.cst (.int 0))) (.idx (.var 0) (.cst (.int 1))),
    .set 3 (.cst (.int 0)),
    .for_ (.nm 4) (.rng (.idx (.var 1) (.cst (.int 0)))) [.for_ (.nm 5) (.rng (.idx (.var 2) (.cst (.int 0)))) [.set 3 (.bin .Sub (.bin .Add (.bin .Sub (.bin .Add (.var 3) (.var 4)) (.call 26 [.var 1, .var 4, .cst (.bl true)])) (.call 26 [.var 2, .var 5, .cst (.bl false)])) (.var 5))]],
    .retv 3]⟩
def F_law_k22 : Fd := ⟨1, 19, false, [.for_ (.nm 1) (.rng (.cst (.int 3))) [.set 2 (.call 5 [.idx (.bin .Add (.var 0) (.lmul [.cst (.int 0)] (.cst (.int 3)))) (.var 1), .var 1]),
    .parO false 3 4 (.call 10 [.var 2]) (.lst []),
    .for_ (.nm 5) (.seq (.tup [.cst (.int 1), .cst (.int 2), .cst (.int 3), .cst (.int 4), .cst (.int 6), .cst (.int 8), .cst (.int 12)])) [.for_ (.nm 6) (.seq (.tup [.cst (.str "down"), .cst (.str "near"), .cst (.str "up")])) [.for_ (.nm 7) (.rng (.var 5)) [.ifs (.cmp .Eq (.call 178 [.tup [.idx (.var 3) (.cst (.int 0)), .tup [.var 5, .var 6, .var 7]]]) (.cst (.int 0))) [.app 4 (.tup [.var 5, .var 6, .var 7])] []]]],
    .set 8 (.call 175 [.var 3]),
    .ifs (.not (.call 25 [.var 8, .var 4])) [.ret (.cst (.bl false))] [],
    .app 8 (.cst .non),
    .ifs (.or (.cmp .NotEq (.bi .len [.call 175 [.var 3]]) (.bi .len [.var 4])) (.cmp .NotEq (.lc [9] (.nm 9) (.seq (.var 4)) (some (.cmp .NotEq (.call 79 [.bin .Add (.bin .Add (.slc (.var 3) none (some (.cst (.int 1)))) (.tup [.var 9])) (.slc (.var 3) (some (.cst (.int 2))) none)]) (.tup [.cst (.int 0), .cst (.int 1)]))) (.cst (.int 1))) (.lst []))) [.ret (.cst (.bl false))] [],
    .unp [.nm 10, .nm 11] (.tup [.lc [12] (.nm 12) (.rng (.cst (.int 97))) none (.call 26 [.idx (.var 3) (.cst (.int 0)), .var 12, .cst (.bl true)]), .lc [12] (.nm 12) (.rng (.cst (.int 97))) none (.call 26 [.idx (.var 3) (.cst (.int 1)), .var 12, .cst (.bl false)])]),
    .set 13 (.lc [14, 15] (.tup [.nm 14, .nm 15]) (.seq (.call 59 [])) none (.bin .Add (.bin .Sub (.bi .max [.cst (.int 0), .bin .Sub (.idx (.var 11) (.var 15)) (.idx (.var 10) (.var 14))]) (.var 15)) (.var 14))),
    .ifs (.or (.not (.call 56 [.call 176 [.var 3], .cmp .Eq (.bi .max [.var 13]) (.cst (.int 0))])) (.not (.call 56 [.call 177 [.var 3], .cmp .Eq (.bi .min [.var 13]) (.cst (.int 0))]))) [.ret (.cst (.bl false))] [],
    .set 5 (.idx (.idx (.var 3) (.cst (.int 0))) (.cst (.int 0))),
    .set 16 (.bin .Add (.tup [.tup [.var 5, .cst (.str "near"), .cst (.int 0)], .tup [.var 5, .cst (.str "near"), .cst (.int 0)]]) (.slc (.var 3) (some (.cst (.int 2))) none)),
    .ifs (.cmp .NotIn (.tup [.var 5, .cst (.str "near"), .cst (.int 0)]) (.call 175 [.var 16])) [.ret (.cst (.bl false))] []],
    .unp [.nm 17, .nm 18] (.tup [.tup [.tup [.cst (.int 1), .cst (.str "down"), .cst (.int 0)], .tup [.cst (.int 1), .cst (.str "down"), .cst (.int 0)], .tup [], .cst .non, .cst .non], .tup [.tup [.cst (.int 4), .cst (.str "near"), .cst (.int 0)], .tup [.cst (.int 4), .cst (.str "near"), .cst (.int 0)], .tup [], .cst .non, .cst .non]]),
    .set 4 (.lst [.tup [.cst (.int 1), .cst (.str "down"), .cst (.int 0)], .tup [.cst (.int 1), .cst (.str "near"), .cst (.int 0)], .tup [.cst (.int 1), .cst (.str "up"), .cst (.int 0)], .tup [.cst (.int 3), .cst (.str "down"), .cst (.int 1)], .tup [.cst (.int 3), .cst (.str "near"), .cst (.int 0)], .tup [.cst (.int 3), .cst (.str "near"), .cst (.int 1)]]),
    .ifs (.or (.cmp .NotEq (.call 175 [.var 17]) (.var 4)) (.cmp .NotEq (.bi .len [.call 175 [.var 18]]) (.cst (.int 28)))) [.ret (.cst (.bl false))] [],
    .ifs (.cmp .IsNot (.call 176 [.tup [.tup [.cst (.int 4), .cst (.str "up"), .cst (.int 0)], .tup [.cst (.int 4), .cst (.str "down"), .cst (.int 0)], .tup [], .cst .non, .cst .non]]) (.cst (.bl true))) [.ret (.cst (.bl false))] [],
    .ret (.and (.cmp .Is (.call 177 [.tup [.tup [.cst (.int 4), .cst (.str "down"), .cst (.int 0)], .tup [.cst (.int 4), .cst (.str "up"), .cst (.int 0)], .tup [], .cst .non, .cst .non]]) (.cst (.bl true))) (.cmp .Is (.call 176 [.var 18]) (.cst (.bl false))))]⟩
def F_least_day_limit : Fd := ⟨1, 4, false, [.expr (.call 16 [.var 0]),
    .set 1 (.bi .max [.lc [2, 3] (.tup [.nm 2, .nm 3]) (.seq (.call 48 [.bin .Add (.bin .Add (.slc (.var 0) none (some (.cst (.int 3)))) (.tup [.cst .non])) (.slc (.var 0) (some (.cst (.int 4))) none)])) none (.var 2)]),
    .ret (.bi .max [.cst (.int 1), .ite (.cmp .Is (.idx (.var 0) (.cst (.int 4))) (.cst .non)) (.var 1) (.bi .min [.var 1, .idx (.var 0) (.cst (.int 4))])])]⟩
def F_least_week_limit : Fd := ⟨1, 3, false, [.expr (.call 16 [.var 0]),
    .ret (.bi .max [.cst (.int 1), .bin .Mult (.glb 4) (.bi .max [.lc [1, 2] (.tup [.nm 1, .nm 2]) (.seq (.call 48 [.var 0])) none (.var 1)])])]⟩
def F__law_alike__k23 : Fd := ⟨2, 2, false, [.ret (.and (.cmp .Eq (.call 53 [.var 0, .var 1]) (.cst (.int 0))) (.cmp .Eq (.call 53 [.var 1, .var 0]) (.cst (.int 0))))]⟩
def F_law_k23 : Fd := ⟨1, 10, false, [.set 1 (.call 5 [.idx (.bin .Add (.var 0) (.lst [.cst (.int 0)])) (.cst (.int 0)), .cst (.int 0)]),
    .set 2 (.call 10 [.var 1]),
    .for_ (.tup [.nm 3, .nm 4, .nm 5]) (.seq (.tup [.tup [.cst (.int 3), .cst (.int 96), .fnv 180], .tup [.cst (.int 4), .cst (.int 480), .fnv 181]])) [.set 6 (.bin .Add (.bin .Add (.slc (.var 2) none (some (.var 3))) (.tup [.cst .non])) (.slc (.var 2) (some (.bin .Add (.var 3) (.cst (.int 1)))) none)),
    .set 7 (.callv 5 [.var 2]),
    .ifs (.or (.not (.call 8 [.var 7])) (.or (.not (.chain .LtE .LtE (.cst (.int 1)) (.var 7) (.var 4))) (.cmp .NotEq (.callv 5 [.var 6]) (.var 7)))) [.ret (.cst (.bl false))] [],
    .ifs (.not (.call 182 [.bin .Add (.bin .Add (.slc (.var 2) none (some (.var 3))) (.tup [.var 7])) (.slc (.var 2) (some (.bin .Add (.var 3) (.cst (.int 1)))) none), .var 6])) [.ret (.cst (.bl false))] [],
    .ifs (.and (.cmp .Gt (.var 7) (.cst (.int 1))) (.call 182 [.bin .Add (.bin .Add (.slc (.var 2) none (some (.var 3))) (.tup [.bin .Sub (.var 7) (.cst (.int 1))])) (.slc (.var 2) (some (.bin .Add (.var 3) (.cst (.int 1)))) none), .var 6])) [.ret (.cst (.bl false))] []],
    .unp [.nm 8, .nm 9] (.tup [.tup [.tup [.cst (.int 1), .cst (.str "down"), .cst (.int 0)], .tup [.cst (.int 1), .cst (.str "down"), .cst (.int 0)], .tup [], .cst .non, .cst .non], .tup [.tup [.cst (.int 4), .cst (.str "up"), .cst (.int 1)], .tup [.cst (.int 4), .cst (.str "down"), .cst (.int 1)], .tup [.tup [.cst (.int 24), .cst (.int 2)]], .cst (.int 32), .cst .non]]),
    .ifs (.or (.cmp .NotEq (.call 180 [.var 9]) (.cst (.int 94))) (.or (.cmp .NotEq (.call 181 [.var 9]) (.cst (.int 160))) (.cmp .NotEq (.call 181 [.var 8]) (.cst (.int 480))))) [.ret (.cst (.bl false))] [],
    .ret (.and (.cmp .Eq (.call 180 [.var 8]) (.cst (.int 96))) (.cmp .Eq (.call 180 [.bin .Add (.slc (.var 8) none (some (.cst (.int 4)))) (.tup [.cst (.int 3)])]) (.cst (.int 3))))]⟩
def F_marks_of : Fd := ⟨1, 9, false, [.parO false 1 2 (.lc2 [3, 4] [4] (.nm 3) (.rng (.bi .len [.var 0])) (.nm 4) (.rng (.var 3)) none (.tup [.var 3, .var 4])) (.dic false),
    .for_ (.nm 5) (.seq (.call 49 [])) [.set 6 (.lc [7] (.nm 7) (.seq (.var 0)) none (.call 36 [.var 7, .tup [.var 5]])),
    .set 8 (.bi .tuple [.lc [3, 4] (.tup [.nm 3, .nm 4]) (.seq (.var 1)) none (.cmp .NotEq (.idx (.var 6) (.var 3)) (.idx (.var 6) (.var 4)))]),
    .ifs (.cmp .NotIn (.var 8) (.var 2)) [.store 2 (.var 8) (.var 5)] []],
    .retv 2]⟩
def F_both_marks : Fd := ⟨2, 4, false, [.ret (.bi .tuple [.lc [2, 3] (.tup [.nm 2, .nm 3]) (.zip (.var 0) (.var 1)) none (.or (.var 2) (.var 3))])]⟩
def F_telling_days : Fd := ⟨1, 11, false, [.expr (.call 116 [.var 0]),
    .set 1 (.call 184 [.var 0]),
    .set 2 (.bi .tuple [.lmul [.cst (.bl false)] (.bin .FloorDiv (.bin .Mult (.bi .len [.var 0]) (.bin .Sub (.bi .len [.var 0]) (.cst (.int 1)))) (.cst (.int 2)))]),
    .par 3 4 (.dic1 (.var 2) (.tup [])) (.var 2),
    .for_ (.nm 5) (.seq (.var 1)) [.set 4 (.call 185 [.var 4, .var 5])],
    .whil 1000 (.cmp .NotIn (.var 4) (.var 3)) [.set 6 (.dic false),
    .for_ (.tup [.nm 5, .nm 7]) (.items (.var 3)) [.for_ (.tup [.nm 8, .nm 9]) (.items (.var 1)) [.set 10 (.call 185 [.var 5, .var 8]),
    .ifs (.cmp .NotIn (.var 10) (.var 6)) [.store 6 (.var 10) (.bin .Add (.var 7) (.tup [.var 9]))] []]],
    .set 3 (.var 6)],
    .ret (.idx (.var 3) (.var 4))]⟩
def F__law_marks : Fd := ⟨1, 12, false, [.parO true 1 2 (.lst []) (.dic false),
    .for_ (.nm 3) (.seq (.var 0)) [.app 1 (.lc [4] (.nm 4) (.seq (.call 60 [.var 3])) none (.call 69 [.var 3, .var 4]))],
    .set 5 (.lst []),
    .for_ (.nm 6) (.rng (.bi .len [.var 0])) [.set 5 (.bin .Add (.var 5) (.lc [7] (.nm 7) (.rng (.var 6)) none (.tup [.var 6, .var 7])))],
    .for_ (.tup [.nm 8, .nm 9]) (.enum (.call 59 [])) [.set 10 (.bi .tuple [.lc [11] (.nm 11) (.seq (.var 5)) (some (.cmp .NotEq (.idx (.idx (.var 1) (.idx (.var 11) (.cst (.int 0)))) (.var 8)) (.idx (.idx (.var 1) (.idx (.var 11) (.cst (.int 1)))) (.var 8)))) (.var 11)]),
    .store 2 (.var 10) (.var 9)],
    .retv 2]⟩
def F_law_k25 : Fd := ⟨1, 7, false, [.for_ (.nm 1) (.rng (.cst (.int 4))) [.set 2 (.call 5 [.idx (.bin .Add (.var 0) (.lmul [.cst (.int 0)] (.cst (.int 4)))) (.var 1), .var 1]),
    .set 3 (.call 10 [.var 2]),
    .set 4 (.lst [.cst .non, .slc (.var 3) none (some (.cst (.int 4))), .bi .list [.var 3], .bin .Add (.tup [.tup [.cst (.int 5), .cst (.str "up"), .cst (.int 0)]]) (.slc (.var 3) (some (.cst (.int 1))) none), .bin .Add (.bin .Add (.slc (.var 3) none (some (.cst (.int 2)))) (.tup [.tup [.tup [.cst (.int 0), .cst (.int 1)]]])) (.slc (.var 3) (some (.cst (.int 3))) none), .bin .Add (.slc (.var 3) none (some (.cst (.int 3)))) (.tup [.cst (.int 97), .cst .non])]),
    .for_ (.nm 5) (.seq (.var 4)) [.for_ (.nm 6) (.seq (.lst [.fnv 175, .fnv 180, .fnv 181, .fnv 177, .fnv 176])) [.ifs (.cmp .NotEq (.tri (.callv 6 [.var 5])) (.cst (.str "Manner+"))) [.ret (.cst (.bl false))] []],
    .for_ (.nm 6) (.seq (.lst [.fnv 167, .fnv 163, .fnv 164])) [.ifs (.cmp .NotEq (.tri (.callv 6 [.var 5, .cst .non])) (.cst (.str "Manner+"))) [.ret (.cst (.bl false))] []]],
    .for_ (.nm 6) (.seq (.lst [.fnv 167, .fnv 163, .fnv 164])) [.ifs (.cmp .NotEq (.tri (.callv 6 [.var 3, .cst .non])) (.cst (.str "Number+"))) [.ret (.cst (.bl false))] []]],
    .ret (.cst (.bl true))]⟩
def globL : List (Option Fd) := [some F_is_from, some F_is_rounding_of, some F_are_breaks_of, some F_is_manner_of, some F_is_manner, some F__law_deck, some F__law_pick, some F__law_one, some F__law_whole, some F__law_rounding, some F__law_manner, some F__law_is_from, some F__law_is_rounding, some F__law_is, some F__law_changed, some F_law_k01, some F_need_manner, some F_need_time, some F_came, some F_went, some F_time_in, some F_time_out, none, none, some F__law_sort, some F__law_same, some F__law_punch, some F_law_k02, some F_is_day_of, some F_is_week_of, some F_need_day, some F_need_week, some F_counted_of, some F_left_of, some F_split_of, some F_parts_of, some F_paid_of, some F_counted, some F_parts, some F_paid, some F__law_split, some F__law_counts, some F__law_worth, some F__law_pair, some F__law_days, some F_law_k03, some F_need_manners, some F_lists_of, some F_all_parts, some F_every_day, some F_best_days, some F_best_weeks, some F_lead_of, some F_greatest_lead, some F_lead_week, some F_never_less, some F__law_bool, some F__law_worth__k04, some F__law_bent, some F__law_every, some F__law_splits, some F__law_lead, some F__law_is_week, some F_law_k04, some F_same_for_all, some F_alike, some F_first_day, some F_parting_day, some F_parting_week, some F__law_alone, some F__law_same_so, some F_law_k05, some F_need_number, some F_lowest_terms, some F_won, some F_ends_of, some F_most_won, some F_most_lost, some F_mean_of, some F_mean_won, some F_won_day, some F__law_terms, some F__law_ends, none, some F_steps_of, some F_best_quarter, some F_worse_quarter, some F__law_more, some F_law_k07, some F_same_punches, some F_law_k08, none, some F_pay_of, some F_most_paid, some F_least_time, some F__law_manner__k09, none, some F__law_most, some F_law_k09, some F_same_graces, some F_same_sides, some F_needless_breaks, some F_is_needless, some F__law_alike, some F__law_right, some F_law_k10, some F_numbers_of, some F_pays, none, some F_count_weeks, some F_day_for, some F_most_day, some F__law_numbers, some F__law_twice, some F__law_written, some F_law_k11, some F_need_manners_of, some F_need_seen, some F_explains, some F_fitting, some F_telling_day, some F__law_telling, some F_law_k12, some F_every_rounding, some F_roundings_for, some F__law_all, some F_law_k13, none, none, none, none, none, none, none, none, none, some F_number_in, none, none, some F__law_pick__k16, some F__law_one__k16, some F__law_same__k16, some F__law_rounding__k16, some F__law_manner__k16, none, some F__law_number, some F__law_rounded, none, none, none, none, some F_least_time__k17, some F_count_weeks__k17, some F_day_for__k17, some F_need_seen__k17, some F_roundings_for__k17, some F__law_odd, some F__law_no_manner, some F_law_k17, some F_law_k18, some F_by_time, some F_weeks_by_time, some F_best_weeks_of, some F_most_in_week, some F_week_for, some F__law_best, some F_law_k19, some F_least_week, some F_law_k20, some F_need_roundings, some F_need_end, some F_rounded, some F_counts_twice, some F_once_for, some F_law_k21, some F_fair_outs, some F_never_wins, some F_never_loses, some F__law_mean, some F_law_k22, some F_least_day_limit, some F_least_week_limit, some F__law_alike__k23, some F_law_k23, some F_marks_of, some F_both_marks, some F_telling_days, some F__law_marks, none, none, some F_law_k25]
def glob (j : Nat) : Option Fd := (globL[j]?).getD none
@[simp] theorem g_is_from : glob 0 = some F_is_from := rfl
@[simp] theorem g_is_rounding_of : glob 1 = some F_is_rounding_of := rfl
@[simp] theorem g_are_breaks_of : glob 2 = some F_are_breaks_of := rfl
@[simp] theorem g_is_manner_of : glob 3 = some F_is_manner_of := rfl
@[simp] theorem g_is_manner : glob 4 = some F_is_manner := rfl
@[simp] theorem g__law_deck : glob 5 = some F__law_deck := rfl
@[simp] theorem g__law_pick : glob 6 = some F__law_pick := rfl
@[simp] theorem g__law_one : glob 7 = some F__law_one := rfl
@[simp] theorem g__law_whole : glob 8 = some F__law_whole := rfl
@[simp] theorem g__law_rounding : glob 9 = some F__law_rounding := rfl
@[simp] theorem g__law_manner : glob 10 = some F__law_manner := rfl
@[simp] theorem g__law_is_from : glob 11 = some F__law_is_from := rfl
@[simp] theorem g__law_is_rounding : glob 12 = some F__law_is_rounding := rfl
@[simp] theorem g__law_is : glob 13 = some F__law_is := rfl
@[simp] theorem g__law_changed : glob 14 = some F__law_changed := rfl
@[simp] theorem g_law_k01 : glob 15 = some F_law_k01 := rfl
@[simp] theorem g_need_manner : glob 16 = some F_need_manner := rfl
@[simp] theorem g_need_time : glob 17 = some F_need_time := rfl
@[simp] theorem g_came : glob 18 = some F_came := rfl
@[simp] theorem g_went : glob 19 = some F_went := rfl
@[simp] theorem g_time_in : glob 20 = some F_time_in := rfl
@[simp] theorem g_time_out : glob 21 = some F_time_out := rfl
@[simp] theorem g__law_sort : glob 24 = some F__law_sort := rfl
@[simp] theorem g__law_same : glob 25 = some F__law_same := rfl
@[simp] theorem g__law_punch : glob 26 = some F__law_punch := rfl
@[simp] theorem g_law_k02 : glob 27 = some F_law_k02 := rfl
@[simp] theorem g_is_day_of : glob 28 = some F_is_day_of := rfl
@[simp] theorem g_is_week_of : glob 29 = some F_is_week_of := rfl
@[simp] theorem g_need_day : glob 30 = some F_need_day := rfl
@[simp] theorem g_need_week : glob 31 = some F_need_week := rfl
@[simp] theorem g_counted_of : glob 32 = some F_counted_of := rfl
@[simp] theorem g_left_of : glob 33 = some F_left_of := rfl
@[simp] theorem g_split_of : glob 34 = some F_split_of := rfl
@[simp] theorem g_parts_of : glob 35 = some F_parts_of := rfl
@[simp] theorem g_paid_of : glob 36 = some F_paid_of := rfl
@[simp] theorem g_counted : glob 37 = some F_counted := rfl
@[simp] theorem g_parts : glob 38 = some F_parts := rfl
@[simp] theorem g_paid : glob 39 = some F_paid := rfl
@[simp] theorem g__law_split : glob 40 = some F__law_split := rfl
@[simp] theorem g__law_counts : glob 41 = some F__law_counts := rfl
@[simp] theorem g__law_worth : glob 42 = some F__law_worth := rfl
@[simp] theorem g__law_pair : glob 43 = some F__law_pair := rfl
@[simp] theorem g__law_days : glob 44 = some F__law_days := rfl
@[simp] theorem g_law_k03 : glob 45 = some F_law_k03 := rfl
@[simp] theorem g_need_manners : glob 46 = some F_need_manners := rfl
@[simp] theorem g_lists_of : glob 47 = some F_lists_of := rfl
@[simp] theorem g_all_parts : glob 48 = some F_all_parts := rfl
@[simp] theorem g_every_day : glob 49 = some F_every_day := rfl
@[simp] theorem g_best_days : glob 50 = some F_best_days := rfl
@[simp] theorem g_best_weeks : glob 51 = some F_best_weeks := rfl
@[simp] theorem g_lead_of : glob 52 = some F_lead_of := rfl
@[simp] theorem g_greatest_lead : glob 53 = some F_greatest_lead := rfl
@[simp] theorem g_lead_week : glob 54 = some F_lead_week := rfl
@[simp] theorem g_never_less : glob 55 = some F_never_less := rfl
@[simp] theorem g__law_bool : glob 56 = some F__law_bool := rfl
@[simp] theorem g__law_worth__k04 : glob 57 = some F__law_worth__k04 := rfl
@[simp] theorem g__law_bent : glob 58 = some F__law_bent := rfl
@[simp] theorem g__law_every : glob 59 = some F__law_every := rfl
@[simp] theorem g__law_splits : glob 60 = some F__law_splits := rfl
@[simp] theorem g__law_lead : glob 61 = some F__law_lead := rfl
@[simp] theorem g__law_is_week : glob 62 = some F__law_is_week := rfl
@[simp] theorem g_law_k04 : glob 63 = some F_law_k04 := rfl
@[simp] theorem g_same_for_all : glob 64 = some F_same_for_all := rfl
@[simp] theorem g_alike : glob 65 = some F_alike := rfl
@[simp] theorem g_first_day : glob 66 = some F_first_day := rfl
@[simp] theorem g_parting_day : glob 67 = some F_parting_day := rfl
@[simp] theorem g_parting_week : glob 68 = some F_parting_week := rfl
@[simp] theorem g__law_alone : glob 69 = some F__law_alone := rfl
@[simp] theorem g__law_same_so : glob 70 = some F__law_same_so := rfl
@[simp] theorem g_law_k05 : glob 71 = some F_law_k05 := rfl
@[simp] theorem g_need_number : glob 72 = some F_need_number := rfl
@[simp] theorem g_lowest_terms : glob 73 = some F_lowest_terms := rfl
@[simp] theorem g_won : glob 74 = some F_won := rfl
@[simp] theorem g_ends_of : glob 75 = some F_ends_of := rfl
@[simp] theorem g_most_won : glob 76 = some F_most_won := rfl
@[simp] theorem g_most_lost : glob 77 = some F_most_lost := rfl
@[simp] theorem g_mean_of : glob 78 = some F_mean_of := rfl
@[simp] theorem g_mean_won : glob 79 = some F_mean_won := rfl
@[simp] theorem g_won_day : glob 80 = some F_won_day := rfl
@[simp] theorem g__law_terms : glob 81 = some F__law_terms := rfl
@[simp] theorem g__law_ends : glob 82 = some F__law_ends := rfl
@[simp] theorem g_steps_of : glob 84 = some F_steps_of := rfl
@[simp] theorem g_best_quarter : glob 85 = some F_best_quarter := rfl
@[simp] theorem g_worse_quarter : glob 86 = some F_worse_quarter := rfl
@[simp] theorem g__law_more : glob 87 = some F__law_more := rfl
@[simp] theorem g_law_k07 : glob 88 = some F_law_k07 := rfl
@[simp] theorem g_same_punches : glob 89 = some F_same_punches := rfl
@[simp] theorem g_law_k08 : glob 90 = some F_law_k08 := rfl
@[simp] theorem g_pay_of : glob 92 = some F_pay_of := rfl
@[simp] theorem g_most_paid : glob 93 = some F_most_paid := rfl
@[simp] theorem g_least_time : glob 94 = some F_least_time := rfl
@[simp] theorem g__law_manner__k09 : glob 95 = some F__law_manner__k09 := rfl
@[simp] theorem g__law_most : glob 97 = some F__law_most := rfl
@[simp] theorem g_law_k09 : glob 98 = some F_law_k09 := rfl
@[simp] theorem g_same_graces : glob 99 = some F_same_graces := rfl
@[simp] theorem g_same_sides : glob 100 = some F_same_sides := rfl
@[simp] theorem g_needless_breaks : glob 101 = some F_needless_breaks := rfl
@[simp] theorem g_is_needless : glob 102 = some F_is_needless := rfl
@[simp] theorem g__law_alike : glob 103 = some F__law_alike := rfl
@[simp] theorem g__law_right : glob 104 = some F__law_right := rfl
@[simp] theorem g_law_k10 : glob 105 = some F_law_k10 := rfl
@[simp] theorem g_numbers_of : glob 106 = some F_numbers_of := rfl
@[simp] theorem g_pays : glob 107 = some F_pays := rfl
@[simp] theorem g_count_weeks : glob 109 = some F_count_weeks := rfl
@[simp] theorem g_day_for : glob 110 = some F_day_for := rfl
@[simp] theorem g_most_day : glob 111 = some F_most_day := rfl
@[simp] theorem g__law_numbers : glob 112 = some F__law_numbers := rfl
@[simp] theorem g__law_twice : glob 113 = some F__law_twice := rfl
@[simp] theorem g__law_written : glob 114 = some F__law_written := rfl
@[simp] theorem g_law_k11 : glob 115 = some F_law_k11 := rfl
@[simp] theorem g_need_manners_of : glob 116 = some F_need_manners_of := rfl
@[simp] theorem g_need_seen : glob 117 = some F_need_seen := rfl
@[simp] theorem g_explains : glob 118 = some F_explains := rfl
@[simp] theorem g_fitting : glob 119 = some F_fitting := rfl
@[simp] theorem g_telling_day : glob 120 = some F_telling_day := rfl
@[simp] theorem g__law_telling : glob 121 = some F__law_telling := rfl
@[simp] theorem g_law_k12 : glob 122 = some F_law_k12 := rfl
@[simp] theorem g_every_rounding : glob 123 = some F_every_rounding := rfl
@[simp] theorem g_roundings_for : glob 124 = some F_roundings_for := rfl
@[simp] theorem g__law_all : glob 125 = some F__law_all := rfl
@[simp] theorem g_law_k13 : glob 126 = some F_law_k13 := rfl
@[simp] theorem g_number_in : glob 136 = some F_number_in := rfl
@[simp] theorem g__law_pick__k16 : glob 139 = some F__law_pick__k16 := rfl
@[simp] theorem g__law_one__k16 : glob 140 = some F__law_one__k16 := rfl
@[simp] theorem g__law_same__k16 : glob 141 = some F__law_same__k16 := rfl
@[simp] theorem g__law_rounding__k16 : glob 142 = some F__law_rounding__k16 := rfl
@[simp] theorem g__law_manner__k16 : glob 143 = some F__law_manner__k16 := rfl
@[simp] theorem g__law_number : glob 145 = some F__law_number := rfl
@[simp] theorem g__law_rounded : glob 146 = some F__law_rounded := rfl
@[simp] theorem g_least_time__k17 : glob 151 = some F_least_time__k17 := rfl
@[simp] theorem g_count_weeks__k17 : glob 152 = some F_count_weeks__k17 := rfl
@[simp] theorem g_day_for__k17 : glob 153 = some F_day_for__k17 := rfl
@[simp] theorem g_need_seen__k17 : glob 154 = some F_need_seen__k17 := rfl
@[simp] theorem g_roundings_for__k17 : glob 155 = some F_roundings_for__k17 := rfl
@[simp] theorem g__law_odd : glob 156 = some F__law_odd := rfl
@[simp] theorem g__law_no_manner : glob 157 = some F__law_no_manner := rfl
@[simp] theorem g_law_k17 : glob 158 = some F_law_k17 := rfl
@[simp] theorem g_law_k18 : glob 159 = some F_law_k18 := rfl
@[simp] theorem g_by_time : glob 160 = some F_by_time := rfl
@[simp] theorem g_weeks_by_time : glob 161 = some F_weeks_by_time := rfl
@[simp] theorem g_best_weeks_of : glob 162 = some F_best_weeks_of := rfl
@[simp] theorem g_most_in_week : glob 163 = some F_most_in_week := rfl
@[simp] theorem g_week_for : glob 164 = some F_week_for := rfl
@[simp] theorem g__law_best : glob 165 = some F__law_best := rfl
@[simp] theorem g_law_k19 : glob 166 = some F_law_k19 := rfl
@[simp] theorem g_least_week : glob 167 = some F_least_week := rfl
@[simp] theorem g_law_k20 : glob 168 = some F_law_k20 := rfl
@[simp] theorem g_need_roundings : glob 169 = some F_need_roundings := rfl
@[simp] theorem g_need_end : glob 170 = some F_need_end := rfl
@[simp] theorem g_rounded : glob 171 = some F_rounded := rfl
@[simp] theorem g_counts_twice : glob 172 = some F_counts_twice := rfl
@[simp] theorem g_once_for : glob 173 = some F_once_for := rfl
@[simp] theorem g_law_k21 : glob 174 = some F_law_k21 := rfl
@[simp] theorem g_fair_outs : glob 175 = some F_fair_outs := rfl
@[simp] theorem g_never_wins : glob 176 = some F_never_wins := rfl
@[simp] theorem g_never_loses : glob 177 = some F_never_loses := rfl
@[simp] theorem g__law_mean : glob 178 = some F__law_mean := rfl
@[simp] theorem g_law_k22 : glob 179 = some F_law_k22 := rfl
@[simp] theorem g_least_day_limit : glob 180 = some F_least_day_limit := rfl
@[simp] theorem g_least_week_limit : glob 181 = some F_least_week_limit := rfl
@[simp] theorem g__law_alike__k23 : glob 182 = some F__law_alike__k23 := rfl
@[simp] theorem g_law_k23 : glob 183 = some F_law_k23 := rfl
@[simp] theorem g_marks_of : glob 184 = some F_marks_of := rfl
@[simp] theorem g_both_marks : glob 185 = some F_both_marks := rfl
@[simp] theorem g_telling_days : glob 186 = some F_telling_days := rfl
@[simp] theorem g__law_marks : glob 187 = some F__law_marks := rfl
@[simp] theorem g_law_k25 : glob 190 = some F_law_k25 := rfl
def gvL : List (Option D) := [some (.ktup [.int 1, .int 2, .int 3, .int 4, .int 6, .int 8, .int 12]), some (.ktup [.str "down", .str "near", .str "up"]), some (.int 96), some (.int 8), some (.int 5), some (.int 300), some (.int 1500), some (.int 4), some (.int 6), none, some (.int 300), some (.int 1500), some (.int 1500), some (.int 480)]
def gvG (j : Nat) : Option D := (gvL[j]?).getD none
@[simp] theorem gv_0 : gvG 0 = some (.ktup [.int 1, .int 2, .int 3, .int 4, .int 6, .int 8, .int 12]) := rfl
@[simp] theorem gv_1 : gvG 1 = some (.ktup [.str "down", .str "near", .str "up"]) := rfl
@[simp] theorem gv_2 : gvG 2 = some (.int 96) := rfl
@[simp] theorem gv_3 : gvG 3 = some (.int 8) := rfl
@[simp] theorem gv_4 : gvG 4 = some (.int 5) := rfl
@[simp] theorem gv_5 : gvG 5 = some (.int 300) := rfl
@[simp] theorem gv_6 : gvG 6 = some (.int 1500) := rfl
@[simp] theorem gv_7 : gvG 7 = some (.int 4) := rfl
@[simp] theorem gv_8 : gvG 8 = some (.int 6) := rfl
@[simp] theorem gv_10 : gvG 10 = some (.int 300) := rfl
@[simp] theorem gv_11 : gvG 11 = some (.int 1500) := rfl
@[simp] theorem gv_12 : gvG 12 = some (.int 1500) := rfl
@[simp] theorem gv_13 : gvG 13 = some (.int 480) := rfl
/-- the calls of a body -/
def cfk (k : Nat) : Cf := ⟨semK glob gvG 100 k, fun i => match glob i with
  | some g => g.lend
  | none => false, gvG⟩
@[simp] theorem cfk_run {k j : Nat} {svs : List SV} : (cfk k).run j svs = semK glob gvG 100 k j svs := rfl
@[simp] theorem cfk_gv {k j : Nat} : (cfk k).gv j = gvG j := rfl
@[simp] theorem l_is_from {k : Nat} : (cfk k).lend 0 = false := rfl
@[simp] theorem l_is_rounding_of {k : Nat} : (cfk k).lend 1 = false := rfl
@[simp] theorem l_are_breaks_of {k : Nat} : (cfk k).lend 2 = false := rfl
@[simp] theorem l_is_manner_of {k : Nat} : (cfk k).lend 3 = false := rfl
@[simp] theorem l_is_manner {k : Nat} : (cfk k).lend 4 = false := rfl
@[simp] theorem l__law_deck {k : Nat} : (cfk k).lend 5 = false := rfl
@[simp] theorem l__law_pick {k : Nat} : (cfk k).lend 6 = true := rfl
@[simp] theorem l__law_one {k : Nat} : (cfk k).lend 7 = true := rfl
@[simp] theorem l__law_whole {k : Nat} : (cfk k).lend 8 = false := rfl
@[simp] theorem l__law_rounding {k : Nat} : (cfk k).lend 9 = true := rfl
@[simp] theorem l__law_manner {k : Nat} : (cfk k).lend 10 = true := rfl
@[simp] theorem l__law_is_from {k : Nat} : (cfk k).lend 11 = false := rfl
@[simp] theorem l__law_is_rounding {k : Nat} : (cfk k).lend 12 = false := rfl
@[simp] theorem l__law_is {k : Nat} : (cfk k).lend 13 = false := rfl
@[simp] theorem l__law_changed {k : Nat} : (cfk k).lend 14 = true := rfl
@[simp] theorem l_law_k01 {k : Nat} : (cfk k).lend 15 = false := rfl
@[simp] theorem l_need_manner {k : Nat} : (cfk k).lend 16 = false := rfl
@[simp] theorem l_need_time {k : Nat} : (cfk k).lend 17 = false := rfl
@[simp] theorem l_came {k : Nat} : (cfk k).lend 18 = false := rfl
@[simp] theorem l_went {k : Nat} : (cfk k).lend 19 = false := rfl
@[simp] theorem l_time_in {k : Nat} : (cfk k).lend 20 = false := rfl
@[simp] theorem l_time_out {k : Nat} : (cfk k).lend 21 = false := rfl
@[simp] theorem l__law_sort {k : Nat} : (cfk k).lend 24 = false := rfl
@[simp] theorem l__law_same {k : Nat} : (cfk k).lend 25 = false := rfl
@[simp] theorem l__law_punch {k : Nat} : (cfk k).lend 26 = false := rfl
@[simp] theorem l_law_k02 {k : Nat} : (cfk k).lend 27 = false := rfl
@[simp] theorem l_is_day_of {k : Nat} : (cfk k).lend 28 = false := rfl
@[simp] theorem l_is_week_of {k : Nat} : (cfk k).lend 29 = false := rfl
@[simp] theorem l_need_day {k : Nat} : (cfk k).lend 30 = false := rfl
@[simp] theorem l_need_week {k : Nat} : (cfk k).lend 31 = false := rfl
@[simp] theorem l_counted_of {k : Nat} : (cfk k).lend 32 = false := rfl
@[simp] theorem l_left_of {k : Nat} : (cfk k).lend 33 = false := rfl
@[simp] theorem l_split_of {k : Nat} : (cfk k).lend 34 = false := rfl
@[simp] theorem l_parts_of {k : Nat} : (cfk k).lend 35 = false := rfl
@[simp] theorem l_paid_of {k : Nat} : (cfk k).lend 36 = false := rfl
@[simp] theorem l_counted {k : Nat} : (cfk k).lend 37 = false := rfl
@[simp] theorem l_parts {k : Nat} : (cfk k).lend 38 = false := rfl
@[simp] theorem l_paid {k : Nat} : (cfk k).lend 39 = false := rfl
@[simp] theorem l__law_split {k : Nat} : (cfk k).lend 40 = false := rfl
@[simp] theorem l__law_counts {k : Nat} : (cfk k).lend 41 = false := rfl
@[simp] theorem l__law_worth {k : Nat} : (cfk k).lend 42 = false := rfl
@[simp] theorem l__law_pair {k : Nat} : (cfk k).lend 43 = true := rfl
@[simp] theorem l__law_days {k : Nat} : (cfk k).lend 44 = true := rfl
@[simp] theorem l_law_k03 {k : Nat} : (cfk k).lend 45 = false := rfl
@[simp] theorem l_need_manners {k : Nat} : (cfk k).lend 46 = false := rfl
@[simp] theorem l_lists_of {k : Nat} : (cfk k).lend 47 = false := rfl
@[simp] theorem l_all_parts {k : Nat} : (cfk k).lend 48 = false := rfl
@[simp] theorem l_every_day {k : Nat} : (cfk k).lend 49 = false := rfl
@[simp] theorem l_best_days {k : Nat} : (cfk k).lend 50 = false := rfl
@[simp] theorem l_best_weeks {k : Nat} : (cfk k).lend 51 = false := rfl
@[simp] theorem l_lead_of {k : Nat} : (cfk k).lend 52 = false := rfl
@[simp] theorem l_greatest_lead {k : Nat} : (cfk k).lend 53 = false := rfl
@[simp] theorem l_lead_week {k : Nat} : (cfk k).lend 54 = false := rfl
@[simp] theorem l_never_less {k : Nat} : (cfk k).lend 55 = false := rfl
@[simp] theorem l__law_bool {k : Nat} : (cfk k).lend 56 = false := rfl
@[simp] theorem l__law_worth__k04 {k : Nat} : (cfk k).lend 57 = false := rfl
@[simp] theorem l__law_bent {k : Nat} : (cfk k).lend 58 = true := rfl
@[simp] theorem l__law_every {k : Nat} : (cfk k).lend 59 = false := rfl
@[simp] theorem l__law_splits {k : Nat} : (cfk k).lend 60 = false := rfl
@[simp] theorem l__law_lead {k : Nat} : (cfk k).lend 61 = false := rfl
@[simp] theorem l__law_is_week {k : Nat} : (cfk k).lend 62 = false := rfl
@[simp] theorem l_law_k04 {k : Nat} : (cfk k).lend 63 = false := rfl
@[simp] theorem l_same_for_all {k : Nat} : (cfk k).lend 64 = false := rfl
@[simp] theorem l_alike {k : Nat} : (cfk k).lend 65 = false := rfl
@[simp] theorem l_first_day {k : Nat} : (cfk k).lend 66 = false := rfl
@[simp] theorem l_parting_day {k : Nat} : (cfk k).lend 67 = false := rfl
@[simp] theorem l_parting_week {k : Nat} : (cfk k).lend 68 = false := rfl
@[simp] theorem l__law_alone {k : Nat} : (cfk k).lend 69 = false := rfl
@[simp] theorem l__law_same_so {k : Nat} : (cfk k).lend 70 = true := rfl
@[simp] theorem l_law_k05 {k : Nat} : (cfk k).lend 71 = false := rfl
@[simp] theorem l_need_number {k : Nat} : (cfk k).lend 72 = false := rfl
@[simp] theorem l_lowest_terms {k : Nat} : (cfk k).lend 73 = false := rfl
@[simp] theorem l_won {k : Nat} : (cfk k).lend 74 = false := rfl
@[simp] theorem l_ends_of {k : Nat} : (cfk k).lend 75 = false := rfl
@[simp] theorem l_most_won {k : Nat} : (cfk k).lend 76 = false := rfl
@[simp] theorem l_most_lost {k : Nat} : (cfk k).lend 77 = false := rfl
@[simp] theorem l_mean_of {k : Nat} : (cfk k).lend 78 = false := rfl
@[simp] theorem l_mean_won {k : Nat} : (cfk k).lend 79 = false := rfl
@[simp] theorem l_won_day {k : Nat} : (cfk k).lend 80 = false := rfl
@[simp] theorem l__law_terms {k : Nat} : (cfk k).lend 81 = false := rfl
@[simp] theorem l__law_ends {k : Nat} : (cfk k).lend 82 = false := rfl
@[simp] theorem l_steps_of {k : Nat} : (cfk k).lend 84 = false := rfl
@[simp] theorem l_best_quarter {k : Nat} : (cfk k).lend 85 = false := rfl
@[simp] theorem l_worse_quarter {k : Nat} : (cfk k).lend 86 = false := rfl
@[simp] theorem l__law_more {k : Nat} : (cfk k).lend 87 = false := rfl
@[simp] theorem l_law_k07 {k : Nat} : (cfk k).lend 88 = false := rfl
@[simp] theorem l_same_punches {k : Nat} : (cfk k).lend 89 = false := rfl
@[simp] theorem l_law_k08 {k : Nat} : (cfk k).lend 90 = false := rfl
@[simp] theorem l_pay_of {k : Nat} : (cfk k).lend 92 = false := rfl
@[simp] theorem l_most_paid {k : Nat} : (cfk k).lend 93 = false := rfl
@[simp] theorem l_least_time {k : Nat} : (cfk k).lend 94 = false := rfl
@[simp] theorem l__law_manner__k09 {k : Nat} : (cfk k).lend 95 = true := rfl
@[simp] theorem l__law_most {k : Nat} : (cfk k).lend 97 = false := rfl
@[simp] theorem l_law_k09 {k : Nat} : (cfk k).lend 98 = false := rfl
@[simp] theorem l_same_graces {k : Nat} : (cfk k).lend 99 = false := rfl
@[simp] theorem l_same_sides {k : Nat} : (cfk k).lend 100 = false := rfl
@[simp] theorem l_needless_breaks {k : Nat} : (cfk k).lend 101 = false := rfl
@[simp] theorem l_is_needless {k : Nat} : (cfk k).lend 102 = false := rfl
@[simp] theorem l__law_alike {k : Nat} : (cfk k).lend 103 = false := rfl
@[simp] theorem l__law_right {k : Nat} : (cfk k).lend 104 = false := rfl
@[simp] theorem l_law_k10 {k : Nat} : (cfk k).lend 105 = false := rfl
@[simp] theorem l_numbers_of {k : Nat} : (cfk k).lend 106 = false := rfl
@[simp] theorem l_pays {k : Nat} : (cfk k).lend 107 = false := rfl
@[simp] theorem l_count_weeks {k : Nat} : (cfk k).lend 109 = false := rfl
@[simp] theorem l_day_for {k : Nat} : (cfk k).lend 110 = false := rfl
@[simp] theorem l_most_day {k : Nat} : (cfk k).lend 111 = false := rfl
@[simp] theorem l__law_numbers {k : Nat} : (cfk k).lend 112 = false := rfl
@[simp] theorem l__law_twice {k : Nat} : (cfk k).lend 113 = false := rfl
@[simp] theorem l__law_written {k : Nat} : (cfk k).lend 114 = false := rfl
@[simp] theorem l_law_k11 {k : Nat} : (cfk k).lend 115 = false := rfl
@[simp] theorem l_need_manners_of {k : Nat} : (cfk k).lend 116 = false := rfl
@[simp] theorem l_need_seen {k : Nat} : (cfk k).lend 117 = false := rfl
@[simp] theorem l_explains {k : Nat} : (cfk k).lend 118 = false := rfl
@[simp] theorem l_fitting {k : Nat} : (cfk k).lend 119 = false := rfl
@[simp] theorem l_telling_day {k : Nat} : (cfk k).lend 120 = false := rfl
@[simp] theorem l__law_telling {k : Nat} : (cfk k).lend 121 = false := rfl
@[simp] theorem l_law_k12 {k : Nat} : (cfk k).lend 122 = false := rfl
@[simp] theorem l_every_rounding {k : Nat} : (cfk k).lend 123 = false := rfl
@[simp] theorem l_roundings_for {k : Nat} : (cfk k).lend 124 = false := rfl
@[simp] theorem l__law_all {k : Nat} : (cfk k).lend 125 = false := rfl
@[simp] theorem l_law_k13 {k : Nat} : (cfk k).lend 126 = false := rfl
@[simp] theorem l_number_in {k : Nat} : (cfk k).lend 136 = false := rfl
@[simp] theorem l__law_pick__k16 {k : Nat} : (cfk k).lend 139 = true := rfl
@[simp] theorem l__law_one__k16 {k : Nat} : (cfk k).lend 140 = true := rfl
@[simp] theorem l__law_same__k16 {k : Nat} : (cfk k).lend 141 = false := rfl
@[simp] theorem l__law_rounding__k16 {k : Nat} : (cfk k).lend 142 = true := rfl
@[simp] theorem l__law_manner__k16 {k : Nat} : (cfk k).lend 143 = true := rfl
@[simp] theorem l__law_number {k : Nat} : (cfk k).lend 145 = false := rfl
@[simp] theorem l__law_rounded {k : Nat} : (cfk k).lend 146 = false := rfl
@[simp] theorem l_least_time__k17 {k : Nat} : (cfk k).lend 151 = false := rfl
@[simp] theorem l_count_weeks__k17 {k : Nat} : (cfk k).lend 152 = false := rfl
@[simp] theorem l_day_for__k17 {k : Nat} : (cfk k).lend 153 = false := rfl
@[simp] theorem l_need_seen__k17 {k : Nat} : (cfk k).lend 154 = false := rfl
@[simp] theorem l_roundings_for__k17 {k : Nat} : (cfk k).lend 155 = false := rfl
@[simp] theorem l__law_odd {k : Nat} : (cfk k).lend 156 = true := rfl
@[simp] theorem l__law_no_manner {k : Nat} : (cfk k).lend 157 = false := rfl
@[simp] theorem l_law_k17 {k : Nat} : (cfk k).lend 158 = false := rfl
@[simp] theorem l_law_k18 {k : Nat} : (cfk k).lend 159 = false := rfl
@[simp] theorem l_by_time {k : Nat} : (cfk k).lend 160 = false := rfl
@[simp] theorem l_weeks_by_time {k : Nat} : (cfk k).lend 161 = false := rfl
@[simp] theorem l_best_weeks_of {k : Nat} : (cfk k).lend 162 = false := rfl
@[simp] theorem l_most_in_week {k : Nat} : (cfk k).lend 163 = false := rfl
@[simp] theorem l_week_for {k : Nat} : (cfk k).lend 164 = false := rfl
@[simp] theorem l__law_best {k : Nat} : (cfk k).lend 165 = false := rfl
@[simp] theorem l_law_k19 {k : Nat} : (cfk k).lend 166 = false := rfl
@[simp] theorem l_least_week {k : Nat} : (cfk k).lend 167 = false := rfl
@[simp] theorem l_law_k20 {k : Nat} : (cfk k).lend 168 = false := rfl
@[simp] theorem l_need_roundings {k : Nat} : (cfk k).lend 169 = false := rfl
@[simp] theorem l_need_end {k : Nat} : (cfk k).lend 170 = false := rfl
@[simp] theorem l_rounded {k : Nat} : (cfk k).lend 171 = false := rfl
@[simp] theorem l_counts_twice {k : Nat} : (cfk k).lend 172 = false := rfl
@[simp] theorem l_once_for {k : Nat} : (cfk k).lend 173 = false := rfl
@[simp] theorem l_law_k21 {k : Nat} : (cfk k).lend 174 = false := rfl
@[simp] theorem l_fair_outs {k : Nat} : (cfk k).lend 175 = false := rfl
@[simp] theorem l_never_wins {k : Nat} : (cfk k).lend 176 = false := rfl
@[simp] theorem l_never_loses {k : Nat} : (cfk k).lend 177 = false := rfl
@[simp] theorem l__law_mean {k : Nat} : (cfk k).lend 178 = false := rfl
@[simp] theorem l_law_k22 {k : Nat} : (cfk k).lend 179 = false := rfl
@[simp] theorem l_least_day_limit {k : Nat} : (cfk k).lend 180 = false := rfl
@[simp] theorem l_least_week_limit {k : Nat} : (cfk k).lend 181 = false := rfl
@[simp] theorem l__law_alike__k23 {k : Nat} : (cfk k).lend 182 = false := rfl
@[simp] theorem l_law_k23 {k : Nat} : (cfk k).lend 183 = false := rfl
@[simp] theorem l_marks_of {k : Nat} : (cfk k).lend 184 = false := rfl
@[simp] theorem l_both_marks {k : Nat} : (cfk k).lend 185 = false := rfl
@[simp] theorem l_telling_days {k : Nat} : (cfk k).lend 186 = false := rfl
@[simp] theorem l__law_marks {k : Nat} : (cfk k).lend 187 = false := rfl
@[simp] theorem l_law_k25 {k : Nat} : (cfk k).lend 190 = false := rfl
theorem semK_eq {k j : Nat} {fd : Fd} (h : glob j = some fd) (svs : List SV) : semK glob gvG 100 (k + 1) j svs = if svs.length = fd.np ∧ isLent svs = fd.lend then finF fd.lend (exSs (cfk k) 100 fd.body (svs.map some ++ List.replicate (fd.nl - fd.np) none)) else .stuck := by
  conv => lhs; unfold semK
  rw [h]
  rfl
end DL

namespace DL
open PySem PySem.Spec PyProof.Rows L2
/-- for the pure lemmas -/
instance (priority := low) tbNone : TB := ⟨[]⟩

/-! ### reading the evaluator -/
/-- a slot that may be stored -/
def free : Option SV → Bool
  | none => true
  | some sv => !sv.lent
theorem free_dat {d : D} : free (some (.dat d)) = true := rfl
theorem free_own {d : D} : free (some (.own d)) = true := rfl
theorem free_none : free none = true := rfl
theorem setS_eq {i : Nat} {sv : SV} {ρ : Env'} : setS i sv ρ = if sv.lent = true then .stuck else match ρ[i]? with
  | some x => if free x = true then .nx (ρ.set i (some sv)) else .stuck
  | none => .stuck := by
  unfold setS
  split
  · rfl
  · cases h : ρ[i]? with
    | none => rfl
    | some x =>
      cases x with
      | none => rfl
      | some sw => cases sw <;> rfl
theorem asg_nm {i : Nat} {d : D} {ρ : Env'} : asg (.nm i) d ρ = match ρ[i]? with
  | some x => if free x = true then some (ρ.set i (some (.dat d))) else none
  | none => none := by
  unfold asg
  cases h : ρ[i]? with
  | none => rfl
  | some x =>
    cases x with
    | none => rfl
    | some sw => cases sw <;> rfl
theorem asg_tup {ts : List Tg} {ds : List D} {ρ : Env'} : asg (.tup ts) (.tup ds) ρ = asgs ts ds ρ := by unfold asg; rfl
theorem asg_ktup {ts : List Tg} {ds : List D} {ρ : Env'} : asg (.tup ts) (.ktup ds) ρ = asgs ts ds ρ := by unfold asg; rfl
theorem asg_lst {ts : List Tg} {ds : List D} {ρ : Env'} : asg (.tup ts) (.lst ds) ρ = asgs ts ds ρ := by unfold asg; rfl
theorem asgs_nil {ρ : Env'} : asgs [] [] ρ = some ρ := by unfold asgs; rfl
theorem asgs_cons {t : Tg} {ts : List Tg} {d : D} {ds : List D} {ρ : Env'} : asgs (t :: ts) (d :: ds) ρ = (asg t d ρ).bind fun ρ1 => asgs ts ds ρ1 := by conv => lhs; unfold asgs
/-- a loop by its invariant: J at turn i -/
theorem forGo_inv {body : Env' → SRes} {T : Tg} (J : Nat → Env' → Prop) (R : SRes → Prop) : ∀ (ds : List D) (i : Nat) (ρ : Env'), J i ρ →
    (∀ j d ρ, ds[j]? = some d → J (i + j) ρ → ∃ ρ1, asg T d ρ = some ρ1 ∧ ((∃ ρ2, (body ρ1 = .nx ρ2 ∨ body ρ1 = .ct ρ2) ∧ J (i + j + 1) ρ2) ∨ (∃ ρ2, body ρ1 = .bk ρ2 ∧ R (.nx ρ2)) ∨ (∃ sv ρ2, body ρ1 = .rt sv ρ2 ∧ R (.rt sv ρ2)))) → (∀ ρ, J (i + ds.length) ρ → R (.nx ρ)) → R (forGo body T ds ρ)
  | [], i, ρ, h, _, e => e ρ h
  | d :: ds, i, ρ, h, st, e => by
    obtain ⟨ρ1, e1, hh⟩ := st 0 d ρ rfl h
    unfold forGo
    rw [e1]
    dsimp only
    rcases hh with ⟨ρ2, e2, j⟩ | ⟨ρ2, e2, r⟩ | ⟨sv, ρ2, e2, r⟩
    · have := forGo_inv J R ds (i + 1) ρ2 j (fun j d ρ hd hj => by
        have := st (j + 1) d ρ (by simpa using hd) (by rw [show i + (j + 1) = i + 1 + j by omega]; exact hj)
        rw [show i + (j + 1) + 1 = i + 1 + j + 1 by omega] at this
        exact this) (fun ρ hj => e ρ (by rw [List.length_cons, show i + (ds.length + 1) = i + 1 + ds.length by omega]; exact hj))
      rcases e2 with e2 | e2 <;> (rw [e2]; exact this)
    · rw [e2]; exact r
    · rw [e2]; exact r
/-! what simp is not to enter -/
theorem lcGo_congr {fe : Env' → Res SV} {ft : Env' → Res Bool} {own : List Nat} {tg : Tg} {ds ds' acc acc' : List D} {ρ ρ' : Env'} (h1 : ds = ds') (h2 : acc = acc') (h3 : ρ = ρ') : lcGo fe ft own tg ds acc ρ = lcGo fe ft own tg ds' acc' ρ' := by rw [h1, h2, h3]
theorem lcOut_congr {own own1 : List Nat} {tg : Tg} {fi : Env' → Res (List D)} {go : List D → List D → Env' → Res (List D)} {ds ds' acc acc' : List D} {ρ ρ' : Env'} (h1 : ds = ds') (h2 : acc = acc') (h3 : ρ = ρ') : lcOut own own1 tg fi go ds acc ρ = lcOut own own1 tg fi go ds' acc' ρ' := by rw [h1, h2, h3]
theorem forGo_congr {body : Env' → SRes} {T : Tg} {ds ds' : List D} {ρ ρ' : Env'} (h1 : ds = ds') (h3 : ρ = ρ') : forGo body T ds ρ = forGo body T ds' ρ' := by rw [h1, h3]
theorem whGo_congr {c : Env' → Res Bool} {body : Env' → SRes} {m : Nat} {ρ ρ' : Env'} (h3 : ρ = ρ') : whGo c body m ρ = whGo c body m ρ' := by rw [h3]
theorem opds_congr {f : Q → Env' → Res SV} {qs : List Q} {ρ ρ' : Env'} (h3 : ρ = ρ') : opds f qs ρ = opds f qs ρ' := by rw [h3]
theorem vals_congr {f : Q → Env' → Res SV} {qs : List Q} {ρ ρ' : Env'} (h3 : ρ = ρ') : vals f qs ρ = vals f qs ρ' := by rw [h3]
theorem opd_congr {f : Q → Env' → Res SV} {q : Q} {ρ ρ' : Env'} (h3 : ρ = ρ') : opd f q ρ = opd f q ρ' := by rw [h3]
theorem op2_congr {α : Type} {f : Q → Env' → Res SV} {g : D → D → Option α} {a b : Q} {ρ ρ' : Env'} (h3 : ρ = ρ') : op2 f g a b ρ = op2 f g a b ρ' := by rw [h3]
theorem evIt_congr {f : Q → Env' → Res SV} {it : It} {ρ ρ' : Env'} (h3 : ρ = ρ') : evIt f it ρ = evIt f it ρ' := by rw [h3]
theorem lcFin_congr {own : List Nat} {fi : Env' → Res (List D)} {go : List D → List D → Env' → Res (List D)} {ρ ρ' : Env'} (h3 : ρ = ρ') : lcFin own fi go ρ = lcFin own fi go ρ' := by rw [h3]
end DL

namespace DL
open PySem PySem.Spec PyProof.Rows L2
/-! the evaluator's equations, one for each form (so that simp never opens it where it is not applied) -/
theorem ev_var {cf : Cf} {n : Nat} {i : Nat} {ρ : Env'} : ev cf (n + 1) (.var i) ρ = ((match ρ[i]? with
      | some (some (.dat d)) => .ok (.dat d) ρ
      | some (some (.own d)) => .ok (.dat d) (ρ.set i (some (.dat d)))
      | _ => .stuck)) := rfl
theorem ev_cst {cf : Cf} {n : Nat} {d : D} {ρ : Env'} : ev cf (n + 1) (.cst d) ρ = (.ok (.dat d) ρ) := rfl
theorem ev_glb {cf : Cf} {n : Nat} {j : Nat} {ρ : Env'} : ev cf (n + 1) (.glb j) ρ = ((match cf.gv j with
      | some d => .ok (.dat d) ρ
      | none => .stuck)) := rfl
theorem ev_fnv {cf : Cf} {n : Nat} {j : Nat} {ρ : Env'} : ev cf (n + 1) (.fnv j) ρ = (.ok (.dat (.fn j)) ρ) := rfl
theorem ev_tup {cf : Cf} {n : Nat} {qs : List Q} {ρ : Env'} : ev cf (n + 1) (.tup qs) ρ = ((vals (ev cf n) qs ρ).bind fun ds ρ1 => if ds.length ≤ Z24 then .ok (.dat (.tup ds)) ρ1 else .stuck) := rfl
theorem ev_lst {cf : Cf} {n : Nat} {qs : List Q} {ρ : Env'} : ev cf (n + 1) (.lst qs) ρ = ((vals (ev cf n) qs ρ).bind fun ds ρ1 => if ds.length ≤ Z24 then .ok (.own (.lst ds)) ρ1 else .stuck) := rfl
theorem ev_lmul {cf : Cf} {n : Nat} {qs : List Q} {b : Q} {ρ : Env'} : ev cf (n + 1) (.lmul qs b) ρ = ((vals (ev cf n) qs ρ).bind fun ds ρ1 => if ds.length ≤ Z24 then (ev cf n b ρ1).bind fun sv ρ2 => (match sv.d with
      | .int k => if (-(2 ^ 63) ≤ k ∧ k < 2 ^ 63) ∧ ds.length * k.toNat ≤ Z24 then .ok (.own (.lst (List.replicate k.toNat ds).flatten)) ρ2 else .stuck
      | _ => .stuck) else .stuck) := rfl
theorem ev_dic_false {cf : Cf} {n : Nat}  {ρ : Env'} : ev cf (n + 1) (.dic false) ρ = (.ok (.own (.dK [])) ρ) := rfl
theorem ev_dic_true {cf : Cf} {n : Nat}  {ρ : Env'} : ev cf (n + 1) (.dic true) ρ = (.ok (.own (.dT [])) ρ) := rfl
theorem ev_dic1 {cf : Cf} {n : Nat} {k : Q} {v : Q} {ρ : Env'} : ev cf (n + 1) (.dic1 k v) ρ = ((ev cf n k ρ).bind fun sk ρ1 => (ev cf n v ρ1).bind fun sv ρ2 => (match keyOf sk.d with
      | some kk => .ok (.own (.dK [(kk, sv.d)])) ρ2
      | none => .stuck)) := rfl
theorem ev_bin {cf : Cf} {n : Nat} {o : Operator} {a : Q} {b : Q} {ρ : Env'} : ev cf (n + 1) (.bin o a b) ρ = (op2 (ev cf n) (binP o) a b ρ) := rfl
theorem ev_neg {cf : Cf} {n : Nat} {a : Q} {ρ : Env'} : ev cf (n + 1) (.neg a) ρ = ((ev cf n a ρ).bind fun sv ρ1 => (match sv.d with
      | .int i => .ok (.dat (.int (-i))) ρ1
      | _ => .stuck)) := rfl
theorem ev_cmp {cf : Cf} {n : Nat} {o : CmpOp} {a : Q} {b : Q} {ρ : Env'} : ev cf (n + 1) (.cmp o a b) ρ = ((op2 (ev cf n) (cmpP o) a b ρ).bind fun c ρ1 => .ok (.dat (.bl c)) ρ1) := rfl
theorem ev_chain {cf : Cf} {n : Nat} {o : CmpOp} {o' : CmpOp} {a : Q} {b : Q} {c : Q} {ρ : Env'} : ev cf (n + 1) (.chain o o' a b c) ρ = ((ev cf n a ρ).bind fun sa ρ1 => (ev cf n b ρ1).bind fun sb ρ2 => (match cmpP o sa.d sb.d with
      | some true => (ev cf n c ρ2).bind fun sc ρ3 => (match cmpP o' sb.d sc.d with
        | some r => .ok (.dat (.bl r)) ρ3
        | none => .stuck)
      | some false => .ok (.dat (.bl false)) ρ2
      | none => .stuck)) := rfl
theorem ev_and {cf : Cf} {n : Nat} {a : Q} {b : Q} {ρ : Env'} : ev cf (n + 1) (.and a b) ρ = ((ev cf n a ρ).bind fun sa ρ1 => (match sa.d with
      | .bl true => (ev cf n b ρ1).bind fun sb ρ2 => .ok (.dat sb.d) ρ2
      | .bl false => .ok (.dat (.bl false)) ρ1
      | _ => .stuck)) := rfl
theorem ev_or {cf : Cf} {n : Nat} {a : Q} {b : Q} {ρ : Env'} : ev cf (n + 1) (.or a b) ρ = ((ev cf n a ρ).bind fun sa ρ1 => (match sa.d with
      | .bl false => (ev cf n b ρ1).bind fun sb ρ2 => .ok (.dat sb.d) ρ2
      | .bl true => .ok (.dat (.bl true)) ρ1
      | _ => .stuck)) := rfl
theorem ev_not {cf : Cf} {n : Nat} {a : Q} {ρ : Env'} : ev cf (n + 1) (.not a) ρ = ((ev cf n a ρ).bind fun sa ρ1 => (match sa.d with
      | .bl b => .ok (.dat (.bl (!b))) ρ1
      | _ => .stuck)) := rfl
theorem ev_ite {cf : Cf} {n : Nat} {c : Q} {a : Q} {b : Q} {ρ : Env'} : ev cf (n + 1) (.ite c a b) ρ = ((evT cf n c ρ).bind fun t ρ1 => if t = true then ev cf n a ρ1 else ev cf n b ρ1) := rfl
theorem ev_idx {cf : Cf} {n : Nat} {a : Q} {b : Q} {ρ : Env'} : ev cf (n + 1) (.idx a b) ρ = ((op2 (ev cf n) idxP a b ρ).bind fun d ρ1 => .ok (.dat d) ρ1) := rfl
theorem ev_slc {cf : Cf} {n : Nat} {a : Q} {lo : Option Q} {hi : Option Q} {ρ : Env'} : ev cf (n + 1) (.slc a lo hi) ρ = ((opd (ev cf n) a ρ).bind fun p ρ1 => (part cf n lo ρ1).bind fun l ρ2 => (part cf n hi ρ2).bind fun h ρ3 => (match cont ρ3 p with
      | some d => lift (slP d l h) ρ3
      | none => .stuck)) := rfl
theorem ev_rev {cf : Cf} {n : Nat} {a : Q} {ρ : Env'} : ev cf (n + 1) (.rev a) ρ = ((opd (ev cf n) a ρ).bind fun p ρ1 => (match cont ρ1 p with
      | some (.tup ds) => .ok (.dat (.tup ds.reverse)) ρ1
      | some (.lst ds) => .ok (.own (.lst ds.reverse)) ρ1
      | _ => .stuck)) := rfl
theorem ev_call {cf : Cf} {n : Nat} {j : Nat} {args : List Q} {ρ : Env'} : ev cf (n + 1) (.call j args) ρ = ((opds (ev cf n) args ρ).bind fun ps ρ1 => callR cf j ps ρ1) := rfl
theorem ev_callv {cf : Cf} {n : Nat} {i : Nat} {args : List Q} {ρ : Env'} : ev cf (n + 1) (.callv i args) ρ = ((match ρ[i]? with
      | some (some (.dat (.fn j))) => (opds (ev cf n) args ρ).bind fun ps ρ1 => callR cf j ps ρ1
      | _ => .stuck)) := rfl
theorem ev_bi {cf : Cf} {n : Nat} {b : BI} {args : List Q} {ρ : Env'} : ev cf (n + 1) (.bi b args) ρ = ((opds (ev cf n) args ρ).bind fun ps ρ1 => (match conts ρ1 ps with
      | some ds => lift (callP b ds) ρ1
      | none => .stuck)) := rfl
theorem ev_inst {cf : Cf} {n : Nat} {a : Q} {ρ : Env'} : ev cf (n + 1) (.inst a T) ρ = ((opd (ev cf n) a ρ).bind fun p ρ1 => (match cont ρ1 p with
      | some d => (match instP d T with
        | some b => .ok (.dat (.bl b)) ρ1
        | none => .stuck)
      | none => .stuck)) := rfl
theorem ev_get {cf : Cf} {n : Nat} {a : Q} {k : Q} {d : Q} {ρ : Env'} : ev cf (n + 1) (.get a k d) ρ = ((opd (ev cf n) a ρ).bind fun p ρ1 => if isDic (cont ρ1 p) = true then (ev cf n k ρ1).bind fun sk ρ2 => (ev cf n d ρ2).bind fun sd ρ3 => (match cont ρ3 p with
      | some (.dK kds) => (match keyOf sk.d with
        | some kk => .ok (.dat ((lookD kds kk).getD sd.d)) ρ3
        | none => .stuck)
      | some (.dT kds) => (match sk.d with
        | .tup ks => (match keysOf ks with
          | some kk => .ok (.dat ((lookD kds kk).getD sd.d)) ρ3
          | none => .stuck)
        | _ => .stuck)
      | _ => .stuck) else .stuck) := rfl
theorem ev_lrng {cf : Cf} {n : Nat} {a : Q} {ρ : Env'} : ev cf (n + 1) (.lrng a) ρ = ((ev cf n a ρ).bind fun sa ρ1 => (match sa.d with
      | .int j => if 0 ≤ j ∧ j ≤ Z24 then .ok (.own (.lst (rangeD 0 j.toNat))) ρ1 else .stuck
      | _ => .stuck)) := rfl
theorem ev_dcp {cf : Cf} {n : Nat} {a : Q} {ρ : Env'} : ev cf (n + 1) (.dcp a) ρ = ((opd (ev cf n) a ρ).bind fun p ρ1 => (match cont ρ1 p with
      | some (.dK kds) => .ok (.own (.dK kds)) ρ1
      | _ => .stuck)) := rfl
theorem ev_dprs {cf : Cf} {n : Nat} {a : Q} {ρ : Env'} : ev cf (n + 1) (.dprs a) ρ = ((opd (ev cf n) a ρ).bind fun p ρ1 => (match cont ρ1 p with
      | some (.lst es) => (match pairsK es with
        | some kds => .ok (.own (.dK (kds.foldl (fun acc kv => putD acc kv.1 kv.2) []))) ρ1
        | none => .stuck)
      | _ => .stuck)) := rfl
theorem ev_lc {cf : Cf} {n : Nat} {own : List Nat} {tg : Tg} {it : It} {c : Option Q} {e : Q} {ρ : Env'} : ev cf (n + 1) (.lc own tg it c e) ρ = (lcFin own (evIt (ev cf n) it) (lcGo (ev cf n e) (testO (evT cf n) c) own tg) ρ) := rfl
theorem ev_lc2 {cf : Cf} {n : Nat} {own : List Nat} {own1 : List Nat} {tg : Tg} {it : It} {tg1 : Tg} {it1 : It} {c : Option Q} {e : Q} {ρ : Env'} : ev cf (n + 1) (.lc2 own own1 tg it tg1 it1 c e) ρ = (lcFin own (evIt (ev cf n) it) (lcOut own own1 tg (evIt (ev cf n) it1) (lcGo (ev cf n e) (testO (evT cf n) c) own1 tg1)) ρ) := rfl
theorem ev_lc3 {cf : Cf} {n : Nat} {own : List Nat} {own1 : List Nat} {own2 : List Nat} {tg : Tg} {it : It} {tg1 : Tg} {it1 : It} {tg2 : Tg} {it2 : It} {c : Option Q} {e : Q} {ρ : Env'} : ev cf (n + 1) (.lc3 own own1 own2 tg it tg1 it1 tg2 it2 c e) ρ = (lcFin own (evIt (ev cf n) it) (lcOut own own1 tg (evIt (ev cf n) it1) (lcOut own1 own2 tg1 (evIt (ev cf n) it2) (lcGo (ev cf n e) (testO (evT cf n) c) own2 tg2))) ρ) := rfl
theorem ev_tri {cf : Cf} {n : Nat} {q : Q} {ρ : Env'} : ev cf (n + 1) (.tri q) ρ = (triR (ev cf n q ρ)) := rfl
theorem evT_and {cf : Cf} {n : Nat} {a : Q} {b : Q} {ρ : Env'} : evT cf (n + 1) (.and a b) ρ = ((evT cf n a ρ).bind fun t ρ1 => if t = true then evT cf n b ρ1 else .ok false ρ1) := rfl
theorem evT_or {cf : Cf} {n : Nat} {a : Q} {b : Q} {ρ : Env'} : evT cf (n + 1) (.or a b) ρ = ((evT cf n a ρ).bind fun t ρ1 => if t = true then .ok true ρ1 else evT cf n b ρ1) := rfl
theorem evT_not {cf : Cf} {n : Nat} {a : Q} {ρ : Env'} : evT cf (n + 1) (.not a) ρ = ((evT cf n a ρ).bind fun t ρ1 => .ok (!t) ρ1) := rfl
theorem evT_var {cf : Cf} {n : Nat} {a0 : Nat} {ρ : Env'} : evT cf (n + 1) (.var a0) ρ = ((ev cf n (.var a0) ρ).bind fun sv ρ1 => lift (tru sv.d) ρ1) := rfl
theorem evT_cst {cf : Cf} {n : Nat} {a0 : D} {ρ : Env'} : evT cf (n + 1) (.cst a0) ρ = ((ev cf n (.cst a0) ρ).bind fun sv ρ1 => lift (tru sv.d) ρ1) := rfl
theorem evT_glb {cf : Cf} {n : Nat} {a0 : Nat} {ρ : Env'} : evT cf (n + 1) (.glb a0) ρ = ((ev cf n (.glb a0) ρ).bind fun sv ρ1 => lift (tru sv.d) ρ1) := rfl
theorem evT_fnv {cf : Cf} {n : Nat} {a0 : Nat} {ρ : Env'} : evT cf (n + 1) (.fnv a0) ρ = ((ev cf n (.fnv a0) ρ).bind fun sv ρ1 => lift (tru sv.d) ρ1) := rfl
theorem evT_tup {cf : Cf} {n : Nat} {a0 : List Q} {ρ : Env'} : evT cf (n + 1) (.tup a0) ρ = ((ev cf n (.tup a0) ρ).bind fun sv ρ1 => lift (tru sv.d) ρ1) := rfl
theorem evT_lst {cf : Cf} {n : Nat} {a0 : List Q} {ρ : Env'} : evT cf (n + 1) (.lst a0) ρ = ((ev cf n (.lst a0) ρ).bind fun sv ρ1 => lift (tru sv.d) ρ1) := rfl
theorem evT_lmul {cf : Cf} {n : Nat} {a0 : List Q} {a1 : Q} {ρ : Env'} : evT cf (n + 1) (.lmul a0 a1) ρ = ((ev cf n (.lmul a0 a1) ρ).bind fun sv ρ1 => lift (tru sv.d) ρ1) := rfl
theorem evT_dic {cf : Cf} {n : Nat} {a0 : Bool} {ρ : Env'} : evT cf (n + 1) (.dic a0) ρ = ((ev cf n (.dic a0) ρ).bind fun sv ρ1 => lift (tru sv.d) ρ1) := rfl
theorem evT_dic1 {cf : Cf} {n : Nat} {a0 : Q} {a1 : Q} {ρ : Env'} : evT cf (n + 1) (.dic1 a0 a1) ρ = ((ev cf n (.dic1 a0 a1) ρ).bind fun sv ρ1 => lift (tru sv.d) ρ1) := rfl
theorem evT_bin {cf : Cf} {n : Nat} {a0 : Operator} {a1 : Q} {a2 : Q} {ρ : Env'} : evT cf (n + 1) (.bin a0 a1 a2) ρ = ((ev cf n (.bin a0 a1 a2) ρ).bind fun sv ρ1 => lift (tru sv.d) ρ1) := rfl
theorem evT_neg {cf : Cf} {n : Nat} {a0 : Q} {ρ : Env'} : evT cf (n + 1) (.neg a0) ρ = ((ev cf n (.neg a0) ρ).bind fun sv ρ1 => lift (tru sv.d) ρ1) := rfl
theorem evT_cmp {cf : Cf} {n : Nat} {a0 : CmpOp} {a1 : Q} {a2 : Q} {ρ : Env'} : evT cf (n + 1) (.cmp a0 a1 a2) ρ = ((ev cf n (.cmp a0 a1 a2) ρ).bind fun sv ρ1 => lift (tru sv.d) ρ1) := rfl
theorem evT_chain {cf : Cf} {n : Nat} {a0 : CmpOp} {a1 : CmpOp} {a2 : Q} {a3 : Q} {a4 : Q} {ρ : Env'} : evT cf (n + 1) (.chain a0 a1 a2 a3 a4) ρ = ((ev cf n (.chain a0 a1 a2 a3 a4) ρ).bind fun sv ρ1 => lift (tru sv.d) ρ1) := rfl
theorem evT_ite {cf : Cf} {n : Nat} {a0 : Q} {a1 : Q} {a2 : Q} {ρ : Env'} : evT cf (n + 1) (.ite a0 a1 a2) ρ = ((ev cf n (.ite a0 a1 a2) ρ).bind fun sv ρ1 => lift (tru sv.d) ρ1) := rfl
theorem evT_idx {cf : Cf} {n : Nat} {a0 : Q} {a1 : Q} {ρ : Env'} : evT cf (n + 1) (.idx a0 a1) ρ = ((ev cf n (.idx a0 a1) ρ).bind fun sv ρ1 => lift (tru sv.d) ρ1) := rfl
theorem evT_slc {cf : Cf} {n : Nat} {a0 : Q} {a1 : Option Q} {a2 : Option Q} {ρ : Env'} : evT cf (n + 1) (.slc a0 a1 a2) ρ = ((ev cf n (.slc a0 a1 a2) ρ).bind fun sv ρ1 => lift (tru sv.d) ρ1) := rfl
theorem evT_rev {cf : Cf} {n : Nat} {a0 : Q} {ρ : Env'} : evT cf (n + 1) (.rev a0) ρ = ((ev cf n (.rev a0) ρ).bind fun sv ρ1 => lift (tru sv.d) ρ1) := rfl
theorem evT_call {cf : Cf} {n : Nat} {a0 : Nat} {a1 : List Q} {ρ : Env'} : evT cf (n + 1) (.call a0 a1) ρ = ((ev cf n (.call a0 a1) ρ).bind fun sv ρ1 => lift (tru sv.d) ρ1) := rfl
theorem evT_callv {cf : Cf} {n : Nat} {a0 : Nat} {a1 : List Q} {ρ : Env'} : evT cf (n + 1) (.callv a0 a1) ρ = ((ev cf n (.callv a0 a1) ρ).bind fun sv ρ1 => lift (tru sv.d) ρ1) := rfl
theorem evT_bi {cf : Cf} {n : Nat} {a0 : BI} {a1 : List Q} {ρ : Env'} : evT cf (n + 1) (.bi a0 a1) ρ = ((ev cf n (.bi a0 a1) ρ).bind fun sv ρ1 => lift (tru sv.d) ρ1) := rfl
theorem evT_inst {cf : Cf} {n : Nat} {a0 : Q} {a1 : String} {ρ : Env'} : evT cf (n + 1) (.inst a0 a1) ρ = ((ev cf n (.inst a0 a1) ρ).bind fun sv ρ1 => lift (tru sv.d) ρ1) := rfl
theorem evT_get {cf : Cf} {n : Nat} {a0 : Q} {a1 : Q} {a2 : Q} {ρ : Env'} : evT cf (n + 1) (.get a0 a1 a2) ρ = ((ev cf n (.get a0 a1 a2) ρ).bind fun sv ρ1 => lift (tru sv.d) ρ1) := rfl
theorem evT_lrng {cf : Cf} {n : Nat} {a0 : Q} {ρ : Env'} : evT cf (n + 1) (.lrng a0) ρ = ((ev cf n (.lrng a0) ρ).bind fun sv ρ1 => lift (tru sv.d) ρ1) := rfl
theorem evT_dcp {cf : Cf} {n : Nat} {a0 : Q} {ρ : Env'} : evT cf (n + 1) (.dcp a0) ρ = ((ev cf n (.dcp a0) ρ).bind fun sv ρ1 => lift (tru sv.d) ρ1) := rfl
theorem evT_dprs {cf : Cf} {n : Nat} {a0 : Q} {ρ : Env'} : evT cf (n + 1) (.dprs a0) ρ = ((ev cf n (.dprs a0) ρ).bind fun sv ρ1 => lift (tru sv.d) ρ1) := rfl
theorem evT_lc {cf : Cf} {n : Nat} {a0 : List Nat} {a1 : Tg} {a2 : It} {a3 : Option Q} {a4 : Q} {ρ : Env'} : evT cf (n + 1) (.lc a0 a1 a2 a3 a4) ρ = ((ev cf n (.lc a0 a1 a2 a3 a4) ρ).bind fun sv ρ1 => lift (tru sv.d) ρ1) := rfl
theorem evT_lc2 {cf : Cf} {n : Nat} {a0 : List Nat} {a1 : List Nat} {a2 : Tg} {a3 : It} {a4 : Tg} {a5 : It} {a6 : Option Q} {a7 : Q} {ρ : Env'} : evT cf (n + 1) (.lc2 a0 a1 a2 a3 a4 a5 a6 a7) ρ = ((ev cf n (.lc2 a0 a1 a2 a3 a4 a5 a6 a7) ρ).bind fun sv ρ1 => lift (tru sv.d) ρ1) := rfl
theorem evT_lc3 {cf : Cf} {n : Nat} {a0 : List Nat} {a1 : List Nat} {a2 : List Nat} {a3 : Tg} {a4 : It} {a5 : Tg} {a6 : It} {a7 : Tg} {a8 : It} {a9 : Option Q} {a10 : Q} {ρ : Env'} : evT cf (n + 1) (.lc3 a0 a1 a2 a3 a4 a5 a6 a7 a8 a9 a10) ρ = ((ev cf n (.lc3 a0 a1 a2 a3 a4 a5 a6 a7 a8 a9 a10) ρ).bind fun sv ρ1 => lift (tru sv.d) ρ1) := rfl
theorem evT_tri {cf : Cf} {n : Nat} {a0 : Q} {ρ : Env'} : evT cf (n + 1) (.tri a0) ρ = ((ev cf n (.tri a0) ρ).bind fun sv ρ1 => lift (tru sv.d) ρ1) := rfl
theorem opd_var {f : Q → Env' → Res SV} {i : Nat} {ρ : Env'} : opd f (.var i) ρ = (match ρ[i]? with
    | some (some _) => .ok (.sl i) ρ
    | _ => .stuck) := rfl
theorem opd_cst {f : Q → Env' → Res SV} {a0 : D} {ρ : Env'} : opd f (.cst a0) ρ = ((f (.cst a0) ρ).bind fun sv ρ' => .ok (.dd sv.d) ρ') := rfl
theorem opd_glb {f : Q → Env' → Res SV} {a0 : Nat} {ρ : Env'} : opd f (.glb a0) ρ = ((f (.glb a0) ρ).bind fun sv ρ' => .ok (.dd sv.d) ρ') := rfl
theorem opd_fnv {f : Q → Env' → Res SV} {a0 : Nat} {ρ : Env'} : opd f (.fnv a0) ρ = ((f (.fnv a0) ρ).bind fun sv ρ' => .ok (.dd sv.d) ρ') := rfl
theorem opd_tup {f : Q → Env' → Res SV} {a0 : List Q} {ρ : Env'} : opd f (.tup a0) ρ = ((f (.tup a0) ρ).bind fun sv ρ' => .ok (.dd sv.d) ρ') := rfl
theorem opd_lst {f : Q → Env' → Res SV} {a0 : List Q} {ρ : Env'} : opd f (.lst a0) ρ = ((f (.lst a0) ρ).bind fun sv ρ' => .ok (.dd sv.d) ρ') := rfl
theorem opd_lmul {f : Q → Env' → Res SV} {a0 : List Q} {a1 : Q} {ρ : Env'} : opd f (.lmul a0 a1) ρ = ((f (.lmul a0 a1) ρ).bind fun sv ρ' => .ok (.dd sv.d) ρ') := rfl
theorem opd_dic {f : Q → Env' → Res SV} {a0 : Bool} {ρ : Env'} : opd f (.dic a0) ρ = ((f (.dic a0) ρ).bind fun sv ρ' => .ok (.dd sv.d) ρ') := rfl
theorem opd_dic1 {f : Q → Env' → Res SV} {a0 : Q} {a1 : Q} {ρ : Env'} : opd f (.dic1 a0 a1) ρ = ((f (.dic1 a0 a1) ρ).bind fun sv ρ' => .ok (.dd sv.d) ρ') := rfl
theorem opd_bin {f : Q → Env' → Res SV} {a0 : Operator} {a1 : Q} {a2 : Q} {ρ : Env'} : opd f (.bin a0 a1 a2) ρ = ((f (.bin a0 a1 a2) ρ).bind fun sv ρ' => .ok (.dd sv.d) ρ') := rfl
theorem opd_neg {f : Q → Env' → Res SV} {a0 : Q} {ρ : Env'} : opd f (.neg a0) ρ = ((f (.neg a0) ρ).bind fun sv ρ' => .ok (.dd sv.d) ρ') := rfl
theorem opd_cmp {f : Q → Env' → Res SV} {a0 : CmpOp} {a1 : Q} {a2 : Q} {ρ : Env'} : opd f (.cmp a0 a1 a2) ρ = ((f (.cmp a0 a1 a2) ρ).bind fun sv ρ' => .ok (.dd sv.d) ρ') := rfl
theorem opd_chain {f : Q → Env' → Res SV} {a0 : CmpOp} {a1 : CmpOp} {a2 : Q} {a3 : Q} {a4 : Q} {ρ : Env'} : opd f (.chain a0 a1 a2 a3 a4) ρ = ((f (.chain a0 a1 a2 a3 a4) ρ).bind fun sv ρ' => .ok (.dd sv.d) ρ') := rfl
theorem opd_and {f : Q → Env' → Res SV} {a0 : Q} {a1 : Q} {ρ : Env'} : opd f (.and a0 a1) ρ = ((f (.and a0 a1) ρ).bind fun sv ρ' => .ok (.dd sv.d) ρ') := rfl
theorem opd_or {f : Q → Env' → Res SV} {a0 : Q} {a1 : Q} {ρ : Env'} : opd f (.or a0 a1) ρ = ((f (.or a0 a1) ρ).bind fun sv ρ' => .ok (.dd sv.d) ρ') := rfl
theorem opd_not {f : Q → Env' → Res SV} {a0 : Q} {ρ : Env'} : opd f (.not a0) ρ = ((f (.not a0) ρ).bind fun sv ρ' => .ok (.dd sv.d) ρ') := rfl
theorem opd_ite {f : Q → Env' → Res SV} {a0 : Q} {a1 : Q} {a2 : Q} {ρ : Env'} : opd f (.ite a0 a1 a2) ρ = ((f (.ite a0 a1 a2) ρ).bind fun sv ρ' => .ok (.dd sv.d) ρ') := rfl
theorem opd_idx {f : Q → Env' → Res SV} {a0 : Q} {a1 : Q} {ρ : Env'} : opd f (.idx a0 a1) ρ = ((f (.idx a0 a1) ρ).bind fun sv ρ' => .ok (.dd sv.d) ρ') := rfl
theorem opd_slc {f : Q → Env' → Res SV} {a0 : Q} {a1 : Option Q} {a2 : Option Q} {ρ : Env'} : opd f (.slc a0 a1 a2) ρ = ((f (.slc a0 a1 a2) ρ).bind fun sv ρ' => .ok (.dd sv.d) ρ') := rfl
theorem opd_rev {f : Q → Env' → Res SV} {a0 : Q} {ρ : Env'} : opd f (.rev a0) ρ = ((f (.rev a0) ρ).bind fun sv ρ' => .ok (.dd sv.d) ρ') := rfl
theorem opd_call {f : Q → Env' → Res SV} {a0 : Nat} {a1 : List Q} {ρ : Env'} : opd f (.call a0 a1) ρ = ((f (.call a0 a1) ρ).bind fun sv ρ' => .ok (.dd sv.d) ρ') := rfl
theorem opd_callv {f : Q → Env' → Res SV} {a0 : Nat} {a1 : List Q} {ρ : Env'} : opd f (.callv a0 a1) ρ = ((f (.callv a0 a1) ρ).bind fun sv ρ' => .ok (.dd sv.d) ρ') := rfl
theorem opd_bi {f : Q → Env' → Res SV} {a0 : BI} {a1 : List Q} {ρ : Env'} : opd f (.bi a0 a1) ρ = ((f (.bi a0 a1) ρ).bind fun sv ρ' => .ok (.dd sv.d) ρ') := rfl
theorem opd_inst {f : Q → Env' → Res SV} {a0 : Q} {a1 : String} {ρ : Env'} : opd f (.inst a0 a1) ρ = ((f (.inst a0 a1) ρ).bind fun sv ρ' => .ok (.dd sv.d) ρ') := rfl
theorem opd_get {f : Q → Env' → Res SV} {a0 : Q} {a1 : Q} {a2 : Q} {ρ : Env'} : opd f (.get a0 a1 a2) ρ = ((f (.get a0 a1 a2) ρ).bind fun sv ρ' => .ok (.dd sv.d) ρ') := rfl
theorem opd_lrng {f : Q → Env' → Res SV} {a0 : Q} {ρ : Env'} : opd f (.lrng a0) ρ = ((f (.lrng a0) ρ).bind fun sv ρ' => .ok (.dd sv.d) ρ') := rfl
theorem opd_dcp {f : Q → Env' → Res SV} {a0 : Q} {ρ : Env'} : opd f (.dcp a0) ρ = ((f (.dcp a0) ρ).bind fun sv ρ' => .ok (.dd sv.d) ρ') := rfl
theorem opd_dprs {f : Q → Env' → Res SV} {a0 : Q} {ρ : Env'} : opd f (.dprs a0) ρ = ((f (.dprs a0) ρ).bind fun sv ρ' => .ok (.dd sv.d) ρ') := rfl
theorem opd_lc {f : Q → Env' → Res SV} {a0 : List Nat} {a1 : Tg} {a2 : It} {a3 : Option Q} {a4 : Q} {ρ : Env'} : opd f (.lc a0 a1 a2 a3 a4) ρ = ((f (.lc a0 a1 a2 a3 a4) ρ).bind fun sv ρ' => .ok (.dd sv.d) ρ') := rfl
theorem opd_lc2 {f : Q → Env' → Res SV} {a0 : List Nat} {a1 : List Nat} {a2 : Tg} {a3 : It} {a4 : Tg} {a5 : It} {a6 : Option Q} {a7 : Q} {ρ : Env'} : opd f (.lc2 a0 a1 a2 a3 a4 a5 a6 a7) ρ = ((f (.lc2 a0 a1 a2 a3 a4 a5 a6 a7) ρ).bind fun sv ρ' => .ok (.dd sv.d) ρ') := rfl
theorem opd_lc3 {f : Q → Env' → Res SV} {a0 : List Nat} {a1 : List Nat} {a2 : List Nat} {a3 : Tg} {a4 : It} {a5 : Tg} {a6 : It} {a7 : Tg} {a8 : It} {a9 : Option Q} {a10 : Q} {ρ : Env'} : opd f (.lc3 a0 a1 a2 a3 a4 a5 a6 a7 a8 a9 a10) ρ = ((f (.lc3 a0 a1 a2 a3 a4 a5 a6 a7 a8 a9 a10) ρ).bind fun sv ρ' => .ok (.dd sv.d) ρ') := rfl
theorem opd_tri {f : Q → Env' → Res SV} {a0 : Q} {ρ : Env'} : opd f (.tri a0) ρ = ((f (.tri a0) ρ).bind fun sv ρ' => .ok (.dd sv.d) ρ') := rfl
theorem exS_set {cf : Cf} {n : Nat} {i : Nat} {q : Q} {ρ : Env'} : exS cf (n + 1) (.set i q) ρ = ((ev cf n q ρ).sb fun sv ρ1 => setS i sv ρ1) := rfl
theorem exS_unp {cf : Cf} {n : Nat} {ts : List Tg} {q : Q} {ρ : Env'} : exS cf (n + 1) (.unp ts q) ρ = ((ev cf n q ρ).sb fun sv ρ1 => unpS (.tup ts) sv.d ρ1) := rfl
theorem exS_par {cf : Cf} {n : Nat} {i : Nat} {j : Nat} {a : Q} {b : Q} {ρ : Env'} : exS cf (n + 1) (.par i j a b) ρ = ((ev cf n a ρ).sb fun sv ρ1 => (ev cf n b ρ1).sb fun sw ρ2 => (setS i (.dat sv.d) ρ2).sq fun ρ3 => setS j (.dat sw.d) ρ3) := rfl
theorem exS_parO {cf : Cf} {n : Nat} {k : Bool} {i : Nat} {j : Nat} {a : Q} {b : Q} {ρ : Env'} : exS cf (n + 1) (.parO k i j a b) ρ = ((ev cf n a ρ).sb fun sv ρ1 => (ev cf n b ρ1).sb fun sw ρ2 => (setS i (keepO k sv) ρ2).sq fun ρ3 => setS j sw ρ3) := rfl
theorem exS_store {cf : Cf} {n : Nat} {i : Nat} {k : Q} {v : Q} {ρ : Env'} : exS cf (n + 1) (.store i k v) ρ = ((ev cf n v ρ).sb fun sv ρ1 => if hasSlot ρ1 i = true then (ev cf n k ρ1).sb fun sk ρ2 => modS i (fun d => putAt d sk.d sv.d) ρ2 else .stuck) := rfl
theorem exS_app {cf : Cf} {n : Nat} {i : Nat} {q : Q} {ρ : Env'} : exS cf (n + 1) (.app i q) ρ = (if hasLst ρ i = true then (ev cf n q ρ).sb fun sv ρ1 => modS i (fun d => pushAt d sv.d) ρ1 else .stuck) := rfl
theorem exS_expr {cf : Cf} {n : Nat} {q : Q} {ρ : Env'} : exS cf (n + 1) (.expr q) ρ = ((ev cf n q ρ).sb fun _ ρ1 => .nx ρ1) := rfl
theorem exS_ifs {cf : Cf} {n : Nat} {c : Q} {a : List S} {b : List S} {ρ : Env'} : exS cf (n + 1) (.ifs c a b) ρ = ((evT cf n c ρ).sb fun t ρ1 => if t = true then exSs cf n a ρ1 else exSs cf n b ρ1) := rfl
theorem exS_for_ {cf : Cf} {n : Nat} {it : It} {body : List S} {ρ : Env'} : exS cf (n + 1) (.for_ T it body) ρ = ((evIt (ev cf n) it ρ).sb fun items ρ1 => forGo (exSs cf n body) T items ρ1) := rfl
theorem exS_whil {cf : Cf} {n : Nat} {m : Nat} {c : Q} {body : List S} {ρ : Env'} : exS cf (n + 1) (.whil m c body) ρ = (whGo (evT cf n c) (exSs cf n body) m ρ) := rfl
theorem exS_ret {cf : Cf} {n : Nat} {q : Q} {ρ : Env'} : exS cf (n + 1) (.ret q) ρ = ((ev cf n q ρ).sb fun sv ρ1 => .rt sv ρ1) := rfl
theorem exS_retv {cf : Cf} {n : Nat} {i : Nat} {ρ : Env'} : exS cf (n + 1) (.retv i) ρ = (retvS i ρ) := rfl
theorem exS_retN {cf : Cf} {n : Nat}  {ρ : Env'} : exS cf (n + 1) (.retN) ρ = (.rt (.dat .non) ρ) := rfl
theorem exS_raise {cf : Cf} {n : Nat} {c : Nat} {ρ : Env'} : exS cf (n + 1) (.raise c) ρ = (.exc ⟨c, none⟩ ρ) := rfl
theorem exS_brk {cf : Cf} {n : Nat}  {ρ : Env'} : exS cf (n + 1) (.brk) ρ = (.bk ρ) := rfl
theorem exS_cont {cf : Cf} {n : Nat}  {ρ : Env'} : exS cf (n + 1) (.cont) ρ = (.ct ρ) := rfl
theorem exS_pass {cf : Cf} {n : Nat}  {ρ : Env'} : exS cf (n + 1) (.pass) ρ = (.nx ρ) := rfl
theorem exS_never {cf : Cf} {n : Nat}  {ρ : Env'} : exS cf (n + 1) (.never) ρ = (.stuck) := rfl
theorem exSs_nil {cf : Cf} {n : Nat} {ρ : Env'} : exSs cf (n + 1) [] ρ = .nx ρ := rfl
theorem exSs_cons {cf : Cf} {n : Nat} {s : S} {ss : List S} {ρ : Env'} : exSs cf (n + 1) (s :: ss) ρ = (exS cf n s ρ).sq fun ρ1 => exSs cf n ss ρ1 := rfl
theorem part_none {cf : Cf} {n : Nat} {ρ : Env'} : part cf (n + 1) none ρ = .ok none ρ := rfl
theorem part_some {cf : Cf} {n : Nat} {q : Q} {ρ : Env'} : part cf (n + 1) (some q) ρ = ((ev cf n q ρ).bind fun sv ρ1 => (match sv.d with
    | .int i => .ok (some i) ρ1
    | _ => .stuck)) := rfl
end DL

namespace DL
open PySem PySem.Spec PyProof.Rows L2

/-! ### the decks that the laws draw from -/
def F_deck : Fd := ⟨2, 2, false, [.ifs (.cmp .GtE (.var 0) (.bin .Pow (.cst (.int 10)) (.cst (.int 18)))) [.ret (.lst [.bin .Sub (.var 0) (.bin .Pow (.cst (.int 10)) (.cst (.int 18))), .bin .Mod (.bi .int [.var 0]) (.cst (.int 2147483579)), .var 1])] [],
    .ret (.lst [.cst (.int 0), .bin .Mod (.bi .int [.var 0]) (.cst (.int 2147483579)), .var 1])]⟩
def F_pick : Fd := ⟨2, 4, true, [.ifs (.cmp .Gt (.idx (.var 0) (.cst (.int 0))) (.cst (.int 1))) [.set 2 (.bin .Mod (.bi .int [.idx (.var 0) (.cst (.int 0))]) (.var 1)),
    .store 0 (.cst (.int 0)) (.bin .FloorDiv (.idx (.var 0) (.cst (.int 0))) (.var 1)),
    .retv 2] [],
    .store 0 (.cst (.int 2)) (.bin .Add (.idx (.var 0) (.cst (.int 2))) (.cst (.int 1))),
    .set 3 (.bin .Mod (.bi .int [.bin .Pow (.bi .int [.bin .Add (.idx (.var 0) (.cst (.int 1))) (.bin .Mult (.cst (.int 15485867)) (.idx (.var 0) (.cst (.int 2))))]) (.cst (.int 5))]) (.cst (.int 2147483647))),
    .set 2 (.bin .FloorDiv (.bin .Mod (.bi .int [.bin .Pow (.bi .int [.bin .Add (.var 3) (.bin .Mult (.cst (.int 7919)) (.idx (.var 0) (.cst (.int 2))))]) (.cst (.int 3))]) (.cst (.int 2147483629))) (.cst (.int 32))),
    .ret (.bin .Mod (.bi .int [.var 2]) (.var 1))]⟩
def F_one (jp : Nat) : Fd := ⟨2, 2, true, [.ret (.idx (.var 1) (.call jp [.var 0, .bi .len [.var 1]]))]⟩
def F_rounding (jp : Nat) : Fd := ⟨1, 2, true, [.set 1 (.idx (.lst [.cst (.int 1), .cst (.int 2), .cst (.int 3), .cst (.int 4), .cst (.int 6), .cst (.int 8), .cst (.int 12)]) (.call jp [.var 0, .cst (.int 7)])),
    .ret (.tup [.var 1, .idx (.lst [.cst (.str "down"), .cst (.str "near"), .cst (.str "up")]) (.call jp [.var 0, .cst (.int 3)]), .call jp [.var 0, .var 1]])]⟩
def DeckOk (m : Nat) (d : D) : Prop := ∃ a b c : Int, d = .lst [.int a, .int b, .int c] ∧ (0 ≤ b ∧ b < 2147483579) ∧ 0 ≤ c ∧ c + m ≤ 1000000
theorem DeckOk.le {m n : Nat} {d : D} (h : DeckOk m d) (e : n ≤ m) : DeckOk n d := by
  obtain ⟨a, b, c, h1, h2, h3, h4⟩ := h
  exact ⟨a, b, c, h1, h2, h3, by omega⟩
section
variable {defs : Nat → Option Fd} {gv : Nat → Option D} {jp jd j1 jr : Nat}
theorem deck_ok (hd : defs jd = some F_deck) (k : Nat) (x t : Int) (m : Nat) (ht : 0 ≤ t ∧ t + m ≤ 1000000) : ∃ dk, semK defs gv 100 (k + 1) jd [.dat (.int x), .dat (.int t)] = .ok (.own dk) none ∧ DeckOk m dk := by
  by_cases hx : (1000000000000000000 : Int) ≤ x
  · refine ⟨.lst [.int (x - 1000000000000000000), .int (x.fmod 2147483579), .int t], ?_, _, _, _, rfl, ⟨Int.fmod_nonneg_of_pos _ (by decide), Int.fmod_lt_of_pos _ (by decide)⟩, ht⟩
    unfold semK
    rw [hd]
    simp [F_deck, exSs, exS, ev, evT, opd, opds, op2, vals, cont, conts, Res.bind, Res.sb, SRes.sq, lift, cmpP, binP, callP, tru, finF, endF, isLent, SV.d, hx, Z24]
  · refine ⟨.lst [.int 0, .int (x.fmod 2147483579), .int t], ?_, _, _, _, rfl, ⟨Int.fmod_nonneg_of_pos _ (by decide), Int.fmod_lt_of_pos _ (by decide)⟩, ht⟩
    unfold semK
    rw [hd]
    simp [F_deck, exSs, exS, ev, evT, opd, opds, op2, vals, cont, conts, Res.bind, Res.sb, SRes.sq, lift, cmpP, binP, callP, tru, finF, endF, isLent, SV.d, hx, Z24]
theorem t1 (b c : Int) (hb : 0 ≤ b ∧ b < 2147483579) (hc : 0 ≤ c) (hm : c ≤ 1000000) : (b + 15485867 * (c + 1)).natAbs < 18446744073709551616 := by omega
theorem t2 (y c : Int) (hb : 0 ≤ y ∧ y < 2147483647) (hc : 0 ≤ c) (hm : c ≤ 1000000) : (y + 7919 * (c + 1)).natAbs < 18446744073709551616 := by omega
theorem pick_ok (hp : defs jp = some F_pick) (k m : Nat) {dk : D} (h : DeckOk (m + 1) dk) {n : Int} (hn : 0 < n ∧ n < 1000000) :
    ∃ p dk', semK defs gv 100 (k + 1) jp [.bor dk, .dat (.int n)] = .ok (.dat (.int p)) (some dk') ∧ (0 ≤ p ∧ p < n) ∧ DeckOk m dk' := by
  obtain ⟨a, b, c, rfl, hb, hc, hm⟩ := h
  have h1 : n ≠ 0 := by omega
  have h2 : n.natAbs < 1073741824 := by omega
  have g1 := t1 b c hb hc (by omega)
  have g2 := fun y hy => t2 y c hy hc (by omega)
  by_cases ha : 1 < a
  · refine ⟨a.fmod n, .lst [.int (a.fdiv n), .int b, .int c], ?_, ⟨Int.fmod_nonneg_of_pos a hn.1, Int.fmod_lt_of_pos a hn.1⟩, _, _, _, rfl, hb, hc, by omega⟩
    unfold semK
    rw [hp]
    simp [F_pick, exSs, exS, ev, evT, opd, opds, op2, cont, conts, Res.bind, Res.sb, SRes.sq, lift, idxP, atI, cmpP, binP, callP, tru, setS, modS, putAt, hasSlot, retvS, finF, endF, backOf, isLent, SV.d, SV.lent, ixN, ha, h1, h2]
  · have q1 : 0 ≤ ((b + 15485867 * (c + 1)) ^ 5).fmod 2147483647 ∧ ((b + 15485867 * (c + 1)) ^ 5).fmod 2147483647 < 2147483647 := ⟨Int.fmod_nonneg_of_pos _ (by decide), Int.fmod_lt_of_pos _ (by decide)⟩
    have g3 := g2 _ q1
    clear q1 g2
    obtain ⟨p, hp'⟩ : ∃ p : Int, p = ((((((b + 15485867 * (c + 1)) ^ 5).fmod 2147483647 + 7919 * (c + 1)) ^ 3).fmod 2147483629).fdiv 32).fmod n := ⟨_, rfl⟩
    have hpn : 0 ≤ p ∧ p < n := by rw [hp']; exact ⟨Int.fmod_nonneg_of_pos _ hn.1, Int.fmod_lt_of_pos _ hn.1⟩
    refine ⟨p, .lst [.int a, .int b, .int (c + 1)], ?_, hpn, _, _, _, rfl, hb, by omega, by omega⟩
    unfold semK
    rw [hp]
    clear hpn
    simp [F_pick, exSs, exS, ev, evT, opd, opds, op2, cont, conts, Res.bind, Res.sb, SRes.sq, lift, idxP, atI, cmpP, binP, callP, tru, setS, modS, putAt, hasSlot, retvS, finF, endF, backOf, isLent, SV.d, SV.lent, ixN, ha, h1, h2, g1, g3]
    exact hp'.symm

/-- one of ds -/
theorem one_ok (hp : defs jp = some F_pick) (h1 : defs j1 = some (F_one jp)) (k m : Nat) {dk : D} (h : DeckOk (m + 1) dk) {ds : List D} (hn : 0 < ds.length ∧ ds.length < 1000000) :
    ∃ d dk', semK defs gv 100 (k + 2) j1 [.bor dk, .dat (.lst ds)] = .ok (.dat d) (some dk') ∧ d ∈ ds ∧ DeckOk m dk' := by
  obtain ⟨p, dk', e, hp2, ok⟩ := pick_ok (gv := gv) hp k m h (n := (ds.length : Int)) ⟨by omega, by omega⟩
  have hi : ixN ds.length p = some p.toNat := by unfold ixN; rw [if_pos hp2.1, if_pos hp2.2]
  have hl : p.toNat < ds.length := by omega
  refine ⟨ds[p.toNat], dk', ?_, List.getElem_mem hl, ok⟩
  unfold semK
  rw [h1]
  simp [F_one, exSs, exS, ev, evT, opd, opds, op2, cont, conts, Res.bind, Res.sb, SRes.sq, lift, idxP, atI, callP, finF, endF, backOf, isLent, SV.d, SV.lent, callR, lentOf, sharedSl, freezeSl, putBack, D.seq?, e, hp, F_pick, hi, hl]
theorem in3 {p : Int} (h : 0 ≤ p ∧ p < 3) : p = 0 ∨ p = 1 ∨ p = 2 := by omega
theorem in7 {p : Int} (h : 0 ≤ p ∧ p < 7) : p = 0 ∨ p = 1 ∨ p = 2 ∨ p = 3 ∨ p = 4 ∨ p = 5 ∨ p = 6 := by omega
/-- a rounding -/
def RoundOk (d : D) : Prop := ∃ (s : Int) (x : Str) (g : Int), d = .tup [.int s, .str x, .int g] ∧ s ∈ [(1 : Int), 2, 3, 4, 6, 8, 12] ∧ x ∈ [("down" : Str), "near", "up"] ∧ 0 ≤ g ∧ g < s
theorem rounding_ok (hp : defs jp = some F_pick) (hr : defs jr = some (F_rounding jp)) (k m : Nat) {dk : D} (h : DeckOk (m + 3) dk) :
    ∃ d dk', semK defs gv 100 (k + 2) jr [.bor dk] = .ok (.dat d) (some dk') ∧ RoundOk d ∧ DeckOk m dk' := by
  obtain ⟨p, dk1, e1, hp1, ok1⟩ := pick_ok (gv := gv) hp k (m + 2) h (n := 7) (by decide)
  obtain ⟨q, dk2, e2, hp2, ok2⟩ := pick_ok (gv := gv) hp k (m + 1) ok1 (n := 3) (by decide)
  have hs : ∃ s : Int, atI [D.int 1, D.int 2, D.int 3, D.int 4, D.int 6, D.int 8, D.int 12] p = some (.int s) ∧ s ∈ [(1 : Int), 2, 3, 4, 6, 8, 12] ∧ 0 < s ∧ s < 1000000 := by
    rcases in7 hp1 with rfl | rfl | rfl | rfl | rfl | rfl | rfl
    · exact ⟨1, rfl, by decide, by decide⟩
    · exact ⟨2, rfl, by decide, by decide⟩
    · exact ⟨3, rfl, by decide, by decide⟩
    · exact ⟨4, rfl, by decide, by decide⟩
    · exact ⟨6, rfl, by decide, by decide⟩
    · exact ⟨8, rfl, by decide, by decide⟩
    · exact ⟨12, rfl, by decide, by decide⟩
  have hx : ∃ x : Str, atI [D.str "down", D.str "near", D.str "up"] q = some (.str x) ∧ x ∈ [("down" : Str), "near", "up"] := by
    rcases in3 hp2 with rfl | rfl | rfl
    · exact ⟨"down", rfl, by simp⟩
    · exact ⟨"near", rfl, by simp⟩
    · exact ⟨"up", rfl, by simp⟩
  obtain ⟨s, es, ms, s0, s1⟩ := hs
  obtain ⟨x, ex, mx⟩ := hx
  obtain ⟨g, dk3, e3, hp3, ok3⟩ := pick_ok (gv := gv) hp k m ok2 (n := s) ⟨s0, s1⟩
  refine ⟨.tup [.int s, .str x, .int g], dk3, ?_, ⟨s, x, g, rfl, ms, mx, hp3⟩, ok3⟩
  unfold semK
  rw [hr]
  simp [F_rounding, exSs, exS, ev, evT, opd, opds, op2, vals, cont, conts, Res.bind, Res.sb, SRes.sq, lift, idxP, callP, setS, finF, endF, backOf, isLent, SV.d, SV.lent, callR, lentOf, sharedSl, freezeSl, putBack, e1, e2, e3, es, ex, hp, F_pick, Z24]
end
end DL

namespace DL
open PySem PySem.Spec PyProof.Rows L2

/-! ### equality -/
def shp : Nat → D → Bool
  | 0, _ => false
  | n + 1, d => match d with
    | .non => true
    | .bl _ => true
    | .int _ => true
    | .str x => PyData.strOk x
    | .tup ds => ds.all (shp n)
    | .ktup ds => ds.all (shp n)
    | .lst ds => ds.all (shp n)
    | _ => false
theorem shp_all {n : Nat} (ih : ∀ d : D, shp n d = true → d.py.canLay0 = true ∧ d.py.depth ≤ n) : ∀ ds : List D, ds.all (shp n) = true → PyData.canLayAll0 (pyL ds) = true ∧ PyData.depthAll (pyL ds) ≤ n
  | [], _ => ⟨rfl, Nat.zero_le _⟩
  | d :: ds, h => by
    rw [List.all_cons, Bool.and_eq_true] at h
    obtain ⟨h1, h2⟩ := ih d h.1
    obtain ⟨h3, h4⟩ := shp_all ih ds h.2
    unfold pyL PyData.canLayAll0 PyData.depthAll
    exact ⟨by rw [h1, h3]; rfl, Nat.max_le.mpr ⟨h2, h4⟩⟩
theorem shp_lay : ∀ (n : Nat) (d : D), shp n d = true → d.py.canLay0 = true ∧ d.py.depth ≤ n
  | 0, _, h => by cases h
  | n + 1, d, h => by
    cases d with
    | non => exact ⟨rfl, Nat.zero_le _⟩
    | bl b => exact ⟨rfl, Nat.zero_le _⟩
    | int i => exact ⟨rfl, Nat.zero_le _⟩
    | str x => exact ⟨h, Nat.zero_le _⟩
    | tup ds =>
      obtain ⟨h1, h2⟩ := shp_all (shp_lay n) ds h
      unfold D.py PyData.canLay0 PyData.depth
      exact ⟨h1, Nat.succ_le_succ h2⟩
    | ktup ds =>
      obtain ⟨h1, h2⟩ := shp_all (shp_lay n) ds h
      unfold D.py PyData.canLay0 PyData.depth
      exact ⟨h1, Nat.succ_le_succ h2⟩
    | lst ds =>
      obtain ⟨h1, h2⟩ := shp_all (shp_lay n) ds h
      unfold D.py PyData.canLay0 PyData.depth
      exact ⟨h1, Nat.succ_le_succ h2⟩
    | _ => cases h
theorem shp_ok {n : Nat} {d : D} (h : shp n d = true) (hn : n ≤ 64) : SeqAt.shaped d.py = true := by
  obtain ⟨h1, h2⟩ := shp_lay n d h
  unfold SeqAt.shaped
  rw [h1, Bool.true_and]
  exact decide_eq_true (Nat.le_trans h2 hn)
/-- the same -/
theorem eqD_self {n : Nat} {d : D} (h : shp n d = true) (hn : n ≤ 64 := by decide) : eqD d d = some true := by
  have s := shp_ok h hn
  unfold eqD
  rw [if_pos ⟨s, s⟩, SeqAt.eqv_refl d.py (SeqAt.canLay_of_shaped s)]
@[simp] theorem eqD_int (i j : Int) : eqD (.int i) (.int j) = some (decide (i = j)) := by
  unfold eqD
  rw [if_pos ⟨rfl, rfl⟩]
  show some (i == j) = _
  by_cases h : i = j <;> simp [h]
theorem sd1 : PyData.strOk "down" = true := by decide +kernel
theorem sd2 : PyData.strOk "near" = true := by decide +kernel
theorem sd3 : PyData.strOk "up" = true := by decide +kernel
@[simp] theorem e11 : eqD (.str "down") (.str "down") = some true := eqD_self (n := 1) sd1
@[simp] theorem e22 : eqD (.str "near") (.str "near") = some true := eqD_self (n := 1) sd2
@[simp] theorem e33 : eqD (.str "up") (.str "up") = some true := eqD_self (n := 1) sd3
theorem eqD_str {x y : Str} (hx : PyData.strOk x = true) (hy : PyData.strOk y = true) : eqD (.str x) (.str y) = some (x == y) := by
  unfold eqD
  rw [if_pos ⟨shp_ok (n := 1) (d := .str x) hx (by decide), shp_ok (n := 1) (d := .str y) hy (by decide)⟩]
  rfl
@[simp] theorem e12 : eqD (.str "down") (.str "near") = some false := by rw [eqD_str sd1 sd2]; decide +kernel
@[simp] theorem e13 : eqD (.str "down") (.str "up") = some false := by rw [eqD_str sd1 sd3]; decide +kernel
@[simp] theorem e21 : eqD (.str "near") (.str "down") = some false := by rw [eqD_str sd2 sd1]; decide +kernel
@[simp] theorem e23 : eqD (.str "near") (.str "up") = some false := by rw [eqD_str sd2 sd3]; decide +kernel
@[simp] theorem e31 : eqD (.str "up") (.str "down") = some false := by rw [eqD_str sd3 sd1]; decide +kernel
@[simp] theorem e32 : eqD (.str "up") (.str "near") = some false := by rw [eqD_str sd3 sd2]; decide +kernel

/-! ### roundings -/
inductive Side where
  | down | near | up
  deriving DecidableEq
def Side.s : Side → Str
  | .down => "down" | .near => "near" | .up => "up"
structure Rnd where
  st : Int
  sd : Side
  gr : Int
def Rnd.d (r : Rnd) : D := .tup [.int r.st, .str r.sd.s, .int r.gr]
def Rnd.ok (r : Rnd) : Prop := r.st ∈ [(1 : Int), 2, 3, 4, 6, 8, 12] ∧ 0 ≤ r.gr ∧ r.gr < r.st
theorem Rnd.ok.st {r : Rnd} (h : r.ok) : 1 ≤ r.st ∧ r.st ≤ 12 := by
  have := h.1
  simp only [List.mem_cons, List.not_mem_nil, or_false] at this
  omega
/-- the time that counts for a punch in, out -/
def cameI (r : Rnd) (t : Int) : Int := let q := t.fmod r.st; if q ≤ r.gr ∨ r.sd = .down ∨ (r.sd = .near ∧ 2 * q < r.st) then t - q else t - q + r.st
def wentI (r : Rnd) (t : Int) : Int := let q := (0 - t).fmod r.st; if q ≤ r.gr ∨ r.sd = .up ∨ (r.sd = .near ∧ 2 * q ≤ r.st) then t + q else t + q - r.st
theorem came_ok (k : Nat) {r : Rnd} (h : r.ok) (t : Int) : semK glob gvG 100 (k + 1) 18 [.dat r.d, .dat (.int t)] = .ok (.dat (.int (cameI r t))) none := by
  have hs : r.st ≠ 0 := by have := h.st; omega
  have h2 : r.st < 18446744073709551616 := by have := h.st; omega
  rw [semK_eq g_came]
  obtain ⟨s, x, g⟩ := r
  simp only at hs h2
  generalize e : t.fmod s = q
  cases x
  · simp [ev_var, ev_cst, ev_glb, ev_fnv, ev_tup, ev_lst, ev_lmul, ev_dic_false, ev_dic_true, ev_dic1, ev_bin, ev_neg, ev_cmp, ev_chain, ev_and, ev_or, ev_not, ev_ite, ev_idx, ev_slc, ev_rev, ev_call, ev_callv, ev_bi, ev_inst, ev_get, ev_lrng, ev_dcp, ev_dprs, ev_lc, ev_lc2, ev_lc3, ev_tri, evT_and, evT_or, evT_not, evT_var, evT_cst, evT_glb, evT_fnv, evT_tup, evT_lst, evT_lmul, evT_dic, evT_dic1, evT_bin, evT_neg, evT_cmp, evT_chain, evT_ite, evT_idx, evT_slc, evT_rev, evT_call, evT_callv, evT_bi, evT_inst, evT_get, evT_lrng, evT_dcp, evT_dprs, evT_lc, evT_lc2, evT_lc3, evT_tri, opd_var, opd_cst, opd_glb, opd_fnv, opd_tup, opd_lst, opd_lmul, opd_dic, opd_dic1, opd_bin, opd_neg, opd_cmp, opd_chain, opd_and, opd_or, opd_not, opd_ite, opd_idx, opd_slc, opd_rev, opd_call, opd_callv, opd_bi, opd_inst, opd_get, opd_lrng, opd_dcp, opd_dprs, opd_lc, opd_lc2, opd_lc3, opd_tri, exS_set, exS_unp, exS_par, exS_parO, exS_store, exS_app, exS_expr, exS_ifs, exS_for_, exS_whil, exS_ret, exS_retv, exS_retN, exS_raise, exS_brk, exS_cont, exS_pass, exS_never, exSs_nil, exSs_cons, part_none, part_some, evIt, opds, vals, op2, cont, conts, Res.bind, Res.bindN, Res.sb, SRes.sq, lift, cmpP, binP, idxP, callP, finF, endF, backOf, isLent, SV.d, SV.lent, callR, lentOf, sharedSl, shLst, freezeSl, putBack, D.flat, tru, unpS, asg_tup, asg_ktup, asg_lst, asgs_cons, asgs_nil, setS_eq, asg_nm, free_none, free_dat, free_own, D.seq?, Z24, hasSlot, hasLst, modS, putAt, pushAt, retvS, lcFin, testO, DL.isP, keepO, List.replicate, F_came, Rnd.d, Side.s, hs, e, cameI]
  · by_cases h1 : q ≤ g <;> by_cases h3 : 2 * q < s <;> simp [ev_var, ev_cst, ev_glb, ev_fnv, ev_tup, ev_lst, ev_lmul, ev_dic_false, ev_dic_true, ev_dic1, ev_bin, ev_neg, ev_cmp, ev_chain, ev_and, ev_or, ev_not, ev_ite, ev_idx, ev_slc, ev_rev, ev_call, ev_callv, ev_bi, ev_inst, ev_get, ev_lrng, ev_dcp, ev_dprs, ev_lc, ev_lc2, ev_lc3, ev_tri, evT_and, evT_or, evT_not, evT_var, evT_cst, evT_glb, evT_fnv, evT_tup, evT_lst, evT_lmul, evT_dic, evT_dic1, evT_bin, evT_neg, evT_cmp, evT_chain, evT_ite, evT_idx, evT_slc, evT_rev, evT_call, evT_callv, evT_bi, evT_inst, evT_get, evT_lrng, evT_dcp, evT_dprs, evT_lc, evT_lc2, evT_lc3, evT_tri, opd_var, opd_cst, opd_glb, opd_fnv, opd_tup, opd_lst, opd_lmul, opd_dic, opd_dic1, opd_bin, opd_neg, opd_cmp, opd_chain, opd_and, opd_or, opd_not, opd_ite, opd_idx, opd_slc, opd_rev, opd_call, opd_callv, opd_bi, opd_inst, opd_get, opd_lrng, opd_dcp, opd_dprs, opd_lc, opd_lc2, opd_lc3, opd_tri, exS_set, exS_unp, exS_par, exS_parO, exS_store, exS_app, exS_expr, exS_ifs, exS_for_, exS_whil, exS_ret, exS_retv, exS_retN, exS_raise, exS_brk, exS_cont, exS_pass, exS_never, exSs_nil, exSs_cons, part_none, part_some, evIt, opds, vals, op2, cont, conts, Res.bind, Res.bindN, Res.sb, SRes.sq, lift, cmpP, binP, idxP, callP, finF, endF, backOf, isLent, SV.d, SV.lent, callR, lentOf, sharedSl, shLst, freezeSl, putBack, D.flat, tru, unpS, asg_tup, asg_ktup, asg_lst, asgs_cons, asgs_nil, setS_eq, asg_nm, free_none, free_dat, free_own, D.seq?, Z24, hasSlot, hasLst, modS, putAt, pushAt, retvS, lcFin, testO, DL.isP, keepO, List.replicate, F_came, Rnd.d, Side.s, hs, e, cameI, h1, h3]
  · by_cases h1 : q ≤ g <;> simp [ev_var, ev_cst, ev_glb, ev_fnv, ev_tup, ev_lst, ev_lmul, ev_dic_false, ev_dic_true, ev_dic1, ev_bin, ev_neg, ev_cmp, ev_chain, ev_and, ev_or, ev_not, ev_ite, ev_idx, ev_slc, ev_rev, ev_call, ev_callv, ev_bi, ev_inst, ev_get, ev_lrng, ev_dcp, ev_dprs, ev_lc, ev_lc2, ev_lc3, ev_tri, evT_and, evT_or, evT_not, evT_var, evT_cst, evT_glb, evT_fnv, evT_tup, evT_lst, evT_lmul, evT_dic, evT_dic1, evT_bin, evT_neg, evT_cmp, evT_chain, evT_ite, evT_idx, evT_slc, evT_rev, evT_call, evT_callv, evT_bi, evT_inst, evT_get, evT_lrng, evT_dcp, evT_dprs, evT_lc, evT_lc2, evT_lc3, evT_tri, opd_var, opd_cst, opd_glb, opd_fnv, opd_tup, opd_lst, opd_lmul, opd_dic, opd_dic1, opd_bin, opd_neg, opd_cmp, opd_chain, opd_and, opd_or, opd_not, opd_ite, opd_idx, opd_slc, opd_rev, opd_call, opd_callv, opd_bi, opd_inst, opd_get, opd_lrng, opd_dcp, opd_dprs, opd_lc, opd_lc2, opd_lc3, opd_tri, exS_set, exS_unp, exS_par, exS_parO, exS_store, exS_app, exS_expr, exS_ifs, exS_for_, exS_whil, exS_ret, exS_retv, exS_retN, exS_raise, exS_brk, exS_cont, exS_pass, exS_never, exSs_nil, exSs_cons, part_none, part_some, evIt, opds, vals, op2, cont, conts, Res.bind, Res.bindN, Res.sb, SRes.sq, lift, cmpP, binP, idxP, callP, finF, endF, backOf, isLent, SV.d, SV.lent, callR, lentOf, sharedSl, shLst, freezeSl, putBack, D.flat, tru, unpS, asg_tup, asg_ktup, asg_lst, asgs_cons, asgs_nil, setS_eq, asg_nm, free_none, free_dat, free_own, D.seq?, Z24, hasSlot, hasLst, modS, putAt, pushAt, retvS, lcFin, testO, DL.isP, keepO, List.replicate, F_came, Rnd.d, Side.s, hs, e, cameI, h1]
theorem went_ok (k : Nat) {r : Rnd} (h : r.ok) (t : Int) : semK glob gvG 100 (k + 1) 19 [.dat r.d, .dat (.int t)] = .ok (.dat (.int (wentI r t))) none := by
  have hs : r.st ≠ 0 := by have := h.st; omega
  rw [semK_eq g_went]
  obtain ⟨s, x, g⟩ := r
  simp only at hs
  generalize e : (0 - t).fmod s = q
  have e' : (-t).fmod s = q := by rw [← e, Int.zero_sub]
  cases x
  · by_cases h1 : q ≤ g <;> simp [ev_var, ev_cst, ev_glb, ev_fnv, ev_tup, ev_lst, ev_lmul, ev_dic_false, ev_dic_true, ev_dic1, ev_bin, ev_neg, ev_cmp, ev_chain, ev_and, ev_or, ev_not, ev_ite, ev_idx, ev_slc, ev_rev, ev_call, ev_callv, ev_bi, ev_inst, ev_get, ev_lrng, ev_dcp, ev_dprs, ev_lc, ev_lc2, ev_lc3, ev_tri, evT_and, evT_or, evT_not, evT_var, evT_cst, evT_glb, evT_fnv, evT_tup, evT_lst, evT_lmul, evT_dic, evT_dic1, evT_bin, evT_neg, evT_cmp, evT_chain, evT_ite, evT_idx, evT_slc, evT_rev, evT_call, evT_callv, evT_bi, evT_inst, evT_get, evT_lrng, evT_dcp, evT_dprs, evT_lc, evT_lc2, evT_lc3, evT_tri, opd_var, opd_cst, opd_glb, opd_fnv, opd_tup, opd_lst, opd_lmul, opd_dic, opd_dic1, opd_bin, opd_neg, opd_cmp, opd_chain, opd_and, opd_or, opd_not, opd_ite, opd_idx, opd_slc, opd_rev, opd_call, opd_callv, opd_bi, opd_inst, opd_get, opd_lrng, opd_dcp, opd_dprs, opd_lc, opd_lc2, opd_lc3, opd_tri, exS_set, exS_unp, exS_par, exS_parO, exS_store, exS_app, exS_expr, exS_ifs, exS_for_, exS_whil, exS_ret, exS_retv, exS_retN, exS_raise, exS_brk, exS_cont, exS_pass, exS_never, exSs_nil, exSs_cons, part_none, part_some, evIt, opds, vals, op2, cont, conts, Res.bind, Res.bindN, Res.sb, SRes.sq, lift, cmpP, binP, idxP, callP, finF, endF, backOf, isLent, SV.d, SV.lent, callR, lentOf, sharedSl, shLst, freezeSl, putBack, D.flat, tru, unpS, asg_tup, asg_ktup, asg_lst, asgs_cons, asgs_nil, setS_eq, asg_nm, free_none, free_dat, free_own, D.seq?, Z24, hasSlot, hasLst, modS, putAt, pushAt, retvS, lcFin, testO, DL.isP, keepO, List.replicate, F_went, Rnd.d, Side.s, hs, e, e', wentI, h1]
  · by_cases h1 : q ≤ g <;> by_cases h3 : 2 * q ≤ s <;> simp [ev_var, ev_cst, ev_glb, ev_fnv, ev_tup, ev_lst, ev_lmul, ev_dic_false, ev_dic_true, ev_dic1, ev_bin, ev_neg, ev_cmp, ev_chain, ev_and, ev_or, ev_not, ev_ite, ev_idx, ev_slc, ev_rev, ev_call, ev_callv, ev_bi, ev_inst, ev_get, ev_lrng, ev_dcp, ev_dprs, ev_lc, ev_lc2, ev_lc3, ev_tri, evT_and, evT_or, evT_not, evT_var, evT_cst, evT_glb, evT_fnv, evT_tup, evT_lst, evT_lmul, evT_dic, evT_dic1, evT_bin, evT_neg, evT_cmp, evT_chain, evT_ite, evT_idx, evT_slc, evT_rev, evT_call, evT_callv, evT_bi, evT_inst, evT_get, evT_lrng, evT_dcp, evT_dprs, evT_lc, evT_lc2, evT_lc3, evT_tri, opd_var, opd_cst, opd_glb, opd_fnv, opd_tup, opd_lst, opd_lmul, opd_dic, opd_dic1, opd_bin, opd_neg, opd_cmp, opd_chain, opd_and, opd_or, opd_not, opd_ite, opd_idx, opd_slc, opd_rev, opd_call, opd_callv, opd_bi, opd_inst, opd_get, opd_lrng, opd_dcp, opd_dprs, opd_lc, opd_lc2, opd_lc3, opd_tri, exS_set, exS_unp, exS_par, exS_parO, exS_store, exS_app, exS_expr, exS_ifs, exS_for_, exS_whil, exS_ret, exS_retv, exS_retN, exS_raise, exS_brk, exS_cont, exS_pass, exS_never, exSs_nil, exSs_cons, part_none, part_some, evIt, opds, vals, op2, cont, conts, Res.bind, Res.bindN, Res.sb, SRes.sq, lift, cmpP, binP, idxP, callP, finF, endF, backOf, isLent, SV.d, SV.lent, callR, lentOf, sharedSl, shLst, freezeSl, putBack, D.flat, tru, unpS, asg_tup, asg_ktup, asg_lst, asgs_cons, asgs_nil, setS_eq, asg_nm, free_none, free_dat, free_own, D.seq?, Z24, hasSlot, hasLst, modS, putAt, pushAt, retvS, lcFin, testO, DL.isP, keepO, List.replicate, F_went, Rnd.d, Side.s, hs, e, e', wentI, h1, h3]
  · simp [ev_var, ev_cst, ev_glb, ev_fnv, ev_tup, ev_lst, ev_lmul, ev_dic_false, ev_dic_true, ev_dic1, ev_bin, ev_neg, ev_cmp, ev_chain, ev_and, ev_or, ev_not, ev_ite, ev_idx, ev_slc, ev_rev, ev_call, ev_callv, ev_bi, ev_inst, ev_get, ev_lrng, ev_dcp, ev_dprs, ev_lc, ev_lc2, ev_lc3, ev_tri, evT_and, evT_or, evT_not, evT_var, evT_cst, evT_glb, evT_fnv, evT_tup, evT_lst, evT_lmul, evT_dic, evT_dic1, evT_bin, evT_neg, evT_cmp, evT_chain, evT_ite, evT_idx, evT_slc, evT_rev, evT_call, evT_callv, evT_bi, evT_inst, evT_get, evT_lrng, evT_dcp, evT_dprs, evT_lc, evT_lc2, evT_lc3, evT_tri, opd_var, opd_cst, opd_glb, opd_fnv, opd_tup, opd_lst, opd_lmul, opd_dic, opd_dic1, opd_bin, opd_neg, opd_cmp, opd_chain, opd_and, opd_or, opd_not, opd_ite, opd_idx, opd_slc, opd_rev, opd_call, opd_callv, opd_bi, opd_inst, opd_get, opd_lrng, opd_dcp, opd_dprs, opd_lc, opd_lc2, opd_lc3, opd_tri, exS_set, exS_unp, exS_par, exS_parO, exS_store, exS_app, exS_expr, exS_ifs, exS_for_, exS_whil, exS_ret, exS_retv, exS_retN, exS_raise, exS_brk, exS_cont, exS_pass, exS_never, exSs_nil, exSs_cons, part_none, part_some, evIt, opds, vals, op2, cont, conts, Res.bind, Res.bindN, Res.sb, SRes.sq, lift, cmpP, binP, idxP, callP, finF, endF, backOf, isLent, SV.d, SV.lent, callR, lentOf, sharedSl, shLst, freezeSl, putBack, D.flat, tru, unpS, asg_tup, asg_ktup, asg_lst, asgs_cons, asgs_nil, setS_eq, asg_nm, free_none, free_dat, free_own, D.seq?, Z24, hasSlot, hasLst, modS, putAt, pushAt, retvS, lcFin, testO, DL.isP, keepO, List.replicate, F_went, Rnd.d, Side.s, hs, e, e', wentI]
theorem fmod_neg {r : Rnd} (h : r.ok) (t : Int) : (0 - t).fmod r.st = if t.fmod r.st = 0 then 0 else r.st - t.fmod r.st := by
  have h1 := h.1
  generalize r.st = s at h1
  simp only [List.mem_cons, List.not_mem_nil, or_false] at h1
  rcases h1 with rfl | rfl | rfl | rfl | rfl | rfl | rfl <;> (rw [Int.fmod_eq_emod_of_nonneg _ (by decide), Int.fmod_eq_emod_of_nonneg _ (by decide)]; split <;> omega)
theorem fmod_range {r : Rnd} (h : r.ok) (t : Int) : 0 ≤ t.fmod r.st ∧ t.fmod r.st < r.st := by
  have := h.st
  exact ⟨Int.fmod_nonneg_of_pos _ (by omega), Int.fmod_lt_of_pos _ (by omega)⟩
theorem punch_in (k : Nat) {r : Rnd} (h : r.ok) (t : Int) : semK glob gvG 100 (k + 1) 26 [.dat r.d, .dat (.int t), .dat (.bl true)] = .ok (.dat (.int (cameI r t))) none := by
  have hs : r.st ≠ 0 := by have := h.st; omega
  have hq := fmod_range h t
  have hg := h.2
  rw [semK_eq g__law_punch]
  obtain ⟨s, x, g⟩ := r
  simp only at hs hq hg
  generalize e : t.fmod s = q at hq
  have e1 : t - (t - q) = q := by omega
  have e2 : (t - q = t) = (q = 0) := propext (by omega)
  by_cases h0 : q = 0
  · subst h0
    have : (0 : Int) ≤ g := hg.1
    cases x <;> simp [ev_var, ev_cst, ev_glb, ev_fnv, ev_tup, ev_lst, ev_lmul, ev_dic_false, ev_dic_true, ev_dic1, ev_bin, ev_neg, ev_cmp, ev_chain, ev_and, ev_or, ev_not, ev_ite, ev_idx, ev_slc, ev_rev, ev_call, ev_callv, ev_bi, ev_inst, ev_get, ev_lrng, ev_dcp, ev_dprs, ev_lc, ev_lc2, ev_lc3, ev_tri, evT_and, evT_or, evT_not, evT_var, evT_cst, evT_glb, evT_fnv, evT_tup, evT_lst, evT_lmul, evT_dic, evT_dic1, evT_bin, evT_neg, evT_cmp, evT_chain, evT_ite, evT_idx, evT_slc, evT_rev, evT_call, evT_callv, evT_bi, evT_inst, evT_get, evT_lrng, evT_dcp, evT_dprs, evT_lc, evT_lc2, evT_lc3, evT_tri, opd_var, opd_cst, opd_glb, opd_fnv, opd_tup, opd_lst, opd_lmul, opd_dic, opd_dic1, opd_bin, opd_neg, opd_cmp, opd_chain, opd_and, opd_or, opd_not, opd_ite, opd_idx, opd_slc, opd_rev, opd_call, opd_callv, opd_bi, opd_inst, opd_get, opd_lrng, opd_dcp, opd_dprs, opd_lc, opd_lc2, opd_lc3, opd_tri, exS_set, exS_unp, exS_par, exS_parO, exS_store, exS_app, exS_expr, exS_ifs, exS_for_, exS_whil, exS_ret, exS_retv, exS_retN, exS_raise, exS_brk, exS_cont, exS_pass, exS_never, exSs_nil, exSs_cons, part_none, part_some, evIt, opds, vals, op2, cont, conts, Res.bind, Res.bindN, Res.sb, SRes.sq, lift, cmpP, binP, idxP, callP, finF, endF, backOf, isLent, SV.d, SV.lent, callR, lentOf, sharedSl, shLst, freezeSl, putBack, D.flat, tru, unpS, asg_tup, asg_ktup, asg_lst, asgs_cons, asgs_nil, setS_eq, asg_nm, free_none, free_dat, free_own, D.seq?, Z24, hasSlot, hasLst, modS, putAt, pushAt, retvS, lcFin, testO, DL.isP, keepO, List.replicate, F__law_punch, Rnd.d, Side.s, hs, e, cameI, this]
  · have e3 : (q < t - q + s - t) = (2 * q < s) := propext (by omega)
    cases x
    · by_cases h1 : q ≤ g <;> simp [ev_var, ev_cst, ev_glb, ev_fnv, ev_tup, ev_lst, ev_lmul, ev_dic_false, ev_dic_true, ev_dic1, ev_bin, ev_neg, ev_cmp, ev_chain, ev_and, ev_or, ev_not, ev_ite, ev_idx, ev_slc, ev_rev, ev_call, ev_callv, ev_bi, ev_inst, ev_get, ev_lrng, ev_dcp, ev_dprs, ev_lc, ev_lc2, ev_lc3, ev_tri, evT_and, evT_or, evT_not, evT_var, evT_cst, evT_glb, evT_fnv, evT_tup, evT_lst, evT_lmul, evT_dic, evT_dic1, evT_bin, evT_neg, evT_cmp, evT_chain, evT_ite, evT_idx, evT_slc, evT_rev, evT_call, evT_callv, evT_bi, evT_inst, evT_get, evT_lrng, evT_dcp, evT_dprs, evT_lc, evT_lc2, evT_lc3, evT_tri, opd_var, opd_cst, opd_glb, opd_fnv, opd_tup, opd_lst, opd_lmul, opd_dic, opd_dic1, opd_bin, opd_neg, opd_cmp, opd_chain, opd_and, opd_or, opd_not, opd_ite, opd_idx, opd_slc, opd_rev, opd_call, opd_callv, opd_bi, opd_inst, opd_get, opd_lrng, opd_dcp, opd_dprs, opd_lc, opd_lc2, opd_lc3, opd_tri, exS_set, exS_unp, exS_par, exS_parO, exS_store, exS_app, exS_expr, exS_ifs, exS_for_, exS_whil, exS_ret, exS_retv, exS_retN, exS_raise, exS_brk, exS_cont, exS_pass, exS_never, exSs_nil, exSs_cons, part_none, part_some, evIt, opds, vals, op2, cont, conts, Res.bind, Res.bindN, Res.sb, SRes.sq, lift, cmpP, binP, idxP, callP, finF, endF, backOf, isLent, SV.d, SV.lent, callR, lentOf, sharedSl, shLst, freezeSl, putBack, D.flat, tru, unpS, asg_tup, asg_ktup, asg_lst, asgs_cons, asgs_nil, setS_eq, asg_nm, free_none, free_dat, free_own, D.seq?, Z24, hasSlot, hasLst, modS, putAt, pushAt, retvS, lcFin, testO, DL.isP, keepO, List.replicate, F__law_punch, Rnd.d, Side.s, hs, e, cameI, e1, e2, e3, h0, h1]
    · by_cases h1 : q ≤ g <;> by_cases h3 : 2 * q < s <;> simp [ev_var, ev_cst, ev_glb, ev_fnv, ev_tup, ev_lst, ev_lmul, ev_dic_false, ev_dic_true, ev_dic1, ev_bin, ev_neg, ev_cmp, ev_chain, ev_and, ev_or, ev_not, ev_ite, ev_idx, ev_slc, ev_rev, ev_call, ev_callv, ev_bi, ev_inst, ev_get, ev_lrng, ev_dcp, ev_dprs, ev_lc, ev_lc2, ev_lc3, ev_tri, evT_and, evT_or, evT_not, evT_var, evT_cst, evT_glb, evT_fnv, evT_tup, evT_lst, evT_lmul, evT_dic, evT_dic1, evT_bin, evT_neg, evT_cmp, evT_chain, evT_ite, evT_idx, evT_slc, evT_rev, evT_call, evT_callv, evT_bi, evT_inst, evT_get, evT_lrng, evT_dcp, evT_dprs, evT_lc, evT_lc2, evT_lc3, evT_tri, opd_var, opd_cst, opd_glb, opd_fnv, opd_tup, opd_lst, opd_lmul, opd_dic, opd_dic1, opd_bin, opd_neg, opd_cmp, opd_chain, opd_and, opd_or, opd_not, opd_ite, opd_idx, opd_slc, opd_rev, opd_call, opd_callv, opd_bi, opd_inst, opd_get, opd_lrng, opd_dcp, opd_dprs, opd_lc, opd_lc2, opd_lc3, opd_tri, exS_set, exS_unp, exS_par, exS_parO, exS_store, exS_app, exS_expr, exS_ifs, exS_for_, exS_whil, exS_ret, exS_retv, exS_retN, exS_raise, exS_brk, exS_cont, exS_pass, exS_never, exSs_nil, exSs_cons, part_none, part_some, evIt, opds, vals, op2, cont, conts, Res.bind, Res.bindN, Res.sb, SRes.sq, lift, cmpP, binP, idxP, callP, finF, endF, backOf, isLent, SV.d, SV.lent, callR, lentOf, sharedSl, shLst, freezeSl, putBack, D.flat, tru, unpS, asg_tup, asg_ktup, asg_lst, asgs_cons, asgs_nil, setS_eq, asg_nm, free_none, free_dat, free_own, D.seq?, Z24, hasSlot, hasLst, modS, putAt, pushAt, retvS, lcFin, testO, DL.isP, keepO, List.replicate, F__law_punch, Rnd.d, Side.s, hs, e, cameI, e1, e2, e3, h0, h1, h3]
    · by_cases h1 : q ≤ g <;> simp [ev_var, ev_cst, ev_glb, ev_fnv, ev_tup, ev_lst, ev_lmul, ev_dic_false, ev_dic_true, ev_dic1, ev_bin, ev_neg, ev_cmp, ev_chain, ev_and, ev_or, ev_not, ev_ite, ev_idx, ev_slc, ev_rev, ev_call, ev_callv, ev_bi, ev_inst, ev_get, ev_lrng, ev_dcp, ev_dprs, ev_lc, ev_lc2, ev_lc3, ev_tri, evT_and, evT_or, evT_not, evT_var, evT_cst, evT_glb, evT_fnv, evT_tup, evT_lst, evT_lmul, evT_dic, evT_dic1, evT_bin, evT_neg, evT_cmp, evT_chain, evT_ite, evT_idx, evT_slc, evT_rev, evT_call, evT_callv, evT_bi, evT_inst, evT_get, evT_lrng, evT_dcp, evT_dprs, evT_lc, evT_lc2, evT_lc3, evT_tri, opd_var, opd_cst, opd_glb, opd_fnv, opd_tup, opd_lst, opd_lmul, opd_dic, opd_dic1, opd_bin, opd_neg, opd_cmp, opd_chain, opd_and, opd_or, opd_not, opd_ite, opd_idx, opd_slc, opd_rev, opd_call, opd_callv, opd_bi, opd_inst, opd_get, opd_lrng, opd_dcp, opd_dprs, opd_lc, opd_lc2, opd_lc3, opd_tri, exS_set, exS_unp, exS_par, exS_parO, exS_store, exS_app, exS_expr, exS_ifs, exS_for_, exS_whil, exS_ret, exS_retv, exS_retN, exS_raise, exS_brk, exS_cont, exS_pass, exS_never, exSs_nil, exSs_cons, part_none, part_some, evIt, opds, vals, op2, cont, conts, Res.bind, Res.bindN, Res.sb, SRes.sq, lift, cmpP, binP, idxP, callP, finF, endF, backOf, isLent, SV.d, SV.lent, callR, lentOf, sharedSl, shLst, freezeSl, putBack, D.flat, tru, unpS, asg_tup, asg_ktup, asg_lst, asgs_cons, asgs_nil, setS_eq, asg_nm, free_none, free_dat, free_own, D.seq?, Z24, hasSlot, hasLst, modS, putAt, pushAt, retvS, lcFin, testO, DL.isP, keepO, List.replicate, F__law_punch, Rnd.d, Side.s, hs, e, cameI, e1, e2, e3, h0, h1]
theorem punch_out (k : Nat) {r : Rnd} (h : r.ok) (t : Int) : semK glob gvG 100 (k + 1) 26 [.dat r.d, .dat (.int t), .dat (.bl false)] = .ok (.dat (.int (wentI r t))) none := by
  have hs : r.st ≠ 0 := by have := h.st; omega
  have hq := fmod_range h t
  have hg := h.2
  have hn := fmod_neg h t
  rw [semK_eq g__law_punch]
  obtain ⟨s, x, g⟩ := r
  simp only at hs hq hg hn
  unfold wentI
  simp only [hn]
  clear hn
  generalize e : t.fmod s = q at hq
  have e1 : t - (t - q) = q := by omega
  have e2 : (t - q = t) = (q = 0) := propext (by omega)
  by_cases h0 : q = 0
  · subst h0
    have : (0 : Int) ≤ g := hg.1
    cases x <;> simp [ev_var, ev_cst, ev_glb, ev_fnv, ev_tup, ev_lst, ev_lmul, ev_dic_false, ev_dic_true, ev_dic1, ev_bin, ev_neg, ev_cmp, ev_chain, ev_and, ev_or, ev_not, ev_ite, ev_idx, ev_slc, ev_rev, ev_call, ev_callv, ev_bi, ev_inst, ev_get, ev_lrng, ev_dcp, ev_dprs, ev_lc, ev_lc2, ev_lc3, ev_tri, evT_and, evT_or, evT_not, evT_var, evT_cst, evT_glb, evT_fnv, evT_tup, evT_lst, evT_lmul, evT_dic, evT_dic1, evT_bin, evT_neg, evT_cmp, evT_chain, evT_ite, evT_idx, evT_slc, evT_rev, evT_call, evT_callv, evT_bi, evT_inst, evT_get, evT_lrng, evT_dcp, evT_dprs, evT_lc, evT_lc2, evT_lc3, evT_tri, opd_var, opd_cst, opd_glb, opd_fnv, opd_tup, opd_lst, opd_lmul, opd_dic, opd_dic1, opd_bin, opd_neg, opd_cmp, opd_chain, opd_and, opd_or, opd_not, opd_ite, opd_idx, opd_slc, opd_rev, opd_call, opd_callv, opd_bi, opd_inst, opd_get, opd_lrng, opd_dcp, opd_dprs, opd_lc, opd_lc2, opd_lc3, opd_tri, exS_set, exS_unp, exS_par, exS_parO, exS_store, exS_app, exS_expr, exS_ifs, exS_for_, exS_whil, exS_ret, exS_retv, exS_retN, exS_raise, exS_brk, exS_cont, exS_pass, exS_never, exSs_nil, exSs_cons, part_none, part_some, evIt, opds, vals, op2, cont, conts, Res.bind, Res.bindN, Res.sb, SRes.sq, lift, cmpP, binP, idxP, callP, finF, endF, backOf, isLent, SV.d, SV.lent, callR, lentOf, sharedSl, shLst, freezeSl, putBack, D.flat, tru, unpS, asg_tup, asg_ktup, asg_lst, asgs_cons, asgs_nil, setS_eq, asg_nm, free_none, free_dat, free_own, D.seq?, Z24, hasSlot, hasLst, modS, putAt, pushAt, retvS, lcFin, testO, DL.isP, keepO, List.replicate, F__law_punch, Rnd.d, Side.s, hs, e, this]
  · have e3 : (q < t - q + s - t) = ¬ (2 * (s - q) ≤ s) := propext (by omega)
    have e4 : t - q + s - t = s - q := by omega
    have e5 : t - q + s = t + (s - q) := by omega
    have e6 : t - q = t + (s - q) - s := by omega
    have e7 : (q < s - q) = ¬ (2 * (s - q) ≤ s) := propext (by omega)
    cases x
    · by_cases h1 : s - q ≤ g <;> simp [ev_var, ev_cst, ev_glb, ev_fnv, ev_tup, ev_lst, ev_lmul, ev_dic_false, ev_dic_true, ev_dic1, ev_bin, ev_neg, ev_cmp, ev_chain, ev_and, ev_or, ev_not, ev_ite, ev_idx, ev_slc, ev_rev, ev_call, ev_callv, ev_bi, ev_inst, ev_get, ev_lrng, ev_dcp, ev_dprs, ev_lc, ev_lc2, ev_lc3, ev_tri, evT_and, evT_or, evT_not, evT_var, evT_cst, evT_glb, evT_fnv, evT_tup, evT_lst, evT_lmul, evT_dic, evT_dic1, evT_bin, evT_neg, evT_cmp, evT_chain, evT_ite, evT_idx, evT_slc, evT_rev, evT_call, evT_callv, evT_bi, evT_inst, evT_get, evT_lrng, evT_dcp, evT_dprs, evT_lc, evT_lc2, evT_lc3, evT_tri, opd_var, opd_cst, opd_glb, opd_fnv, opd_tup, opd_lst, opd_lmul, opd_dic, opd_dic1, opd_bin, opd_neg, opd_cmp, opd_chain, opd_and, opd_or, opd_not, opd_ite, opd_idx, opd_slc, opd_rev, opd_call, opd_callv, opd_bi, opd_inst, opd_get, opd_lrng, opd_dcp, opd_dprs, opd_lc, opd_lc2, opd_lc3, opd_tri, exS_set, exS_unp, exS_par, exS_parO, exS_store, exS_app, exS_expr, exS_ifs, exS_for_, exS_whil, exS_ret, exS_retv, exS_retN, exS_raise, exS_brk, exS_cont, exS_pass, exS_never, exSs_nil, exSs_cons, part_none, part_some, evIt, opds, vals, op2, cont, conts, Res.bind, Res.bindN, Res.sb, SRes.sq, lift, cmpP, binP, idxP, callP, finF, endF, backOf, isLent, SV.d, SV.lent, callR, lentOf, sharedSl, shLst, freezeSl, putBack, D.flat, tru, unpS, asg_tup, asg_ktup, asg_lst, asgs_cons, asgs_nil, setS_eq, asg_nm, free_none, free_dat, free_own, D.seq?, Z24, hasSlot, hasLst, modS, putAt, pushAt, retvS, lcFin, testO, DL.isP, keepO, List.replicate, F__law_punch, Rnd.d, Side.s, hs, e, e1, e2, e4, h0, h1] <;> omega
    · by_cases h1 : s - q ≤ g <;> by_cases h3 : 2 * (s - q) ≤ s <;> simp [ev_var, ev_cst, ev_glb, ev_fnv, ev_tup, ev_lst, ev_lmul, ev_dic_false, ev_dic_true, ev_dic1, ev_bin, ev_neg, ev_cmp, ev_chain, ev_and, ev_or, ev_not, ev_ite, ev_idx, ev_slc, ev_rev, ev_call, ev_callv, ev_bi, ev_inst, ev_get, ev_lrng, ev_dcp, ev_dprs, ev_lc, ev_lc2, ev_lc3, ev_tri, evT_and, evT_or, evT_not, evT_var, evT_cst, evT_glb, evT_fnv, evT_tup, evT_lst, evT_lmul, evT_dic, evT_dic1, evT_bin, evT_neg, evT_cmp, evT_chain, evT_ite, evT_idx, evT_slc, evT_rev, evT_call, evT_callv, evT_bi, evT_inst, evT_get, evT_lrng, evT_dcp, evT_dprs, evT_lc, evT_lc2, evT_lc3, evT_tri, opd_var, opd_cst, opd_glb, opd_fnv, opd_tup, opd_lst, opd_lmul, opd_dic, opd_dic1, opd_bin, opd_neg, opd_cmp, opd_chain, opd_and, opd_or, opd_not, opd_ite, opd_idx, opd_slc, opd_rev, opd_call, opd_callv, opd_bi, opd_inst, opd_get, opd_lrng, opd_dcp, opd_dprs, opd_lc, opd_lc2, opd_lc3, opd_tri, exS_set, exS_unp, exS_par, exS_parO, exS_store, exS_app, exS_expr, exS_ifs, exS_for_, exS_whil, exS_ret, exS_retv, exS_retN, exS_raise, exS_brk, exS_cont, exS_pass, exS_never, exSs_nil, exSs_cons, part_none, part_some, evIt, opds, vals, op2, cont, conts, Res.bind, Res.bindN, Res.sb, SRes.sq, lift, cmpP, binP, idxP, callP, finF, endF, backOf, isLent, SV.d, SV.lent, callR, lentOf, sharedSl, shLst, freezeSl, putBack, D.flat, tru, unpS, asg_tup, asg_ktup, asg_lst, asgs_cons, asgs_nil, setS_eq, asg_nm, free_none, free_dat, free_own, D.seq?, Z24, hasSlot, hasLst, modS, putAt, pushAt, retvS, lcFin, testO, DL.isP, keepO, List.replicate, F__law_punch, Rnd.d, Side.s, hs, e, e1, e2, e4, e7, h0, h1, h3] <;> omega
    · by_cases h1 : s - q ≤ g <;> simp [ev_var, ev_cst, ev_glb, ev_fnv, ev_tup, ev_lst, ev_lmul, ev_dic_false, ev_dic_true, ev_dic1, ev_bin, ev_neg, ev_cmp, ev_chain, ev_and, ev_or, ev_not, ev_ite, ev_idx, ev_slc, ev_rev, ev_call, ev_callv, ev_bi, ev_inst, ev_get, ev_lrng, ev_dcp, ev_dprs, ev_lc, ev_lc2, ev_lc3, ev_tri, evT_and, evT_or, evT_not, evT_var, evT_cst, evT_glb, evT_fnv, evT_tup, evT_lst, evT_lmul, evT_dic, evT_dic1, evT_bin, evT_neg, evT_cmp, evT_chain, evT_ite, evT_idx, evT_slc, evT_rev, evT_call, evT_callv, evT_bi, evT_inst, evT_get, evT_lrng, evT_dcp, evT_dprs, evT_lc, evT_lc2, evT_lc3, evT_tri, opd_var, opd_cst, opd_glb, opd_fnv, opd_tup, opd_lst, opd_lmul, opd_dic, opd_dic1, opd_bin, opd_neg, opd_cmp, opd_chain, opd_and, opd_or, opd_not, opd_ite, opd_idx, opd_slc, opd_rev, opd_call, opd_callv, opd_bi, opd_inst, opd_get, opd_lrng, opd_dcp, opd_dprs, opd_lc, opd_lc2, opd_lc3, opd_tri, exS_set, exS_unp, exS_par, exS_parO, exS_store, exS_app, exS_expr, exS_ifs, exS_for_, exS_whil, exS_ret, exS_retv, exS_retN, exS_raise, exS_brk, exS_cont, exS_pass, exS_never, exSs_nil, exSs_cons, part_none, part_some, evIt, opds, vals, op2, cont, conts, Res.bind, Res.bindN, Res.sb, SRes.sq, lift, cmpP, binP, idxP, callP, finF, endF, backOf, isLent, SV.d, SV.lent, callR, lentOf, sharedSl, shLst, freezeSl, putBack, D.flat, tru, unpS, asg_tup, asg_ktup, asg_lst, asgs_cons, asgs_nil, setS_eq, asg_nm, free_none, free_dat, free_own, D.seq?, Z24, hasSlot, hasLst, modS, putAt, pushAt, retvS, lcFin, testO, DL.isP, keepO, List.replicate, F__law_punch, Rnd.d, Side.s, hs, e, e1, e2, e4, h0, h1] <;> omega
end DL

namespace DL
open PySem PySem.Spec PyProof.Rows L2

theorem shp_mono : ∀ {n m : Nat} {d : D}, n ≤ m → shp n d = true → shp m d = true
  | 0, _, _, _, h => by cases h
  | n + 1, 0, _, l, _ => by omega
  | n + 1, m + 1, d, l, h => by
    have ih : ∀ ds : List D, ds.all (shp n) = true → ds.all (shp m) = true := fun ds q => List.all_eq_true.mpr fun x hx => shp_mono (by omega) (List.all_eq_true.mp q x hx)
    cases d with
    | tup ds => exact ih ds h
    | ktup ds => exact ih ds h
    | lst ds => exact ih ds h
    | _ => first | exact h | cases h
/-- a list beside the empty one -/
theorem eqD_nil {n : Nat} {ds : List D} (h : ds.all (shp n) = true) (hn : n < 64 := by decide) : eqD (.lst ds) (.lst []) = some ds.isEmpty := by
  have s1 : SeqAt.shaped (D.lst ds).py = true := shp_ok (n := n + 1) h hn
  unfold eqD
  rw [if_pos ⟨s1, shp_ok (n := 1) (d := .lst []) rfl (by decide)⟩]
  cases ds <;> simp [D.py, pyL, PyData.eqv, PyData.eqvAll]

/-! ### manners -/
def prD (p : Int × Int) : D := .tup [.int p.1, .int p.2]
def optD : Option Int → D
  | none => .non
  | some i => .int i
structure Mn where
  i : Rnd
  o : Rnd
  br : List (Int × Int)
  dl : Option Int
  wl : Option Int
def Mn.d (m : Mn) : D := .tup [m.i.d, m.o.d, .tup (m.br.map prD), optD m.dl, optD m.wl]
def brOk1 (p : Int × Int) : Prop := (1 ≤ p.1 ∧ p.1 ≤ 96) ∧ 1 ≤ p.2 ∧ p.2 ≤ 8
def brOk : List (Int × Int) → Prop
  | [] => True
  | [p] => brOk1 p
  | [p, q] => brOk1 p ∧ brOk1 q ∧ p.1 < q.1
  | _ => False
structure Mn.ok (m : Mn) : Prop where
  i : m.i.ok
  o : m.o.ok
  br : brOk m.br
  dl : ∀ x, m.dl = some x → 1 ≤ x ∧ x ≤ 96
  wl : ∀ x, m.wl = some x → 1 ≤ x ∧ x ≤ 480
/-- the minus that applies -/
def appl (br : List (Int × Int)) (q : Int) : Option Int := br.foldl (fun a p => if p.1 ≤ q then some p.2 else a) none
def leftI (br : List (Int × Int)) (q : Int) : Int := match appl br q with
  | none => q
  | some x => if q - x > 0 then q - x else 0
def capI (dl : Option Int) (l : Int) : Int × Int := match dl with
  | none => (l, 0)
  | some x => if x < l then (x, l - x) else (l, 0)
def splitI (m : Mn) (q : Int) : Int × Int := capI m.dl (leftI m.br q)
def countI (m : Mn) (p : Int × Int) : Int := if wentI m.o p.2 - cameI m.i p.1 > 0 then wentI m.o p.2 - cameI m.i p.1 else 0
def partsI (m : Mn) (p : Int × Int) : Int × Int := splitI m (countI m p)
theorem br3 {br : List (Int × Int)} (h : brOk br) : br = [] ∨ (∃ p, br = [p]) ∨ ∃ p q, br = [p, q] := by
  match br, h with
  | [], _ => exact .inl rfl
  | [p], _ => exact .inr (.inl ⟨p, rfl⟩)
  | [p, q], _ => exact .inr (.inr ⟨p, q, rfl⟩)
theorem at0 {a b c d e : D} : L2.atI [a, b, c, d, e] 0 = some a := rfl
theorem at1 {a b c d e : D} : L2.atI [a, b, c, d, e] 1 = some b := rfl
theorem at2 {a b c d e : D} : L2.atI [a, b, c, d, e] 2 = some c := rfl
theorem at3 {a b c d e : D} : L2.atI [a, b, c, d, e] 3 = some d := rfl
theorem at4 {a b c d e : D} : L2.atI [a, b, c, d, e] 4 = some e := rfl
theorem at20 {a b : D} : L2.atI [a, b] 0 = some a := rfl
theorem at21 {a b : D} : L2.atI [a, b] 1 = some b := rfl
theorem at1m {a : D} : L2.atI [a] (-1) = some a := rfl
theorem at2m {a b : D} : L2.atI [a, b] (-1) = some b := rfl
theorem eqI1 (i : Int) : eqD (.lst [.int i]) (.lst []) = some false := eqD_nil (n := 1) rfl
theorem eqI2 (i j : Int) : eqD (.lst [.int i, .int j]) (.lst []) = some false := eqD_nil (n := 1) rfl
theorem eqI0 : eqD (.lst []) (.lst []) = some true := eqD_nil (n := 1) rfl
theorem left_ok (k : Nat) {m : Mn} (h : m.ok) (q : Int) : semK glob gvG 100 (k + 1) 33 [.dat m.d, .dat (.int q)] = .ok (.dat (.int (leftI m.br q))) none := by
  rw [semK_eq g_left_of]
  obtain ⟨mi, mo, br, dl, wl⟩ := m
  have hb := br3 h.br
  simp only at hb
  rcases hb with rfl | ⟨⟨a, b⟩, rfl⟩ | ⟨⟨a, b⟩, ⟨c, d⟩, rfl⟩
  · simp [ev_var, ev_cst, ev_glb, ev_fnv, ev_tup, ev_lst, ev_lmul, ev_dic_false, ev_dic_true, ev_dic1, ev_bin, ev_neg, ev_cmp, ev_chain, ev_and, ev_or, ev_not, ev_ite, ev_idx, ev_slc, ev_rev, ev_call, ev_callv, ev_bi, ev_inst, ev_get, ev_lrng, ev_dcp, ev_dprs, ev_lc, ev_lc2, ev_lc3, ev_tri, evT_and, evT_or, evT_not, evT_var, evT_cst, evT_glb, evT_fnv, evT_tup, evT_lst, evT_lmul, evT_dic, evT_dic1, evT_bin, evT_neg, evT_cmp, evT_chain, evT_ite, evT_idx, evT_slc, evT_rev, evT_call, evT_callv, evT_bi, evT_inst, evT_get, evT_lrng, evT_dcp, evT_dprs, evT_lc, evT_lc2, evT_lc3, evT_tri, opd_var, opd_cst, opd_glb, opd_fnv, opd_tup, opd_lst, opd_lmul, opd_dic, opd_dic1, opd_bin, opd_neg, opd_cmp, opd_chain, opd_and, opd_or, opd_not, opd_ite, opd_idx, opd_slc, opd_rev, opd_call, opd_callv, opd_bi, opd_inst, opd_get, opd_lrng, opd_dcp, opd_dprs, opd_lc, opd_lc2, opd_lc3, opd_tri, exS_set, exS_unp, exS_par, exS_parO, exS_store, exS_app, exS_expr, exS_ifs, exS_for_, exS_whil, exS_ret, exS_retv, exS_retN, exS_raise, exS_brk, exS_cont, exS_pass, exS_never, exSs_nil, exSs_cons, part_none, part_some, evIt, opds, vals, op2, cont, conts, Res.bind, Res.bindN, Res.sb, SRes.sq, lift, cmpP, binP, idxP, callP, finF, endF, backOf, isLent, SV.d, SV.lent, callR, lentOf, sharedSl, shLst, freezeSl, putBack, D.flat, tru, unpS, asg_tup, asg_ktup, asg_lst, asgs_cons, asgs_nil, setS_eq, asg_nm, free_none, free_dat, free_own, D.seq?, Z24, hasSlot, hasLst, modS, putAt, pushAt, retvS, lcFin, testO, DL.isP, keepO, List.replicate, F_left_of, Mn.d, at2, lcGo, tame, wipeR, backR, eqI0, leftI, appl]
  · by_cases h1 : a ≤ q <;> simp [ev_var, ev_cst, ev_glb, ev_fnv, ev_tup, ev_lst, ev_lmul, ev_dic_false, ev_dic_true, ev_dic1, ev_bin, ev_neg, ev_cmp, ev_chain, ev_and, ev_or, ev_not, ev_ite, ev_idx, ev_slc, ev_rev, ev_call, ev_callv, ev_bi, ev_inst, ev_get, ev_lrng, ev_dcp, ev_dprs, ev_lc, ev_lc2, ev_lc3, ev_tri, evT_and, evT_or, evT_not, evT_var, evT_cst, evT_glb, evT_fnv, evT_tup, evT_lst, evT_lmul, evT_dic, evT_dic1, evT_bin, evT_neg, evT_cmp, evT_chain, evT_ite, evT_idx, evT_slc, evT_rev, evT_call, evT_callv, evT_bi, evT_inst, evT_get, evT_lrng, evT_dcp, evT_dprs, evT_lc, evT_lc2, evT_lc3, evT_tri, opd_var, opd_cst, opd_glb, opd_fnv, opd_tup, opd_lst, opd_lmul, opd_dic, opd_dic1, opd_bin, opd_neg, opd_cmp, opd_chain, opd_and, opd_or, opd_not, opd_ite, opd_idx, opd_slc, opd_rev, opd_call, opd_callv, opd_bi, opd_inst, opd_get, opd_lrng, opd_dcp, opd_dprs, opd_lc, opd_lc2, opd_lc3, opd_tri, exS_set, exS_unp, exS_par, exS_parO, exS_store, exS_app, exS_expr, exS_ifs, exS_for_, exS_whil, exS_ret, exS_retv, exS_retN, exS_raise, exS_brk, exS_cont, exS_pass, exS_never, exSs_nil, exSs_cons, part_none, part_some, evIt, opds, vals, op2, cont, conts, Res.bind, Res.bindN, Res.sb, SRes.sq, lift, cmpP, binP, idxP, callP, finF, endF, backOf, isLent, SV.d, SV.lent, callR, lentOf, sharedSl, shLst, freezeSl, putBack, D.flat, tru, unpS, asg_tup, asg_ktup, asg_lst, asgs_cons, asgs_nil, setS_eq, asg_nm, free_none, free_dat, free_own, D.seq?, Z24, hasSlot, hasLst, modS, putAt, pushAt, retvS, lcFin, testO, DL.isP, keepO, List.replicate, F_left_of, Mn.d, prD, at2, at1m, lcGo, tame, wipeR, backR, eqI0, eqI1, leftI, appl, h1]
  · by_cases h1 : a ≤ q <;> by_cases h2 : c ≤ q <;> simp [ev_var, ev_cst, ev_glb, ev_fnv, ev_tup, ev_lst, ev_lmul, ev_dic_false, ev_dic_true, ev_dic1, ev_bin, ev_neg, ev_cmp, ev_chain, ev_and, ev_or, ev_not, ev_ite, ev_idx, ev_slc, ev_rev, ev_call, ev_callv, ev_bi, ev_inst, ev_get, ev_lrng, ev_dcp, ev_dprs, ev_lc, ev_lc2, ev_lc3, ev_tri, evT_and, evT_or, evT_not, evT_var, evT_cst, evT_glb, evT_fnv, evT_tup, evT_lst, evT_lmul, evT_dic, evT_dic1, evT_bin, evT_neg, evT_cmp, evT_chain, evT_ite, evT_idx, evT_slc, evT_rev, evT_call, evT_callv, evT_bi, evT_inst, evT_get, evT_lrng, evT_dcp, evT_dprs, evT_lc, evT_lc2, evT_lc3, evT_tri, opd_var, opd_cst, opd_glb, opd_fnv, opd_tup, opd_lst, opd_lmul, opd_dic, opd_dic1, opd_bin, opd_neg, opd_cmp, opd_chain, opd_and, opd_or, opd_not, opd_ite, opd_idx, opd_slc, opd_rev, opd_call, opd_callv, opd_bi, opd_inst, opd_get, opd_lrng, opd_dcp, opd_dprs, opd_lc, opd_lc2, opd_lc3, opd_tri, exS_set, exS_unp, exS_par, exS_parO, exS_store, exS_app, exS_expr, exS_ifs, exS_for_, exS_whil, exS_ret, exS_retv, exS_retN, exS_raise, exS_brk, exS_cont, exS_pass, exS_never, exSs_nil, exSs_cons, part_none, part_some, evIt, opds, vals, op2, cont, conts, Res.bind, Res.bindN, Res.sb, SRes.sq, lift, cmpP, binP, idxP, callP, finF, endF, backOf, isLent, SV.d, SV.lent, callR, lentOf, sharedSl, shLst, freezeSl, putBack, D.flat, tru, unpS, asg_tup, asg_ktup, asg_lst, asgs_cons, asgs_nil, setS_eq, asg_nm, free_none, free_dat, free_own, D.seq?, Z24, hasSlot, hasLst, modS, putAt, pushAt, retvS, lcFin, testO, DL.isP, keepO, List.replicate, F_left_of, Mn.d, prD, at2, at1m, at2m, lcGo, tame, wipeR, backR, eqI0, eqI1, eqI2, leftI, appl, h1, h2]
theorem optD_none : optD none = .non := rfl
theorem optD_some {x : Int} : optD (some x) = .int x := rfl
theorem split_ok (k : Nat) {m : Mn} (h : m.ok) (q : Int) : semK glob gvG 100 (k + 2) 34 [.dat m.d, .dat (.int q)] = .ok (.dat (prD (splitI m q))) none := by
  have e := left_ok k h q
  rw [semK_eq g_split_of]
  obtain ⟨mi, mo, br, dl, wl⟩ := m
  simp only [Mn.d] at e
  cases dl with
  | none =>
    simp only [optD_none] at e
    simp [ev_var, ev_cst, ev_glb, ev_fnv, ev_tup, ev_lst, ev_lmul, ev_dic_false, ev_dic_true, ev_dic1, ev_bin, ev_neg, ev_cmp, ev_chain, ev_and, ev_or, ev_not, ev_ite, ev_idx, ev_slc, ev_rev, ev_call, ev_callv, ev_bi, ev_inst, ev_get, ev_lrng, ev_dcp, ev_dprs, ev_lc, ev_lc2, ev_lc3, ev_tri, evT_and, evT_or, evT_not, evT_var, evT_cst, evT_glb, evT_fnv, evT_tup, evT_lst, evT_lmul, evT_dic, evT_dic1, evT_bin, evT_neg, evT_cmp, evT_chain, evT_ite, evT_idx, evT_slc, evT_rev, evT_call, evT_callv, evT_bi, evT_inst, evT_get, evT_lrng, evT_dcp, evT_dprs, evT_lc, evT_lc2, evT_lc3, evT_tri, opd_var, opd_cst, opd_glb, opd_fnv, opd_tup, opd_lst, opd_lmul, opd_dic, opd_dic1, opd_bin, opd_neg, opd_cmp, opd_chain, opd_and, opd_or, opd_not, opd_ite, opd_idx, opd_slc, opd_rev, opd_call, opd_callv, opd_bi, opd_inst, opd_get, opd_lrng, opd_dcp, opd_dprs, opd_lc, opd_lc2, opd_lc3, opd_tri, exS_set, exS_unp, exS_par, exS_parO, exS_store, exS_app, exS_expr, exS_ifs, exS_for_, exS_whil, exS_ret, exS_retv, exS_retN, exS_raise, exS_brk, exS_cont, exS_pass, exS_never, exSs_nil, exSs_cons, part_none, part_some, evIt, opds, vals, op2, cont, conts, Res.bind, Res.bindN, Res.sb, SRes.sq, lift, cmpP, binP, idxP, callP, finF, endF, backOf, isLent, SV.d, SV.lent, callR, lentOf, sharedSl, shLst, freezeSl, putBack, D.flat, tru, unpS, asg_tup, asg_ktup, asg_lst, asgs_cons, asgs_nil, setS_eq, asg_nm, free_none, free_dat, free_own, D.seq?, Z24, hasSlot, hasLst, modS, putAt, pushAt, retvS, lcFin, testO, DL.isP, keepO, List.replicate, F_split_of, Mn.d, at3, e, optD_none, splitI, capI, prD]
  | some x =>
    simp only [optD_some] at e
    by_cases h1 : x < leftI br q <;> simp [ev_var, ev_cst, ev_glb, ev_fnv, ev_tup, ev_lst, ev_lmul, ev_dic_false, ev_dic_true, ev_dic1, ev_bin, ev_neg, ev_cmp, ev_chain, ev_and, ev_or, ev_not, ev_ite, ev_idx, ev_slc, ev_rev, ev_call, ev_callv, ev_bi, ev_inst, ev_get, ev_lrng, ev_dcp, ev_dprs, ev_lc, ev_lc2, ev_lc3, ev_tri, evT_and, evT_or, evT_not, evT_var, evT_cst, evT_glb, evT_fnv, evT_tup, evT_lst, evT_lmul, evT_dic, evT_dic1, evT_bin, evT_neg, evT_cmp, evT_chain, evT_ite, evT_idx, evT_slc, evT_rev, evT_call, evT_callv, evT_bi, evT_inst, evT_get, evT_lrng, evT_dcp, evT_dprs, evT_lc, evT_lc2, evT_lc3, evT_tri, opd_var, opd_cst, opd_glb, opd_fnv, opd_tup, opd_lst, opd_lmul, opd_dic, opd_dic1, opd_bin, opd_neg, opd_cmp, opd_chain, opd_and, opd_or, opd_not, opd_ite, opd_idx, opd_slc, opd_rev, opd_call, opd_callv, opd_bi, opd_inst, opd_get, opd_lrng, opd_dcp, opd_dprs, opd_lc, opd_lc2, opd_lc3, opd_tri, exS_set, exS_unp, exS_par, exS_parO, exS_store, exS_app, exS_expr, exS_ifs, exS_for_, exS_whil, exS_ret, exS_retv, exS_retN, exS_raise, exS_brk, exS_cont, exS_pass, exS_never, exSs_nil, exSs_cons, part_none, part_some, evIt, opds, vals, op2, cont, conts, Res.bind, Res.bindN, Res.sb, SRes.sq, lift, cmpP, binP, idxP, callP, finF, endF, backOf, isLent, SV.d, SV.lent, callR, lentOf, sharedSl, shLst, freezeSl, putBack, D.flat, tru, unpS, asg_tup, asg_ktup, asg_lst, asgs_cons, asgs_nil, setS_eq, asg_nm, free_none, free_dat, free_own, D.seq?, Z24, hasSlot, hasLst, modS, putAt, pushAt, retvS, lcFin, testO, DL.isP, keepO, List.replicate, F_split_of, Mn.d, at3, e, optD_some, splitI, capI, prD, h1]
theorem rev_pr {a b : D} : [a, b].reverse = [b, a] := rfl
theorem lsplit_for (k : Nat) {m : Mn} (h : m.ok) (q : Int) : ∃ x y, free x = true ∧ free y = true ∧ exS (cfk k) 99 (.for_ (.tup [.nm 2, .nm 3]) (.seq (.rev (.idx (.var 0) (.cst (.int 2))))) [.ifs (.cmp .LtE (.var 2) (.var 1)) [.set 1 (.ite (.cmp .Gt (.var 1) (.var 3)) (.bin .Sub (.var 1) (.var 3)) (.cst (.int 0))), .brk] []]) [some (.dat m.d), some (.dat (.int q)), none, none] = .nx [some (.dat m.d), some (.dat (.int (leftI m.br q))), x, y] := by
  obtain ⟨mi, mo, br, dl, wl⟩ := m
  have hb := br3 h.br
  simp only at hb
  rcases hb with rfl | ⟨⟨a, b⟩, rfl⟩ | ⟨⟨a, b⟩, ⟨c, d⟩, rfl⟩
  · refine ⟨none, none, rfl, rfl, ?_⟩
    simp [ev_var, ev_cst, ev_glb, ev_fnv, ev_tup, ev_lst, ev_lmul, ev_dic_false, ev_dic_true, ev_dic1, ev_bin, ev_neg, ev_cmp, ev_chain, ev_and, ev_or, ev_not, ev_ite, ev_idx, ev_slc, ev_rev, ev_call, ev_callv, ev_bi, ev_inst, ev_get, ev_lrng, ev_dcp, ev_dprs, ev_lc, ev_lc2, ev_lc3, ev_tri, evT_and, evT_or, evT_not, evT_var, evT_cst, evT_glb, evT_fnv, evT_tup, evT_lst, evT_lmul, evT_dic, evT_dic1, evT_bin, evT_neg, evT_cmp, evT_chain, evT_ite, evT_idx, evT_slc, evT_rev, evT_call, evT_callv, evT_bi, evT_inst, evT_get, evT_lrng, evT_dcp, evT_dprs, evT_lc, evT_lc2, evT_lc3, evT_tri, opd_var, opd_cst, opd_glb, opd_fnv, opd_tup, opd_lst, opd_lmul, opd_dic, opd_dic1, opd_bin, opd_neg, opd_cmp, opd_chain, opd_and, opd_or, opd_not, opd_ite, opd_idx, opd_slc, opd_rev, opd_call, opd_callv, opd_bi, opd_inst, opd_get, opd_lrng, opd_dcp, opd_dprs, opd_lc, opd_lc2, opd_lc3, opd_tri, exS_set, exS_unp, exS_par, exS_parO, exS_store, exS_app, exS_expr, exS_ifs, exS_for_, exS_whil, exS_ret, exS_retv, exS_retN, exS_raise, exS_brk, exS_cont, exS_pass, exS_never, exSs_nil, exSs_cons, part_none, part_some, evIt, opds, vals, op2, cont, conts, Res.bind, Res.bindN, Res.sb, SRes.sq, lift, cmpP, binP, idxP, callP, finF, endF, backOf, isLent, SV.d, SV.lent, callR, lentOf, sharedSl, shLst, freezeSl, putBack, D.flat, tru, unpS, asg_tup, asg_ktup, asg_lst, asgs_cons, asgs_nil, setS_eq, asg_nm, free_none, free_dat, free_own, D.seq?, Z24, hasSlot, hasLst, modS, putAt, pushAt, retvS, lcFin, testO, DL.isP, keepO, List.replicate, Mn.d, at2, forGo, leftI, appl]
  · by_cases h1 : a ≤ q
    · refine ⟨some (.dat (.int a)), some (.dat (.int b)), rfl, rfl, ?_⟩
      by_cases h2 : b < q <;> simp [ev_var, ev_cst, ev_glb, ev_fnv, ev_tup, ev_lst, ev_lmul, ev_dic_false, ev_dic_true, ev_dic1, ev_bin, ev_neg, ev_cmp, ev_chain, ev_and, ev_or, ev_not, ev_ite, ev_idx, ev_slc, ev_rev, ev_call, ev_callv, ev_bi, ev_inst, ev_get, ev_lrng, ev_dcp, ev_dprs, ev_lc, ev_lc2, ev_lc3, ev_tri, evT_and, evT_or, evT_not, evT_var, evT_cst, evT_glb, evT_fnv, evT_tup, evT_lst, evT_lmul, evT_dic, evT_dic1, evT_bin, evT_neg, evT_cmp, evT_chain, evT_ite, evT_idx, evT_slc, evT_rev, evT_call, evT_callv, evT_bi, evT_inst, evT_get, evT_lrng, evT_dcp, evT_dprs, evT_lc, evT_lc2, evT_lc3, evT_tri, opd_var, opd_cst, opd_glb, opd_fnv, opd_tup, opd_lst, opd_lmul, opd_dic, opd_dic1, opd_bin, opd_neg, opd_cmp, opd_chain, opd_and, opd_or, opd_not, opd_ite, opd_idx, opd_slc, opd_rev, opd_call, opd_callv, opd_bi, opd_inst, opd_get, opd_lrng, opd_dcp, opd_dprs, opd_lc, opd_lc2, opd_lc3, opd_tri, exS_set, exS_unp, exS_par, exS_parO, exS_store, exS_app, exS_expr, exS_ifs, exS_for_, exS_whil, exS_ret, exS_retv, exS_retN, exS_raise, exS_brk, exS_cont, exS_pass, exS_never, exSs_nil, exSs_cons, part_none, part_some, evIt, opds, vals, op2, cont, conts, Res.bind, Res.bindN, Res.sb, SRes.sq, lift, cmpP, binP, idxP, callP, finF, endF, backOf, isLent, SV.d, SV.lent, callR, lentOf, sharedSl, shLst, freezeSl, putBack, D.flat, tru, unpS, asg_tup, asg_ktup, asg_lst, asgs_cons, asgs_nil, setS_eq, asg_nm, free_none, free_dat, free_own, D.seq?, Z24, hasSlot, hasLst, modS, putAt, pushAt, retvS, lcFin, testO, DL.isP, keepO, List.replicate, Mn.d, prD, at2, forGo, leftI, appl, h1, h2]
    · refine ⟨some (.dat (.int a)), some (.dat (.int b)), rfl, rfl, ?_⟩
      simp [ev_var, ev_cst, ev_glb, ev_fnv, ev_tup, ev_lst, ev_lmul, ev_dic_false, ev_dic_true, ev_dic1, ev_bin, ev_neg, ev_cmp, ev_chain, ev_and, ev_or, ev_not, ev_ite, ev_idx, ev_slc, ev_rev, ev_call, ev_callv, ev_bi, ev_inst, ev_get, ev_lrng, ev_dcp, ev_dprs, ev_lc, ev_lc2, ev_lc3, ev_tri, evT_and, evT_or, evT_not, evT_var, evT_cst, evT_glb, evT_fnv, evT_tup, evT_lst, evT_lmul, evT_dic, evT_dic1, evT_bin, evT_neg, evT_cmp, evT_chain, evT_ite, evT_idx, evT_slc, evT_rev, evT_call, evT_callv, evT_bi, evT_inst, evT_get, evT_lrng, evT_dcp, evT_dprs, evT_lc, evT_lc2, evT_lc3, evT_tri, opd_var, opd_cst, opd_glb, opd_fnv, opd_tup, opd_lst, opd_lmul, opd_dic, opd_dic1, opd_bin, opd_neg, opd_cmp, opd_chain, opd_and, opd_or, opd_not, opd_ite, opd_idx, opd_slc, opd_rev, opd_call, opd_callv, opd_bi, opd_inst, opd_get, opd_lrng, opd_dcp, opd_dprs, opd_lc, opd_lc2, opd_lc3, opd_tri, exS_set, exS_unp, exS_par, exS_parO, exS_store, exS_app, exS_expr, exS_ifs, exS_for_, exS_whil, exS_ret, exS_retv, exS_retN, exS_raise, exS_brk, exS_cont, exS_pass, exS_never, exSs_nil, exSs_cons, part_none, part_some, evIt, opds, vals, op2, cont, conts, Res.bind, Res.bindN, Res.sb, SRes.sq, lift, cmpP, binP, idxP, callP, finF, endF, backOf, isLent, SV.d, SV.lent, callR, lentOf, sharedSl, shLst, freezeSl, putBack, D.flat, tru, unpS, asg_tup, asg_ktup, asg_lst, asgs_cons, asgs_nil, setS_eq, asg_nm, free_none, free_dat, free_own, D.seq?, Z24, hasSlot, hasLst, modS, putAt, pushAt, retvS, lcFin, testO, DL.isP, keepO, List.replicate, Mn.d, prD, at2, forGo, leftI, appl, h1]
  · by_cases h3 : c ≤ q
    · refine ⟨some (.dat (.int c)), some (.dat (.int d)), rfl, rfl, ?_⟩
      by_cases h4 : d < q <;> by_cases h1 : a ≤ q <;> simp [ev_var, ev_cst, ev_glb, ev_fnv, ev_tup, ev_lst, ev_lmul, ev_dic_false, ev_dic_true, ev_dic1, ev_bin, ev_neg, ev_cmp, ev_chain, ev_and, ev_or, ev_not, ev_ite, ev_idx, ev_slc, ev_rev, ev_call, ev_callv, ev_bi, ev_inst, ev_get, ev_lrng, ev_dcp, ev_dprs, ev_lc, ev_lc2, ev_lc3, ev_tri, evT_and, evT_or, evT_not, evT_var, evT_cst, evT_glb, evT_fnv, evT_tup, evT_lst, evT_lmul, evT_dic, evT_dic1, evT_bin, evT_neg, evT_cmp, evT_chain, evT_ite, evT_idx, evT_slc, evT_rev, evT_call, evT_callv, evT_bi, evT_inst, evT_get, evT_lrng, evT_dcp, evT_dprs, evT_lc, evT_lc2, evT_lc3, evT_tri, opd_var, opd_cst, opd_glb, opd_fnv, opd_tup, opd_lst, opd_lmul, opd_dic, opd_dic1, opd_bin, opd_neg, opd_cmp, opd_chain, opd_and, opd_or, opd_not, opd_ite, opd_idx, opd_slc, opd_rev, opd_call, opd_callv, opd_bi, opd_inst, opd_get, opd_lrng, opd_dcp, opd_dprs, opd_lc, opd_lc2, opd_lc3, opd_tri, exS_set, exS_unp, exS_par, exS_parO, exS_store, exS_app, exS_expr, exS_ifs, exS_for_, exS_whil, exS_ret, exS_retv, exS_retN, exS_raise, exS_brk, exS_cont, exS_pass, exS_never, exSs_nil, exSs_cons, part_none, part_some, evIt, opds, vals, op2, cont, conts, Res.bind, Res.bindN, Res.sb, SRes.sq, lift, cmpP, binP, idxP, callP, finF, endF, backOf, isLent, SV.d, SV.lent, callR, lentOf, sharedSl, shLst, freezeSl, putBack, D.flat, tru, unpS, asg_tup, asg_ktup, asg_lst, asgs_cons, asgs_nil, setS_eq, asg_nm, free_none, free_dat, free_own, D.seq?, Z24, hasSlot, hasLst, modS, putAt, pushAt, retvS, lcFin, testO, DL.isP, keepO, List.replicate, Mn.d, prD, at2, rev_pr, forGo, leftI, appl, h1, h3, h4]
    · refine ⟨some (.dat (.int a)), some (.dat (.int b)), rfl, rfl, ?_⟩
      by_cases h1 : a ≤ q <;> by_cases h2 : b < q <;> simp [ev_var, ev_cst, ev_glb, ev_fnv, ev_tup, ev_lst, ev_lmul, ev_dic_false, ev_dic_true, ev_dic1, ev_bin, ev_neg, ev_cmp, ev_chain, ev_and, ev_or, ev_not, ev_ite, ev_idx, ev_slc, ev_rev, ev_call, ev_callv, ev_bi, ev_inst, ev_get, ev_lrng, ev_dcp, ev_dprs, ev_lc, ev_lc2, ev_lc3, ev_tri, evT_and, evT_or, evT_not, evT_var, evT_cst, evT_glb, evT_fnv, evT_tup, evT_lst, evT_lmul, evT_dic, evT_dic1, evT_bin, evT_neg, evT_cmp, evT_chain, evT_ite, evT_idx, evT_slc, evT_rev, evT_call, evT_callv, evT_bi, evT_inst, evT_get, evT_lrng, evT_dcp, evT_dprs, evT_lc, evT_lc2, evT_lc3, evT_tri, opd_var, opd_cst, opd_glb, opd_fnv, opd_tup, opd_lst, opd_lmul, opd_dic, opd_dic1, opd_bin, opd_neg, opd_cmp, opd_chain, opd_and, opd_or, opd_not, opd_ite, opd_idx, opd_slc, opd_rev, opd_call, opd_callv, opd_bi, opd_inst, opd_get, opd_lrng, opd_dcp, opd_dprs, opd_lc, opd_lc2, opd_lc3, opd_tri, exS_set, exS_unp, exS_par, exS_parO, exS_store, exS_app, exS_expr, exS_ifs, exS_for_, exS_whil, exS_ret, exS_retv, exS_retN, exS_raise, exS_brk, exS_cont, exS_pass, exS_never, exSs_nil, exSs_cons, part_none, part_some, evIt, opds, vals, op2, cont, conts, Res.bind, Res.bindN, Res.sb, SRes.sq, lift, cmpP, binP, idxP, callP, finF, endF, backOf, isLent, SV.d, SV.lent, callR, lentOf, sharedSl, shLst, freezeSl, putBack, D.flat, tru, unpS, asg_tup, asg_ktup, asg_lst, asgs_cons, asgs_nil, setS_eq, asg_nm, free_none, free_dat, free_own, D.seq?, Z24, hasSlot, hasLst, modS, putAt, pushAt, retvS, lcFin, testO, DL.isP, keepO, List.replicate, Mn.d, prD, at2, rev_pr, forGo, leftI, appl, h1, h2, h3]
theorem lsplit_ok (k : Nat) {m : Mn} (h : m.ok) (q : Int) : semK glob gvG 100 (k + 1) 40 [.dat m.d, .dat (.int q)] = .ok (.dat (prD (splitI m q))) none := by
  rw [semK_eq g__law_split]
  obtain ⟨x, y, fx, fy, e⟩ := lsplit_for k h q
  have a1 : ∀ b : D, (if ([SV.dat b, .dat (.int q)] : List SV).length = F__law_split.np ∧ isLent [.dat b, .dat (.int q)] = F__law_split.lend then finF F__law_split.lend (exSs (cfk k) 100 F__law_split.body ([SV.dat b, .dat (.int q)].map some ++ List.replicate (F__law_split.nl - F__law_split.np) none)) else .stuck) = finF false ((exS (cfk k) 99 (.for_ (.tup [.nm 2, .nm 3]) (.seq (.rev (.idx (.var 0) (.cst (.int 2))))) [.ifs (.cmp .LtE (.var 2) (.var 1)) [.set 1 (.ite (.cmp .Gt (.var 1) (.var 3)) (.bin .Sub (.var 1) (.var 3)) (.cst (.int 0))), .brk] []]) [some (.dat b), some (.dat (.int q)), none, none]).sq fun ρ1 => exSs (cfk k) 99 F__law_split.body.tail ρ1) := fun b => rfl
  rw [a1, e]
  obtain ⟨mi, mo, br, dl, wl⟩ := m
  cases dl with
  | none => simp [ev_var, ev_cst, ev_glb, ev_fnv, ev_tup, ev_lst, ev_lmul, ev_dic_false, ev_dic_true, ev_dic1, ev_bin, ev_neg, ev_cmp, ev_chain, ev_and, ev_or, ev_not, ev_ite, ev_idx, ev_slc, ev_rev, ev_call, ev_callv, ev_bi, ev_inst, ev_get, ev_lrng, ev_dcp, ev_dprs, ev_lc, ev_lc2, ev_lc3, ev_tri, evT_and, evT_or, evT_not, evT_var, evT_cst, evT_glb, evT_fnv, evT_tup, evT_lst, evT_lmul, evT_dic, evT_dic1, evT_bin, evT_neg, evT_cmp, evT_chain, evT_ite, evT_idx, evT_slc, evT_rev, evT_call, evT_callv, evT_bi, evT_inst, evT_get, evT_lrng, evT_dcp, evT_dprs, evT_lc, evT_lc2, evT_lc3, evT_tri, opd_var, opd_cst, opd_glb, opd_fnv, opd_tup, opd_lst, opd_lmul, opd_dic, opd_dic1, opd_bin, opd_neg, opd_cmp, opd_chain, opd_and, opd_or, opd_not, opd_ite, opd_idx, opd_slc, opd_rev, opd_call, opd_callv, opd_bi, opd_inst, opd_get, opd_lrng, opd_dcp, opd_dprs, opd_lc, opd_lc2, opd_lc3, opd_tri, exS_set, exS_unp, exS_par, exS_parO, exS_store, exS_app, exS_expr, exS_ifs, exS_for_, exS_whil, exS_ret, exS_retv, exS_retN, exS_raise, exS_brk, exS_cont, exS_pass, exS_never, exSs_nil, exSs_cons, part_none, part_some, evIt, opds, vals, op2, cont, conts, Res.bind, Res.bindN, Res.sb, SRes.sq, lift, cmpP, binP, idxP, callP, finF, endF, backOf, isLent, SV.d, SV.lent, callR, lentOf, sharedSl, shLst, freezeSl, putBack, D.flat, tru, unpS, asg_tup, asg_ktup, asg_lst, asgs_cons, asgs_nil, setS_eq, asg_nm, free_none, free_dat, free_own, D.seq?, Z24, hasSlot, hasLst, modS, putAt, pushAt, retvS, lcFin, testO, DL.isP, keepO, List.replicate, F__law_split, Mn.d, optD_none, at3, splitI, capI, prD]
  | some z =>
    by_cases h1 : z < leftI br q
    · have h2 : ¬ leftI br q ≤ z := by omega
      simp [ev_var, ev_cst, ev_glb, ev_fnv, ev_tup, ev_lst, ev_lmul, ev_dic_false, ev_dic_true, ev_dic1, ev_bin, ev_neg, ev_cmp, ev_chain, ev_and, ev_or, ev_not, ev_ite, ev_idx, ev_slc, ev_rev, ev_call, ev_callv, ev_bi, ev_inst, ev_get, ev_lrng, ev_dcp, ev_dprs, ev_lc, ev_lc2, ev_lc3, ev_tri, evT_and, evT_or, evT_not, evT_var, evT_cst, evT_glb, evT_fnv, evT_tup, evT_lst, evT_lmul, evT_dic, evT_dic1, evT_bin, evT_neg, evT_cmp, evT_chain, evT_ite, evT_idx, evT_slc, evT_rev, evT_call, evT_callv, evT_bi, evT_inst, evT_get, evT_lrng, evT_dcp, evT_dprs, evT_lc, evT_lc2, evT_lc3, evT_tri, opd_var, opd_cst, opd_glb, opd_fnv, opd_tup, opd_lst, opd_lmul, opd_dic, opd_dic1, opd_bin, opd_neg, opd_cmp, opd_chain, opd_and, opd_or, opd_not, opd_ite, opd_idx, opd_slc, opd_rev, opd_call, opd_callv, opd_bi, opd_inst, opd_get, opd_lrng, opd_dcp, opd_dprs, opd_lc, opd_lc2, opd_lc3, opd_tri, exS_set, exS_unp, exS_par, exS_parO, exS_store, exS_app, exS_expr, exS_ifs, exS_for_, exS_whil, exS_ret, exS_retv, exS_retN, exS_raise, exS_brk, exS_cont, exS_pass, exS_never, exSs_nil, exSs_cons, part_none, part_some, evIt, opds, vals, op2, cont, conts, Res.bind, Res.bindN, Res.sb, SRes.sq, lift, cmpP, binP, idxP, callP, finF, endF, backOf, isLent, SV.d, SV.lent, callR, lentOf, sharedSl, shLst, freezeSl, putBack, D.flat, tru, unpS, asg_tup, asg_ktup, asg_lst, asgs_cons, asgs_nil, setS_eq, asg_nm, free_none, free_dat, free_own, D.seq?, Z24, hasSlot, hasLst, modS, putAt, pushAt, retvS, lcFin, testO, DL.isP, keepO, List.replicate, F__law_split, Mn.d, optD_some, at3, splitI, capI, prD, h1, h2]
    · have h2 : leftI br q ≤ z := by omega
      simp [ev_var, ev_cst, ev_glb, ev_fnv, ev_tup, ev_lst, ev_lmul, ev_dic_false, ev_dic_true, ev_dic1, ev_bin, ev_neg, ev_cmp, ev_chain, ev_and, ev_or, ev_not, ev_ite, ev_idx, ev_slc, ev_rev, ev_call, ev_callv, ev_bi, ev_inst, ev_get, ev_lrng, ev_dcp, ev_dprs, ev_lc, ev_lc2, ev_lc3, ev_tri, evT_and, evT_or, evT_not, evT_var, evT_cst, evT_glb, evT_fnv, evT_tup, evT_lst, evT_lmul, evT_dic, evT_dic1, evT_bin, evT_neg, evT_cmp, evT_chain, evT_ite, evT_idx, evT_slc, evT_rev, evT_call, evT_callv, evT_bi, evT_inst, evT_get, evT_lrng, evT_dcp, evT_dprs, evT_lc, evT_lc2, evT_lc3, evT_tri, opd_var, opd_cst, opd_glb, opd_fnv, opd_tup, opd_lst, opd_lmul, opd_dic, opd_dic1, opd_bin, opd_neg, opd_cmp, opd_chain, opd_and, opd_or, opd_not, opd_ite, opd_idx, opd_slc, opd_rev, opd_call, opd_callv, opd_bi, opd_inst, opd_get, opd_lrng, opd_dcp, opd_dprs, opd_lc, opd_lc2, opd_lc3, opd_tri, exS_set, exS_unp, exS_par, exS_parO, exS_store, exS_app, exS_expr, exS_ifs, exS_for_, exS_whil, exS_ret, exS_retv, exS_retN, exS_raise, exS_brk, exS_cont, exS_pass, exS_never, exSs_nil, exSs_cons, part_none, part_some, evIt, opds, vals, op2, cont, conts, Res.bind, Res.bindN, Res.sb, SRes.sq, lift, cmpP, binP, idxP, callP, finF, endF, backOf, isLent, SV.d, SV.lent, callR, lentOf, sharedSl, shLst, freezeSl, putBack, D.flat, tru, unpS, asg_tup, asg_ktup, asg_lst, asgs_cons, asgs_nil, setS_eq, asg_nm, free_none, free_dat, free_own, D.seq?, Z24, hasSlot, hasLst, modS, putAt, pushAt, retvS, lcFin, testO, DL.isP, keepO, List.replicate, F__law_split, Mn.d, optD_some, at3, splitI, capI, prD, h1, h2]
theorem count_ok (k : Nat) {m : Mn} (h : m.ok) (p : Int × Int) : semK glob gvG 100 (k + 2) 32 [.dat m.d, .dat (prD p)] = .ok (.dat (.int (countI m p))) none := by
  have e1 := went_ok k h.o p.2
  have e2 := came_ok k h.i p.1
  rw [semK_eq g_counted_of]
  simp [ev_var, ev_cst, ev_glb, ev_fnv, ev_tup, ev_lst, ev_lmul, ev_dic_false, ev_dic_true, ev_dic1, ev_bin, ev_neg, ev_cmp, ev_chain, ev_and, ev_or, ev_not, ev_ite, ev_idx, ev_slc, ev_rev, ev_call, ev_callv, ev_bi, ev_inst, ev_get, ev_lrng, ev_dcp, ev_dprs, ev_lc, ev_lc2, ev_lc3, ev_tri, evT_and, evT_or, evT_not, evT_var, evT_cst, evT_glb, evT_fnv, evT_tup, evT_lst, evT_lmul, evT_dic, evT_dic1, evT_bin, evT_neg, evT_cmp, evT_chain, evT_ite, evT_idx, evT_slc, evT_rev, evT_call, evT_callv, evT_bi, evT_inst, evT_get, evT_lrng, evT_dcp, evT_dprs, evT_lc, evT_lc2, evT_lc3, evT_tri, opd_var, opd_cst, opd_glb, opd_fnv, opd_tup, opd_lst, opd_lmul, opd_dic, opd_dic1, opd_bin, opd_neg, opd_cmp, opd_chain, opd_and, opd_or, opd_not, opd_ite, opd_idx, opd_slc, opd_rev, opd_call, opd_callv, opd_bi, opd_inst, opd_get, opd_lrng, opd_dcp, opd_dprs, opd_lc, opd_lc2, opd_lc3, opd_tri, exS_set, exS_unp, exS_par, exS_parO, exS_store, exS_app, exS_expr, exS_ifs, exS_for_, exS_whil, exS_ret, exS_retv, exS_retN, exS_raise, exS_brk, exS_cont, exS_pass, exS_never, exSs_nil, exSs_cons, part_none, part_some, evIt, opds, vals, op2, cont, conts, Res.bind, Res.bindN, Res.sb, SRes.sq, lift, cmpP, binP, idxP, callP, finF, endF, backOf, isLent, SV.d, SV.lent, callR, lentOf, sharedSl, shLst, freezeSl, putBack, D.flat, tru, unpS, asg_tup, asg_ktup, asg_lst, asgs_cons, asgs_nil, setS_eq, asg_nm, free_none, free_dat, free_own, D.seq?, Z24, hasSlot, hasLst, modS, putAt, pushAt, retvS, lcFin, testO, DL.isP, keepO, List.replicate, F_counted_of, Mn.d, prD, at0, at1, at20, at21, e1, e2, countI]
theorem lcount_ok (k : Nat) {m : Mn} (h : m.ok) (p : Int × Int) : semK glob gvG 100 (k + 2) 41 [.dat m.d, .dat (prD p)] = .ok (.dat (.int (countI m p))) none := by
  have e1 := punch_out k h.o p.2
  have e2 := punch_in k h.i p.1
  rw [semK_eq g__law_counts]
  by_cases h1 : wentI m.o p.2 - cameI m.i p.1 > 0
  · have h2 : cameI m.i p.1 < wentI m.o p.2 := by omega
    simp [ev_var, ev_cst, ev_glb, ev_fnv, ev_tup, ev_lst, ev_lmul, ev_dic_false, ev_dic_true, ev_dic1, ev_bin, ev_neg, ev_cmp, ev_chain, ev_and, ev_or, ev_not, ev_ite, ev_idx, ev_slc, ev_rev, ev_call, ev_callv, ev_bi, ev_inst, ev_get, ev_lrng, ev_dcp, ev_dprs, ev_lc, ev_lc2, ev_lc3, ev_tri, evT_and, evT_or, evT_not, evT_var, evT_cst, evT_glb, evT_fnv, evT_tup, evT_lst, evT_lmul, evT_dic, evT_dic1, evT_bin, evT_neg, evT_cmp, evT_chain, evT_ite, evT_idx, evT_slc, evT_rev, evT_call, evT_callv, evT_bi, evT_inst, evT_get, evT_lrng, evT_dcp, evT_dprs, evT_lc, evT_lc2, evT_lc3, evT_tri, opd_var, opd_cst, opd_glb, opd_fnv, opd_tup, opd_lst, opd_lmul, opd_dic, opd_dic1, opd_bin, opd_neg, opd_cmp, opd_chain, opd_and, opd_or, opd_not, opd_ite, opd_idx, opd_slc, opd_rev, opd_call, opd_callv, opd_bi, opd_inst, opd_get, opd_lrng, opd_dcp, opd_dprs, opd_lc, opd_lc2, opd_lc3, opd_tri, exS_set, exS_unp, exS_par, exS_parO, exS_store, exS_app, exS_expr, exS_ifs, exS_for_, exS_whil, exS_ret, exS_retv, exS_retN, exS_raise, exS_brk, exS_cont, exS_pass, exS_never, exSs_nil, exSs_cons, part_none, part_some, evIt, opds, vals, op2, cont, conts, Res.bind, Res.bindN, Res.sb, SRes.sq, lift, cmpP, binP, idxP, callP, finF, endF, backOf, isLent, SV.d, SV.lent, callR, lentOf, sharedSl, shLst, freezeSl, putBack, D.flat, tru, unpS, asg_tup, asg_ktup, asg_lst, asgs_cons, asgs_nil, setS_eq, asg_nm, free_none, free_dat, free_own, D.seq?, Z24, hasSlot, hasLst, modS, putAt, pushAt, retvS, lcFin, testO, DL.isP, keepO, List.replicate, F__law_counts, Mn.d, prD, at0, at1, at20, at21, e1, e2, countI, h1, h2]
  · have h2 : ¬ cameI m.i p.1 < wentI m.o p.2 := by omega
    simp [ev_var, ev_cst, ev_glb, ev_fnv, ev_tup, ev_lst, ev_lmul, ev_dic_false, ev_dic_true, ev_dic1, ev_bin, ev_neg, ev_cmp, ev_chain, ev_and, ev_or, ev_not, ev_ite, ev_idx, ev_slc, ev_rev, ev_call, ev_callv, ev_bi, ev_inst, ev_get, ev_lrng, ev_dcp, ev_dprs, ev_lc, ev_lc2, ev_lc3, ev_tri, evT_and, evT_or, evT_not, evT_var, evT_cst, evT_glb, evT_fnv, evT_tup, evT_lst, evT_lmul, evT_dic, evT_dic1, evT_bin, evT_neg, evT_cmp, evT_chain, evT_ite, evT_idx, evT_slc, evT_rev, evT_call, evT_callv, evT_bi, evT_inst, evT_get, evT_lrng, evT_dcp, evT_dprs, evT_lc, evT_lc2, evT_lc3, evT_tri, opd_var, opd_cst, opd_glb, opd_fnv, opd_tup, opd_lst, opd_lmul, opd_dic, opd_dic1, opd_bin, opd_neg, opd_cmp, opd_chain, opd_and, opd_or, opd_not, opd_ite, opd_idx, opd_slc, opd_rev, opd_call, opd_callv, opd_bi, opd_inst, opd_get, opd_lrng, opd_dcp, opd_dprs, opd_lc, opd_lc2, opd_lc3, opd_tri, exS_set, exS_unp, exS_par, exS_parO, exS_store, exS_app, exS_expr, exS_ifs, exS_for_, exS_whil, exS_ret, exS_retv, exS_retN, exS_raise, exS_brk, exS_cont, exS_pass, exS_never, exSs_nil, exSs_cons, part_none, part_some, evIt, opds, vals, op2, cont, conts, Res.bind, Res.bindN, Res.sb, SRes.sq, lift, cmpP, binP, idxP, callP, finF, endF, backOf, isLent, SV.d, SV.lent, callR, lentOf, sharedSl, shLst, freezeSl, putBack, D.flat, tru, unpS, asg_tup, asg_ktup, asg_lst, asgs_cons, asgs_nil, setS_eq, asg_nm, free_none, free_dat, free_own, D.seq?, Z24, hasSlot, hasLst, modS, putAt, pushAt, retvS, lcFin, testO, DL.isP, keepO, List.replicate, F__law_counts, Mn.d, prD, at0, at1, at20, at21, e1, e2, countI, h1, h2]
theorem parts_ok (k : Nat) {m : Mn} (h : m.ok) (p : Int × Int) : semK glob gvG 100 (k + 3) 35 [.dat m.d, .dat (prD p)] = .ok (.dat (prD (partsI m p))) none := by
  have e1 := count_ok k h p
  have e2 := split_ok k h (countI m p)
  rw [semK_eq g_parts_of]
  simp only [Mn.d, prD] at e1 e2 ⊢
  simp [ev_var, ev_cst, ev_glb, ev_fnv, ev_tup, ev_lst, ev_lmul, ev_dic_false, ev_dic_true, ev_dic1, ev_bin, ev_neg, ev_cmp, ev_chain, ev_and, ev_or, ev_not, ev_ite, ev_idx, ev_slc, ev_rev, ev_call, ev_callv, ev_bi, ev_inst, ev_get, ev_lrng, ev_dcp, ev_dprs, ev_lc, ev_lc2, ev_lc3, ev_tri, evT_and, evT_or, evT_not, evT_var, evT_cst, evT_glb, evT_fnv, evT_tup, evT_lst, evT_lmul, evT_dic, evT_dic1, evT_bin, evT_neg, evT_cmp, evT_chain, evT_ite, evT_idx, evT_slc, evT_rev, evT_call, evT_callv, evT_bi, evT_inst, evT_get, evT_lrng, evT_dcp, evT_dprs, evT_lc, evT_lc2, evT_lc3, evT_tri, opd_var, opd_cst, opd_glb, opd_fnv, opd_tup, opd_lst, opd_lmul, opd_dic, opd_dic1, opd_bin, opd_neg, opd_cmp, opd_chain, opd_and, opd_or, opd_not, opd_ite, opd_idx, opd_slc, opd_rev, opd_call, opd_callv, opd_bi, opd_inst, opd_get, opd_lrng, opd_dcp, opd_dprs, opd_lc, opd_lc2, opd_lc3, opd_tri, exS_set, exS_unp, exS_par, exS_parO, exS_store, exS_app, exS_expr, exS_ifs, exS_for_, exS_whil, exS_ret, exS_retv, exS_retN, exS_raise, exS_brk, exS_cont, exS_pass, exS_never, exSs_nil, exSs_cons, part_none, part_some, evIt, opds, vals, op2, cont, conts, Res.bind, Res.bindN, Res.sb, SRes.sq, lift, cmpP, binP, idxP, callP, finF, endF, backOf, isLent, SV.d, SV.lent, callR, lentOf, sharedSl, shLst, freezeSl, putBack, D.flat, tru, unpS, asg_tup, asg_ktup, asg_lst, asgs_cons, asgs_nil, setS_eq, asg_nm, free_none, free_dat, free_own, D.seq?, Z24, hasSlot, hasLst, modS, putAt, pushAt, retvS, lcFin, testO, DL.isP, keepO, List.replicate, F_parts_of, Mn.d, prD, e1, e2, partsI]
end DL

namespace DL
open PySem PySem.Spec PyProof.Rows L2

/-! ### the checks, of good values -/
theorem from_ok (k : Nat) (i lo hi : Int) : semK glob gvG 100 (k + 1) 0 [.dat (.int i), .dat (.int lo), .dat (.int hi)] = .ok (.dat (.bl (decide (lo ≤ i ∧ i ≤ hi)))) none := by
  rw [semK_eq g_is_from]
  by_cases h1 : lo ≤ i <;> by_cases h2 : i ≤ hi <;> simp [ev_var, ev_cst, ev_glb, ev_fnv, ev_tup, ev_lst, ev_lmul, ev_dic_false, ev_dic_true, ev_dic1, ev_bin, ev_neg, ev_cmp, ev_chain, ev_and, ev_or, ev_not, ev_ite, ev_idx, ev_slc, ev_rev, ev_call, ev_callv, ev_bi, ev_inst, ev_get, ev_lrng, ev_dcp, ev_dprs, ev_lc, ev_lc2, ev_lc3, ev_tri, evT_and, evT_or, evT_not, evT_var, evT_cst, evT_glb, evT_fnv, evT_tup, evT_lst, evT_lmul, evT_dic, evT_dic1, evT_bin, evT_neg, evT_cmp, evT_chain, evT_ite, evT_idx, evT_slc, evT_rev, evT_call, evT_callv, evT_bi, evT_inst, evT_get, evT_lrng, evT_dcp, evT_dprs, evT_lc, evT_lc2, evT_lc3, evT_tri, opd_var, opd_cst, opd_glb, opd_fnv, opd_tup, opd_lst, opd_lmul, opd_dic, opd_dic1, opd_bin, opd_neg, opd_cmp, opd_chain, opd_and, opd_or, opd_not, opd_ite, opd_idx, opd_slc, opd_rev, opd_call, opd_callv, opd_bi, opd_inst, opd_get, opd_lrng, opd_dcp, opd_dprs, opd_lc, opd_lc2, opd_lc3, opd_tri, exS_set, exS_unp, exS_par, exS_parO, exS_store, exS_app, exS_expr, exS_ifs, exS_for_, exS_whil, exS_ret, exS_retv, exS_retN, exS_raise, exS_brk, exS_cont, exS_pass, exS_never, exSs_nil, exSs_cons, part_none, part_some, evIt, opds, vals, op2, cont, conts, Res.bind, Res.bindN, Res.sb, SRes.sq, lift, cmpP, binP, idxP, callP, finF, endF, backOf, isLent, SV.d, SV.lent, callR, lentOf, sharedSl, shLst, freezeSl, putBack, D.flat, tru, unpS, asg_tup, asg_ktup, asg_lst, asgs_cons, asgs_nil, setS_eq, asg_nm, free_none, free_dat, free_own, D.seq?, Z24, hasSlot, hasLst, modS, putAt, pushAt, retvS, lcFin, testO, DL.isP, keepO, List.replicate, F_is_from, instP, h1, h2]
theorem g_steps : gvG 0 = some (.ktup [.int 1, .int 2, .int 3, .int 4, .int 6, .int 8, .int 12]) := rfl
theorem g_sides : gvG 1 = some (.ktup [.str "down", .str "near", .str "up"]) := rfl
theorem mem_step {s : Int} (h : s ∈ [(1 : Int), 2, 3, 4, 6, 8, 12]) : memD (.int s) [.int 1, .int 2, .int 3, .int 4, .int 6, .int 8, .int 12] = some true := by
  simp only [List.mem_cons, List.not_mem_nil, or_false] at h
  rcases h with rfl | rfl | rfl | rfl | rfl | rfl | rfl <;> decide +kernel
theorem mem_side (x : Side) : memD (.str x.s) [.str "down", .str "near", .str "up"] = some true := by
  cases x <;> decide +kernel
theorem isr_ok (k : Nat) {r : Rnd} (h : r.ok) : semK glob gvG 100 (k + 2) 1 [.dat r.d] = .ok (.dat (.bl true)) none := by
  have e1 := from_ok k r.st 1 12
  have e2 := from_ok k r.gr 0 (r.st - 1)
  have h1 := h.st
  have h2 := h.2
  have h3 := mem_step h.1
  have h4 := mem_side r.sd
  rw [semK_eq g_is_rounding_of]
  rw [show decide (1 ≤ r.st ∧ r.st ≤ 12) = true from decide_eq_true h1] at e1
  rw [show decide (0 ≤ r.gr ∧ r.gr ≤ r.st - 1) = true from decide_eq_true ⟨h2.1, by omega⟩] at e2
  simp [ev_var, ev_cst, ev_glb, ev_fnv, ev_tup, ev_lst, ev_lmul, ev_dic_false, ev_dic_true, ev_dic1, ev_bin, ev_neg, ev_cmp, ev_chain, ev_and, ev_or, ev_not, ev_ite, ev_idx, ev_slc, ev_rev, ev_call, ev_callv, ev_bi, ev_inst, ev_get, ev_lrng, ev_dcp, ev_dprs, ev_lc, ev_lc2, ev_lc3, ev_tri, evT_and, evT_or, evT_not, evT_var, evT_cst, evT_glb, evT_fnv, evT_tup, evT_lst, evT_lmul, evT_dic, evT_dic1, evT_bin, evT_neg, evT_cmp, evT_chain, evT_ite, evT_idx, evT_slc, evT_rev, evT_call, evT_callv, evT_bi, evT_inst, evT_get, evT_lrng, evT_dcp, evT_dprs, evT_lc, evT_lc2, evT_lc3, evT_tri, opd_var, opd_cst, opd_glb, opd_fnv, opd_tup, opd_lst, opd_lmul, opd_dic, opd_dic1, opd_bin, opd_neg, opd_cmp, opd_chain, opd_and, opd_or, opd_not, opd_ite, opd_idx, opd_slc, opd_rev, opd_call, opd_callv, opd_bi, opd_inst, opd_get, opd_lrng, opd_dcp, opd_dprs, opd_lc, opd_lc2, opd_lc3, opd_tri, exS_set, exS_unp, exS_par, exS_parO, exS_store, exS_app, exS_expr, exS_ifs, exS_for_, exS_whil, exS_ret, exS_retv, exS_retN, exS_raise, exS_brk, exS_cont, exS_pass, exS_never, exSs_nil, exSs_cons, part_none, part_some, evIt, opds, vals, op2, cont, conts, Res.bind, Res.bindN, Res.sb, SRes.sq, lift, cmpP, binP, idxP, callP, finF, endF, backOf, isLent, SV.d, SV.lent, callR, lentOf, sharedSl, shLst, freezeSl, putBack, D.flat, tru, unpS, asg_tup, asg_ktup, asg_lst, asgs_cons, asgs_nil, setS_eq, asg_nm, free_none, free_dat, free_own, D.seq?, Z24, hasSlot, hasLst, modS, putAt, pushAt, retvS, lcFin, testO, DL.isP, keepO, List.replicate, F_is_rounding_of, Rnd.d, instP, e1, e2, g_steps, g_sides, inP, h3, h4]
theorem isb_ok (k : Nat) {br : List (Int × Int)} (h : brOk br) : semK glob gvG 100 (k + 2) 2 [.dat (.tup (br.map prD))] = .ok (.dat (.bl true)) none := by
  have g96 : gvG 2 = some (.int 96) := rfl
  have g8 : gvG 3 = some (.int 8) := rfl
  have e : ∀ i lo hi : Int, lo ≤ i ∧ i ≤ hi → semK glob gvG 100 (k + 1) 0 [.dat (.int i), .dat (.int lo), .dat (.int hi)] = .ok (.dat (.bl true)) none := fun i lo hi h => by
    rw [from_ok, decide_eq_true h]
  rw [semK_eq g_are_breaks_of]
  rcases br3 h with rfl | ⟨⟨a, b⟩, rfl⟩ | ⟨⟨a, b⟩, ⟨c, d⟩, rfl⟩
  · simp [ev_var, ev_cst, ev_glb, ev_fnv, ev_tup, ev_lst, ev_lmul, ev_dic_false, ev_dic_true, ev_dic1, ev_bin, ev_neg, ev_cmp, ev_chain, ev_and, ev_or, ev_not, ev_ite, ev_idx, ev_slc, ev_rev, ev_call, ev_callv, ev_bi, ev_inst, ev_get, ev_lrng, ev_dcp, ev_dprs, ev_lc, ev_lc2, ev_lc3, ev_tri, evT_and, evT_or, evT_not, evT_var, evT_cst, evT_glb, evT_fnv, evT_tup, evT_lst, evT_lmul, evT_dic, evT_dic1, evT_bin, evT_neg, evT_cmp, evT_chain, evT_ite, evT_idx, evT_slc, evT_rev, evT_call, evT_callv, evT_bi, evT_inst, evT_get, evT_lrng, evT_dcp, evT_dprs, evT_lc, evT_lc2, evT_lc3, evT_tri, opd_var, opd_cst, opd_glb, opd_fnv, opd_tup, opd_lst, opd_lmul, opd_dic, opd_dic1, opd_bin, opd_neg, opd_cmp, opd_chain, opd_and, opd_or, opd_not, opd_ite, opd_idx, opd_slc, opd_rev, opd_call, opd_callv, opd_bi, opd_inst, opd_get, opd_lrng, opd_dcp, opd_dprs, opd_lc, opd_lc2, opd_lc3, opd_tri, exS_set, exS_unp, exS_par, exS_parO, exS_store, exS_app, exS_expr, exS_ifs, exS_for_, exS_whil, exS_ret, exS_retv, exS_retN, exS_raise, exS_brk, exS_cont, exS_pass, exS_never, exSs_nil, exSs_cons, part_none, part_some, evIt, opds, vals, op2, cont, conts, Res.bind, Res.bindN, Res.sb, SRes.sq, lift, cmpP, binP, idxP, callP, finF, endF, backOf, isLent, SV.d, SV.lent, callR, lentOf, sharedSl, shLst, freezeSl, putBack, D.flat, tru, unpS, asg_tup, asg_ktup, asg_lst, asgs_cons, asgs_nil, setS_eq, asg_nm, free_none, free_dat, free_own, D.seq?, Z24, hasSlot, hasLst, modS, putAt, pushAt, retvS, lcFin, testO, DL.isP, keepO, List.replicate, F_are_breaks_of, instP, forGo]
  · have e1 := e a 1 96 h.1
    have e2 := e b 1 8 h.2
    simp [ev_var, ev_cst, ev_glb, ev_fnv, ev_tup, ev_lst, ev_lmul, ev_dic_false, ev_dic_true, ev_dic1, ev_bin, ev_neg, ev_cmp, ev_chain, ev_and, ev_or, ev_not, ev_ite, ev_idx, ev_slc, ev_rev, ev_call, ev_callv, ev_bi, ev_inst, ev_get, ev_lrng, ev_dcp, ev_dprs, ev_lc, ev_lc2, ev_lc3, ev_tri, evT_and, evT_or, evT_not, evT_var, evT_cst, evT_glb, evT_fnv, evT_tup, evT_lst, evT_lmul, evT_dic, evT_dic1, evT_bin, evT_neg, evT_cmp, evT_chain, evT_ite, evT_idx, evT_slc, evT_rev, evT_call, evT_callv, evT_bi, evT_inst, evT_get, evT_lrng, evT_dcp, evT_dprs, evT_lc, evT_lc2, evT_lc3, evT_tri, opd_var, opd_cst, opd_glb, opd_fnv, opd_tup, opd_lst, opd_lmul, opd_dic, opd_dic1, opd_bin, opd_neg, opd_cmp, opd_chain, opd_and, opd_or, opd_not, opd_ite, opd_idx, opd_slc, opd_rev, opd_call, opd_callv, opd_bi, opd_inst, opd_get, opd_lrng, opd_dcp, opd_dprs, opd_lc, opd_lc2, opd_lc3, opd_tri, exS_set, exS_unp, exS_par, exS_parO, exS_store, exS_app, exS_expr, exS_ifs, exS_for_, exS_whil, exS_ret, exS_retv, exS_retN, exS_raise, exS_brk, exS_cont, exS_pass, exS_never, exSs_nil, exSs_cons, part_none, part_some, evIt, opds, vals, op2, cont, conts, Res.bind, Res.bindN, Res.sb, SRes.sq, lift, cmpP, binP, idxP, callP, finF, endF, backOf, isLent, SV.d, SV.lent, callR, lentOf, sharedSl, shLst, freezeSl, putBack, D.flat, tru, unpS, asg_tup, asg_ktup, asg_lst, asgs_cons, asgs_nil, setS_eq, asg_nm, free_none, free_dat, free_own, D.seq?, Z24, hasSlot, hasLst, modS, putAt, pushAt, retvS, lcFin, testO, DL.isP, keepO, List.replicate, F_are_breaks_of, prD, instP, forGo, at20, at21, e1, e2, g96, g8]
  · obtain ⟨h1, h2, h3⟩ := h
    have e1 := e a 1 96 h1.1
    have e2 := e b 1 8 h1.2
    have e3 := e c 1 96 h2.1
    have e4 := e d 1 8 h2.2
    simp only at h3
    simp [ev_var, ev_cst, ev_glb, ev_fnv, ev_tup, ev_lst, ev_lmul, ev_dic_false, ev_dic_true, ev_dic1, ev_bin, ev_neg, ev_cmp, ev_chain, ev_and, ev_or, ev_not, ev_ite, ev_idx, ev_slc, ev_rev, ev_call, ev_callv, ev_bi, ev_inst, ev_get, ev_lrng, ev_dcp, ev_dprs, ev_lc, ev_lc2, ev_lc3, ev_tri, evT_and, evT_or, evT_not, evT_var, evT_cst, evT_glb, evT_fnv, evT_tup, evT_lst, evT_lmul, evT_dic, evT_dic1, evT_bin, evT_neg, evT_cmp, evT_chain, evT_ite, evT_idx, evT_slc, evT_rev, evT_call, evT_callv, evT_bi, evT_inst, evT_get, evT_lrng, evT_dcp, evT_dprs, evT_lc, evT_lc2, evT_lc3, evT_tri, opd_var, opd_cst, opd_glb, opd_fnv, opd_tup, opd_lst, opd_lmul, opd_dic, opd_dic1, opd_bin, opd_neg, opd_cmp, opd_chain, opd_and, opd_or, opd_not, opd_ite, opd_idx, opd_slc, opd_rev, opd_call, opd_callv, opd_bi, opd_inst, opd_get, opd_lrng, opd_dcp, opd_dprs, opd_lc, opd_lc2, opd_lc3, opd_tri, exS_set, exS_unp, exS_par, exS_parO, exS_store, exS_app, exS_expr, exS_ifs, exS_for_, exS_whil, exS_ret, exS_retv, exS_retN, exS_raise, exS_brk, exS_cont, exS_pass, exS_never, exSs_nil, exSs_cons, part_none, part_some, evIt, opds, vals, op2, cont, conts, Res.bind, Res.bindN, Res.sb, SRes.sq, lift, cmpP, binP, idxP, callP, finF, endF, backOf, isLent, SV.d, SV.lent, callR, lentOf, sharedSl, shLst, freezeSl, putBack, D.flat, tru, unpS, asg_tup, asg_ktup, asg_lst, asgs_cons, asgs_nil, setS_eq, asg_nm, free_none, free_dat, free_own, D.seq?, Z24, hasSlot, hasLst, modS, putAt, pushAt, retvS, lcFin, testO, DL.isP, keepO, List.replicate, F_are_breaks_of, prD, instP, forGo, at20, at21, e1, e2, e3, e4, g96, g8, h3]
theorem ism_ok (k : Nat) {m : Mn} (h : m.ok) : semK glob gvG 100 (k + 3) 3 [.dat m.d] = .ok (.dat (.bl true)) none := by
  have g96 : gvG 2 = some (.int 96) := rfl
  have g5 : gvG 4 = some (.int 5) := rfl
  have e1 := isr_ok k h.i
  have e2 := isr_ok k h.o
  have e3 := isb_ok k h.br
  have e : ∀ i lo hi : Int, lo ≤ i ∧ i ≤ hi → semK glob gvG 100 (k + 2) 0 [.dat (.int i), .dat (.int lo), .dat (.int hi)] = .ok (.dat (.bl true)) none := fun i lo hi h => by
    rw [from_ok, decide_eq_true h]
  rw [semK_eq g_is_manner_of]
  obtain ⟨mi, mo, br, dl, wl⟩ := m
  have hd := h.dl
  have hw := h.wl
  simp only at hd hw e1 e2 e3
  cases dl with
  | none =>
    cases wl with
    | none => simp [ev_var, ev_cst, ev_glb, ev_fnv, ev_tup, ev_lst, ev_lmul, ev_dic_false, ev_dic_true, ev_dic1, ev_bin, ev_neg, ev_cmp, ev_chain, ev_and, ev_or, ev_not, ev_ite, ev_idx, ev_slc, ev_rev, ev_call, ev_callv, ev_bi, ev_inst, ev_get, ev_lrng, ev_dcp, ev_dprs, ev_lc, ev_lc2, ev_lc3, ev_tri, evT_and, evT_or, evT_not, evT_var, evT_cst, evT_glb, evT_fnv, evT_tup, evT_lst, evT_lmul, evT_dic, evT_dic1, evT_bin, evT_neg, evT_cmp, evT_chain, evT_ite, evT_idx, evT_slc, evT_rev, evT_call, evT_callv, evT_bi, evT_inst, evT_get, evT_lrng, evT_dcp, evT_dprs, evT_lc, evT_lc2, evT_lc3, evT_tri, opd_var, opd_cst, opd_glb, opd_fnv, opd_tup, opd_lst, opd_lmul, opd_dic, opd_dic1, opd_bin, opd_neg, opd_cmp, opd_chain, opd_and, opd_or, opd_not, opd_ite, opd_idx, opd_slc, opd_rev, opd_call, opd_callv, opd_bi, opd_inst, opd_get, opd_lrng, opd_dcp, opd_dprs, opd_lc, opd_lc2, opd_lc3, opd_tri, exS_set, exS_unp, exS_par, exS_parO, exS_store, exS_app, exS_expr, exS_ifs, exS_for_, exS_whil, exS_ret, exS_retv, exS_retN, exS_raise, exS_brk, exS_cont, exS_pass, exS_never, exSs_nil, exSs_cons, part_none, part_some, evIt, opds, vals, op2, cont, conts, Res.bind, Res.bindN, Res.sb, SRes.sq, lift, cmpP, binP, idxP, callP, finF, endF, backOf, isLent, SV.d, SV.lent, callR, lentOf, sharedSl, shLst, freezeSl, putBack, D.flat, tru, unpS, asg_tup, asg_ktup, asg_lst, asgs_cons, asgs_nil, setS_eq, asg_nm, free_none, free_dat, free_own, D.seq?, Z24, hasSlot, hasLst, modS, putAt, pushAt, retvS, lcFin, testO, DL.isP, keepO, List.replicate, F_is_manner_of, Mn.d, optD_none, instP, e1, e2, e3]
    | some y =>
      have e5 := e y 1 480 (hw y rfl)
      simp [ev_var, ev_cst, ev_glb, ev_fnv, ev_tup, ev_lst, ev_lmul, ev_dic_false, ev_dic_true, ev_dic1, ev_bin, ev_neg, ev_cmp, ev_chain, ev_and, ev_or, ev_not, ev_ite, ev_idx, ev_slc, ev_rev, ev_call, ev_callv, ev_bi, ev_inst, ev_get, ev_lrng, ev_dcp, ev_dprs, ev_lc, ev_lc2, ev_lc3, ev_tri, evT_and, evT_or, evT_not, evT_var, evT_cst, evT_glb, evT_fnv, evT_tup, evT_lst, evT_lmul, evT_dic, evT_dic1, evT_bin, evT_neg, evT_cmp, evT_chain, evT_ite, evT_idx, evT_slc, evT_rev, evT_call, evT_callv, evT_bi, evT_inst, evT_get, evT_lrng, evT_dcp, evT_dprs, evT_lc, evT_lc2, evT_lc3, evT_tri, opd_var, opd_cst, opd_glb, opd_fnv, opd_tup, opd_lst, opd_lmul, opd_dic, opd_dic1, opd_bin, opd_neg, opd_cmp, opd_chain, opd_and, opd_or, opd_not, opd_ite, opd_idx, opd_slc, opd_rev, opd_call, opd_callv, opd_bi, opd_inst, opd_get, opd_lrng, opd_dcp, opd_dprs, opd_lc, opd_lc2, opd_lc3, opd_tri, exS_set, exS_unp, exS_par, exS_parO, exS_store, exS_app, exS_expr, exS_ifs, exS_for_, exS_whil, exS_ret, exS_retv, exS_retN, exS_raise, exS_brk, exS_cont, exS_pass, exS_never, exSs_nil, exSs_cons, part_none, part_some, evIt, opds, vals, op2, cont, conts, Res.bind, Res.bindN, Res.sb, SRes.sq, lift, cmpP, binP, idxP, callP, finF, endF, backOf, isLent, SV.d, SV.lent, callR, lentOf, sharedSl, shLst, freezeSl, putBack, D.flat, tru, unpS, asg_tup, asg_ktup, asg_lst, asgs_cons, asgs_nil, setS_eq, asg_nm, free_none, free_dat, free_own, D.seq?, Z24, hasSlot, hasLst, modS, putAt, pushAt, retvS, lcFin, testO, DL.isP, keepO, List.replicate, F_is_manner_of, Mn.d, optD_none, optD_some, instP, e1, e2, e3, e5, g96, g5]
  | some x =>
    have e4 := e x 1 96 (hd x rfl)
    cases wl with
    | none => simp [ev_var, ev_cst, ev_glb, ev_fnv, ev_tup, ev_lst, ev_lmul, ev_dic_false, ev_dic_true, ev_dic1, ev_bin, ev_neg, ev_cmp, ev_chain, ev_and, ev_or, ev_not, ev_ite, ev_idx, ev_slc, ev_rev, ev_call, ev_callv, ev_bi, ev_inst, ev_get, ev_lrng, ev_dcp, ev_dprs, ev_lc, ev_lc2, ev_lc3, ev_tri, evT_and, evT_or, evT_not, evT_var, evT_cst, evT_glb, evT_fnv, evT_tup, evT_lst, evT_lmul, evT_dic, evT_dic1, evT_bin, evT_neg, evT_cmp, evT_chain, evT_ite, evT_idx, evT_slc, evT_rev, evT_call, evT_callv, evT_bi, evT_inst, evT_get, evT_lrng, evT_dcp, evT_dprs, evT_lc, evT_lc2, evT_lc3, evT_tri, opd_var, opd_cst, opd_glb, opd_fnv, opd_tup, opd_lst, opd_lmul, opd_dic, opd_dic1, opd_bin, opd_neg, opd_cmp, opd_chain, opd_and, opd_or, opd_not, opd_ite, opd_idx, opd_slc, opd_rev, opd_call, opd_callv, opd_bi, opd_inst, opd_get, opd_lrng, opd_dcp, opd_dprs, opd_lc, opd_lc2, opd_lc3, opd_tri, exS_set, exS_unp, exS_par, exS_parO, exS_store, exS_app, exS_expr, exS_ifs, exS_for_, exS_whil, exS_ret, exS_retv, exS_retN, exS_raise, exS_brk, exS_cont, exS_pass, exS_never, exSs_nil, exSs_cons, part_none, part_some, evIt, opds, vals, op2, cont, conts, Res.bind, Res.bindN, Res.sb, SRes.sq, lift, cmpP, binP, idxP, callP, finF, endF, backOf, isLent, SV.d, SV.lent, callR, lentOf, sharedSl, shLst, freezeSl, putBack, D.flat, tru, unpS, asg_tup, asg_ktup, asg_lst, asgs_cons, asgs_nil, setS_eq, asg_nm, free_none, free_dat, free_own, D.seq?, Z24, hasSlot, hasLst, modS, putAt, pushAt, retvS, lcFin, testO, DL.isP, keepO, List.replicate, F_is_manner_of, Mn.d, optD_none, optD_some, instP, e1, e2, e3, e4, g96, g5]
    | some y =>
      have e5 := e y 1 480 (hw y rfl)
      simp [ev_var, ev_cst, ev_glb, ev_fnv, ev_tup, ev_lst, ev_lmul, ev_dic_false, ev_dic_true, ev_dic1, ev_bin, ev_neg, ev_cmp, ev_chain, ev_and, ev_or, ev_not, ev_ite, ev_idx, ev_slc, ev_rev, ev_call, ev_callv, ev_bi, ev_inst, ev_get, ev_lrng, ev_dcp, ev_dprs, ev_lc, ev_lc2, ev_lc3, ev_tri, evT_and, evT_or, evT_not, evT_var, evT_cst, evT_glb, evT_fnv, evT_tup, evT_lst, evT_lmul, evT_dic, evT_dic1, evT_bin, evT_neg, evT_cmp, evT_chain, evT_ite, evT_idx, evT_slc, evT_rev, evT_call, evT_callv, evT_bi, evT_inst, evT_get, evT_lrng, evT_dcp, evT_dprs, evT_lc, evT_lc2, evT_lc3, evT_tri, opd_var, opd_cst, opd_glb, opd_fnv, opd_tup, opd_lst, opd_lmul, opd_dic, opd_dic1, opd_bin, opd_neg, opd_cmp, opd_chain, opd_and, opd_or, opd_not, opd_ite, opd_idx, opd_slc, opd_rev, opd_call, opd_callv, opd_bi, opd_inst, opd_get, opd_lrng, opd_dcp, opd_dprs, opd_lc, opd_lc2, opd_lc3, opd_tri, exS_set, exS_unp, exS_par, exS_parO, exS_store, exS_app, exS_expr, exS_ifs, exS_for_, exS_whil, exS_ret, exS_retv, exS_retN, exS_raise, exS_brk, exS_cont, exS_pass, exS_never, exSs_nil, exSs_cons, part_none, part_some, evIt, opds, vals, op2, cont, conts, Res.bind, Res.bindN, Res.sb, SRes.sq, lift, cmpP, binP, idxP, callP, finF, endF, backOf, isLent, SV.d, SV.lent, callR, lentOf, sharedSl, shLst, freezeSl, putBack, D.flat, tru, unpS, asg_tup, asg_ktup, asg_lst, asgs_cons, asgs_nil, setS_eq, asg_nm, free_none, free_dat, free_own, D.seq?, Z24, hasSlot, hasLst, modS, putAt, pushAt, retvS, lcFin, testO, DL.isP, keepO, List.replicate, F_is_manner_of, Mn.d, optD_none, optD_some, instP, e1, e2, e3, e4, e5, g96, g5]
theorem needm_ok (k : Nat) {m : Mn} (h : m.ok) : semK glob gvG 100 (k + 4) 16 [.dat m.d] = .ok (.dat .non) none := by
  have e1 := ism_ok k h
  rw [semK_eq g_need_manner]
  simp [ev_var, ev_cst, ev_glb, ev_fnv, ev_tup, ev_lst, ev_lmul, ev_dic_false, ev_dic_true, ev_dic1, ev_bin, ev_neg, ev_cmp, ev_chain, ev_and, ev_or, ev_not, ev_ite, ev_idx, ev_slc, ev_rev, ev_call, ev_callv, ev_bi, ev_inst, ev_get, ev_lrng, ev_dcp, ev_dprs, ev_lc, ev_lc2, ev_lc3, ev_tri, evT_and, evT_or, evT_not, evT_var, evT_cst, evT_glb, evT_fnv, evT_tup, evT_lst, evT_lmul, evT_dic, evT_dic1, evT_bin, evT_neg, evT_cmp, evT_chain, evT_ite, evT_idx, evT_slc, evT_rev, evT_call, evT_callv, evT_bi, evT_inst, evT_get, evT_lrng, evT_dcp, evT_dprs, evT_lc, evT_lc2, evT_lc3, evT_tri, opd_var, opd_cst, opd_glb, opd_fnv, opd_tup, opd_lst, opd_lmul, opd_dic, opd_dic1, opd_bin, opd_neg, opd_cmp, opd_chain, opd_and, opd_or, opd_not, opd_ite, opd_idx, opd_slc, opd_rev, opd_call, opd_callv, opd_bi, opd_inst, opd_get, opd_lrng, opd_dcp, opd_dprs, opd_lc, opd_lc2, opd_lc3, opd_tri, exS_set, exS_unp, exS_par, exS_parO, exS_store, exS_app, exS_expr, exS_ifs, exS_for_, exS_whil, exS_ret, exS_retv, exS_retN, exS_raise, exS_brk, exS_cont, exS_pass, exS_never, exSs_nil, exSs_cons, part_none, part_some, evIt, opds, vals, op2, cont, conts, Res.bind, Res.bindN, Res.sb, SRes.sq, lift, cmpP, binP, idxP, callP, finF, endF, backOf, isLent, SV.d, SV.lent, callR, lentOf, sharedSl, shLst, freezeSl, putBack, D.flat, tru, unpS, asg_tup, asg_ktup, asg_lst, asgs_cons, asgs_nil, setS_eq, asg_nm, free_none, free_dat, free_own, D.seq?, Z24, hasSlot, hasLst, modS, putAt, pushAt, retvS, lcFin, testO, DL.isP, keepO, List.replicate, F_need_manner, e1]
/-- a day -/
def dayOk (p : Int × Int) : Prop := 0 ≤ p.1 ∧ p.1 < p.2 ∧ p.2 ≤ 96
theorem isd_ok (k : Nat) {p : Int × Int} (h : dayOk p) : semK glob gvG 100 (k + 2) 28 [.dat (prD p)] = .ok (.dat (.bl true)) none := by
  have g96 : gvG 2 = some (.int 96) := rfl
  obtain ⟨a, b⟩ := p
  obtain ⟨h1, h2, h3⟩ := h
  simp only at h1 h2 h3
  have e1 : semK glob gvG 100 (k + 1) 0 [.dat (.int a), .dat (.int 0), .dat (.int 96)] = .ok (.dat (.bl true)) none := by rw [from_ok, decide_eq_true ⟨h1, by omega⟩]
  have e2 : semK glob gvG 100 (k + 1) 0 [.dat (.int b), .dat (.int 0), .dat (.int 96)] = .ok (.dat (.bl true)) none := by rw [from_ok, decide_eq_true ⟨by omega, h3⟩]
  rw [semK_eq g_is_day_of]
  simp [ev_var, ev_cst, ev_glb, ev_fnv, ev_tup, ev_lst, ev_lmul, ev_dic_false, ev_dic_true, ev_dic1, ev_bin, ev_neg, ev_cmp, ev_chain, ev_and, ev_or, ev_not, ev_ite, ev_idx, ev_slc, ev_rev, ev_call, ev_callv, ev_bi, ev_inst, ev_get, ev_lrng, ev_dcp, ev_dprs, ev_lc, ev_lc2, ev_lc3, ev_tri, evT_and, evT_or, evT_not, evT_var, evT_cst, evT_glb, evT_fnv, evT_tup, evT_lst, evT_lmul, evT_dic, evT_dic1, evT_bin, evT_neg, evT_cmp, evT_chain, evT_ite, evT_idx, evT_slc, evT_rev, evT_call, evT_callv, evT_bi, evT_inst, evT_get, evT_lrng, evT_dcp, evT_dprs, evT_lc, evT_lc2, evT_lc3, evT_tri, opd_var, opd_cst, opd_glb, opd_fnv, opd_tup, opd_lst, opd_lmul, opd_dic, opd_dic1, opd_bin, opd_neg, opd_cmp, opd_chain, opd_and, opd_or, opd_not, opd_ite, opd_idx, opd_slc, opd_rev, opd_call, opd_callv, opd_bi, opd_inst, opd_get, opd_lrng, opd_dcp, opd_dprs, opd_lc, opd_lc2, opd_lc3, opd_tri, exS_set, exS_unp, exS_par, exS_parO, exS_store, exS_app, exS_expr, exS_ifs, exS_for_, exS_whil, exS_ret, exS_retv, exS_retN, exS_raise, exS_brk, exS_cont, exS_pass, exS_never, exSs_nil, exSs_cons, part_none, part_some, evIt, opds, vals, op2, cont, conts, Res.bind, Res.bindN, Res.sb, SRes.sq, lift, cmpP, binP, idxP, callP, finF, endF, backOf, isLent, SV.d, SV.lent, callR, lentOf, sharedSl, shLst, freezeSl, putBack, D.flat, tru, unpS, asg_tup, asg_ktup, asg_lst, asgs_cons, asgs_nil, setS_eq, asg_nm, free_none, free_dat, free_own, D.seq?, Z24, hasSlot, hasLst, modS, putAt, pushAt, retvS, lcFin, testO, DL.isP, keepO, List.replicate, F_is_day_of, prD, instP, lcGo, tame, wipeR, backR, e1, e2, g96, boolsOf, at20, at21, h2]
theorem needd_ok (k : Nat) {p : Int × Int} (h : dayOk p) : semK glob gvG 100 (k + 3) 30 [.dat (prD p)] = .ok (.dat .non) none := by
  have e1 := isd_ok k h
  rw [semK_eq g_need_day]
  simp [ev_var, ev_cst, ev_glb, ev_fnv, ev_tup, ev_lst, ev_lmul, ev_dic_false, ev_dic_true, ev_dic1, ev_bin, ev_neg, ev_cmp, ev_chain, ev_and, ev_or, ev_not, ev_ite, ev_idx, ev_slc, ev_rev, ev_call, ev_callv, ev_bi, ev_inst, ev_get, ev_lrng, ev_dcp, ev_dprs, ev_lc, ev_lc2, ev_lc3, ev_tri, evT_and, evT_or, evT_not, evT_var, evT_cst, evT_glb, evT_fnv, evT_tup, evT_lst, evT_lmul, evT_dic, evT_dic1, evT_bin, evT_neg, evT_cmp, evT_chain, evT_ite, evT_idx, evT_slc, evT_rev, evT_call, evT_callv, evT_bi, evT_inst, evT_get, evT_lrng, evT_dcp, evT_dprs, evT_lc, evT_lc2, evT_lc3, evT_tri, opd_var, opd_cst, opd_glb, opd_fnv, opd_tup, opd_lst, opd_lmul, opd_dic, opd_dic1, opd_bin, opd_neg, opd_cmp, opd_chain, opd_and, opd_or, opd_not, opd_ite, opd_idx, opd_slc, opd_rev, opd_call, opd_callv, opd_bi, opd_inst, opd_get, opd_lrng, opd_dcp, opd_dprs, opd_lc, opd_lc2, opd_lc3, opd_tri, exS_set, exS_unp, exS_par, exS_parO, exS_store, exS_app, exS_expr, exS_ifs, exS_for_, exS_whil, exS_ret, exS_retv, exS_retN, exS_raise, exS_brk, exS_cont, exS_pass, exS_never, exSs_nil, exSs_cons, part_none, part_some, evIt, opds, vals, op2, cont, conts, Res.bind, Res.bindN, Res.sb, SRes.sq, lift, cmpP, binP, idxP, callP, finF, endF, backOf, isLent, SV.d, SV.lent, callR, lentOf, sharedSl, shLst, freezeSl, putBack, D.flat, tru, unpS, asg_tup, asg_ktup, asg_lst, asgs_cons, asgs_nil, setS_eq, asg_nm, free_none, free_dat, free_own, D.seq?, Z24, hasSlot, hasLst, modS, putAt, pushAt, retvS, lcFin, testO, DL.isP, keepO, List.replicate, F_need_day, e1]
theorem counted_ok (k : Nat) {m : Mn} (h : m.ok) {p : Int × Int} (hp : dayOk p) : semK glob gvG 100 (k + 5) 37 [.dat m.d, .dat (prD p)] = .ok (.dat (.int (countI m p))) none := by
  have e1 := needm_ok k h
  have e2 := needd_ok (k + 1) hp
  have e3 := count_ok (k + 2) h p
  rw [semK_eq g_counted]
  simp only [Mn.d, prD] at e1 e2 e3 ⊢
  simp [ev_var, ev_cst, ev_glb, ev_fnv, ev_tup, ev_lst, ev_lmul, ev_dic_false, ev_dic_true, ev_dic1, ev_bin, ev_neg, ev_cmp, ev_chain, ev_and, ev_or, ev_not, ev_ite, ev_idx, ev_slc, ev_rev, ev_call, ev_callv, ev_bi, ev_inst, ev_get, ev_lrng, ev_dcp, ev_dprs, ev_lc, ev_lc2, ev_lc3, ev_tri, evT_and, evT_or, evT_not, evT_var, evT_cst, evT_glb, evT_fnv, evT_tup, evT_lst, evT_lmul, evT_dic, evT_dic1, evT_bin, evT_neg, evT_cmp, evT_chain, evT_ite, evT_idx, evT_slc, evT_rev, evT_call, evT_callv, evT_bi, evT_inst, evT_get, evT_lrng, evT_dcp, evT_dprs, evT_lc, evT_lc2, evT_lc3, evT_tri, opd_var, opd_cst, opd_glb, opd_fnv, opd_tup, opd_lst, opd_lmul, opd_dic, opd_dic1, opd_bin, opd_neg, opd_cmp, opd_chain, opd_and, opd_or, opd_not, opd_ite, opd_idx, opd_slc, opd_rev, opd_call, opd_callv, opd_bi, opd_inst, opd_get, opd_lrng, opd_dcp, opd_dprs, opd_lc, opd_lc2, opd_lc3, opd_tri, exS_set, exS_unp, exS_par, exS_parO, exS_store, exS_app, exS_expr, exS_ifs, exS_for_, exS_whil, exS_ret, exS_retv, exS_retN, exS_raise, exS_brk, exS_cont, exS_pass, exS_never, exSs_nil, exSs_cons, part_none, part_some, evIt, opds, vals, op2, cont, conts, Res.bind, Res.bindN, Res.sb, SRes.sq, lift, cmpP, binP, idxP, callP, finF, endF, backOf, isLent, SV.d, SV.lent, callR, lentOf, sharedSl, shLst, freezeSl, putBack, D.flat, tru, unpS, asg_tup, asg_ktup, asg_lst, asgs_cons, asgs_nil, setS_eq, asg_nm, free_none, free_dat, free_own, D.seq?, Z24, hasSlot, hasLst, modS, putAt, pushAt, retvS, lcFin, testO, DL.isP, keepO, List.replicate, F_counted, e1, e2, e3]
end DL

namespace DL
open PySem PySem.Spec PyProof.Rows L2

/-! ### comprehensions that map and filter -/
theorem lcGo_ok {α : Type} {fe : Env' → Res SV} {ft : Env' → Res Bool} {vs : List Nat} {T : Tg} {ρ : Env'} (g f : α → D) (p : α → Bool) : ∀ (xs : List α) (acc : List D),
    (∀ a ∈ xs, ∃ ρ1, asg T (g a) ρ = some ρ1 ∧ ft ρ1 = .ok (p a) ρ1 ∧ (p a = true → ∃ sv, fe ρ1 = .ok sv ρ1 ∧ sv.d = f a) ∧ tame ρ1 vs = true ∧ wipeR ρ1 vs = ρ) → acc.length + xs.length ≤ Z24 →
    lcGo fe ft vs T (xs.map g) acc ρ = .ok (acc ++ (xs.filter p).map f) ρ
  | [], acc, _, _ => by simp [lcGo]
  | a :: xs, acc, h, hl => by
    obtain ⟨ρ1, h1, h2, h3, h4, h5⟩ := h a List.mem_cons_self
    have hr := fun x hx => h x (List.mem_cons_of_mem _ hx)
    rw [List.length_cons] at hl
    rw [List.map_cons]
    unfold lcGo
    rw [h1]
    dsimp only
    rw [h2]
    dsimp only [Res.bindN]
    cases e : p a with
    | false =>
      rw [if_neg Bool.false_ne_true, if_pos h4, h5, lcGo_ok g f p xs acc hr (by omega), List.filter_cons_of_neg (by rw [e]; exact Bool.false_ne_true)]
    | true =>
      obtain ⟨sv, h6, h7⟩ := h3 e
      rw [if_pos rfl, h6]
      dsimp only [Res.bindN]
      rw [if_pos ⟨by omega, h4⟩, h5, lcGo_ok g f p xs _ hr (by rw [List.length_append]; simp; omega), List.filter_cons_of_pos (by rw [e]), h7]
      simp
/-- no test -/
theorem lcGo_map {α : Type} {fe : Env' → Res SV} {ev1 : Q → Env' → Res Bool} {vs : List Nat} {T : Tg} {ρ : Env'} (g f : α → D) (xs : List α)
    (h : ∀ a ∈ xs, ∃ ρ1, asg T (g a) ρ = some ρ1 ∧ (∃ sv, fe ρ1 = .ok sv ρ1 ∧ sv.d = f a) ∧ tame ρ1 vs = true ∧ wipeR ρ1 vs = ρ) (hl : xs.length ≤ Z24) : lcGo fe (testO ev1 none) vs T (xs.map g) [] ρ = .ok (xs.map f) ρ := by
  have := lcGo_ok (fe := fe) (ft := testO ev1 none) (vs := vs) (T := T) (ρ := ρ) g f (fun _ => true) xs [] (fun a ha => by
    obtain ⟨ρ1, h1, h2, h3, h4⟩ := h a ha
    exact ⟨ρ1, h1, rfl, fun _ => h2, h3, h4⟩) (by simpa using hl)
  rw [List.filter_eq_self.mpr (fun _ _ => rfl), List.nil_append] at this
  exact this
theorem rng_map (lo : Int) (n : Nat) : rangeD lo n = (List.range n).map fun i : Nat => D.int (lo + (i : Nat)) := rfl
theorem r97 : (rangeD 0 97) = (List.range 97).map fun i : Nat => D.int (0 + (i : Nat)) := rfl

/-! ### lists_of -/
def insL (m : Mn) : List D := (List.range 97).map fun i : Nat => D.int (cameI m.i (i : Nat))
def outsL (m : Mn) : List D := (List.range 97).map fun i : Nat => D.int (wentI m.o (i : Nat))
def splitsL (m : Mn) : List D := (List.range 97).map fun i : Nat => prD (splitI m (i : Nat))
theorem lists_ok (k : Nat) {m : Mn} (h : m.ok) : semK glob gvG 100 (k + 3) 47 [.dat m.d] = .ok (.dat (.tup [.lst (insL m), .lst (outsL m), .lst (splitsL m)])) none := by
  have g96 : gvG 2 = some (.int 96) := rfl
  obtain ⟨R, hR⟩ : ∃ R, rangeD 0 97 = R := ⟨_, rfl⟩
  have hR2 : R = (List.range 97).map fun i : Nat => D.int (0 + (i : Nat)) := hR.symm
  have hl : (List.range 97).length ≤ Z24 := by rw [List.length_range]; decide
  have e1 : lcGo (ev (cfk (k + 2)) 96 (.call 34 [.var 0, .var 3])) (testO (evT (cfk (k + 2)) 96) none) [3] (.nm 3) R [] [some (.dat m.d), some (.dat (.lst R)), none, none, none] = .ok (splitsL m) [some (.dat m.d), some (.dat (.lst R)), none, none, none] := by
    rw [show lcGo (ev (cfk (k + 2)) 96 (.call 34 [.var 0, .var 3])) (testO (evT (cfk (k + 2)) 96) none) [3] (.nm 3) R = lcGo (ev (cfk (k + 2)) 96 (.call 34 [.var 0, .var 3])) (testO (evT (cfk (k + 2)) 96) none) [3] (.nm 3) ((List.range 97).map fun i : Nat => D.int (0 + (i : Nat))) by rw [hR2]]
    refine lcGo_map _ _ _ (fun i hi => ⟨[some (.dat m.d), some (.dat (.lst R)), none, some (.dat (.int (0 + (i : Nat)))), none], by simp [ev_var, ev_cst, ev_glb, ev_fnv, ev_tup, ev_lst, ev_lmul, ev_dic_false, ev_dic_true, ev_dic1, ev_bin, ev_neg, ev_cmp, ev_chain, ev_and, ev_or, ev_not, ev_ite, ev_idx, ev_slc, ev_rev, ev_call, ev_callv, ev_bi, ev_inst, ev_get, ev_lrng, ev_dcp, ev_dprs, ev_lc, ev_lc2, ev_lc3, ev_tri, evT_and, evT_or, evT_not, evT_var, evT_cst, evT_glb, evT_fnv, evT_tup, evT_lst, evT_lmul, evT_dic, evT_dic1, evT_bin, evT_neg, evT_cmp, evT_chain, evT_ite, evT_idx, evT_slc, evT_rev, evT_call, evT_callv, evT_bi, evT_inst, evT_get, evT_lrng, evT_dcp, evT_dprs, evT_lc, evT_lc2, evT_lc3, evT_tri, opd_var, opd_cst, opd_glb, opd_fnv, opd_tup, opd_lst, opd_lmul, opd_dic, opd_dic1, opd_bin, opd_neg, opd_cmp, opd_chain, opd_and, opd_or, opd_not, opd_ite, opd_idx, opd_slc, opd_rev, opd_call, opd_callv, opd_bi, opd_inst, opd_get, opd_lrng, opd_dcp, opd_dprs, opd_lc, opd_lc2, opd_lc3, opd_tri, exS_set, exS_unp, exS_par, exS_parO, exS_store, exS_app, exS_expr, exS_ifs, exS_for_, exS_whil, exS_ret, exS_retv, exS_retN, exS_raise, exS_brk, exS_cont, exS_pass, exS_never, exSs_nil, exSs_cons, part_none, part_some, evIt, opds, vals, op2, cont, conts, Res.bind, Res.bindN, Res.sb, SRes.sq, lift, cmpP, binP, idxP, callP, finF, endF, backOf, isLent, SV.d, SV.lent, callR, lentOf, sharedSl, shLst, freezeSl, putBack, D.flat, tru, unpS, asg_tup, asg_ktup, asg_lst, asgs_cons, asgs_nil, setS_eq, asg_nm, free_none, free_dat, free_own, D.seq?, Z24, hasSlot, hasLst, modS, putAt, pushAt, retvS, lcFin, testO, DL.isP, keepO, List.replicate], ⟨.dat (prD (splitI m i)), ?_, rfl⟩, rfl, rfl⟩) hl
    have e := split_ok k h (i : Int)
    simp [ev_var, ev_cst, ev_glb, ev_fnv, ev_tup, ev_lst, ev_lmul, ev_dic_false, ev_dic_true, ev_dic1, ev_bin, ev_neg, ev_cmp, ev_chain, ev_and, ev_or, ev_not, ev_ite, ev_idx, ev_slc, ev_rev, ev_call, ev_callv, ev_bi, ev_inst, ev_get, ev_lrng, ev_dcp, ev_dprs, ev_lc, ev_lc2, ev_lc3, ev_tri, evT_and, evT_or, evT_not, evT_var, evT_cst, evT_glb, evT_fnv, evT_tup, evT_lst, evT_lmul, evT_dic, evT_dic1, evT_bin, evT_neg, evT_cmp, evT_chain, evT_ite, evT_idx, evT_slc, evT_rev, evT_call, evT_callv, evT_bi, evT_inst, evT_get, evT_lrng, evT_dcp, evT_dprs, evT_lc, evT_lc2, evT_lc3, evT_tri, opd_var, opd_cst, opd_glb, opd_fnv, opd_tup, opd_lst, opd_lmul, opd_dic, opd_dic1, opd_bin, opd_neg, opd_cmp, opd_chain, opd_and, opd_or, opd_not, opd_ite, opd_idx, opd_slc, opd_rev, opd_call, opd_callv, opd_bi, opd_inst, opd_get, opd_lrng, opd_dcp, opd_dprs, opd_lc, opd_lc2, opd_lc3, opd_tri, exS_set, exS_unp, exS_par, exS_parO, exS_store, exS_app, exS_expr, exS_ifs, exS_for_, exS_whil, exS_ret, exS_retv, exS_retN, exS_raise, exS_brk, exS_cont, exS_pass, exS_never, exSs_nil, exSs_cons, part_none, part_some, evIt, opds, vals, op2, cont, conts, Res.bind, Res.bindN, Res.sb, SRes.sq, lift, cmpP, binP, idxP, callP, finF, endF, backOf, isLent, SV.d, SV.lent, callR, lentOf, sharedSl, shLst, freezeSl, putBack, D.flat, tru, unpS, asg_tup, asg_ktup, asg_lst, asgs_cons, asgs_nil, setS_eq, asg_nm, free_none, free_dat, free_own, D.seq?, Z24, hasSlot, hasLst, modS, putAt, pushAt, retvS, lcFin, testO, DL.isP, keepO, List.replicate, e, prD]
  have e2 : lcGo (ev (cfk (k + 2)) 94 (.call 18 [.idx (.var 0) (.cst (.int 0)), .var 4])) (testO (evT (cfk (k + 2)) 94) none) [4] (.nm 4) R [] [some (.dat m.d), some (.dat (.lst R)), some (.own (.lst (splitsL m))), none, none] = .ok (insL m) [some (.dat m.d), some (.dat (.lst R)), some (.own (.lst (splitsL m))), none, none] := by
    rw [show lcGo (ev (cfk (k + 2)) 94 (.call 18 [.idx (.var 0) (.cst (.int 0)), .var 4])) (testO (evT (cfk (k + 2)) 94) none) [4] (.nm 4) R = lcGo (ev (cfk (k + 2)) 94 (.call 18 [.idx (.var 0) (.cst (.int 0)), .var 4])) (testO (evT (cfk (k + 2)) 94) none) [4] (.nm 4) ((List.range 97).map fun i : Nat => D.int (0 + (i : Nat))) by rw [hR2]]
    refine lcGo_map _ _ _ (fun i hi => ⟨[some (.dat m.d), some (.dat (.lst R)), some (.own (.lst (splitsL m))), none, some (.dat (.int (0 + (i : Nat))))], by simp [ev_var, ev_cst, ev_glb, ev_fnv, ev_tup, ev_lst, ev_lmul, ev_dic_false, ev_dic_true, ev_dic1, ev_bin, ev_neg, ev_cmp, ev_chain, ev_and, ev_or, ev_not, ev_ite, ev_idx, ev_slc, ev_rev, ev_call, ev_callv, ev_bi, ev_inst, ev_get, ev_lrng, ev_dcp, ev_dprs, ev_lc, ev_lc2, ev_lc3, ev_tri, evT_and, evT_or, evT_not, evT_var, evT_cst, evT_glb, evT_fnv, evT_tup, evT_lst, evT_lmul, evT_dic, evT_dic1, evT_bin, evT_neg, evT_cmp, evT_chain, evT_ite, evT_idx, evT_slc, evT_rev, evT_call, evT_callv, evT_bi, evT_inst, evT_get, evT_lrng, evT_dcp, evT_dprs, evT_lc, evT_lc2, evT_lc3, evT_tri, opd_var, opd_cst, opd_glb, opd_fnv, opd_tup, opd_lst, opd_lmul, opd_dic, opd_dic1, opd_bin, opd_neg, opd_cmp, opd_chain, opd_and, opd_or, opd_not, opd_ite, opd_idx, opd_slc, opd_rev, opd_call, opd_callv, opd_bi, opd_inst, opd_get, opd_lrng, opd_dcp, opd_dprs, opd_lc, opd_lc2, opd_lc3, opd_tri, exS_set, exS_unp, exS_par, exS_parO, exS_store, exS_app, exS_expr, exS_ifs, exS_for_, exS_whil, exS_ret, exS_retv, exS_retN, exS_raise, exS_brk, exS_cont, exS_pass, exS_never, exSs_nil, exSs_cons, part_none, part_some, evIt, opds, vals, op2, cont, conts, Res.bind, Res.bindN, Res.sb, SRes.sq, lift, cmpP, binP, idxP, callP, finF, endF, backOf, isLent, SV.d, SV.lent, callR, lentOf, sharedSl, shLst, freezeSl, putBack, D.flat, tru, unpS, asg_tup, asg_ktup, asg_lst, asgs_cons, asgs_nil, setS_eq, asg_nm, free_none, free_dat, free_own, D.seq?, Z24, hasSlot, hasLst, modS, putAt, pushAt, retvS, lcFin, testO, DL.isP, keepO, List.replicate], ⟨.dat (.int (cameI m.i i)), ?_, rfl⟩, rfl, rfl⟩) hl
    have e := came_ok (k + 1) h.i (i : Int)
    simp [ev_var, ev_cst, ev_glb, ev_fnv, ev_tup, ev_lst, ev_lmul, ev_dic_false, ev_dic_true, ev_dic1, ev_bin, ev_neg, ev_cmp, ev_chain, ev_and, ev_or, ev_not, ev_ite, ev_idx, ev_slc, ev_rev, ev_call, ev_callv, ev_bi, ev_inst, ev_get, ev_lrng, ev_dcp, ev_dprs, ev_lc, ev_lc2, ev_lc3, ev_tri, evT_and, evT_or, evT_not, evT_var, evT_cst, evT_glb, evT_fnv, evT_tup, evT_lst, evT_lmul, evT_dic, evT_dic1, evT_bin, evT_neg, evT_cmp, evT_chain, evT_ite, evT_idx, evT_slc, evT_rev, evT_call, evT_callv, evT_bi, evT_inst, evT_get, evT_lrng, evT_dcp, evT_dprs, evT_lc, evT_lc2, evT_lc3, evT_tri, opd_var, opd_cst, opd_glb, opd_fnv, opd_tup, opd_lst, opd_lmul, opd_dic, opd_dic1, opd_bin, opd_neg, opd_cmp, opd_chain, opd_and, opd_or, opd_not, opd_ite, opd_idx, opd_slc, opd_rev, opd_call, opd_callv, opd_bi, opd_inst, opd_get, opd_lrng, opd_dcp, opd_dprs, opd_lc, opd_lc2, opd_lc3, opd_tri, exS_set, exS_unp, exS_par, exS_parO, exS_store, exS_app, exS_expr, exS_ifs, exS_for_, exS_whil, exS_ret, exS_retv, exS_retN, exS_raise, exS_brk, exS_cont, exS_pass, exS_never, exSs_nil, exSs_cons, part_none, part_some, evIt, opds, vals, op2, cont, conts, Res.bind, Res.bindN, Res.sb, SRes.sq, lift, cmpP, binP, idxP, callP, finF, endF, backOf, isLent, SV.d, SV.lent, callR, lentOf, sharedSl, shLst, freezeSl, putBack, D.flat, tru, unpS, asg_tup, asg_ktup, asg_lst, asgs_cons, asgs_nil, setS_eq, asg_nm, free_none, free_dat, free_own, D.seq?, Z24, hasSlot, hasLst, modS, putAt, pushAt, retvS, lcFin, testO, DL.isP, keepO, List.replicate, Mn.d, at0, e]
  have e3 : lcGo (ev (cfk (k + 2)) 94 (.call 19 [.idx (.var 0) (.cst (.int 1)), .var 4])) (testO (evT (cfk (k + 2)) 94) none) [4] (.nm 4) R [] [some (.dat m.d), some (.dat (.lst R)), some (.own (.lst (splitsL m))), none, none] = .ok (outsL m) [some (.dat m.d), some (.dat (.lst R)), some (.own (.lst (splitsL m))), none, none] := by
    rw [show lcGo (ev (cfk (k + 2)) 94 (.call 19 [.idx (.var 0) (.cst (.int 1)), .var 4])) (testO (evT (cfk (k + 2)) 94) none) [4] (.nm 4) R = lcGo (ev (cfk (k + 2)) 94 (.call 19 [.idx (.var 0) (.cst (.int 1)), .var 4])) (testO (evT (cfk (k + 2)) 94) none) [4] (.nm 4) ((List.range 97).map fun i : Nat => D.int (0 + (i : Nat))) by rw [hR2]]
    refine lcGo_map _ _ _ (fun i hi => ⟨[some (.dat m.d), some (.dat (.lst R)), some (.own (.lst (splitsL m))), none, some (.dat (.int (0 + (i : Nat))))], by simp [ev_var, ev_cst, ev_glb, ev_fnv, ev_tup, ev_lst, ev_lmul, ev_dic_false, ev_dic_true, ev_dic1, ev_bin, ev_neg, ev_cmp, ev_chain, ev_and, ev_or, ev_not, ev_ite, ev_idx, ev_slc, ev_rev, ev_call, ev_callv, ev_bi, ev_inst, ev_get, ev_lrng, ev_dcp, ev_dprs, ev_lc, ev_lc2, ev_lc3, ev_tri, evT_and, evT_or, evT_not, evT_var, evT_cst, evT_glb, evT_fnv, evT_tup, evT_lst, evT_lmul, evT_dic, evT_dic1, evT_bin, evT_neg, evT_cmp, evT_chain, evT_ite, evT_idx, evT_slc, evT_rev, evT_call, evT_callv, evT_bi, evT_inst, evT_get, evT_lrng, evT_dcp, evT_dprs, evT_lc, evT_lc2, evT_lc3, evT_tri, opd_var, opd_cst, opd_glb, opd_fnv, opd_tup, opd_lst, opd_lmul, opd_dic, opd_dic1, opd_bin, opd_neg, opd_cmp, opd_chain, opd_and, opd_or, opd_not, opd_ite, opd_idx, opd_slc, opd_rev, opd_call, opd_callv, opd_bi, opd_inst, opd_get, opd_lrng, opd_dcp, opd_dprs, opd_lc, opd_lc2, opd_lc3, opd_tri, exS_set, exS_unp, exS_par, exS_parO, exS_store, exS_app, exS_expr, exS_ifs, exS_for_, exS_whil, exS_ret, exS_retv, exS_retN, exS_raise, exS_brk, exS_cont, exS_pass, exS_never, exSs_nil, exSs_cons, part_none, part_some, evIt, opds, vals, op2, cont, conts, Res.bind, Res.bindN, Res.sb, SRes.sq, lift, cmpP, binP, idxP, callP, finF, endF, backOf, isLent, SV.d, SV.lent, callR, lentOf, sharedSl, shLst, freezeSl, putBack, D.flat, tru, unpS, asg_tup, asg_ktup, asg_lst, asgs_cons, asgs_nil, setS_eq, asg_nm, free_none, free_dat, free_own, D.seq?, Z24, hasSlot, hasLst, modS, putAt, pushAt, retvS, lcFin, testO, DL.isP, keepO, List.replicate], ⟨.dat (.int (wentI m.o i)), ?_, rfl⟩, rfl, rfl⟩) hl
    have e := went_ok (k + 1) h.o (i : Int)
    simp [ev_var, ev_cst, ev_glb, ev_fnv, ev_tup, ev_lst, ev_lmul, ev_dic_false, ev_dic_true, ev_dic1, ev_bin, ev_neg, ev_cmp, ev_chain, ev_and, ev_or, ev_not, ev_ite, ev_idx, ev_slc, ev_rev, ev_call, ev_callv, ev_bi, ev_inst, ev_get, ev_lrng, ev_dcp, ev_dprs, ev_lc, ev_lc2, ev_lc3, ev_tri, evT_and, evT_or, evT_not, evT_var, evT_cst, evT_glb, evT_fnv, evT_tup, evT_lst, evT_lmul, evT_dic, evT_dic1, evT_bin, evT_neg, evT_cmp, evT_chain, evT_ite, evT_idx, evT_slc, evT_rev, evT_call, evT_callv, evT_bi, evT_inst, evT_get, evT_lrng, evT_dcp, evT_dprs, evT_lc, evT_lc2, evT_lc3, evT_tri, opd_var, opd_cst, opd_glb, opd_fnv, opd_tup, opd_lst, opd_lmul, opd_dic, opd_dic1, opd_bin, opd_neg, opd_cmp, opd_chain, opd_and, opd_or, opd_not, opd_ite, opd_idx, opd_slc, opd_rev, opd_call, opd_callv, opd_bi, opd_inst, opd_get, opd_lrng, opd_dcp, opd_dprs, opd_lc, opd_lc2, opd_lc3, opd_tri, exS_set, exS_unp, exS_par, exS_parO, exS_store, exS_app, exS_expr, exS_ifs, exS_for_, exS_whil, exS_ret, exS_retv, exS_retN, exS_raise, exS_brk, exS_cont, exS_pass, exS_never, exSs_nil, exSs_cons, part_none, part_some, evIt, opds, vals, op2, cont, conts, Res.bind, Res.bindN, Res.sb, SRes.sq, lift, cmpP, binP, idxP, callP, finF, endF, backOf, isLent, SV.d, SV.lent, callR, lentOf, sharedSl, shLst, freezeSl, putBack, D.flat, tru, unpS, asg_tup, asg_ktup, asg_lst, asgs_cons, asgs_nil, setS_eq, asg_nm, free_none, free_dat, free_own, D.seq?, Z24, hasSlot, hasLst, modS, putAt, pushAt, retvS, lcFin, testO, DL.isP, keepO, List.replicate, Mn.d, at1, e]
  rw [semK_eq g_lists_of]
  simp [ev_var, ev_cst, ev_glb, ev_fnv, ev_tup, ev_lst, ev_lmul, ev_dic_false, ev_dic_true, ev_dic1, ev_bin, ev_neg, ev_cmp, ev_chain, ev_and, ev_or, ev_not, ev_ite, ev_idx, ev_slc, ev_rev, ev_call, ev_callv, ev_bi, ev_inst, ev_get, ev_lrng, ev_dcp, ev_dprs, ev_lc, ev_lc2, ev_lc3, ev_tri, evT_and, evT_or, evT_not, evT_var, evT_cst, evT_glb, evT_fnv, evT_tup, evT_lst, evT_lmul, evT_dic, evT_dic1, evT_bin, evT_neg, evT_cmp, evT_chain, evT_ite, evT_idx, evT_slc, evT_rev, evT_call, evT_callv, evT_bi, evT_inst, evT_get, evT_lrng, evT_dcp, evT_dprs, evT_lc, evT_lc2, evT_lc3, evT_tri, opd_var, opd_cst, opd_glb, opd_fnv, opd_tup, opd_lst, opd_lmul, opd_dic, opd_dic1, opd_bin, opd_neg, opd_cmp, opd_chain, opd_and, opd_or, opd_not, opd_ite, opd_idx, opd_slc, opd_rev, opd_call, opd_callv, opd_bi, opd_inst, opd_get, opd_lrng, opd_dcp, opd_dprs, opd_lc, opd_lc2, opd_lc3, opd_tri, exS_set, exS_unp, exS_par, exS_parO, exS_store, exS_app, exS_expr, exS_ifs, exS_for_, exS_whil, exS_ret, exS_retv, exS_retN, exS_raise, exS_brk, exS_cont, exS_pass, exS_never, exSs_nil, exSs_cons, part_none, part_some, evIt, opds, vals, op2, cont, conts, Res.bind, Res.bindN, Res.sb, SRes.sq, lift, cmpP, binP, idxP, callP, finF, endF, backOf, isLent, SV.d, SV.lent, callR, lentOf, sharedSl, shLst, freezeSl, putBack, D.flat, tru, unpS, asg_tup, asg_ktup, asg_lst, asgs_cons, asgs_nil, setS_eq, asg_nm, free_none, free_dat, free_own, D.seq?, Z24, hasSlot, hasLst, modS, putAt, pushAt, retvS, lcFin, testO, DL.isP, keepO, List.replicate, F_lists_of, g96, tame, wipeR, backR, hR, e1, e2, e3]
end DL

namespace DL
open PySem PySem.Spec PyProof.Rows L2

/-! ### what the laws draw -/
theorem gp : glob 6 = some F_pick := rfl
theorem gd5 : glob 5 = some F_deck := rfl
theorem g7 : glob 7 = some (F_one 6) := rfl
theorem g9 : glob 9 = some (F_rounding 6) := rfl
theorem pick' (k m : Nat) {dk : D} (h : DeckOk (m + 1) dk) {n : Int} (hn : 0 < n ∧ n < 1000000) : ∃ p dk', semK glob gvG 100 (k + 1) 6 [.bor dk, .dat (.int n)] = .ok (.dat (.int p)) (some dk') ∧ (0 ≤ p ∧ p < n) ∧ DeckOk m dk' := pick_ok gp k m h hn
theorem rnd_of {d : D} (h : RoundOk d) : ∃ r : Rnd, d = r.d ∧ r.ok := by
  obtain ⟨s, x, g, rfl, hs, hx, hg⟩ := h
  simp only [List.mem_cons, List.not_mem_nil, or_false] at hx
  rcases hx with rfl | rfl | rfl
  · exact ⟨⟨s, .down, g⟩, rfl, hs, hg⟩
  · exact ⟨⟨s, .near, g⟩, rfl, hs, hg⟩
  · exact ⟨⟨s, .up, g⟩, rfl, hs, hg⟩
theorem rnd' (k m : Nat) {dk : D} (h : DeckOk (m + 3) dk) : ∃ (r : Rnd) (dk' : D), semK glob gvG 100 (k + 2) 9 [.bor dk] = .ok (.dat r.d) (some dk') ∧ r.ok ∧ DeckOk m dk' := by
  obtain ⟨d, dk', e, hr, ok⟩ := rounding_ok (gv := gvG) gp g9 k m h
  obtain ⟨r, rfl, h2⟩ := rnd_of hr
  exact ⟨r, dk', e, h2, ok⟩
theorem one' (k m : Nat) {dk : D} (h : DeckOk (m + 1) dk) {ds : List D} (hn : 0 < ds.length ∧ ds.length < 1000000) : ∃ d dk', semK glob gvG 100 (k + 2) 7 [.bor dk, .dat (.lst ds)] = .ok (.dat d) (some dk') ∧ d ∈ ds ∧ DeckOk m dk' := one_ok gp g7 k m h hn
theorem deck' (k : Nat) (x t : Int) (m : Nat) (ht : 0 ≤ t ∧ t + m ≤ 1000000) : ∃ dk, semK glob gvG 100 (k + 1) 5 [.dat (.int x), .dat (.int t)] = .ok (.own dk) none ∧ DeckOk m dk := deck_ok gd5 k x t m ht
theorem r0 : rangeD 0 0 = [] := rfl
theorem r1 : rangeD 0 1 = [.int 0] := rfl
theorem r2 : rangeD 0 2 = [.int 0, .int 1] := rfl
theorem s0 : small62 0 = true := by decide
theorem s1 : small62 1 = true := by decide
theorem s2 : small62 2 = true := by decide
theorem in2 {p : Int} (h : 0 ≤ p ∧ p < 2) : p = 0 ∨ p = 1 := by omega
theorem deck_nf {m : Nat} {dk : D} (h : DeckOk m dk) : dk.flat = false := by obtain ⟨a, b, c, rfl, _⟩ := h; rfl
theorem pair_ok (k m : Nat) {dk : D} (h : DeckOk (m + 2) dk) : ∃ (p : Int × Int) (dk' : D), semK glob gvG 100 (k + 2) 43 [.bor dk] = .ok (.dat (prD p)) (some dk') ∧ dayOk p ∧ DeckOk m dk' := by
  obtain ⟨a, dk1, e1, ha, ok⟩ := pick' k (m + 1) h (n := 96) (by decide)
  obtain ⟨b, dk2, e2, hb, ok⟩ := pick' k m ok (n := 96 - a) (by omega)
  refine ⟨(a, a + 1 + b), dk2, ?_, ⟨ha.1, by simp only; omega, by simp only; omega⟩, ok⟩
  rw [semK_eq g__law_pair]
  simp [ev_var, ev_cst, ev_glb, ev_fnv, ev_tup, ev_lst, ev_lmul, ev_dic_false, ev_dic_true, ev_dic1, ev_bin, ev_neg, ev_cmp, ev_chain, ev_and, ev_or, ev_not, ev_ite, ev_idx, ev_slc, ev_rev, ev_call, ev_callv, ev_bi, ev_inst, ev_get, ev_lrng, ev_dcp, ev_dprs, ev_lc, ev_lc2, ev_lc3, ev_tri, evT_and, evT_or, evT_not, evT_var, evT_cst, evT_glb, evT_fnv, evT_tup, evT_lst, evT_lmul, evT_dic, evT_dic1, evT_bin, evT_neg, evT_cmp, evT_chain, evT_ite, evT_idx, evT_slc, evT_rev, evT_call, evT_callv, evT_bi, evT_inst, evT_get, evT_lrng, evT_dcp, evT_dprs, evT_lc, evT_lc2, evT_lc3, evT_tri, opd_var, opd_cst, opd_glb, opd_fnv, opd_tup, opd_lst, opd_lmul, opd_dic, opd_dic1, opd_bin, opd_neg, opd_cmp, opd_chain, opd_and, opd_or, opd_not, opd_ite, opd_idx, opd_slc, opd_rev, opd_call, opd_callv, opd_bi, opd_inst, opd_get, opd_lrng, opd_dcp, opd_dprs, opd_lc, opd_lc2, opd_lc3, opd_tri, exS_set, exS_unp, exS_par, exS_parO, exS_store, exS_app, exS_expr, exS_ifs, exS_for_, exS_whil, exS_ret, exS_retv, exS_retN, exS_raise, exS_brk, exS_cont, exS_pass, exS_never, exSs_nil, exSs_cons, part_none, part_some, evIt, opds, vals, op2, cont, conts, Res.bind, Res.bindN, Res.sb, SRes.sq, lift, cmpP, binP, idxP, callP, finF, endF, backOf, isLent, SV.d, SV.lent, callR, lentOf, sharedSl, shLst, freezeSl, putBack, D.flat, tru, unpS, asg_tup, asg_ktup, asg_lst, asgs_cons, asgs_nil, setS_eq, asg_nm, free_none, free_dat, free_own, D.seq?, Z24, hasSlot, hasLst, modS, putAt, pushAt, retvS, lcFin, testO, DL.isP, keepO, List.replicate, F__law_pair, e1, e2, prD]
theorem manner_ok (k m : Nat) {dk : D} (h : DeckOk (m + 15) dk) : ∃ (r : Mn) (dk' : D), semK glob gvG 100 (k + 3) 10 [.bor dk] = .ok (.dat r.d) (some dk') ∧ r.ok ∧ DeckOk m dk' := by
  obtain ⟨p, dk1, e1, hp1, ok⟩ := pick' (k + 1) (m + 14) h (n := 3) (by decide)
  rcases in3 hp1 with rfl | rfl | rfl
  · skip
    have hb : brOk [] := by
      trivial
    obtain ⟨q, dk2, e2, hq, ok⟩ := pick' (k + 1) (m + 13) ok (n := 2) (by decide)
    rcases in2 hq with rfl | rfl
    · skip
      obtain ⟨q2, dk3, e3, hq2, ok⟩ := pick' (k + 1) (m + 12) ok (n := 2) (by decide)
      rcases in2 hq2 with rfl | rfl
      · skip
        obtain ⟨ra, dka, ea, hra, ok⟩ := rnd' k (m + 9) ok
        obtain ⟨rb, dkb, eb, hrb, ok⟩ := rnd' k (m + 6) ok
        refine ⟨⟨ra, rb, [], none, none⟩, dkb, ?_, ⟨hra, hrb, hb, (fun _ z => by cases z), (fun _ z => by cases z)⟩, ok.le (by omega)⟩
        rw [semK_eq g__law_manner]
        simp only [Rnd.d] at ea eb
        simp [ev_var, ev_cst, ev_glb, ev_fnv, ev_tup, ev_lst, ev_lmul, ev_dic_false, ev_dic_true, ev_dic1, ev_bin, ev_neg, ev_cmp, ev_chain, ev_and, ev_or, ev_not, ev_ite, ev_idx, ev_slc, ev_rev, ev_call, ev_callv, ev_bi, ev_inst, ev_get, ev_lrng, ev_dcp, ev_dprs, ev_lc, ev_lc2, ev_lc3, ev_tri, evT_and, evT_or, evT_not, evT_var, evT_cst, evT_glb, evT_fnv, evT_tup, evT_lst, evT_lmul, evT_dic, evT_dic1, evT_bin, evT_neg, evT_cmp, evT_chain, evT_ite, evT_idx, evT_slc, evT_rev, evT_call, evT_callv, evT_bi, evT_inst, evT_get, evT_lrng, evT_dcp, evT_dprs, evT_lc, evT_lc2, evT_lc3, evT_tri, opd_var, opd_cst, opd_glb, opd_fnv, opd_tup, opd_lst, opd_lmul, opd_dic, opd_dic1, opd_bin, opd_neg, opd_cmp, opd_chain, opd_and, opd_or, opd_not, opd_ite, opd_idx, opd_slc, opd_rev, opd_call, opd_callv, opd_bi, opd_inst, opd_get, opd_lrng, opd_dcp, opd_dprs, opd_lc, opd_lc2, opd_lc3, opd_tri, exS_set, exS_unp, exS_par, exS_parO, exS_store, exS_app, exS_expr, exS_ifs, exS_for_, exS_whil, exS_ret, exS_retv, exS_retN, exS_raise, exS_brk, exS_cont, exS_pass, exS_never, exSs_nil, exSs_cons, part_none, part_some, evIt, opds, vals, op2, cont, conts, Res.bind, Res.bindN, Res.sb, SRes.sq, lift, cmpP, binP, idxP, callP, finF, endF, backOf, isLent, SV.d, SV.lent, callR, lentOf, sharedSl, shLst, freezeSl, putBack, D.flat, tru, unpS, asg_tup, asg_ktup, asg_lst, asgs_cons, asgs_nil, setS_eq, asg_nm, free_none, free_dat, free_own, D.seq?, Z24, hasSlot, hasLst, modS, putAt, pushAt, retvS, lcFin, testO, DL.isP, keepO, List.replicate, F__law_manner, forGo, Mn.d, prD, Rnd.d, optD_none, optD_some, r0, r1, r2, s0, s1, s2, e1, e2, e3, ea, eb]
      · skip
        obtain ⟨y, dk4, e4, hy, ok⟩ := pick' (k + 1) (m + 11) ok (n := 300) (by decide)
        obtain ⟨ra, dka, ea, hra, ok⟩ := rnd' k (m + 8) ok
        obtain ⟨rb, dkb, eb, hrb, ok⟩ := rnd' k (m + 5) ok
        refine ⟨⟨ra, rb, [], none, (some (1 + y))⟩, dkb, ?_, ⟨hra, hrb, hb, (fun _ z => by cases z), (fun _ z => by cases z; omega)⟩, ok.le (by omega)⟩
        rw [semK_eq g__law_manner]
        simp only [Rnd.d] at ea eb
        simp [ev_var, ev_cst, ev_glb, ev_fnv, ev_tup, ev_lst, ev_lmul, ev_dic_false, ev_dic_true, ev_dic1, ev_bin, ev_neg, ev_cmp, ev_chain, ev_and, ev_or, ev_not, ev_ite, ev_idx, ev_slc, ev_rev, ev_call, ev_callv, ev_bi, ev_inst, ev_get, ev_lrng, ev_dcp, ev_dprs, ev_lc, ev_lc2, ev_lc3, ev_tri, evT_and, evT_or, evT_not, evT_var, evT_cst, evT_glb, evT_fnv, evT_tup, evT_lst, evT_lmul, evT_dic, evT_dic1, evT_bin, evT_neg, evT_cmp, evT_chain, evT_ite, evT_idx, evT_slc, evT_rev, evT_call, evT_callv, evT_bi, evT_inst, evT_get, evT_lrng, evT_dcp, evT_dprs, evT_lc, evT_lc2, evT_lc3, evT_tri, opd_var, opd_cst, opd_glb, opd_fnv, opd_tup, opd_lst, opd_lmul, opd_dic, opd_dic1, opd_bin, opd_neg, opd_cmp, opd_chain, opd_and, opd_or, opd_not, opd_ite, opd_idx, opd_slc, opd_rev, opd_call, opd_callv, opd_bi, opd_inst, opd_get, opd_lrng, opd_dcp, opd_dprs, opd_lc, opd_lc2, opd_lc3, opd_tri, exS_set, exS_unp, exS_par, exS_parO, exS_store, exS_app, exS_expr, exS_ifs, exS_for_, exS_whil, exS_ret, exS_retv, exS_retN, exS_raise, exS_brk, exS_cont, exS_pass, exS_never, exSs_nil, exSs_cons, part_none, part_some, evIt, opds, vals, op2, cont, conts, Res.bind, Res.bindN, Res.sb, SRes.sq, lift, cmpP, binP, idxP, callP, finF, endF, backOf, isLent, SV.d, SV.lent, callR, lentOf, sharedSl, shLst, freezeSl, putBack, D.flat, tru, unpS, asg_tup, asg_ktup, asg_lst, asgs_cons, asgs_nil, setS_eq, asg_nm, free_none, free_dat, free_own, D.seq?, Z24, hasSlot, hasLst, modS, putAt, pushAt, retvS, lcFin, testO, DL.isP, keepO, List.replicate, F__law_manner, forGo, Mn.d, prD, Rnd.d, optD_none, optD_some, r0, r1, r2, s0, s1, s2, e1, e2, e3, e4, ea, eb]
    · skip
      obtain ⟨x, dk3, e3, hx, ok⟩ := pick' (k + 1) (m + 12) ok (n := 60) (by decide)
      obtain ⟨q2, dk4, e4, hq2, ok⟩ := pick' (k + 1) (m + 11) ok (n := 2) (by decide)
      rcases in2 hq2 with rfl | rfl
      · skip
        obtain ⟨ra, dka, ea, hra, ok⟩ := rnd' k (m + 8) ok
        obtain ⟨rb, dkb, eb, hrb, ok⟩ := rnd' k (m + 5) ok
        refine ⟨⟨ra, rb, [], (some (1 + x)), none⟩, dkb, ?_, ⟨hra, hrb, hb, (fun _ z => by cases z; omega), (fun _ z => by cases z)⟩, ok.le (by omega)⟩
        rw [semK_eq g__law_manner]
        simp only [Rnd.d] at ea eb
        simp [ev_var, ev_cst, ev_glb, ev_fnv, ev_tup, ev_lst, ev_lmul, ev_dic_false, ev_dic_true, ev_dic1, ev_bin, ev_neg, ev_cmp, ev_chain, ev_and, ev_or, ev_not, ev_ite, ev_idx, ev_slc, ev_rev, ev_call, ev_callv, ev_bi, ev_inst, ev_get, ev_lrng, ev_dcp, ev_dprs, ev_lc, ev_lc2, ev_lc3, ev_tri, evT_and, evT_or, evT_not, evT_var, evT_cst, evT_glb, evT_fnv, evT_tup, evT_lst, evT_lmul, evT_dic, evT_dic1, evT_bin, evT_neg, evT_cmp, evT_chain, evT_ite, evT_idx, evT_slc, evT_rev, evT_call, evT_callv, evT_bi, evT_inst, evT_get, evT_lrng, evT_dcp, evT_dprs, evT_lc, evT_lc2, evT_lc3, evT_tri, opd_var, opd_cst, opd_glb, opd_fnv, opd_tup, opd_lst, opd_lmul, opd_dic, opd_dic1, opd_bin, opd_neg, opd_cmp, opd_chain, opd_and, opd_or, opd_not, opd_ite, opd_idx, opd_slc, opd_rev, opd_call, opd_callv, opd_bi, opd_inst, opd_get, opd_lrng, opd_dcp, opd_dprs, opd_lc, opd_lc2, opd_lc3, opd_tri, exS_set, exS_unp, exS_par, exS_parO, exS_store, exS_app, exS_expr, exS_ifs, exS_for_, exS_whil, exS_ret, exS_retv, exS_retN, exS_raise, exS_brk, exS_cont, exS_pass, exS_never, exSs_nil, exSs_cons, part_none, part_some, evIt, opds, vals, op2, cont, conts, Res.bind, Res.bindN, Res.sb, SRes.sq, lift, cmpP, binP, idxP, callP, finF, endF, backOf, isLent, SV.d, SV.lent, callR, lentOf, sharedSl, shLst, freezeSl, putBack, D.flat, tru, unpS, asg_tup, asg_ktup, asg_lst, asgs_cons, asgs_nil, setS_eq, asg_nm, free_none, free_dat, free_own, D.seq?, Z24, hasSlot, hasLst, modS, putAt, pushAt, retvS, lcFin, testO, DL.isP, keepO, List.replicate, F__law_manner, forGo, Mn.d, prD, Rnd.d, optD_none, optD_some, r0, r1, r2, s0, s1, s2, e1, e2, e3, e4, ea, eb]
      · skip
        obtain ⟨y, dk5, e5, hy, ok⟩ := pick' (k + 1) (m + 10) ok (n := 300) (by decide)
        obtain ⟨ra, dka, ea, hra, ok⟩ := rnd' k (m + 7) ok
        obtain ⟨rb, dkb, eb, hrb, ok⟩ := rnd' k (m + 4) ok
        refine ⟨⟨ra, rb, [], (some (1 + x)), (some (1 + y))⟩, dkb, ?_, ⟨hra, hrb, hb, (fun _ z => by cases z; omega), (fun _ z => by cases z; omega)⟩, ok.le (by omega)⟩
        rw [semK_eq g__law_manner]
        simp only [Rnd.d] at ea eb
        simp [ev_var, ev_cst, ev_glb, ev_fnv, ev_tup, ev_lst, ev_lmul, ev_dic_false, ev_dic_true, ev_dic1, ev_bin, ev_neg, ev_cmp, ev_chain, ev_and, ev_or, ev_not, ev_ite, ev_idx, ev_slc, ev_rev, ev_call, ev_callv, ev_bi, ev_inst, ev_get, ev_lrng, ev_dcp, ev_dprs, ev_lc, ev_lc2, ev_lc3, ev_tri, evT_and, evT_or, evT_not, evT_var, evT_cst, evT_glb, evT_fnv, evT_tup, evT_lst, evT_lmul, evT_dic, evT_dic1, evT_bin, evT_neg, evT_cmp, evT_chain, evT_ite, evT_idx, evT_slc, evT_rev, evT_call, evT_callv, evT_bi, evT_inst, evT_get, evT_lrng, evT_dcp, evT_dprs, evT_lc, evT_lc2, evT_lc3, evT_tri, opd_var, opd_cst, opd_glb, opd_fnv, opd_tup, opd_lst, opd_lmul, opd_dic, opd_dic1, opd_bin, opd_neg, opd_cmp, opd_chain, opd_and, opd_or, opd_not, opd_ite, opd_idx, opd_slc, opd_rev, opd_call, opd_callv, opd_bi, opd_inst, opd_get, opd_lrng, opd_dcp, opd_dprs, opd_lc, opd_lc2, opd_lc3, opd_tri, exS_set, exS_unp, exS_par, exS_parO, exS_store, exS_app, exS_expr, exS_ifs, exS_for_, exS_whil, exS_ret, exS_retv, exS_retN, exS_raise, exS_brk, exS_cont, exS_pass, exS_never, exSs_nil, exSs_cons, part_none, part_some, evIt, opds, vals, op2, cont, conts, Res.bind, Res.bindN, Res.sb, SRes.sq, lift, cmpP, binP, idxP, callP, finF, endF, backOf, isLent, SV.d, SV.lent, callR, lentOf, sharedSl, shLst, freezeSl, putBack, D.flat, tru, unpS, asg_tup, asg_ktup, asg_lst, asgs_cons, asgs_nil, setS_eq, asg_nm, free_none, free_dat, free_own, D.seq?, Z24, hasSlot, hasLst, modS, putAt, pushAt, retvS, lcFin, testO, DL.isP, keepO, List.replicate, F__law_manner, forGo, Mn.d, prD, Rnd.d, optD_none, optD_some, r0, r1, r2, s0, s1, s2, e1, e2, e3, e4, e5, ea, eb]
  · skip
    obtain ⟨u0, dk2, e2, hu0, ok⟩ := pick' (k + 1) (m + 13) ok (n := 40) (by decide)
    obtain ⟨v0, dk3, e3, hv0, ok⟩ := pick' (k + 1) (m + 12) ok (n := 8) (by decide)
    have hb : brOk [(0 + 1 + u0, 1 + v0)] := by
      exact ⟨by simp only; omega, by simp only; omega⟩
    obtain ⟨q, dk4, e4, hq, ok⟩ := pick' (k + 1) (m + 11) ok (n := 2) (by decide)
    rcases in2 hq with rfl | rfl
    · skip
      obtain ⟨q2, dk5, e5, hq2, ok⟩ := pick' (k + 1) (m + 10) ok (n := 2) (by decide)
      rcases in2 hq2 with rfl | rfl
      · skip
        obtain ⟨ra, dka, ea, hra, ok⟩ := rnd' k (m + 7) ok
        obtain ⟨rb, dkb, eb, hrb, ok⟩ := rnd' k (m + 4) ok
        refine ⟨⟨ra, rb, [(0 + 1 + u0, 1 + v0)], none, none⟩, dkb, ?_, ⟨hra, hrb, hb, (fun _ z => by cases z), (fun _ z => by cases z)⟩, ok.le (by omega)⟩
        rw [semK_eq g__law_manner]
        simp only [Rnd.d] at ea eb
        simp [ev_var, ev_cst, ev_glb, ev_fnv, ev_tup, ev_lst, ev_lmul, ev_dic_false, ev_dic_true, ev_dic1, ev_bin, ev_neg, ev_cmp, ev_chain, ev_and, ev_or, ev_not, ev_ite, ev_idx, ev_slc, ev_rev, ev_call, ev_callv, ev_bi, ev_inst, ev_get, ev_lrng, ev_dcp, ev_dprs, ev_lc, ev_lc2, ev_lc3, ev_tri, evT_and, evT_or, evT_not, evT_var, evT_cst, evT_glb, evT_fnv, evT_tup, evT_lst, evT_lmul, evT_dic, evT_dic1, evT_bin, evT_neg, evT_cmp, evT_chain, evT_ite, evT_idx, evT_slc, evT_rev, evT_call, evT_callv, evT_bi, evT_inst, evT_get, evT_lrng, evT_dcp, evT_dprs, evT_lc, evT_lc2, evT_lc3, evT_tri, opd_var, opd_cst, opd_glb, opd_fnv, opd_tup, opd_lst, opd_lmul, opd_dic, opd_dic1, opd_bin, opd_neg, opd_cmp, opd_chain, opd_and, opd_or, opd_not, opd_ite, opd_idx, opd_slc, opd_rev, opd_call, opd_callv, opd_bi, opd_inst, opd_get, opd_lrng, opd_dcp, opd_dprs, opd_lc, opd_lc2, opd_lc3, opd_tri, exS_set, exS_unp, exS_par, exS_parO, exS_store, exS_app, exS_expr, exS_ifs, exS_for_, exS_whil, exS_ret, exS_retv, exS_retN, exS_raise, exS_brk, exS_cont, exS_pass, exS_never, exSs_nil, exSs_cons, part_none, part_some, evIt, opds, vals, op2, cont, conts, Res.bind, Res.bindN, Res.sb, SRes.sq, lift, cmpP, binP, idxP, callP, finF, endF, backOf, isLent, SV.d, SV.lent, callR, lentOf, sharedSl, shLst, freezeSl, putBack, D.flat, tru, unpS, asg_tup, asg_ktup, asg_lst, asgs_cons, asgs_nil, setS_eq, asg_nm, free_none, free_dat, free_own, D.seq?, Z24, hasSlot, hasLst, modS, putAt, pushAt, retvS, lcFin, testO, DL.isP, keepO, List.replicate, F__law_manner, forGo, Mn.d, prD, Rnd.d, optD_none, optD_some, r0, r1, r2, s0, s1, s2, e1, e2, e3, e4, e5, ea, eb]
      · skip
        obtain ⟨y, dk6, e6, hy, ok⟩ := pick' (k + 1) (m + 9) ok (n := 300) (by decide)
        obtain ⟨ra, dka, ea, hra, ok⟩ := rnd' k (m + 6) ok
        obtain ⟨rb, dkb, eb, hrb, ok⟩ := rnd' k (m + 3) ok
        refine ⟨⟨ra, rb, [(0 + 1 + u0, 1 + v0)], none, (some (1 + y))⟩, dkb, ?_, ⟨hra, hrb, hb, (fun _ z => by cases z), (fun _ z => by cases z; omega)⟩, ok.le (by omega)⟩
        rw [semK_eq g__law_manner]
        simp only [Rnd.d] at ea eb
        simp [ev_var, ev_cst, ev_glb, ev_fnv, ev_tup, ev_lst, ev_lmul, ev_dic_false, ev_dic_true, ev_dic1, ev_bin, ev_neg, ev_cmp, ev_chain, ev_and, ev_or, ev_not, ev_ite, ev_idx, ev_slc, ev_rev, ev_call, ev_callv, ev_bi, ev_inst, ev_get, ev_lrng, ev_dcp, ev_dprs, ev_lc, ev_lc2, ev_lc3, ev_tri, evT_and, evT_or, evT_not, evT_var, evT_cst, evT_glb, evT_fnv, evT_tup, evT_lst, evT_lmul, evT_dic, evT_dic1, evT_bin, evT_neg, evT_cmp, evT_chain, evT_ite, evT_idx, evT_slc, evT_rev, evT_call, evT_callv, evT_bi, evT_inst, evT_get, evT_lrng, evT_dcp, evT_dprs, evT_lc, evT_lc2, evT_lc3, evT_tri, opd_var, opd_cst, opd_glb, opd_fnv, opd_tup, opd_lst, opd_lmul, opd_dic, opd_dic1, opd_bin, opd_neg, opd_cmp, opd_chain, opd_and, opd_or, opd_not, opd_ite, opd_idx, opd_slc, opd_rev, opd_call, opd_callv, opd_bi, opd_inst, opd_get, opd_lrng, opd_dcp, opd_dprs, opd_lc, opd_lc2, opd_lc3, opd_tri, exS_set, exS_unp, exS_par, exS_parO, exS_store, exS_app, exS_expr, exS_ifs, exS_for_, exS_whil, exS_ret, exS_retv, exS_retN, exS_raise, exS_brk, exS_cont, exS_pass, exS_never, exSs_nil, exSs_cons, part_none, part_some, evIt, opds, vals, op2, cont, conts, Res.bind, Res.bindN, Res.sb, SRes.sq, lift, cmpP, binP, idxP, callP, finF, endF, backOf, isLent, SV.d, SV.lent, callR, lentOf, sharedSl, shLst, freezeSl, putBack, D.flat, tru, unpS, asg_tup, asg_ktup, asg_lst, asgs_cons, asgs_nil, setS_eq, asg_nm, free_none, free_dat, free_own, D.seq?, Z24, hasSlot, hasLst, modS, putAt, pushAt, retvS, lcFin, testO, DL.isP, keepO, List.replicate, F__law_manner, forGo, Mn.d, prD, Rnd.d, optD_none, optD_some, r0, r1, r2, s0, s1, s2, e1, e2, e3, e4, e5, e6, ea, eb]
    · skip
      obtain ⟨x, dk5, e5, hx, ok⟩ := pick' (k + 1) (m + 10) ok (n := 60) (by decide)
      obtain ⟨q2, dk6, e6, hq2, ok⟩ := pick' (k + 1) (m + 9) ok (n := 2) (by decide)
      rcases in2 hq2 with rfl | rfl
      · skip
        obtain ⟨ra, dka, ea, hra, ok⟩ := rnd' k (m + 6) ok
        obtain ⟨rb, dkb, eb, hrb, ok⟩ := rnd' k (m + 3) ok
        refine ⟨⟨ra, rb, [(0 + 1 + u0, 1 + v0)], (some (1 + x)), none⟩, dkb, ?_, ⟨hra, hrb, hb, (fun _ z => by cases z; omega), (fun _ z => by cases z)⟩, ok.le (by omega)⟩
        rw [semK_eq g__law_manner]
        simp only [Rnd.d] at ea eb
        simp [ev_var, ev_cst, ev_glb, ev_fnv, ev_tup, ev_lst, ev_lmul, ev_dic_false, ev_dic_true, ev_dic1, ev_bin, ev_neg, ev_cmp, ev_chain, ev_and, ev_or, ev_not, ev_ite, ev_idx, ev_slc, ev_rev, ev_call, ev_callv, ev_bi, ev_inst, ev_get, ev_lrng, ev_dcp, ev_dprs, ev_lc, ev_lc2, ev_lc3, ev_tri, evT_and, evT_or, evT_not, evT_var, evT_cst, evT_glb, evT_fnv, evT_tup, evT_lst, evT_lmul, evT_dic, evT_dic1, evT_bin, evT_neg, evT_cmp, evT_chain, evT_ite, evT_idx, evT_slc, evT_rev, evT_call, evT_callv, evT_bi, evT_inst, evT_get, evT_lrng, evT_dcp, evT_dprs, evT_lc, evT_lc2, evT_lc3, evT_tri, opd_var, opd_cst, opd_glb, opd_fnv, opd_tup, opd_lst, opd_lmul, opd_dic, opd_dic1, opd_bin, opd_neg, opd_cmp, opd_chain, opd_and, opd_or, opd_not, opd_ite, opd_idx, opd_slc, opd_rev, opd_call, opd_callv, opd_bi, opd_inst, opd_get, opd_lrng, opd_dcp, opd_dprs, opd_lc, opd_lc2, opd_lc3, opd_tri, exS_set, exS_unp, exS_par, exS_parO, exS_store, exS_app, exS_expr, exS_ifs, exS_for_, exS_whil, exS_ret, exS_retv, exS_retN, exS_raise, exS_brk, exS_cont, exS_pass, exS_never, exSs_nil, exSs_cons, part_none, part_some, evIt, opds, vals, op2, cont, conts, Res.bind, Res.bindN, Res.sb, SRes.sq, lift, cmpP, binP, idxP, callP, finF, endF, backOf, isLent, SV.d, SV.lent, callR, lentOf, sharedSl, shLst, freezeSl, putBack, D.flat, tru, unpS, asg_tup, asg_ktup, asg_lst, asgs_cons, asgs_nil, setS_eq, asg_nm, free_none, free_dat, free_own, D.seq?, Z24, hasSlot, hasLst, modS, putAt, pushAt, retvS, lcFin, testO, DL.isP, keepO, List.replicate, F__law_manner, forGo, Mn.d, prD, Rnd.d, optD_none, optD_some, r0, r1, r2, s0, s1, s2, e1, e2, e3, e4, e5, e6, ea, eb]
      · skip
        obtain ⟨y, dk7, e7, hy, ok⟩ := pick' (k + 1) (m + 8) ok (n := 300) (by decide)
        obtain ⟨ra, dka, ea, hra, ok⟩ := rnd' k (m + 5) ok
        obtain ⟨rb, dkb, eb, hrb, ok⟩ := rnd' k (m + 2) ok
        refine ⟨⟨ra, rb, [(0 + 1 + u0, 1 + v0)], (some (1 + x)), (some (1 + y))⟩, dkb, ?_, ⟨hra, hrb, hb, (fun _ z => by cases z; omega), (fun _ z => by cases z; omega)⟩, ok.le (by omega)⟩
        rw [semK_eq g__law_manner]
        simp only [Rnd.d] at ea eb
        simp [ev_var, ev_cst, ev_glb, ev_fnv, ev_tup, ev_lst, ev_lmul, ev_dic_false, ev_dic_true, ev_dic1, ev_bin, ev_neg, ev_cmp, ev_chain, ev_and, ev_or, ev_not, ev_ite, ev_idx, ev_slc, ev_rev, ev_call, ev_callv, ev_bi, ev_inst, ev_get, ev_lrng, ev_dcp, ev_dprs, ev_lc, ev_lc2, ev_lc3, ev_tri, evT_and, evT_or, evT_not, evT_var, evT_cst, evT_glb, evT_fnv, evT_tup, evT_lst, evT_lmul, evT_dic, evT_dic1, evT_bin, evT_neg, evT_cmp, evT_chain, evT_ite, evT_idx, evT_slc, evT_rev, evT_call, evT_callv, evT_bi, evT_inst, evT_get, evT_lrng, evT_dcp, evT_dprs, evT_lc, evT_lc2, evT_lc3, evT_tri, opd_var, opd_cst, opd_glb, opd_fnv, opd_tup, opd_lst, opd_lmul, opd_dic, opd_dic1, opd_bin, opd_neg, opd_cmp, opd_chain, opd_and, opd_or, opd_not, opd_ite, opd_idx, opd_slc, opd_rev, opd_call, opd_callv, opd_bi, opd_inst, opd_get, opd_lrng, opd_dcp, opd_dprs, opd_lc, opd_lc2, opd_lc3, opd_tri, exS_set, exS_unp, exS_par, exS_parO, exS_store, exS_app, exS_expr, exS_ifs, exS_for_, exS_whil, exS_ret, exS_retv, exS_retN, exS_raise, exS_brk, exS_cont, exS_pass, exS_never, exSs_nil, exSs_cons, part_none, part_some, evIt, opds, vals, op2, cont, conts, Res.bind, Res.bindN, Res.sb, SRes.sq, lift, cmpP, binP, idxP, callP, finF, endF, backOf, isLent, SV.d, SV.lent, callR, lentOf, sharedSl, shLst, freezeSl, putBack, D.flat, tru, unpS, asg_tup, asg_ktup, asg_lst, asgs_cons, asgs_nil, setS_eq, asg_nm, free_none, free_dat, free_own, D.seq?, Z24, hasSlot, hasLst, modS, putAt, pushAt, retvS, lcFin, testO, DL.isP, keepO, List.replicate, F__law_manner, forGo, Mn.d, prD, Rnd.d, optD_none, optD_some, r0, r1, r2, s0, s1, s2, e1, e2, e3, e4, e5, e6, e7, ea, eb]
  · skip
    obtain ⟨u0, dk2, e2, hu0, ok⟩ := pick' (k + 1) (m + 13) ok (n := 40) (by decide)
    obtain ⟨v0, dk3, e3, hv0, ok⟩ := pick' (k + 1) (m + 12) ok (n := 8) (by decide)
    obtain ⟨u1, dk4, e4, hu1, ok⟩ := pick' (k + 1) (m + 11) ok (n := 40) (by decide)
    obtain ⟨v1, dk5, e5, hv1, ok⟩ := pick' (k + 1) (m + 10) ok (n := 8) (by decide)
    have hb : brOk [(0 + 1 + u0, 1 + v0), (0 + 1 + u0 + 1 + u1, 1 + v1)] := by
      exact ⟨⟨by simp only; omega, by simp only; omega⟩, ⟨by simp only; omega, by simp only; omega⟩, by simp only; omega⟩
    obtain ⟨q, dk6, e6, hq, ok⟩ := pick' (k + 1) (m + 9) ok (n := 2) (by decide)
    rcases in2 hq with rfl | rfl
    · skip
      obtain ⟨q2, dk7, e7, hq2, ok⟩ := pick' (k + 1) (m + 8) ok (n := 2) (by decide)
      rcases in2 hq2 with rfl | rfl
      · skip
        obtain ⟨ra, dka, ea, hra, ok⟩ := rnd' k (m + 5) ok
        obtain ⟨rb, dkb, eb, hrb, ok⟩ := rnd' k (m + 2) ok
        refine ⟨⟨ra, rb, [(0 + 1 + u0, 1 + v0), (0 + 1 + u0 + 1 + u1, 1 + v1)], none, none⟩, dkb, ?_, ⟨hra, hrb, hb, (fun _ z => by cases z), (fun _ z => by cases z)⟩, ok.le (by omega)⟩
        rw [semK_eq g__law_manner]
        simp only [Rnd.d] at ea eb
        simp [ev_var, ev_cst, ev_glb, ev_fnv, ev_tup, ev_lst, ev_lmul, ev_dic_false, ev_dic_true, ev_dic1, ev_bin, ev_neg, ev_cmp, ev_chain, ev_and, ev_or, ev_not, ev_ite, ev_idx, ev_slc, ev_rev, ev_call, ev_callv, ev_bi, ev_inst, ev_get, ev_lrng, ev_dcp, ev_dprs, ev_lc, ev_lc2, ev_lc3, ev_tri, evT_and, evT_or, evT_not, evT_var, evT_cst, evT_glb, evT_fnv, evT_tup, evT_lst, evT_lmul, evT_dic, evT_dic1, evT_bin, evT_neg, evT_cmp, evT_chain, evT_ite, evT_idx, evT_slc, evT_rev, evT_call, evT_callv, evT_bi, evT_inst, evT_get, evT_lrng, evT_dcp, evT_dprs, evT_lc, evT_lc2, evT_lc3, evT_tri, opd_var, opd_cst, opd_glb, opd_fnv, opd_tup, opd_lst, opd_lmul, opd_dic, opd_dic1, opd_bin, opd_neg, opd_cmp, opd_chain, opd_and, opd_or, opd_not, opd_ite, opd_idx, opd_slc, opd_rev, opd_call, opd_callv, opd_bi, opd_inst, opd_get, opd_lrng, opd_dcp, opd_dprs, opd_lc, opd_lc2, opd_lc3, opd_tri, exS_set, exS_unp, exS_par, exS_parO, exS_store, exS_app, exS_expr, exS_ifs, exS_for_, exS_whil, exS_ret, exS_retv, exS_retN, exS_raise, exS_brk, exS_cont, exS_pass, exS_never, exSs_nil, exSs_cons, part_none, part_some, evIt, opds, vals, op2, cont, conts, Res.bind, Res.bindN, Res.sb, SRes.sq, lift, cmpP, binP, idxP, callP, finF, endF, backOf, isLent, SV.d, SV.lent, callR, lentOf, sharedSl, shLst, freezeSl, putBack, D.flat, tru, unpS, asg_tup, asg_ktup, asg_lst, asgs_cons, asgs_nil, setS_eq, asg_nm, free_none, free_dat, free_own, D.seq?, Z24, hasSlot, hasLst, modS, putAt, pushAt, retvS, lcFin, testO, DL.isP, keepO, List.replicate, F__law_manner, forGo, Mn.d, prD, Rnd.d, optD_none, optD_some, r0, r1, r2, s0, s1, s2, e1, e2, e3, e4, e5, e6, e7, ea, eb]
      · skip
        obtain ⟨y, dk8, e8, hy, ok⟩ := pick' (k + 1) (m + 7) ok (n := 300) (by decide)
        obtain ⟨ra, dka, ea, hra, ok⟩ := rnd' k (m + 4) ok
        obtain ⟨rb, dkb, eb, hrb, ok⟩ := rnd' k (m + 1) ok
        refine ⟨⟨ra, rb, [(0 + 1 + u0, 1 + v0), (0 + 1 + u0 + 1 + u1, 1 + v1)], none, (some (1 + y))⟩, dkb, ?_, ⟨hra, hrb, hb, (fun _ z => by cases z), (fun _ z => by cases z; omega)⟩, ok.le (by omega)⟩
        rw [semK_eq g__law_manner]
        simp only [Rnd.d] at ea eb
        simp [ev_var, ev_cst, ev_glb, ev_fnv, ev_tup, ev_lst, ev_lmul, ev_dic_false, ev_dic_true, ev_dic1, ev_bin, ev_neg, ev_cmp, ev_chain, ev_and, ev_or, ev_not, ev_ite, ev_idx, ev_slc, ev_rev, ev_call, ev_callv, ev_bi, ev_inst, ev_get, ev_lrng, ev_dcp, ev_dprs, ev_lc, ev_lc2, ev_lc3, ev_tri, evT_and, evT_or, evT_not, evT_var, evT_cst, evT_glb, evT_fnv, evT_tup, evT_lst, evT_lmul, evT_dic, evT_dic1, evT_bin, evT_neg, evT_cmp, evT_chain, evT_ite, evT_idx, evT_slc, evT_rev, evT_call, evT_callv, evT_bi, evT_inst, evT_get, evT_lrng, evT_dcp, evT_dprs, evT_lc, evT_lc2, evT_lc3, evT_tri, opd_var, opd_cst, opd_glb, opd_fnv, opd_tup, opd_lst, opd_lmul, opd_dic, opd_dic1, opd_bin, opd_neg, opd_cmp, opd_chain, opd_and, opd_or, opd_not, opd_ite, opd_idx, opd_slc, opd_rev, opd_call, opd_callv, opd_bi, opd_inst, opd_get, opd_lrng, opd_dcp, opd_dprs, opd_lc, opd_lc2, opd_lc3, opd_tri, exS_set, exS_unp, exS_par, exS_parO, exS_store, exS_app, exS_expr, exS_ifs, exS_for_, exS_whil, exS_ret, exS_retv, exS_retN, exS_raise, exS_brk, exS_cont, exS_pass, exS_never, exSs_nil, exSs_cons, part_none, part_some, evIt, opds, vals, op2, cont, conts, Res.bind, Res.bindN, Res.sb, SRes.sq, lift, cmpP, binP, idxP, callP, finF, endF, backOf, isLent, SV.d, SV.lent, callR, lentOf, sharedSl, shLst, freezeSl, putBack, D.flat, tru, unpS, asg_tup, asg_ktup, asg_lst, asgs_cons, asgs_nil, setS_eq, asg_nm, free_none, free_dat, free_own, D.seq?, Z24, hasSlot, hasLst, modS, putAt, pushAt, retvS, lcFin, testO, DL.isP, keepO, List.replicate, F__law_manner, forGo, Mn.d, prD, Rnd.d, optD_none, optD_some, r0, r1, r2, s0, s1, s2, e1, e2, e3, e4, e5, e6, e7, e8, ea, eb]
    · skip
      obtain ⟨x, dk7, e7, hx, ok⟩ := pick' (k + 1) (m + 8) ok (n := 60) (by decide)
      obtain ⟨q2, dk8, e8, hq2, ok⟩ := pick' (k + 1) (m + 7) ok (n := 2) (by decide)
      rcases in2 hq2 with rfl | rfl
      · skip
        obtain ⟨ra, dka, ea, hra, ok⟩ := rnd' k (m + 4) ok
        obtain ⟨rb, dkb, eb, hrb, ok⟩ := rnd' k (m + 1) ok
        refine ⟨⟨ra, rb, [(0 + 1 + u0, 1 + v0), (0 + 1 + u0 + 1 + u1, 1 + v1)], (some (1 + x)), none⟩, dkb, ?_, ⟨hra, hrb, hb, (fun _ z => by cases z; omega), (fun _ z => by cases z)⟩, ok.le (by omega)⟩
        rw [semK_eq g__law_manner]
        simp only [Rnd.d] at ea eb
        simp [ev_var, ev_cst, ev_glb, ev_fnv, ev_tup, ev_lst, ev_lmul, ev_dic_false, ev_dic_true, ev_dic1, ev_bin, ev_neg, ev_cmp, ev_chain, ev_and, ev_or, ev_not, ev_ite, ev_idx, ev_slc, ev_rev, ev_call, ev_callv, ev_bi, ev_inst, ev_get, ev_lrng, ev_dcp, ev_dprs, ev_lc, ev_lc2, ev_lc3, ev_tri, evT_and, evT_or, evT_not, evT_var, evT_cst, evT_glb, evT_fnv, evT_tup, evT_lst, evT_lmul, evT_dic, evT_dic1, evT_bin, evT_neg, evT_cmp, evT_chain, evT_ite, evT_idx, evT_slc, evT_rev, evT_call, evT_callv, evT_bi, evT_inst, evT_get, evT_lrng, evT_dcp, evT_dprs, evT_lc, evT_lc2, evT_lc3, evT_tri, opd_var, opd_cst, opd_glb, opd_fnv, opd_tup, opd_lst, opd_lmul, opd_dic, opd_dic1, opd_bin, opd_neg, opd_cmp, opd_chain, opd_and, opd_or, opd_not, opd_ite, opd_idx, opd_slc, opd_rev, opd_call, opd_callv, opd_bi, opd_inst, opd_get, opd_lrng, opd_dcp, opd_dprs, opd_lc, opd_lc2, opd_lc3, opd_tri, exS_set, exS_unp, exS_par, exS_parO, exS_store, exS_app, exS_expr, exS_ifs, exS_for_, exS_whil, exS_ret, exS_retv, exS_retN, exS_raise, exS_brk, exS_cont, exS_pass, exS_never, exSs_nil, exSs_cons, part_none, part_some, evIt, opds, vals, op2, cont, conts, Res.bind, Res.bindN, Res.sb, SRes.sq, lift, cmpP, binP, idxP, callP, finF, endF, backOf, isLent, SV.d, SV.lent, callR, lentOf, sharedSl, shLst, freezeSl, putBack, D.flat, tru, unpS, asg_tup, asg_ktup, asg_lst, asgs_cons, asgs_nil, setS_eq, asg_nm, free_none, free_dat, free_own, D.seq?, Z24, hasSlot, hasLst, modS, putAt, pushAt, retvS, lcFin, testO, DL.isP, keepO, List.replicate, F__law_manner, forGo, Mn.d, prD, Rnd.d, optD_none, optD_some, r0, r1, r2, s0, s1, s2, e1, e2, e3, e4, e5, e6, e7, e8, ea, eb]
      · skip
        obtain ⟨y, dk9, e9, hy, ok⟩ := pick' (k + 1) (m + 6) ok (n := 300) (by decide)
        obtain ⟨ra, dka, ea, hra, ok⟩ := rnd' k (m + 3) ok
        obtain ⟨rb, dkb, eb, hrb, ok⟩ := rnd' k (m + 0) ok
        refine ⟨⟨ra, rb, [(0 + 1 + u0, 1 + v0), (0 + 1 + u0 + 1 + u1, 1 + v1)], (some (1 + x)), (some (1 + y))⟩, dkb, ?_, ⟨hra, hrb, hb, (fun _ z => by cases z; omega), (fun _ z => by cases z; omega)⟩, ok.le (by omega)⟩
        rw [semK_eq g__law_manner]
        simp only [Rnd.d] at ea eb
        simp [ev_var, ev_cst, ev_glb, ev_fnv, ev_tup, ev_lst, ev_lmul, ev_dic_false, ev_dic_true, ev_dic1, ev_bin, ev_neg, ev_cmp, ev_chain, ev_and, ev_or, ev_not, ev_ite, ev_idx, ev_slc, ev_rev, ev_call, ev_callv, ev_bi, ev_inst, ev_get, ev_lrng, ev_dcp, ev_dprs, ev_lc, ev_lc2, ev_lc3, ev_tri, evT_and, evT_or, evT_not, evT_var, evT_cst, evT_glb, evT_fnv, evT_tup, evT_lst, evT_lmul, evT_dic, evT_dic1, evT_bin, evT_neg, evT_cmp, evT_chain, evT_ite, evT_idx, evT_slc, evT_rev, evT_call, evT_callv, evT_bi, evT_inst, evT_get, evT_lrng, evT_dcp, evT_dprs, evT_lc, evT_lc2, evT_lc3, evT_tri, opd_var, opd_cst, opd_glb, opd_fnv, opd_tup, opd_lst, opd_lmul, opd_dic, opd_dic1, opd_bin, opd_neg, opd_cmp, opd_chain, opd_and, opd_or, opd_not, opd_ite, opd_idx, opd_slc, opd_rev, opd_call, opd_callv, opd_bi, opd_inst, opd_get, opd_lrng, opd_dcp, opd_dprs, opd_lc, opd_lc2, opd_lc3, opd_tri, exS_set, exS_unp, exS_par, exS_parO, exS_store, exS_app, exS_expr, exS_ifs, exS_for_, exS_whil, exS_ret, exS_retv, exS_retN, exS_raise, exS_brk, exS_cont, exS_pass, exS_never, exSs_nil, exSs_cons, part_none, part_some, evIt, opds, vals, op2, cont, conts, Res.bind, Res.bindN, Res.sb, SRes.sq, lift, cmpP, binP, idxP, callP, finF, endF, backOf, isLent, SV.d, SV.lent, callR, lentOf, sharedSl, shLst, freezeSl, putBack, D.flat, tru, unpS, asg_tup, asg_ktup, asg_lst, asgs_cons, asgs_nil, setS_eq, asg_nm, free_none, free_dat, free_own, D.seq?, Z24, hasSlot, hasLst, modS, putAt, pushAt, retvS, lcFin, testO, DL.isP, keepO, List.replicate, F__law_manner, forGo, Mn.d, prD, Rnd.d, optD_none, optD_some, r0, r1, r2, s0, s1, s2, e1, e2, e3, e4, e5, e6, e7, e8, e9, ea, eb]
end DL

namespace DL
open PySem PySem.Spec PyProof.Rows L2

/-! ### _law_same of a value and itself -/
def sortN : D → Option Int
  | .bl _ => some 1
  | .int _ => some 2
  | .str _ => some 3
  | .lst _ => some 4
  | .tup _ => some 5
  | .ktup _ => some 5
  | .non => some 6
  | _ => none
theorem sort_ok (k : Nat) {d : D} {i : Int} (h : sortN d = some i) : semK glob gvG 100 (k + 1) 24 [.dat d] = .ok (.dat (.int i)) none := by
  rw [semK_eq g__law_sort]
  cases d <;> cases h <;> simp [ev_var, ev_cst, ev_glb, ev_fnv, ev_tup, ev_lst, ev_lmul, ev_dic_false, ev_dic_true, ev_dic1, ev_bin, ev_neg, ev_cmp, ev_chain, ev_and, ev_or, ev_not, ev_ite, ev_idx, ev_slc, ev_rev, ev_call, ev_callv, ev_bi, ev_inst, ev_get, ev_lrng, ev_dcp, ev_dprs, ev_lc, ev_lc2, ev_lc3, ev_tri, evT_and, evT_or, evT_not, evT_var, evT_cst, evT_glb, evT_fnv, evT_tup, evT_lst, evT_lmul, evT_dic, evT_dic1, evT_bin, evT_neg, evT_cmp, evT_chain, evT_ite, evT_idx, evT_slc, evT_rev, evT_call, evT_callv, evT_bi, evT_inst, evT_get, evT_lrng, evT_dcp, evT_dprs, evT_lc, evT_lc2, evT_lc3, evT_tri, opd_var, opd_cst, opd_glb, opd_fnv, opd_tup, opd_lst, opd_lmul, opd_dic, opd_dic1, opd_bin, opd_neg, opd_cmp, opd_chain, opd_and, opd_or, opd_not, opd_ite, opd_idx, opd_slc, opd_rev, opd_call, opd_callv, opd_bi, opd_inst, opd_get, opd_lrng, opd_dcp, opd_dprs, opd_lc, opd_lc2, opd_lc3, opd_tri, exS_set, exS_unp, exS_par, exS_parO, exS_store, exS_app, exS_expr, exS_ifs, exS_for_, exS_whil, exS_ret, exS_retv, exS_retN, exS_raise, exS_brk, exS_cont, exS_pass, exS_never, exSs_nil, exSs_cons, part_none, part_some, evIt, opds, vals, op2, cont, conts, Res.bind, Res.bindN, Res.sb, SRes.sq, lift, cmpP, binP, idxP, callP, finF, endF, backOf, isLent, SV.d, SV.lent, callR, lentOf, sharedSl, shLst, freezeSl, putBack, D.flat, tru, unpS, asg_tup, asg_ktup, asg_lst, asgs_cons, asgs_nil, setS_eq, asg_nm, free_none, free_dat, free_own, D.seq?, Z24, hasSlot, hasLst, modS, putAt, pushAt, retvS, lcFin, testO, DL.isP, keepO, List.replicate, F__law_sort, instP]
theorem enum_zip : ∀ (ds : List D) (n : Nat), enumD n ds = (ds.zipIdx n).map fun p => D.tup [.int (p.2 : Nat), p.1]
  | [], _ => rfl
  | d :: ds, n => by rw [enumD, List.zipIdx_cons, List.map_cons, enum_zip ds (n + 1)]
/-- what the laws compare: no dict, no def, short lists -/
def cmpB : Nat → D → Bool
  | 0, _ => false
  | n + 1, d => match d with
    | .non => true
    | .bl _ => true
    | .int _ => true
    | .str x => PyData.strOk x
    | .tup ds => decide (ds.length ≤ 16777216) && ds.all (cmpB n)
    | .lst ds => decide (ds.length ≤ 16777216) && ds.all (cmpB n)
    | _ => false
theorem cmp_shp : ∀ {n : Nat} {d : D}, cmpB n d = true → shp n d = true
  | 0, _, h => by cases h
  | n + 1, d, h => by
    cases d with
    | tup ds =>
      have := (Bool.and_eq_true_iff.mp (show (decide (ds.length ≤ 16777216) && ds.all (cmpB n)) = true from h)).2
      exact List.all_eq_true.mpr fun x hx => cmp_shp (List.all_eq_true.mp this x hx)
    | lst ds =>
      have := (Bool.and_eq_true_iff.mp (show (decide (ds.length ≤ 16777216) && ds.all (cmpB n)) = true from h)).2
      exact List.all_eq_true.mpr fun x hx => cmp_shp (List.all_eq_true.mp this x hx)
    | _ => first | exact h | cases h
theorem at_nat {ds : List D} {i : Nat} {d : D} (h : ds[i]? = some d) : L2.atI ds ((i : Nat) : Int) = some d := by
  have hl := (List.getElem?_eq_some_iff.mp h).1
  unfold L2.atI ixN
  rw [if_pos (by omega), if_pos (by omega)]
  simpa using h
theorem filter_no {α : Type} (l : List α) : l.filter (fun _ => false) = [] := by induction l <;> simp_all
def lsLc : Q := .lc [2, 3] (.tup [.nm 2, .nm 3]) (.enum (.var 0)) (some (.not (.call 25 [.var 3, .idx (.var 1) (.var 2)]))) (.var 2)
theorem lsame_ok (k : Nat) : ∀ (n : Nat) (d : D), n ≤ 60 → cmpB n d = true → semK glob gvG 100 (k + n + 1) 25 [.dat d, .dat d] = .ok (.dat (.bl true)) none
  | 0, _, _, h => by cases h
  | n + 1, d, hn, h => by
    have sh := cmp_shp h
    have es := eqD_self sh (by omega)
    have seq : ∀ ds : List D, d.seq? = some ds → (∀ i : Nat, ∀ x : D, ds[i]? = some x → idxP d (.int i) = some x) → (d = .tup ds ∨ d = .lst ds) → ds.length ≤ 16777216 → (∀ x ∈ ds, cmpB n x = true) → ∀ s : Int, sortN d = some s → (3 < s ∧ s < 6) → semK glob gvG 100 (k + (n + 1) + 1) 25 [.dat d, .dat d] = .ok (.dat (.bl true)) none := by
      intro ds eq ix hd hl hx s hs h36
      have e0 := sort_ok (k + n) hs
      have el : lcGo (ev (cfk (k + n + 1)) 92 (.var 2)) (testO (evT (cfk (k + n + 1)) 92) (some (.not (.call 25 [.var 3, .idx (.var 1) (.var 2)])))) [2, 3] (.tup [.nm 2, .nm 3]) (enumD 0 ds) [] [some (.dat d), some (.dat d), none, none] = .ok [] [some (.dat d), some (.dat d), none, none] := by
        rw [enum_zip]
        have := lcGo_ok (fe := ev (cfk (k + n + 1)) 92 (.var 2)) (ft := testO (evT (cfk (k + n + 1)) 92) (some (.not (.call 25 [.var 3, .idx (.var 1) (.var 2)])))) (vs := [2, 3]) (T := .tup [.nm 2, .nm 3]) (ρ := [some (.dat d), some (.dat d), none, none]) (fun p : D × Nat => D.tup [.int (p.2 : Nat), p.1]) (fun _ => .non) (fun _ => false) (ds.zipIdx 0) [] (fun p hp => by
          obtain ⟨x, i⟩ := p
          have hi := List.mem_zipIdx_iff_getElem?.mp hp
          have ih := lsame_ok k n x (by omega) (hx x (List.mem_of_getElem? hi))
          have ei := ix i x hi
          refine ⟨[some (.dat d), some (.dat d), some (.dat (.int (i : Nat))), some (.dat x)], by simp [ev_var, ev_cst, ev_glb, ev_fnv, ev_tup, ev_lst, ev_lmul, ev_dic_false, ev_dic_true, ev_dic1, ev_bin, ev_neg, ev_cmp, ev_chain, ev_and, ev_or, ev_not, ev_ite, ev_idx, ev_slc, ev_rev, ev_call, ev_callv, ev_bi, ev_inst, ev_get, ev_lrng, ev_dcp, ev_dprs, ev_lc, ev_lc2, ev_lc3, ev_tri, evT_and, evT_or, evT_not, evT_var, evT_cst, evT_glb, evT_fnv, evT_tup, evT_lst, evT_lmul, evT_dic, evT_dic1, evT_bin, evT_neg, evT_cmp, evT_chain, evT_ite, evT_idx, evT_slc, evT_rev, evT_call, evT_callv, evT_bi, evT_inst, evT_get, evT_lrng, evT_dcp, evT_dprs, evT_lc, evT_lc2, evT_lc3, evT_tri, opd_var, opd_cst, opd_glb, opd_fnv, opd_tup, opd_lst, opd_lmul, opd_dic, opd_dic1, opd_bin, opd_neg, opd_cmp, opd_chain, opd_and, opd_or, opd_not, opd_ite, opd_idx, opd_slc, opd_rev, opd_call, opd_callv, opd_bi, opd_inst, opd_get, opd_lrng, opd_dcp, opd_dprs, opd_lc, opd_lc2, opd_lc3, opd_tri, exS_set, exS_unp, exS_par, exS_parO, exS_store, exS_app, exS_expr, exS_ifs, exS_for_, exS_whil, exS_ret, exS_retv, exS_retN, exS_raise, exS_brk, exS_cont, exS_pass, exS_never, exSs_nil, exSs_cons, part_none, part_some, evIt, opds, vals, op2, cont, conts, Res.bind, Res.bindN, Res.sb, SRes.sq, lift, cmpP, binP, idxP, callP, finF, endF, backOf, isLent, SV.d, SV.lent, callR, lentOf, sharedSl, shLst, freezeSl, putBack, D.flat, tru, unpS, asg_tup, asg_ktup, asg_lst, asgs_cons, asgs_nil, setS_eq, asg_nm, free_none, free_dat, free_own, D.seq?, Z24, hasSlot, hasLst, modS, putAt, pushAt, retvS, lcFin, testO, DL.isP, keepO, List.replicate], ?_, fun z => (by cases z), rfl, rfl⟩
          rcases hd with rfl | rfl
          · have ei : atI ds (i : Int) = some x := ei
            simp [ev_var, ev_cst, ev_glb, ev_fnv, ev_tup, ev_lst, ev_lmul, ev_dic_false, ev_dic_true, ev_dic1, ev_bin, ev_neg, ev_cmp, ev_chain, ev_and, ev_or, ev_not, ev_ite, ev_idx, ev_slc, ev_rev, ev_call, ev_callv, ev_bi, ev_inst, ev_get, ev_lrng, ev_dcp, ev_dprs, ev_lc, ev_lc2, ev_lc3, ev_tri, evT_and, evT_or, evT_not, evT_var, evT_cst, evT_glb, evT_fnv, evT_tup, evT_lst, evT_lmul, evT_dic, evT_dic1, evT_bin, evT_neg, evT_cmp, evT_chain, evT_ite, evT_idx, evT_slc, evT_rev, evT_call, evT_callv, evT_bi, evT_inst, evT_get, evT_lrng, evT_dcp, evT_dprs, evT_lc, evT_lc2, evT_lc3, evT_tri, opd_var, opd_cst, opd_glb, opd_fnv, opd_tup, opd_lst, opd_lmul, opd_dic, opd_dic1, opd_bin, opd_neg, opd_cmp, opd_chain, opd_and, opd_or, opd_not, opd_ite, opd_idx, opd_slc, opd_rev, opd_call, opd_callv, opd_bi, opd_inst, opd_get, opd_lrng, opd_dcp, opd_dprs, opd_lc, opd_lc2, opd_lc3, opd_tri, exS_set, exS_unp, exS_par, exS_parO, exS_store, exS_app, exS_expr, exS_ifs, exS_for_, exS_whil, exS_ret, exS_retv, exS_retN, exS_raise, exS_brk, exS_cont, exS_pass, exS_never, exSs_nil, exSs_cons, part_none, part_some, evIt, opds, vals, op2, cont, conts, Res.bind, Res.bindN, Res.sb, SRes.sq, lift, cmpP, binP, idxP, callP, finF, endF, backOf, isLent, SV.d, SV.lent, callR, lentOf, sharedSl, shLst, freezeSl, putBack, D.flat, tru, unpS, asg_tup, asg_ktup, asg_lst, asgs_cons, asgs_nil, setS_eq, asg_nm, free_none, free_dat, free_own, D.seq?, Z24, hasSlot, hasLst, modS, putAt, pushAt, retvS, lcFin, testO, DL.isP, keepO, List.replicate, ei, ih]
          · have ei : atI ds (i : Int) = some x := ei
            simp [ev_var, ev_cst, ev_glb, ev_fnv, ev_tup, ev_lst, ev_lmul, ev_dic_false, ev_dic_true, ev_dic1, ev_bin, ev_neg, ev_cmp, ev_chain, ev_and, ev_or, ev_not, ev_ite, ev_idx, ev_slc, ev_rev, ev_call, ev_callv, ev_bi, ev_inst, ev_get, ev_lrng, ev_dcp, ev_dprs, ev_lc, ev_lc2, ev_lc3, ev_tri, evT_and, evT_or, evT_not, evT_var, evT_cst, evT_glb, evT_fnv, evT_tup, evT_lst, evT_lmul, evT_dic, evT_dic1, evT_bin, evT_neg, evT_cmp, evT_chain, evT_ite, evT_idx, evT_slc, evT_rev, evT_call, evT_callv, evT_bi, evT_inst, evT_get, evT_lrng, evT_dcp, evT_dprs, evT_lc, evT_lc2, evT_lc3, evT_tri, opd_var, opd_cst, opd_glb, opd_fnv, opd_tup, opd_lst, opd_lmul, opd_dic, opd_dic1, opd_bin, opd_neg, opd_cmp, opd_chain, opd_and, opd_or, opd_not, opd_ite, opd_idx, opd_slc, opd_rev, opd_call, opd_callv, opd_bi, opd_inst, opd_get, opd_lrng, opd_dcp, opd_dprs, opd_lc, opd_lc2, opd_lc3, opd_tri, exS_set, exS_unp, exS_par, exS_parO, exS_store, exS_app, exS_expr, exS_ifs, exS_for_, exS_whil, exS_ret, exS_retv, exS_retN, exS_raise, exS_brk, exS_cont, exS_pass, exS_never, exSs_nil, exSs_cons, part_none, part_some, evIt, opds, vals, op2, cont, conts, Res.bind, Res.bindN, Res.sb, SRes.sq, lift, cmpP, binP, idxP, callP, finF, endF, backOf, isLent, SV.d, SV.lent, callR, lentOf, sharedSl, shLst, freezeSl, putBack, D.flat, tru, unpS, asg_tup, asg_ktup, asg_lst, asgs_cons, asgs_nil, setS_eq, asg_nm, free_none, free_dat, free_own, D.seq?, Z24, hasSlot, hasLst, modS, putAt, pushAt, retvS, lcFin, testO, DL.isP, keepO, List.replicate, ei, ih]) (by simp [Z24]; exact hl)
        rw [filter_no] at this
        exact this
      show semK glob gvG 100 ((k + n + 1) + 1) 25 _ = _
      rw [semK_eq g__law_same]
      rcases hd with rfl | rfl
      · simp [ev_var, ev_cst, ev_glb, ev_fnv, ev_tup, ev_lst, ev_lmul, ev_dic_false, ev_dic_true, ev_dic1, ev_bin, ev_neg, ev_cmp, ev_chain, ev_and, ev_or, ev_not, ev_ite, ev_idx, ev_slc, ev_rev, ev_call, ev_callv, ev_bi, ev_inst, ev_get, ev_lrng, ev_dcp, ev_dprs, ev_lc, ev_lc2, ev_lc3, ev_tri, evT_and, evT_or, evT_not, evT_var, evT_cst, evT_glb, evT_fnv, evT_tup, evT_lst, evT_lmul, evT_dic, evT_dic1, evT_bin, evT_neg, evT_cmp, evT_chain, evT_ite, evT_idx, evT_slc, evT_rev, evT_call, evT_callv, evT_bi, evT_inst, evT_get, evT_lrng, evT_dcp, evT_dprs, evT_lc, evT_lc2, evT_lc3, evT_tri, opd_var, opd_cst, opd_glb, opd_fnv, opd_tup, opd_lst, opd_lmul, opd_dic, opd_dic1, opd_bin, opd_neg, opd_cmp, opd_chain, opd_and, opd_or, opd_not, opd_ite, opd_idx, opd_slc, opd_rev, opd_call, opd_callv, opd_bi, opd_inst, opd_get, opd_lrng, opd_dcp, opd_dprs, opd_lc, opd_lc2, opd_lc3, opd_tri, exS_set, exS_unp, exS_par, exS_parO, exS_store, exS_app, exS_expr, exS_ifs, exS_for_, exS_whil, exS_ret, exS_retv, exS_retN, exS_raise, exS_brk, exS_cont, exS_pass, exS_never, exSs_nil, exSs_cons, part_none, part_some, evIt, opds, vals, op2, cont, conts, Res.bind, Res.bindN, Res.sb, SRes.sq, lift, cmpP, binP, idxP, callP, finF, endF, backOf, isLent, SV.d, SV.lent, callR, lentOf, sharedSl, shLst, freezeSl, putBack, D.flat, tru, unpS, asg_tup, asg_ktup, asg_lst, asgs_cons, asgs_nil, setS_eq, asg_nm, free_none, free_dat, free_own, D.seq?, Z24, hasSlot, hasLst, modS, putAt, pushAt, retvS, lcFin, testO, DL.isP, keepO, List.replicate, F__law_same, e0, h36.1, h36.2, tame, wipeR, backR, el, eqI0]
      · simp [ev_var, ev_cst, ev_glb, ev_fnv, ev_tup, ev_lst, ev_lmul, ev_dic_false, ev_dic_true, ev_dic1, ev_bin, ev_neg, ev_cmp, ev_chain, ev_and, ev_or, ev_not, ev_ite, ev_idx, ev_slc, ev_rev, ev_call, ev_callv, ev_bi, ev_inst, ev_get, ev_lrng, ev_dcp, ev_dprs, ev_lc, ev_lc2, ev_lc3, ev_tri, evT_and, evT_or, evT_not, evT_var, evT_cst, evT_glb, evT_fnv, evT_tup, evT_lst, evT_lmul, evT_dic, evT_dic1, evT_bin, evT_neg, evT_cmp, evT_chain, evT_ite, evT_idx, evT_slc, evT_rev, evT_call, evT_callv, evT_bi, evT_inst, evT_get, evT_lrng, evT_dcp, evT_dprs, evT_lc, evT_lc2, evT_lc3, evT_tri, opd_var, opd_cst, opd_glb, opd_fnv, opd_tup, opd_lst, opd_lmul, opd_dic, opd_dic1, opd_bin, opd_neg, opd_cmp, opd_chain, opd_and, opd_or, opd_not, opd_ite, opd_idx, opd_slc, opd_rev, opd_call, opd_callv, opd_bi, opd_inst, opd_get, opd_lrng, opd_dcp, opd_dprs, opd_lc, opd_lc2, opd_lc3, opd_tri, exS_set, exS_unp, exS_par, exS_parO, exS_store, exS_app, exS_expr, exS_ifs, exS_for_, exS_whil, exS_ret, exS_retv, exS_retN, exS_raise, exS_brk, exS_cont, exS_pass, exS_never, exSs_nil, exSs_cons, part_none, part_some, evIt, opds, vals, op2, cont, conts, Res.bind, Res.bindN, Res.sb, SRes.sq, lift, cmpP, binP, idxP, callP, finF, endF, backOf, isLent, SV.d, SV.lent, callR, lentOf, sharedSl, shLst, freezeSl, putBack, D.flat, tru, unpS, asg_tup, asg_ktup, asg_lst, asgs_cons, asgs_nil, setS_eq, asg_nm, free_none, free_dat, free_own, D.seq?, Z24, hasSlot, hasLst, modS, putAt, pushAt, retvS, lcFin, testO, DL.isP, keepO, List.replicate, F__law_same, e0, h36.1, h36.2, tame, wipeR, backR, el, eqI0]
    have at_ : ∀ (ds : List D) (i : Nat) (x : D), ds[i]? = some x → idxP (.tup ds) (.int i) = some x := fun ds i x e => at_nat e
    have at2_ : ∀ (ds : List D) (i : Nat) (x : D), ds[i]? = some x → idxP (.lst ds) (.int i) = some x := fun ds i x e => at_nat e
    have flat : ∀ s : Int, sortN d = some s → (s ≤ 3 ∨ 6 ≤ s) → semK glob gvG 100 (k + (n + 1) + 1) 25 [.dat d, .dat d] = .ok (.dat (.bl true)) none := fun s hs h36 => by
      have e0 := sort_ok (k + n) hs
      show semK glob gvG 100 ((k + n + 1) + 1) 25 _ = _
      rw [semK_eq g__law_same]
      rcases h36 with h3 | h6
      · have h3' : ¬ 3 < s := by omega
        simp [ev_var, ev_cst, ev_glb, ev_fnv, ev_tup, ev_lst, ev_lmul, ev_dic_false, ev_dic_true, ev_dic1, ev_bin, ev_neg, ev_cmp, ev_chain, ev_and, ev_or, ev_not, ev_ite, ev_idx, ev_slc, ev_rev, ev_call, ev_callv, ev_bi, ev_inst, ev_get, ev_lrng, ev_dcp, ev_dprs, ev_lc, ev_lc2, ev_lc3, ev_tri, evT_and, evT_or, evT_not, evT_var, evT_cst, evT_glb, evT_fnv, evT_tup, evT_lst, evT_lmul, evT_dic, evT_dic1, evT_bin, evT_neg, evT_cmp, evT_chain, evT_ite, evT_idx, evT_slc, evT_rev, evT_call, evT_callv, evT_bi, evT_inst, evT_get, evT_lrng, evT_dcp, evT_dprs, evT_lc, evT_lc2, evT_lc3, evT_tri, opd_var, opd_cst, opd_glb, opd_fnv, opd_tup, opd_lst, opd_lmul, opd_dic, opd_dic1, opd_bin, opd_neg, opd_cmp, opd_chain, opd_and, opd_or, opd_not, opd_ite, opd_idx, opd_slc, opd_rev, opd_call, opd_callv, opd_bi, opd_inst, opd_get, opd_lrng, opd_dcp, opd_dprs, opd_lc, opd_lc2, opd_lc3, opd_tri, exS_set, exS_unp, exS_par, exS_parO, exS_store, exS_app, exS_expr, exS_ifs, exS_for_, exS_whil, exS_ret, exS_retv, exS_retN, exS_raise, exS_brk, exS_cont, exS_pass, exS_never, exSs_nil, exSs_cons, part_none, part_some, evIt, opds, vals, op2, cont, conts, Res.bind, Res.bindN, Res.sb, SRes.sq, lift, cmpP, binP, idxP, callP, finF, endF, backOf, isLent, SV.d, SV.lent, callR, lentOf, sharedSl, shLst, freezeSl, putBack, D.flat, tru, unpS, asg_tup, asg_ktup, asg_lst, asgs_cons, asgs_nil, setS_eq, asg_nm, free_none, free_dat, free_own, D.seq?, Z24, hasSlot, hasLst, modS, putAt, pushAt, retvS, lcFin, testO, DL.isP, keepO, List.replicate, F__law_same, e0, h3', es]
      · have h3' : 3 < s := by omega
        have h6' : ¬ s < 6 := by omega
        simp [ev_var, ev_cst, ev_glb, ev_fnv, ev_tup, ev_lst, ev_lmul, ev_dic_false, ev_dic_true, ev_dic1, ev_bin, ev_neg, ev_cmp, ev_chain, ev_and, ev_or, ev_not, ev_ite, ev_idx, ev_slc, ev_rev, ev_call, ev_callv, ev_bi, ev_inst, ev_get, ev_lrng, ev_dcp, ev_dprs, ev_lc, ev_lc2, ev_lc3, ev_tri, evT_and, evT_or, evT_not, evT_var, evT_cst, evT_glb, evT_fnv, evT_tup, evT_lst, evT_lmul, evT_dic, evT_dic1, evT_bin, evT_neg, evT_cmp, evT_chain, evT_ite, evT_idx, evT_slc, evT_rev, evT_call, evT_callv, evT_bi, evT_inst, evT_get, evT_lrng, evT_dcp, evT_dprs, evT_lc, evT_lc2, evT_lc3, evT_tri, opd_var, opd_cst, opd_glb, opd_fnv, opd_tup, opd_lst, opd_lmul, opd_dic, opd_dic1, opd_bin, opd_neg, opd_cmp, opd_chain, opd_and, opd_or, opd_not, opd_ite, opd_idx, opd_slc, opd_rev, opd_call, opd_callv, opd_bi, opd_inst, opd_get, opd_lrng, opd_dcp, opd_dprs, opd_lc, opd_lc2, opd_lc3, opd_tri, exS_set, exS_unp, exS_par, exS_parO, exS_store, exS_app, exS_expr, exS_ifs, exS_for_, exS_whil, exS_ret, exS_retv, exS_retN, exS_raise, exS_brk, exS_cont, exS_pass, exS_never, exSs_nil, exSs_cons, part_none, part_some, evIt, opds, vals, op2, cont, conts, Res.bind, Res.bindN, Res.sb, SRes.sq, lift, cmpP, binP, idxP, callP, finF, endF, backOf, isLent, SV.d, SV.lent, callR, lentOf, sharedSl, shLst, freezeSl, putBack, D.flat, tru, unpS, asg_tup, asg_ktup, asg_lst, asgs_cons, asgs_nil, setS_eq, asg_nm, free_none, free_dat, free_own, D.seq?, Z24, hasSlot, hasLst, modS, putAt, pushAt, retvS, lcFin, testO, DL.isP, keepO, List.replicate, F__law_same, e0, h3', h6', es]
    cases d with
    | tup ds =>
      have h' := Bool.and_eq_true_iff.mp (show (decide (ds.length ≤ 16777216) && ds.all (cmpB n)) = true from h)
      exact seq ds rfl (at_ ds) (.inl rfl) (of_decide_eq_true h'.1) (List.all_eq_true.mp h'.2) 5 rfl (by decide)
    | lst ds =>
      have h' := Bool.and_eq_true_iff.mp (show (decide (ds.length ≤ 16777216) && ds.all (cmpB n)) = true from h)
      exact seq ds rfl (at2_ ds) (.inr rfl) (of_decide_eq_true h'.1) (List.all_eq_true.mp h'.2) 4 rfl (by decide)
    | non => exact flat 6 rfl (.inr (by decide))
    | bl b => exact flat 1 rfl (.inl (by decide))
    | int i => exact flat 2 rfl (.inl (by decide))
    | str x => exact flat 3 rfl (.inl (by decide))
    | _ => cases h

/-! ### same_punches -/
def firstL (m : Mn) (p : Int × Int) : List Int := ((List.range p.2.toNat).filter fun i : Nat => decide (cameI m.i ((i : Nat) : Int) = cameI m.i p.1)).map fun i : Nat => ((i : Nat) : Int)
def secondL (m : Mn) (p : Int × Int) : List Int := ((List.range (96 - p.1.toNat)).filter fun i : Nat => decide (wentI m.o (p.1 + 1 + ((i : Nat) : Int)) = wentI m.o p.2)).map fun i : Nat => p.1 + 1 + ((i : Nat) : Int)
theorem ends_of {l : List Int} {a : Int} (h : a ∈ l) : ∃ x y, L2.atI (l.map D.int) 0 = some (.int x) ∧ L2.atI (l.map D.int) (-1) = some (.int y) ∧ x ∈ l ∧ y ∈ l := by
  have hl : 0 < l.length := List.length_pos_of_mem h
  refine ⟨l[0], l[l.length - 1], ?_, ?_, List.getElem_mem _, List.getElem_mem _⟩
  · unfold L2.atI ixN
    rw [if_pos (by decide), if_pos (by rw [List.length_map]; exact_mod_cast hl)]
    simp [hl]
  · unfold L2.atI ixN
    rw [if_neg (by decide), if_pos (by rw [List.length_map]; omega)]
    have e : (-1 + ((l.map D.int).length : Int)).toNat = l.length - 1 := by rw [List.length_map]; omega
    simp only [Option.bind_some]
    rw [e, List.getElem?_map, List.getElem?_eq_getElem (by omega)]
    rfl
theorem ins_at (m : Mn) {i : Nat} (h : i < 97) : L2.atI (insL m) ((i : Nat) : Int) = some (.int (cameI m.i (i : Nat))) := by
  refine at_nat ?_
  unfold insL
  rw [List.getElem?_map, List.getElem?_range h]; rfl
theorem outs_at (m : Mn) {i : Nat} (h : i < 97) : L2.atI (outsL m) ((i : Nat) : Int) = some (.int (wentI m.o (i : Nat))) := by
  refine at_nat ?_
  unfold outsL
  rw [List.getElem?_map, List.getElem?_range h]; rfl
theorem first_mem {m : Mn} {p : Int × Int} (h : dayOk p) : p.1 ∈ firstL m p := by
  obtain ⟨h1, h2, h3⟩ := h
  refine List.mem_map.mpr ⟨p.1.toNat, List.mem_filter.mpr ⟨List.mem_range.mpr (by omega), ?_⟩, by omega⟩
  rw [show ((p.1.toNat : Nat) : Int) = p.1 by omega]
  exact decide_eq_true rfl
theorem second_mem {m : Mn} {p : Int × Int} (h : dayOk p) : p.2 ∈ secondL m p := by
  obtain ⟨h1, h2, h3⟩ := h
  refine List.mem_map.mpr ⟨(p.2 - p.1 - 1).toNat, List.mem_filter.mpr ⟨List.mem_range.mpr (by omega), ?_⟩, by omega⟩
  rw [show p.1 + 1 + (((p.2 - p.1 - 1).toNat : Nat) : Int) = p.2 by omega]
  exact decide_eq_true rfl

/-! ### times never go back -/
theorem came_mono {r : Rnd} (h : r.ok) {t u : Int} (l : t ≤ u) : cameI r t ≤ cameI r u := by
  obtain ⟨s, x, g⟩ := r
  obtain ⟨h1, h2, h3⟩ := h
  simp only [List.mem_cons, List.not_mem_nil, or_false] at h1 h2 h3
  unfold cameI
  rcases h1 with rfl | rfl | rfl | rfl | rfl | rfl | rfl <;> (simp only [Int.fmod_eq_emod_of_nonneg _ (show (0 : Int) ≤ 1 by decide), Int.fmod_eq_emod_of_nonneg _ (show (0 : Int) ≤ 2 by decide), Int.fmod_eq_emod_of_nonneg _ (show (0 : Int) ≤ 3 by decide), Int.fmod_eq_emod_of_nonneg _ (show (0 : Int) ≤ 4 by decide), Int.fmod_eq_emod_of_nonneg _ (show (0 : Int) ≤ 6 by decide), Int.fmod_eq_emod_of_nonneg _ (show (0 : Int) ≤ 8 by decide), Int.fmod_eq_emod_of_nonneg _ (show (0 : Int) ≤ 12 by decide)]; cases x <;> simp <;> (repeat (split)) <;> omega)
theorem went_mono {r : Rnd} (h : r.ok) {t u : Int} (l : t ≤ u) : wentI r t ≤ wentI r u := by
  obtain ⟨s, x, g⟩ := r
  obtain ⟨h1, h2, h3⟩ := h
  simp only [List.mem_cons, List.not_mem_nil, or_false] at h1 h2 h3
  unfold wentI
  rcases h1 with rfl | rfl | rfl | rfl | rfl | rfl | rfl <;> (simp only [Int.fmod_eq_emod_of_nonneg _ (show (0 : Int) ≤ 1 by decide), Int.fmod_eq_emod_of_nonneg _ (show (0 : Int) ≤ 2 by decide), Int.fmod_eq_emod_of_nonneg _ (show (0 : Int) ≤ 3 by decide), Int.fmod_eq_emod_of_nonneg _ (show (0 : Int) ≤ 4 by decide), Int.fmod_eq_emod_of_nonneg _ (show (0 : Int) ≤ 6 by decide), Int.fmod_eq_emod_of_nonneg _ (show (0 : Int) ≤ 8 by decide), Int.fmod_eq_emod_of_nonneg _ (show (0 : Int) ≤ 12 by decide)]; cases x <;> simp <;> (repeat (split)) <;> omega)
/-! ### loops -/
theorem for_cnt {body : Env' → SRes} {T : Tg} (P : Nat → Env' → Prop) : ∀ (ds : List D) (ρ : Env'), P ds.length ρ → (∀ d ∈ ds, ∀ (n : Nat) (ρ : Env'), P (n + 1) ρ → ∃ ρ1, asg T d ρ = some ρ1 ∧ ∃ ρ2, body ρ1 = .nx ρ2 ∧ P n ρ2) → ∃ ρ2, forGo body T ds ρ = .nx ρ2 ∧ P 0 ρ2
  | [], ρ, h, _ => ⟨ρ, rfl, h⟩
  | d :: ds, ρ, h, st => by
    obtain ⟨ρ1, e1, ρ2, e2, h2⟩ := st d List.mem_cons_self ds.length ρ h
    obtain ⟨ρ3, e3, h3⟩ := for_cnt P ds ρ2 h2 (fun e he => st e (List.mem_cons_of_mem _ he))
    refine ⟨ρ3, ?_, h3⟩
    unfold forGo
    rw [e1]
    dsimp only
    rw [e2]
    exact e3
def Fr (l : List (Option SV)) : Prop := ∀ x ∈ l, free x = true
theorem Fr.nil : Fr [] := fun _ h => by cases h
theorem Fr.cons {x : Option SV} {l : List (Option SV)} (h : free x = true) (t : Fr l) : Fr (x :: l) := fun y hy => by
  rcases List.mem_cons.mp hy with rfl | hy
  · exact h
  · exact t y hy
/-- a cell of the script -/
theorem cell_at (ns : List Int) {n j : Nat} (hj : j < n) : ∃ x, L2.atI (ns.map D.int ++ (List.replicate n [D.int 0]).flatten) ((j : Nat) : Int) = some (.int x) := by
  have e : ns.map D.int ++ (List.replicate n [D.int 0]).flatten = (ns ++ List.replicate n 0).map D.int := by
    rw [List.map_append]
    congr 1
    induction n with
    | zero => rfl
    | succ n ih =>
      clear ih hj
      induction n with
      | zero => rfl
      | succ n ih => rw [List.replicate_succ, List.flatten_cons, ih]; rfl
  rw [e]
  have hl : j < (ns ++ List.replicate n 0).length := by rw [List.length_append, List.length_replicate]; omega
  refine ⟨(ns ++ List.replicate n 0)[j], at_nat ?_⟩
  rw [List.getElem?_map, List.getElem?_eq_getElem hl]
  rfl
theorem small_day {i : Int} (h : 0 ≤ i ∧ i ≤ 200) : small62 i = true := by
  unfold small62
  simp
  omega
end DL

namespace DL
open PySem PySem.Spec PyProof.Rows L2
section
variable {cf : Cf}
theorem exSs_step {n : Nat} {s : DL.S} {ss : List DL.S} {ρ ρ1 : Env'} (h : exS cf n s ρ = .nx ρ1) : exSs cf (n + 1) (s :: ss) ρ = exSs cf n ss ρ1 := by
  rw [exSs_cons, h]
theorem for_nx {n : Nat} {T : Tg} {it : It} {b : List DL.S} {ρ ρ1 ρ2 : Env'} {ds : List D} (h1 : evIt (ev cf n) it ρ = .ok ds ρ1) (h2 : forGo (exSs cf n b) T ds ρ1 = .nx ρ2) : exS cf (n + 1) (.for_ T it b) ρ = .nx ρ2 := by
  rw [exS_for_, h1]
  exact h2
theorem rng_lit {n : Nat} {i : Int} {ρ : Env'} (h : small62 i = true) : evIt (ev cf (n + 1)) (.rng (.cst (.int i))) ρ = .ok (rangeD 0 i.toNat) ρ := by
  show (if small62 i = true then Res.ok (rangeD 0 i.toNat) ρ else Res.stuck) = _
  rw [if_pos h]
theorem rng2_lit {n : Nat} {i j : Int} {ρ : Env'} (h : small62 i = true) (h2 : small62 j = true) : evIt (ev cf (n + 1)) (.rng2 (.cst (.int i)) (.cst (.int j))) ρ = .ok (rangeD i (j - i).toNat) ρ := by
  show (if (small62 i && small62 j) = true then Res.ok (rangeD i (j - i).toNat) ρ else Res.stuck) = _
  rw [if_pos (by rw [h, h2]; rfl)]
theorem lcFin_ok {own : List Nat} {fi : Env' → Res (List D)} {go : List D → List D → Env' → Res (List D)} {ρ : Env'} {items acc : List D} (h1 : fi ρ = .ok items ρ) (ht : tame ρ own = true) (hw : wipeR ρ own = ρ) (h2 : go items [] ρ = .ok acc ρ) (hb : backR ρ ρ own = ρ) : lcFin own fi go ρ = .ok (.own (.lst acc)) ρ := by
  unfold lcFin
  rw [h1]
  show (if tame ρ own = true then (go items [] (wipeR ρ own)).bind fun acc ρ2 => Res.ok (SV.own (D.lst acc)) (backR ρ ρ2 own) else Res.stuck) = _
  rw [if_pos ht, hw, h2]
  show Res.ok _ (backR ρ ρ own) = _
  rw [hb]
theorem set_none {ρ : Env'} {i : Nat} (h : ρ[i]? = some none) : ρ.set i none = ρ := by
  apply List.ext_getElem?
  intro j
  by_cases e : i = j
  · subst e; rw [List.getElem?_set_self (List.getElem?_eq_some_iff.mp h).1, h]
  · rw [List.getElem?_set_ne e]
/-- [e for i in it if c], c and e leaving the slots alone -/
theorem lc_filt {α : Type} {n i : Nat} {it : It} {c : Option Q} {e : Q} {ρ : Env'} {xs : List α} (g f : α → D) (p : α → Bool) (hi : ρ[i]? = some none) (hit : evIt (ev cf n) it ρ = .ok (xs.map g) ρ)
    (he : ∀ x ∈ xs, testO (evT cf n) c (ρ.set i (some (.dat (g x)))) = .ok (p x) (ρ.set i (some (.dat (g x)))) ∧ (p x = true → ∃ sv, ev cf n e (ρ.set i (some (.dat (g x)))) = .ok sv (ρ.set i (some (.dat (g x)))) ∧ sv.d = f x)) (hl : xs.length ≤ Z24) :
    ev cf (n + 1) (.lc [i] (.nm i) it c e) ρ = .ok (.own (.lst ((xs.filter p).map f))) ρ := by
  have lt := (List.getElem?_eq_some_iff.mp hi).1
  have w : wipeR ρ [i] = ρ := set_none hi
  have t0 : tame ρ [i] = true := by unfold tame; rw [List.all_cons, hi]; rfl
  have b0 : backR ρ ρ [i] = ρ := by
    show ρ.set i ((ρ[i]?).getD none) = ρ
    rw [hi]; exact set_none hi
  rw [ev_lc]
  have go := lcGo_ok (fe := ev cf n e) (ft := testO (evT cf n) c) (vs := [i]) (T := .nm i) (ρ := ρ) g f p xs [] (fun a ha => ⟨ρ.set i (some (.dat (g a))), by rw [asg_nm, hi]; rfl, (he a ha).1, (he a ha).2, (by
    unfold tame; rw [List.all_cons, List.getElem?_set_self lt]; rfl), (by
    show (ρ.set i (some (.dat (g a)))).set i none = ρ
    rw [List.set_set]; exact set_none hi)⟩) (by simpa using hl)
  exact lcFin_ok hit t0 w go b0
theorem lc_map {α : Type} {n i : Nat} {it : It} {e : Q} {ρ : Env'} {xs : List α} (g f : α → D) (hi : ρ[i]? = some none) (hit : evIt (ev cf n) it ρ = .ok (xs.map g) ρ)
    (he : ∀ x ∈ xs, ∃ sv, ev cf n e (ρ.set i (some (.dat (g x)))) = .ok sv (ρ.set i (some (.dat (g x)))) ∧ sv.d = f x) (hl : xs.length ≤ Z24) : ev cf (n + 1) (.lc [i] (.nm i) it none e) ρ = .ok (.own (.lst (xs.map f))) ρ := by
  have := lc_filt (cf := cf) (n := n) (c := none) (e := e) g f (fun _ => true) hi hit (fun x hx => ⟨rfl, fun _ => he x hx⟩) hl
  rwa [List.filter_eq_self.mpr (fun _ _ => rfl)] at this
end
/-- a list of ints, as what the laws compare -/
theorem ints_cmp (ns : List Int) (h : ns.length ≤ 16777216) : cmpB 2 (.lst (ns.map D.int)) = true := by
  show (decide ((ns.map D.int).length ≤ 16777216) && (ns.map D.int).all (cmpB 1)) = true
  rw [Bool.and_eq_true]
  exact ⟨decide_eq_true (by rw [List.length_map]; exact h), List.all_eq_true.mpr fun d hd => by obtain ⟨r, _, rfl⟩ := List.mem_map.mp hd; rfl⟩
theorem ints_eq (ns : List Int) (h : ns.length ≤ 16777216) : eqD (.lst (ns.map D.int)) (.lst (ns.map D.int)) = some true := eqD_self (cmp_shp (ints_cmp ns h))
theorem ints_same (k : Nat) (ns : List Int) (h : ns.length ≤ 16777216) : semK glob gvG 100 (k + 3) 25 [.dat (.lst (ns.map D.int)), .dat (.lst (ns.map D.int))] = .ok (.dat (.bl true)) none := lsame_ok k 2 _ (by decide) (ints_cmp ns h)
theorem intsOf_map' (ns : List Int) : intsOf (ns.map D.int) = some ns := by
  induction ns with
  | nil => rfl
  | cons n ns ih => rw [List.map_cons]; unfold intsOf; rw [ih]; rfl
theorem sort_ints (ns : List Int) (h : ns.Pairwise (· ≤ ·)) (hl : ns.length ≤ 16777216) : callP .sorted [.lst (ns.map D.int)] = some (.own (.lst (ns.map D.int))) := by
  have e : sortI ns = ns := sorted_one (sortI_perm ns) (sortI_sorted ns) h
  unfold callP
  simp [intsOf_map', e]
end DL

namespace DL
open PySem PySem.Spec PyProof.Rows L2
/-! ### time_in, time_out and what is wrong -/
def oddT : List D := [.int (-1), .int 97, .non, .bl true, .str "0"]
theorem g_last : gvG 2 = some (.int 96) := rfl
theorem needt_ok (k : Nat) {t : Int} (h : 0 ≤ t ∧ t ≤ 96) : semK glob gvG 100 (k + 2) 17 [.dat (.int t)] = .ok (.dat .non) none := by
  have e := from_ok k t 0 96
  rw [show decide ((0 : Int) ≤ t ∧ t ≤ 96) = true from decide_eq_true h] at e
  rw [semK_eq g_need_time]
  simp [ev_var, ev_cst, ev_glb, ev_fnv, ev_tup, ev_lst, ev_lmul, ev_dic_false, ev_dic_true, ev_dic1, ev_bin, ev_neg, ev_cmp, ev_chain, ev_and, ev_or, ev_not, ev_ite, ev_idx, ev_slc, ev_rev, ev_call, ev_callv, ev_bi, ev_inst, ev_get, ev_lrng, ev_dcp, ev_dprs, ev_lc, ev_lc2, ev_lc3, ev_tri, evT_and, evT_or, evT_not, evT_var, evT_cst, evT_glb, evT_fnv, evT_tup, evT_lst, evT_lmul, evT_dic, evT_dic1, evT_bin, evT_neg, evT_cmp, evT_chain, evT_ite, evT_idx, evT_slc, evT_rev, evT_call, evT_callv, evT_bi, evT_inst, evT_get, evT_lrng, evT_dcp, evT_dprs, evT_lc, evT_lc2, evT_lc3, evT_tri, opd_var, opd_cst, opd_glb, opd_fnv, opd_tup, opd_lst, opd_lmul, opd_dic, opd_dic1, opd_bin, opd_neg, opd_cmp, opd_chain, opd_and, opd_or, opd_not, opd_ite, opd_idx, opd_slc, opd_rev, opd_call, opd_callv, opd_bi, opd_inst, opd_get, opd_lrng, opd_dcp, opd_dprs, opd_lc, opd_lc2, opd_lc3, opd_tri, exS_set, exS_unp, exS_par, exS_parO, exS_store, exS_app, exS_expr, exS_ifs, exS_for_, exS_whil, exS_ret, exS_retv, exS_retN, exS_raise, exS_brk, exS_cont, exS_pass, exS_never, exSs_nil, exSs_cons, part_none, part_some, evIt, opds, vals, op2, cont, conts, Res.bind, Res.bindN, Res.sb, SRes.sq, lift, cmpP, binP, idxP, callP, finF, endF, backOf, isLent, SV.d, SV.lent, callR, lentOf, sharedSl, shLst, freezeSl, putBack, D.flat, tru, unpS, asg_tup, asg_ktup, asg_lst, asgs_cons, asgs_nil, setS_eq, asg_nm, free_none, free_dat, free_own, D.seq?, Z24, hasSlot, hasLst, modS, putAt, pushAt, retvS, lcFin, testO, DL.isP, keepO, List.replicate, F_need_time, e, g_last]
theorem needt_odd (k : Nat) {o : D} (h : o ∈ oddT) : semK glob gvG 100 (k + 2) 17 [.dat o] = .exc ⟨1, none⟩ none := by
  have e : semK glob gvG 100 (k + 1) 0 [.dat o, .dat (.int 0), .dat (.int 96)] = .ok (.dat (.bl false)) none := by
    rw [semK_eq g_is_from]
    simp only [oddT, List.mem_cons, List.not_mem_nil, or_false] at h
    rcases h with rfl | rfl | rfl | rfl | rfl <;> simp [ev_var, ev_cst, ev_glb, ev_fnv, ev_tup, ev_lst, ev_lmul, ev_dic_false, ev_dic_true, ev_dic1, ev_bin, ev_neg, ev_cmp, ev_chain, ev_and, ev_or, ev_not, ev_ite, ev_idx, ev_slc, ev_rev, ev_call, ev_callv, ev_bi, ev_inst, ev_get, ev_lrng, ev_dcp, ev_dprs, ev_lc, ev_lc2, ev_lc3, ev_tri, evT_and, evT_or, evT_not, evT_var, evT_cst, evT_glb, evT_fnv, evT_tup, evT_lst, evT_lmul, evT_dic, evT_dic1, evT_bin, evT_neg, evT_cmp, evT_chain, evT_ite, evT_idx, evT_slc, evT_rev, evT_call, evT_callv, evT_bi, evT_inst, evT_get, evT_lrng, evT_dcp, evT_dprs, evT_lc, evT_lc2, evT_lc3, evT_tri, opd_var, opd_cst, opd_glb, opd_fnv, opd_tup, opd_lst, opd_lmul, opd_dic, opd_dic1, opd_bin, opd_neg, opd_cmp, opd_chain, opd_and, opd_or, opd_not, opd_ite, opd_idx, opd_slc, opd_rev, opd_call, opd_callv, opd_bi, opd_inst, opd_get, opd_lrng, opd_dcp, opd_dprs, opd_lc, opd_lc2, opd_lc3, opd_tri, exS_set, exS_unp, exS_par, exS_parO, exS_store, exS_app, exS_expr, exS_ifs, exS_for_, exS_whil, exS_ret, exS_retv, exS_retN, exS_raise, exS_brk, exS_cont, exS_pass, exS_never, exSs_nil, exSs_cons, part_none, part_some, evIt, opds, vals, op2, cont, conts, Res.bind, Res.bindN, Res.sb, SRes.sq, lift, cmpP, binP, idxP, callP, finF, endF, backOf, isLent, SV.d, SV.lent, callR, lentOf, sharedSl, shLst, freezeSl, putBack, D.flat, tru, unpS, asg_tup, asg_ktup, asg_lst, asgs_cons, asgs_nil, setS_eq, asg_nm, free_none, free_dat, free_own, D.seq?, Z24, hasSlot, hasLst, modS, putAt, pushAt, retvS, lcFin, testO, DL.isP, keepO, List.replicate, F_is_from, instP]
  rw [semK_eq g_need_time]
  simp [ev_var, ev_cst, ev_glb, ev_fnv, ev_tup, ev_lst, ev_lmul, ev_dic_false, ev_dic_true, ev_dic1, ev_bin, ev_neg, ev_cmp, ev_chain, ev_and, ev_or, ev_not, ev_ite, ev_idx, ev_slc, ev_rev, ev_call, ev_callv, ev_bi, ev_inst, ev_get, ev_lrng, ev_dcp, ev_dprs, ev_lc, ev_lc2, ev_lc3, ev_tri, evT_and, evT_or, evT_not, evT_var, evT_cst, evT_glb, evT_fnv, evT_tup, evT_lst, evT_lmul, evT_dic, evT_dic1, evT_bin, evT_neg, evT_cmp, evT_chain, evT_ite, evT_idx, evT_slc, evT_rev, evT_call, evT_callv, evT_bi, evT_inst, evT_get, evT_lrng, evT_dcp, evT_dprs, evT_lc, evT_lc2, evT_lc3, evT_tri, opd_var, opd_cst, opd_glb, opd_fnv, opd_tup, opd_lst, opd_lmul, opd_dic, opd_dic1, opd_bin, opd_neg, opd_cmp, opd_chain, opd_and, opd_or, opd_not, opd_ite, opd_idx, opd_slc, opd_rev, opd_call, opd_callv, opd_bi, opd_inst, opd_get, opd_lrng, opd_dcp, opd_dprs, opd_lc, opd_lc2, opd_lc3, opd_tri, exS_set, exS_unp, exS_par, exS_parO, exS_store, exS_app, exS_expr, exS_ifs, exS_for_, exS_whil, exS_ret, exS_retv, exS_retN, exS_raise, exS_brk, exS_cont, exS_pass, exS_never, exSs_nil, exSs_cons, part_none, part_some, evIt, opds, vals, op2, cont, conts, Res.bind, Res.bindN, Res.sb, SRes.sq, lift, cmpP, binP, idxP, callP, finF, endF, backOf, isLent, SV.d, SV.lent, callR, lentOf, sharedSl, shLst, freezeSl, putBack, D.flat, tru, unpS, asg_tup, asg_ktup, asg_lst, asgs_cons, asgs_nil, setS_eq, asg_nm, free_none, free_dat, free_own, D.seq?, Z24, hasSlot, hasLst, modS, putAt, pushAt, retvS, lcFin, testO, DL.isP, keepO, List.replicate, F_need_time, e, g_last]
theorem tin_ok (k : Nat) {m : Mn} (h : m.ok) {t : Int} (ht : 0 ≤ t ∧ t ≤ 96) : semK glob gvG 100 (k + 5) 20 [.dat m.d, .dat (.int t)] = .ok (.dat (.int (cameI m.i t))) none := by
  have e1 := needm_ok k h
  have e2 := needt_ok (k + 2) ht
  have e3 := came_ok (k + 3) h.i t
  rw [semK_eq g_time_in]
  simp only [Mn.d] at e1 ⊢
  simp [ev_var, ev_cst, ev_glb, ev_fnv, ev_tup, ev_lst, ev_lmul, ev_dic_false, ev_dic_true, ev_dic1, ev_bin, ev_neg, ev_cmp, ev_chain, ev_and, ev_or, ev_not, ev_ite, ev_idx, ev_slc, ev_rev, ev_call, ev_callv, ev_bi, ev_inst, ev_get, ev_lrng, ev_dcp, ev_dprs, ev_lc, ev_lc2, ev_lc3, ev_tri, evT_and, evT_or, evT_not, evT_var, evT_cst, evT_glb, evT_fnv, evT_tup, evT_lst, evT_lmul, evT_dic, evT_dic1, evT_bin, evT_neg, evT_cmp, evT_chain, evT_ite, evT_idx, evT_slc, evT_rev, evT_call, evT_callv, evT_bi, evT_inst, evT_get, evT_lrng, evT_dcp, evT_dprs, evT_lc, evT_lc2, evT_lc3, evT_tri, opd_var, opd_cst, opd_glb, opd_fnv, opd_tup, opd_lst, opd_lmul, opd_dic, opd_dic1, opd_bin, opd_neg, opd_cmp, opd_chain, opd_and, opd_or, opd_not, opd_ite, opd_idx, opd_slc, opd_rev, opd_call, opd_callv, opd_bi, opd_inst, opd_get, opd_lrng, opd_dcp, opd_dprs, opd_lc, opd_lc2, opd_lc3, opd_tri, exS_set, exS_unp, exS_par, exS_parO, exS_store, exS_app, exS_expr, exS_ifs, exS_for_, exS_whil, exS_ret, exS_retv, exS_retN, exS_raise, exS_brk, exS_cont, exS_pass, exS_never, exSs_nil, exSs_cons, part_none, part_some, evIt, opds, vals, op2, cont, conts, Res.bind, Res.bindN, Res.sb, SRes.sq, lift, cmpP, binP, idxP, callP, finF, endF, backOf, isLent, SV.d, SV.lent, callR, lentOf, sharedSl, shLst, freezeSl, putBack, D.flat, tru, unpS, asg_tup, asg_ktup, asg_lst, asgs_cons, asgs_nil, setS_eq, asg_nm, free_none, free_dat, free_own, D.seq?, Z24, hasSlot, hasLst, modS, putAt, pushAt, retvS, lcFin, testO, DL.isP, keepO, List.replicate, F_time_in, e1, e2, e3, at0]
theorem tout_ok (k : Nat) {m : Mn} (h : m.ok) {t : Int} (ht : 0 ≤ t ∧ t ≤ 96) : semK glob gvG 100 (k + 5) 21 [.dat m.d, .dat (.int t)] = .ok (.dat (.int (wentI m.o t))) none := by
  have e1 := needm_ok k h
  have e2 := needt_ok (k + 2) ht
  have e3 := went_ok (k + 3) h.o t
  rw [semK_eq g_time_out]
  simp only [Mn.d] at e1 ⊢
  simp [ev_var, ev_cst, ev_glb, ev_fnv, ev_tup, ev_lst, ev_lmul, ev_dic_false, ev_dic_true, ev_dic1, ev_bin, ev_neg, ev_cmp, ev_chain, ev_and, ev_or, ev_not, ev_ite, ev_idx, ev_slc, ev_rev, ev_call, ev_callv, ev_bi, ev_inst, ev_get, ev_lrng, ev_dcp, ev_dprs, ev_lc, ev_lc2, ev_lc3, ev_tri, evT_and, evT_or, evT_not, evT_var, evT_cst, evT_glb, evT_fnv, evT_tup, evT_lst, evT_lmul, evT_dic, evT_dic1, evT_bin, evT_neg, evT_cmp, evT_chain, evT_ite, evT_idx, evT_slc, evT_rev, evT_call, evT_callv, evT_bi, evT_inst, evT_get, evT_lrng, evT_dcp, evT_dprs, evT_lc, evT_lc2, evT_lc3, evT_tri, opd_var, opd_cst, opd_glb, opd_fnv, opd_tup, opd_lst, opd_lmul, opd_dic, opd_dic1, opd_bin, opd_neg, opd_cmp, opd_chain, opd_and, opd_or, opd_not, opd_ite, opd_idx, opd_slc, opd_rev, opd_call, opd_callv, opd_bi, opd_inst, opd_get, opd_lrng, opd_dcp, opd_dprs, opd_lc, opd_lc2, opd_lc3, opd_tri, exS_set, exS_unp, exS_par, exS_parO, exS_store, exS_app, exS_expr, exS_ifs, exS_for_, exS_whil, exS_ret, exS_retv, exS_retN, exS_raise, exS_brk, exS_cont, exS_pass, exS_never, exSs_nil, exSs_cons, part_none, part_some, evIt, opds, vals, op2, cont, conts, Res.bind, Res.bindN, Res.sb, SRes.sq, lift, cmpP, binP, idxP, callP, finF, endF, backOf, isLent, SV.d, SV.lent, callR, lentOf, sharedSl, shLst, freezeSl, putBack, D.flat, tru, unpS, asg_tup, asg_ktup, asg_lst, asgs_cons, asgs_nil, setS_eq, asg_nm, free_none, free_dat, free_own, D.seq?, Z24, hasSlot, hasLst, modS, putAt, pushAt, retvS, lcFin, testO, DL.isP, keepO, List.replicate, F_time_out, e1, e2, e3, at1]
theorem tin_odd (k : Nat) {m : Mn} (h : m.ok) {o : D} (ho : o ∈ oddT) : semK glob gvG 100 (k + 5) 20 [.dat m.d, .dat o] = .exc ⟨1, none⟩ none := by
  have e1 := needm_ok k h
  have e2 := needt_odd (k + 2) ho
  rw [semK_eq g_time_in]
  simp only [Mn.d] at e1 ⊢
  simp [ev_var, ev_cst, ev_glb, ev_fnv, ev_tup, ev_lst, ev_lmul, ev_dic_false, ev_dic_true, ev_dic1, ev_bin, ev_neg, ev_cmp, ev_chain, ev_and, ev_or, ev_not, ev_ite, ev_idx, ev_slc, ev_rev, ev_call, ev_callv, ev_bi, ev_inst, ev_get, ev_lrng, ev_dcp, ev_dprs, ev_lc, ev_lc2, ev_lc3, ev_tri, evT_and, evT_or, evT_not, evT_var, evT_cst, evT_glb, evT_fnv, evT_tup, evT_lst, evT_lmul, evT_dic, evT_dic1, evT_bin, evT_neg, evT_cmp, evT_chain, evT_ite, evT_idx, evT_slc, evT_rev, evT_call, evT_callv, evT_bi, evT_inst, evT_get, evT_lrng, evT_dcp, evT_dprs, evT_lc, evT_lc2, evT_lc3, evT_tri, opd_var, opd_cst, opd_glb, opd_fnv, opd_tup, opd_lst, opd_lmul, opd_dic, opd_dic1, opd_bin, opd_neg, opd_cmp, opd_chain, opd_and, opd_or, opd_not, opd_ite, opd_idx, opd_slc, opd_rev, opd_call, opd_callv, opd_bi, opd_inst, opd_get, opd_lrng, opd_dcp, opd_dprs, opd_lc, opd_lc2, opd_lc3, opd_tri, exS_set, exS_unp, exS_par, exS_parO, exS_store, exS_app, exS_expr, exS_ifs, exS_for_, exS_whil, exS_ret, exS_retv, exS_retN, exS_raise, exS_brk, exS_cont, exS_pass, exS_never, exSs_nil, exSs_cons, part_none, part_some, evIt, opds, vals, op2, cont, conts, Res.bind, Res.bindN, Res.sb, SRes.sq, lift, cmpP, binP, idxP, callP, finF, endF, backOf, isLent, SV.d, SV.lent, callR, lentOf, sharedSl, shLst, freezeSl, putBack, D.flat, tru, unpS, asg_tup, asg_ktup, asg_lst, asgs_cons, asgs_nil, setS_eq, asg_nm, free_none, free_dat, free_own, D.seq?, Z24, hasSlot, hasLst, modS, putAt, pushAt, retvS, lcFin, testO, DL.isP, keepO, List.replicate, F_time_in, e1, e2]
theorem tout_odd (k : Nat) {m : Mn} (h : m.ok) {o : D} (ho : o ∈ oddT) : semK glob gvG 100 (k + 5) 21 [.dat m.d, .dat o] = .exc ⟨1, none⟩ none := by
  have e1 := needm_ok k h
  have e2 := needt_odd (k + 2) ho
  rw [semK_eq g_time_out]
  simp only [Mn.d] at e1 ⊢
  simp [ev_var, ev_cst, ev_glb, ev_fnv, ev_tup, ev_lst, ev_lmul, ev_dic_false, ev_dic_true, ev_dic1, ev_bin, ev_neg, ev_cmp, ev_chain, ev_and, ev_or, ev_not, ev_ite, ev_idx, ev_slc, ev_rev, ev_call, ev_callv, ev_bi, ev_inst, ev_get, ev_lrng, ev_dcp, ev_dprs, ev_lc, ev_lc2, ev_lc3, ev_tri, evT_and, evT_or, evT_not, evT_var, evT_cst, evT_glb, evT_fnv, evT_tup, evT_lst, evT_lmul, evT_dic, evT_dic1, evT_bin, evT_neg, evT_cmp, evT_chain, evT_ite, evT_idx, evT_slc, evT_rev, evT_call, evT_callv, evT_bi, evT_inst, evT_get, evT_lrng, evT_dcp, evT_dprs, evT_lc, evT_lc2, evT_lc3, evT_tri, opd_var, opd_cst, opd_glb, opd_fnv, opd_tup, opd_lst, opd_lmul, opd_dic, opd_dic1, opd_bin, opd_neg, opd_cmp, opd_chain, opd_and, opd_or, opd_not, opd_ite, opd_idx, opd_slc, opd_rev, opd_call, opd_callv, opd_bi, opd_inst, opd_get, opd_lrng, opd_dcp, opd_dprs, opd_lc, opd_lc2, opd_lc3, opd_tri, exS_set, exS_unp, exS_par, exS_parO, exS_store, exS_app, exS_expr, exS_ifs, exS_for_, exS_whil, exS_ret, exS_retv, exS_retN, exS_raise, exS_brk, exS_cont, exS_pass, exS_never, exSs_nil, exSs_cons, part_none, part_some, evIt, opds, vals, op2, cont, conts, Res.bind, Res.bindN, Res.sb, SRes.sq, lift, cmpP, binP, idxP, callP, finF, endF, backOf, isLent, SV.d, SV.lent, callR, lentOf, sharedSl, shLst, freezeSl, putBack, D.flat, tru, unpS, asg_tup, asg_ktup, asg_lst, asgs_cons, asgs_nil, setS_eq, asg_nm, free_none, free_dat, free_own, D.seq?, Z24, hasSlot, hasLst, modS, putAt, pushAt, retvS, lcFin, testO, DL.isP, keepO, List.replicate, F_time_out, e1, e2]
/-- the lists of ints -/
def insI (m : Mn) : List Int := (List.range 97).map fun i : Nat => cameI m.i (i : Nat)
def outsI (m : Mn) : List Int := (List.range 97).map fun i : Nat => wentI m.o (i : Nat)
theorem insI_len (m : Mn) : (insI m).length = 97 := by unfold insI; rw [List.length_map, List.length_range]
theorem outsI_len (m : Mn) : (outsI m).length = 97 := by unfold outsI; rw [List.length_map, List.length_range]
theorem range_mono {f : Nat → Int} (h : ∀ i j : Nat, i ≤ j → f i ≤ f j) (n : Nat) : ((List.range n).map f).Pairwise (· ≤ ·) := by
  rw [List.pairwise_map]
  exact List.pairwise_lt_range.imp fun {a b} hab => h a b (Nat.le_of_lt hab)
theorem insI_sorted {m : Mn} (h : m.ok) : (insI m).Pairwise (· ≤ ·) := range_mono (fun i j l => came_mono h.i (by omega)) 97
theorem outsI_sorted {m : Mn} (h : m.ok) : (outsI m).Pairwise (· ≤ ·) := range_mono (fun i j l => went_mono h.o (by omega)) 97
end DL

namespace DL
open PySem PySem.Spec PyProof.Rows L2
/-! ### no manners -/
def oddM (m : Mn) : List D := [.non, .tup [m.i.d, m.o.d, .tup (m.br.map prD), optD m.dl], .lst [m.i.d, m.o.d, .tup (m.br.map prD), optD m.dl, optD m.wl], .tup [.tup [.int 5, .str "up", .int 0], m.o.d, .tup (m.br.map prD), optD m.dl, optD m.wl],
  .tup [m.i.d, m.o.d, .tup [.tup [.int 0, .int 1]], optD m.dl, optD m.wl], .tup [m.i.d, m.o.d, .tup (m.br.map prD), .int 97, .non]]
theorem mem5 : memD (.int 5) [.int 1, .int 2, .int 3, .int 4, .int 6, .int 8, .int 12] = some false := by decide +kernel
theorem isr_5 (k : Nat) : semK glob gvG 100 (k + 2) 1 [.dat (.tup [.int 5, .str "up", .int 0])] = .ok (.dat (.bl false)) none := by
  have e1 := from_ok k 5 1 12
  rw [show decide ((1 : Int) ≤ 5 ∧ (5 : Int) ≤ 12) = true by decide] at e1
  have h3 := mem5
  rw [semK_eq g_is_rounding_of]
  simp [ev_var, ev_cst, ev_glb, ev_fnv, ev_tup, ev_lst, ev_lmul, ev_dic_false, ev_dic_true, ev_dic1, ev_bin, ev_neg, ev_cmp, ev_chain, ev_and, ev_or, ev_not, ev_ite, ev_idx, ev_slc, ev_rev, ev_call, ev_callv, ev_bi, ev_inst, ev_get, ev_lrng, ev_dcp, ev_dprs, ev_lc, ev_lc2, ev_lc3, ev_tri, evT_and, evT_or, evT_not, evT_var, evT_cst, evT_glb, evT_fnv, evT_tup, evT_lst, evT_lmul, evT_dic, evT_dic1, evT_bin, evT_neg, evT_cmp, evT_chain, evT_ite, evT_idx, evT_slc, evT_rev, evT_call, evT_callv, evT_bi, evT_inst, evT_get, evT_lrng, evT_dcp, evT_dprs, evT_lc, evT_lc2, evT_lc3, evT_tri, opd_var, opd_cst, opd_glb, opd_fnv, opd_tup, opd_lst, opd_lmul, opd_dic, opd_dic1, opd_bin, opd_neg, opd_cmp, opd_chain, opd_and, opd_or, opd_not, opd_ite, opd_idx, opd_slc, opd_rev, opd_call, opd_callv, opd_bi, opd_inst, opd_get, opd_lrng, opd_dcp, opd_dprs, opd_lc, opd_lc2, opd_lc3, opd_tri, exS_set, exS_unp, exS_par, exS_parO, exS_store, exS_app, exS_expr, exS_ifs, exS_for_, exS_whil, exS_ret, exS_retv, exS_retN, exS_raise, exS_brk, exS_cont, exS_pass, exS_never, exSs_nil, exSs_cons, part_none, part_some, evIt, opds, vals, op2, cont, conts, Res.bind, Res.bindN, Res.sb, SRes.sq, lift, cmpP, binP, idxP, callP, finF, endF, backOf, isLent, SV.d, SV.lent, callR, lentOf, sharedSl, shLst, freezeSl, putBack, D.flat, tru, unpS, asg_tup, asg_ktup, asg_lst, asgs_cons, asgs_nil, setS_eq, asg_nm, free_none, free_dat, free_own, D.seq?, Z24, hasSlot, hasLst, modS, putAt, pushAt, retvS, lcFin, testO, DL.isP, keepO, List.replicate, F_is_rounding_of, instP, e1, g_steps, inP, h3]
theorem isb_01 (k : Nat) : semK glob gvG 100 (k + 2) 2 [.dat (.tup [.tup [.int 0, .int 1]])] = .ok (.dat (.bl false)) none := by
  have e1 := from_ok k 0 1 96
  rw [show decide ((1 : Int) ≤ 0 ∧ (0 : Int) ≤ 96) = false by decide] at e1
  rw [semK_eq g_are_breaks_of]
  simp [ev_var, ev_cst, ev_glb, ev_fnv, ev_tup, ev_lst, ev_lmul, ev_dic_false, ev_dic_true, ev_dic1, ev_bin, ev_neg, ev_cmp, ev_chain, ev_and, ev_or, ev_not, ev_ite, ev_idx, ev_slc, ev_rev, ev_call, ev_callv, ev_bi, ev_inst, ev_get, ev_lrng, ev_dcp, ev_dprs, ev_lc, ev_lc2, ev_lc3, ev_tri, evT_and, evT_or, evT_not, evT_var, evT_cst, evT_glb, evT_fnv, evT_tup, evT_lst, evT_lmul, evT_dic, evT_dic1, evT_bin, evT_neg, evT_cmp, evT_chain, evT_ite, evT_idx, evT_slc, evT_rev, evT_call, evT_callv, evT_bi, evT_inst, evT_get, evT_lrng, evT_dcp, evT_dprs, evT_lc, evT_lc2, evT_lc3, evT_tri, opd_var, opd_cst, opd_glb, opd_fnv, opd_tup, opd_lst, opd_lmul, opd_dic, opd_dic1, opd_bin, opd_neg, opd_cmp, opd_chain, opd_and, opd_or, opd_not, opd_ite, opd_idx, opd_slc, opd_rev, opd_call, opd_callv, opd_bi, opd_inst, opd_get, opd_lrng, opd_dcp, opd_dprs, opd_lc, opd_lc2, opd_lc3, opd_tri, exS_set, exS_unp, exS_par, exS_parO, exS_store, exS_app, exS_expr, exS_ifs, exS_for_, exS_whil, exS_ret, exS_retv, exS_retN, exS_raise, exS_brk, exS_cont, exS_pass, exS_never, exSs_nil, exSs_cons, part_none, part_some, evIt, opds, vals, op2, cont, conts, Res.bind, Res.bindN, Res.sb, SRes.sq, lift, cmpP, binP, idxP, callP, finF, endF, backOf, isLent, SV.d, SV.lent, callR, lentOf, sharedSl, shLst, freezeSl, putBack, D.flat, tru, unpS, asg_tup, asg_ktup, asg_lst, asgs_cons, asgs_nil, setS_eq, asg_nm, free_none, free_dat, free_own, D.seq?, Z24, hasSlot, hasLst, modS, putAt, pushAt, retvS, lcFin, testO, DL.isP, keepO, List.replicate, F_are_breaks_of, instP, forGo, at20, e1, g_last]
theorem ism_odd (k : Nat) {m : Mn} (h : m.ok) {o : D} (ho : o ∈ oddM m) : semK glob gvG 100 (k + 3) 3 [.dat o] = .ok (.dat (.bl false)) none := by
  have e1 := isr_ok k h.i
  have e2 := isr_ok k h.o
  have e3 := isb_ok k h.br
  have e4 := isr_5 k
  have e5 := isb_01 k
  have e6 := from_ok (k + 1) 97 1 96
  rw [show decide ((1 : Int) ≤ 97 ∧ (97 : Int) ≤ 96) = false by decide] at e6
  rw [semK_eq g_is_manner_of]
  simp only [oddM, List.mem_cons, List.not_mem_nil, or_false] at ho
  rcases ho with rfl | rfl | rfl | rfl | rfl | rfl
  · simp [ev_var, ev_cst, ev_glb, ev_fnv, ev_tup, ev_lst, ev_lmul, ev_dic_false, ev_dic_true, ev_dic1, ev_bin, ev_neg, ev_cmp, ev_chain, ev_and, ev_or, ev_not, ev_ite, ev_idx, ev_slc, ev_rev, ev_call, ev_callv, ev_bi, ev_inst, ev_get, ev_lrng, ev_dcp, ev_dprs, ev_lc, ev_lc2, ev_lc3, ev_tri, evT_and, evT_or, evT_not, evT_var, evT_cst, evT_glb, evT_fnv, evT_tup, evT_lst, evT_lmul, evT_dic, evT_dic1, evT_bin, evT_neg, evT_cmp, evT_chain, evT_ite, evT_idx, evT_slc, evT_rev, evT_call, evT_callv, evT_bi, evT_inst, evT_get, evT_lrng, evT_dcp, evT_dprs, evT_lc, evT_lc2, evT_lc3, evT_tri, opd_var, opd_cst, opd_glb, opd_fnv, opd_tup, opd_lst, opd_lmul, opd_dic, opd_dic1, opd_bin, opd_neg, opd_cmp, opd_chain, opd_and, opd_or, opd_not, opd_ite, opd_idx, opd_slc, opd_rev, opd_call, opd_callv, opd_bi, opd_inst, opd_get, opd_lrng, opd_dcp, opd_dprs, opd_lc, opd_lc2, opd_lc3, opd_tri, exS_set, exS_unp, exS_par, exS_parO, exS_store, exS_app, exS_expr, exS_ifs, exS_for_, exS_whil, exS_ret, exS_retv, exS_retN, exS_raise, exS_brk, exS_cont, exS_pass, exS_never, exSs_nil, exSs_cons, part_none, part_some, evIt, opds, vals, op2, cont, conts, Res.bind, Res.bindN, Res.sb, SRes.sq, lift, cmpP, binP, idxP, callP, finF, endF, backOf, isLent, SV.d, SV.lent, callR, lentOf, sharedSl, shLst, freezeSl, putBack, D.flat, tru, unpS, asg_tup, asg_ktup, asg_lst, asgs_cons, asgs_nil, setS_eq, asg_nm, free_none, free_dat, free_own, D.seq?, Z24, hasSlot, hasLst, modS, putAt, pushAt, retvS, lcFin, testO, DL.isP, keepO, List.replicate, F_is_manner_of, instP]
  · simp [ev_var, ev_cst, ev_glb, ev_fnv, ev_tup, ev_lst, ev_lmul, ev_dic_false, ev_dic_true, ev_dic1, ev_bin, ev_neg, ev_cmp, ev_chain, ev_and, ev_or, ev_not, ev_ite, ev_idx, ev_slc, ev_rev, ev_call, ev_callv, ev_bi, ev_inst, ev_get, ev_lrng, ev_dcp, ev_dprs, ev_lc, ev_lc2, ev_lc3, ev_tri, evT_and, evT_or, evT_not, evT_var, evT_cst, evT_glb, evT_fnv, evT_tup, evT_lst, evT_lmul, evT_dic, evT_dic1, evT_bin, evT_neg, evT_cmp, evT_chain, evT_ite, evT_idx, evT_slc, evT_rev, evT_call, evT_callv, evT_bi, evT_inst, evT_get, evT_lrng, evT_dcp, evT_dprs, evT_lc, evT_lc2, evT_lc3, evT_tri, opd_var, opd_cst, opd_glb, opd_fnv, opd_tup, opd_lst, opd_lmul, opd_dic, opd_dic1, opd_bin, opd_neg, opd_cmp, opd_chain, opd_and, opd_or, opd_not, opd_ite, opd_idx, opd_slc, opd_rev, opd_call, opd_callv, opd_bi, opd_inst, opd_get, opd_lrng, opd_dcp, opd_dprs, opd_lc, opd_lc2, opd_lc3, opd_tri, exS_set, exS_unp, exS_par, exS_parO, exS_store, exS_app, exS_expr, exS_ifs, exS_for_, exS_whil, exS_ret, exS_retv, exS_retN, exS_raise, exS_brk, exS_cont, exS_pass, exS_never, exSs_nil, exSs_cons, part_none, part_some, evIt, opds, vals, op2, cont, conts, Res.bind, Res.bindN, Res.sb, SRes.sq, lift, cmpP, binP, idxP, callP, finF, endF, backOf, isLent, SV.d, SV.lent, callR, lentOf, sharedSl, shLst, freezeSl, putBack, D.flat, tru, unpS, asg_tup, asg_ktup, asg_lst, asgs_cons, asgs_nil, setS_eq, asg_nm, free_none, free_dat, free_own, D.seq?, Z24, hasSlot, hasLst, modS, putAt, pushAt, retvS, lcFin, testO, DL.isP, keepO, List.replicate, F_is_manner_of, instP]
  · simp [ev_var, ev_cst, ev_glb, ev_fnv, ev_tup, ev_lst, ev_lmul, ev_dic_false, ev_dic_true, ev_dic1, ev_bin, ev_neg, ev_cmp, ev_chain, ev_and, ev_or, ev_not, ev_ite, ev_idx, ev_slc, ev_rev, ev_call, ev_callv, ev_bi, ev_inst, ev_get, ev_lrng, ev_dcp, ev_dprs, ev_lc, ev_lc2, ev_lc3, ev_tri, evT_and, evT_or, evT_not, evT_var, evT_cst, evT_glb, evT_fnv, evT_tup, evT_lst, evT_lmul, evT_dic, evT_dic1, evT_bin, evT_neg, evT_cmp, evT_chain, evT_ite, evT_idx, evT_slc, evT_rev, evT_call, evT_callv, evT_bi, evT_inst, evT_get, evT_lrng, evT_dcp, evT_dprs, evT_lc, evT_lc2, evT_lc3, evT_tri, opd_var, opd_cst, opd_glb, opd_fnv, opd_tup, opd_lst, opd_lmul, opd_dic, opd_dic1, opd_bin, opd_neg, opd_cmp, opd_chain, opd_and, opd_or, opd_not, opd_ite, opd_idx, opd_slc, opd_rev, opd_call, opd_callv, opd_bi, opd_inst, opd_get, opd_lrng, opd_dcp, opd_dprs, opd_lc, opd_lc2, opd_lc3, opd_tri, exS_set, exS_unp, exS_par, exS_parO, exS_store, exS_app, exS_expr, exS_ifs, exS_for_, exS_whil, exS_ret, exS_retv, exS_retN, exS_raise, exS_brk, exS_cont, exS_pass, exS_never, exSs_nil, exSs_cons, part_none, part_some, evIt, opds, vals, op2, cont, conts, Res.bind, Res.bindN, Res.sb, SRes.sq, lift, cmpP, binP, idxP, callP, finF, endF, backOf, isLent, SV.d, SV.lent, callR, lentOf, sharedSl, shLst, freezeSl, putBack, D.flat, tru, unpS, asg_tup, asg_ktup, asg_lst, asgs_cons, asgs_nil, setS_eq, asg_nm, free_none, free_dat, free_own, D.seq?, Z24, hasSlot, hasLst, modS, putAt, pushAt, retvS, lcFin, testO, DL.isP, keepO, List.replicate, F_is_manner_of, instP]
  · simp [ev_var, ev_cst, ev_glb, ev_fnv, ev_tup, ev_lst, ev_lmul, ev_dic_false, ev_dic_true, ev_dic1, ev_bin, ev_neg, ev_cmp, ev_chain, ev_and, ev_or, ev_not, ev_ite, ev_idx, ev_slc, ev_rev, ev_call, ev_callv, ev_bi, ev_inst, ev_get, ev_lrng, ev_dcp, ev_dprs, ev_lc, ev_lc2, ev_lc3, ev_tri, evT_and, evT_or, evT_not, evT_var, evT_cst, evT_glb, evT_fnv, evT_tup, evT_lst, evT_lmul, evT_dic, evT_dic1, evT_bin, evT_neg, evT_cmp, evT_chain, evT_ite, evT_idx, evT_slc, evT_rev, evT_call, evT_callv, evT_bi, evT_inst, evT_get, evT_lrng, evT_dcp, evT_dprs, evT_lc, evT_lc2, evT_lc3, evT_tri, opd_var, opd_cst, opd_glb, opd_fnv, opd_tup, opd_lst, opd_lmul, opd_dic, opd_dic1, opd_bin, opd_neg, opd_cmp, opd_chain, opd_and, opd_or, opd_not, opd_ite, opd_idx, opd_slc, opd_rev, opd_call, opd_callv, opd_bi, opd_inst, opd_get, opd_lrng, opd_dcp, opd_dprs, opd_lc, opd_lc2, opd_lc3, opd_tri, exS_set, exS_unp, exS_par, exS_parO, exS_store, exS_app, exS_expr, exS_ifs, exS_for_, exS_whil, exS_ret, exS_retv, exS_retN, exS_raise, exS_brk, exS_cont, exS_pass, exS_never, exSs_nil, exSs_cons, part_none, part_some, evIt, opds, vals, op2, cont, conts, Res.bind, Res.bindN, Res.sb, SRes.sq, lift, cmpP, binP, idxP, callP, finF, endF, backOf, isLent, SV.d, SV.lent, callR, lentOf, sharedSl, shLst, freezeSl, putBack, D.flat, tru, unpS, asg_tup, asg_ktup, asg_lst, asgs_cons, asgs_nil, setS_eq, asg_nm, free_none, free_dat, free_own, D.seq?, Z24, hasSlot, hasLst, modS, putAt, pushAt, retvS, lcFin, testO, DL.isP, keepO, List.replicate, F_is_manner_of, instP, e4]
  · simp [ev_var, ev_cst, ev_glb, ev_fnv, ev_tup, ev_lst, ev_lmul, ev_dic_false, ev_dic_true, ev_dic1, ev_bin, ev_neg, ev_cmp, ev_chain, ev_and, ev_or, ev_not, ev_ite, ev_idx, ev_slc, ev_rev, ev_call, ev_callv, ev_bi, ev_inst, ev_get, ev_lrng, ev_dcp, ev_dprs, ev_lc, ev_lc2, ev_lc3, ev_tri, evT_and, evT_or, evT_not, evT_var, evT_cst, evT_glb, evT_fnv, evT_tup, evT_lst, evT_lmul, evT_dic, evT_dic1, evT_bin, evT_neg, evT_cmp, evT_chain, evT_ite, evT_idx, evT_slc, evT_rev, evT_call, evT_callv, evT_bi, evT_inst, evT_get, evT_lrng, evT_dcp, evT_dprs, evT_lc, evT_lc2, evT_lc3, evT_tri, opd_var, opd_cst, opd_glb, opd_fnv, opd_tup, opd_lst, opd_lmul, opd_dic, opd_dic1, opd_bin, opd_neg, opd_cmp, opd_chain, opd_and, opd_or, opd_not, opd_ite, opd_idx, opd_slc, opd_rev, opd_call, opd_callv, opd_bi, opd_inst, opd_get, opd_lrng, opd_dcp, opd_dprs, opd_lc, opd_lc2, opd_lc3, opd_tri, exS_set, exS_unp, exS_par, exS_parO, exS_store, exS_app, exS_expr, exS_ifs, exS_for_, exS_whil, exS_ret, exS_retv, exS_retN, exS_raise, exS_brk, exS_cont, exS_pass, exS_never, exSs_nil, exSs_cons, part_none, part_some, evIt, opds, vals, op2, cont, conts, Res.bind, Res.bindN, Res.sb, SRes.sq, lift, cmpP, binP, idxP, callP, finF, endF, backOf, isLent, SV.d, SV.lent, callR, lentOf, sharedSl, shLst, freezeSl, putBack, D.flat, tru, unpS, asg_tup, asg_ktup, asg_lst, asgs_cons, asgs_nil, setS_eq, asg_nm, free_none, free_dat, free_own, D.seq?, Z24, hasSlot, hasLst, modS, putAt, pushAt, retvS, lcFin, testO, DL.isP, keepO, List.replicate, F_is_manner_of, instP, e1, e2, e5]
  · simp [ev_var, ev_cst, ev_glb, ev_fnv, ev_tup, ev_lst, ev_lmul, ev_dic_false, ev_dic_true, ev_dic1, ev_bin, ev_neg, ev_cmp, ev_chain, ev_and, ev_or, ev_not, ev_ite, ev_idx, ev_slc, ev_rev, ev_call, ev_callv, ev_bi, ev_inst, ev_get, ev_lrng, ev_dcp, ev_dprs, ev_lc, ev_lc2, ev_lc3, ev_tri, evT_and, evT_or, evT_not, evT_var, evT_cst, evT_glb, evT_fnv, evT_tup, evT_lst, evT_lmul, evT_dic, evT_dic1, evT_bin, evT_neg, evT_cmp, evT_chain, evT_ite, evT_idx, evT_slc, evT_rev, evT_call, evT_callv, evT_bi, evT_inst, evT_get, evT_lrng, evT_dcp, evT_dprs, evT_lc, evT_lc2, evT_lc3, evT_tri, opd_var, opd_cst, opd_glb, opd_fnv, opd_tup, opd_lst, opd_lmul, opd_dic, opd_dic1, opd_bin, opd_neg, opd_cmp, opd_chain, opd_and, opd_or, opd_not, opd_ite, opd_idx, opd_slc, opd_rev, opd_call, opd_callv, opd_bi, opd_inst, opd_get, opd_lrng, opd_dcp, opd_dprs, opd_lc, opd_lc2, opd_lc3, opd_tri, exS_set, exS_unp, exS_par, exS_parO, exS_store, exS_app, exS_expr, exS_ifs, exS_for_, exS_whil, exS_ret, exS_retv, exS_retN, exS_raise, exS_brk, exS_cont, exS_pass, exS_never, exSs_nil, exSs_cons, part_none, part_some, evIt, opds, vals, op2, cont, conts, Res.bind, Res.bindN, Res.sb, SRes.sq, lift, cmpP, binP, idxP, callP, finF, endF, backOf, isLent, SV.d, SV.lent, callR, lentOf, sharedSl, shLst, freezeSl, putBack, D.flat, tru, unpS, asg_tup, asg_ktup, asg_lst, asgs_cons, asgs_nil, setS_eq, asg_nm, free_none, free_dat, free_own, D.seq?, Z24, hasSlot, hasLst, modS, putAt, pushAt, retvS, lcFin, testO, DL.isP, keepO, List.replicate, F_is_manner_of, instP, e1, e2, e3, e6, g_last]
theorem needm_odd (k : Nat) {m : Mn} (h : m.ok) {o : D} (ho : o ∈ oddM m) : semK glob gvG 100 (k + 4) 16 [.dat o] = .exc ⟨0, none⟩ none := by
  have e1 := ism_odd k h ho
  rw [semK_eq g_need_manner]
  simp [ev_var, ev_cst, ev_glb, ev_fnv, ev_tup, ev_lst, ev_lmul, ev_dic_false, ev_dic_true, ev_dic1, ev_bin, ev_neg, ev_cmp, ev_chain, ev_and, ev_or, ev_not, ev_ite, ev_idx, ev_slc, ev_rev, ev_call, ev_callv, ev_bi, ev_inst, ev_get, ev_lrng, ev_dcp, ev_dprs, ev_lc, ev_lc2, ev_lc3, ev_tri, evT_and, evT_or, evT_not, evT_var, evT_cst, evT_glb, evT_fnv, evT_tup, evT_lst, evT_lmul, evT_dic, evT_dic1, evT_bin, evT_neg, evT_cmp, evT_chain, evT_ite, evT_idx, evT_slc, evT_rev, evT_call, evT_callv, evT_bi, evT_inst, evT_get, evT_lrng, evT_dcp, evT_dprs, evT_lc, evT_lc2, evT_lc3, evT_tri, opd_var, opd_cst, opd_glb, opd_fnv, opd_tup, opd_lst, opd_lmul, opd_dic, opd_dic1, opd_bin, opd_neg, opd_cmp, opd_chain, opd_and, opd_or, opd_not, opd_ite, opd_idx, opd_slc, opd_rev, opd_call, opd_callv, opd_bi, opd_inst, opd_get, opd_lrng, opd_dcp, opd_dprs, opd_lc, opd_lc2, opd_lc3, opd_tri, exS_set, exS_unp, exS_par, exS_parO, exS_store, exS_app, exS_expr, exS_ifs, exS_for_, exS_whil, exS_ret, exS_retv, exS_retN, exS_raise, exS_brk, exS_cont, exS_pass, exS_never, exSs_nil, exSs_cons, part_none, part_some, evIt, opds, vals, op2, cont, conts, Res.bind, Res.bindN, Res.sb, SRes.sq, lift, cmpP, binP, idxP, callP, finF, endF, backOf, isLent, SV.d, SV.lent, callR, lentOf, sharedSl, shLst, freezeSl, putBack, D.flat, tru, unpS, asg_tup, asg_ktup, asg_lst, asgs_cons, asgs_nil, setS_eq, asg_nm, free_none, free_dat, free_own, D.seq?, Z24, hasSlot, hasLst, modS, putAt, pushAt, retvS, lcFin, testO, DL.isP, keepO, List.replicate, F_need_manner, e1]
/-- what is raised in the first line -/
theorem first_exc {k j : Nat} {fd : Fd} {o : D} {more : List SV} {rest : List DL.S} {x : Exn} (h : glob j = some fd) (hb : fd.body = .expr (.call 16 [.var 0]) :: rest) (hn : (SV.dat o :: more).length = fd.np) (hl : fd.lend = false) (e : semK glob gvG 100 k 16 [.dat o] = .exc x none) :
    semK glob gvG 100 (k + 1) j (.dat o :: more) = .exc x none := by
  rw [semK_eq h, if_pos ⟨hn, by rw [hl]; rfl⟩, hb, hl]
  have s : ∀ r : Env', exS (cfk k) 99 (.expr (.call 16 [.var 0])) (some (.dat o) :: r) = .exc x (some (.dat o) :: r) := fun r => by
    have e' : (cfk k).run 16 [.dat o] = .exc x none := by rw [cfk_run]; exact e
    have g : (cfk k).lend 16 = false := rfl
    clear hb hn hl h e
    generalize cfk k = cf at *
    simp [ev_var, ev_cst, ev_glb, ev_fnv, ev_tup, ev_lst, ev_lmul, ev_dic_false, ev_dic_true, ev_dic1, ev_bin, ev_neg, ev_cmp, ev_chain, ev_and, ev_or, ev_not, ev_ite, ev_idx, ev_slc, ev_rev, ev_call, ev_callv, ev_bi, ev_inst, ev_get, ev_lrng, ev_dcp, ev_dprs, ev_lc, ev_lc2, ev_lc3, ev_tri, evT_and, evT_or, evT_not, evT_var, evT_cst, evT_glb, evT_fnv, evT_tup, evT_lst, evT_lmul, evT_dic, evT_dic1, evT_bin, evT_neg, evT_cmp, evT_chain, evT_ite, evT_idx, evT_slc, evT_rev, evT_call, evT_callv, evT_bi, evT_inst, evT_get, evT_lrng, evT_dcp, evT_dprs, evT_lc, evT_lc2, evT_lc3, evT_tri, opd_var, opd_cst, opd_glb, opd_fnv, opd_tup, opd_lst, opd_lmul, opd_dic, opd_dic1, opd_bin, opd_neg, opd_cmp, opd_chain, opd_and, opd_or, opd_not, opd_ite, opd_idx, opd_slc, opd_rev, opd_call, opd_callv, opd_bi, opd_inst, opd_get, opd_lrng, opd_dcp, opd_dprs, opd_lc, opd_lc2, opd_lc3, opd_tri, exS_set, exS_unp, exS_par, exS_parO, exS_store, exS_app, exS_expr, exS_ifs, exS_for_, exS_whil, exS_ret, exS_retv, exS_retN, exS_raise, exS_brk, exS_cont, exS_pass, exS_never, exSs_nil, exSs_cons, part_none, part_some, evIt, opds, vals, op2, cont, conts, Res.bind, Res.bindN, Res.sb, SRes.sq, lift, cmpP, binP, idxP, callP, finF, endF, backOf, isLent, SV.d, SV.lent, callR, lentOf, sharedSl, shLst, freezeSl, putBack, D.flat, tru, unpS, asg_tup, asg_ktup, asg_lst, asgs_cons, asgs_nil, setS_eq, asg_nm, free_none, free_dat, free_own, D.seq?, Z24, hasSlot, hasLst, modS, putAt, pushAt, retvS, lcFin, testO, DL.isP, keepO, List.replicate, e', g]
  rw [exSs_cons]
  show finF false ((exS (cfk k) 99 (.expr (.call 16 [.var 0])) (some (.dat o) :: _)).sq _) = _
  rw [s]
  rfl
theorem neednum_non (k : Nat) (lo hi : Int) : semK glob gvG 100 (k + 2) 72 [.dat .non, .dat (.int lo), .dat (.int hi)] = .exc ⟨4, none⟩ none := by
  have e : semK glob gvG 100 (k + 1) 0 [.dat .non, .dat (.int lo), .dat (.int hi)] = .ok (.dat (.bl false)) none := by
    rw [semK_eq g_is_from]
    simp [ev_var, ev_cst, ev_glb, ev_fnv, ev_tup, ev_lst, ev_lmul, ev_dic_false, ev_dic_true, ev_dic1, ev_bin, ev_neg, ev_cmp, ev_chain, ev_and, ev_or, ev_not, ev_ite, ev_idx, ev_slc, ev_rev, ev_call, ev_callv, ev_bi, ev_inst, ev_get, ev_lrng, ev_dcp, ev_dprs, ev_lc, ev_lc2, ev_lc3, ev_tri, evT_and, evT_or, evT_not, evT_var, evT_cst, evT_glb, evT_fnv, evT_tup, evT_lst, evT_lmul, evT_dic, evT_dic1, evT_bin, evT_neg, evT_cmp, evT_chain, evT_ite, evT_idx, evT_slc, evT_rev, evT_call, evT_callv, evT_bi, evT_inst, evT_get, evT_lrng, evT_dcp, evT_dprs, evT_lc, evT_lc2, evT_lc3, evT_tri, opd_var, opd_cst, opd_glb, opd_fnv, opd_tup, opd_lst, opd_lmul, opd_dic, opd_dic1, opd_bin, opd_neg, opd_cmp, opd_chain, opd_and, opd_or, opd_not, opd_ite, opd_idx, opd_slc, opd_rev, opd_call, opd_callv, opd_bi, opd_inst, opd_get, opd_lrng, opd_dcp, opd_dprs, opd_lc, opd_lc2, opd_lc3, opd_tri, exS_set, exS_unp, exS_par, exS_parO, exS_store, exS_app, exS_expr, exS_ifs, exS_for_, exS_whil, exS_ret, exS_retv, exS_retN, exS_raise, exS_brk, exS_cont, exS_pass, exS_never, exSs_nil, exSs_cons, part_none, part_some, evIt, opds, vals, op2, cont, conts, Res.bind, Res.bindN, Res.sb, SRes.sq, lift, cmpP, binP, idxP, callP, finF, endF, backOf, isLent, SV.d, SV.lent, callR, lentOf, sharedSl, shLst, freezeSl, putBack, D.flat, tru, unpS, asg_tup, asg_ktup, asg_lst, asgs_cons, asgs_nil, setS_eq, asg_nm, free_none, free_dat, free_own, D.seq?, Z24, hasSlot, hasLst, modS, putAt, pushAt, retvS, lcFin, testO, DL.isP, keepO, List.replicate, F_is_from, instP]
  rw [semK_eq g_need_number]
  simp [ev_var, ev_cst, ev_glb, ev_fnv, ev_tup, ev_lst, ev_lmul, ev_dic_false, ev_dic_true, ev_dic1, ev_bin, ev_neg, ev_cmp, ev_chain, ev_and, ev_or, ev_not, ev_ite, ev_idx, ev_slc, ev_rev, ev_call, ev_callv, ev_bi, ev_inst, ev_get, ev_lrng, ev_dcp, ev_dprs, ev_lc, ev_lc2, ev_lc3, ev_tri, evT_and, evT_or, evT_not, evT_var, evT_cst, evT_glb, evT_fnv, evT_tup, evT_lst, evT_lmul, evT_dic, evT_dic1, evT_bin, evT_neg, evT_cmp, evT_chain, evT_ite, evT_idx, evT_slc, evT_rev, evT_call, evT_callv, evT_bi, evT_inst, evT_get, evT_lrng, evT_dcp, evT_dprs, evT_lc, evT_lc2, evT_lc3, evT_tri, opd_var, opd_cst, opd_glb, opd_fnv, opd_tup, opd_lst, opd_lmul, opd_dic, opd_dic1, opd_bin, opd_neg, opd_cmp, opd_chain, opd_and, opd_or, opd_not, opd_ite, opd_idx, opd_slc, opd_rev, opd_call, opd_callv, opd_bi, opd_inst, opd_get, opd_lrng, opd_dcp, opd_dprs, opd_lc, opd_lc2, opd_lc3, opd_tri, exS_set, exS_unp, exS_par, exS_parO, exS_store, exS_app, exS_expr, exS_ifs, exS_for_, exS_whil, exS_ret, exS_retv, exS_retN, exS_raise, exS_brk, exS_cont, exS_pass, exS_never, exSs_nil, exSs_cons, part_none, part_some, evIt, opds, vals, op2, cont, conts, Res.bind, Res.bindN, Res.sb, SRes.sq, lift, cmpP, binP, idxP, callP, finF, endF, backOf, isLent, SV.d, SV.lent, callR, lentOf, sharedSl, shLst, freezeSl, putBack, D.flat, tru, unpS, asg_tup, asg_ktup, asg_lst, asgs_cons, asgs_nil, setS_eq, asg_nm, free_none, free_dat, free_own, D.seq?, Z24, hasSlot, hasLst, modS, putAt, pushAt, retvS, lcFin, testO, DL.isP, keepO, List.replicate, F_need_number, e]
/-- .. in the second: need_number(None, 1, MOST) -/
theorem second_exc {k j g : Nat} {fd : Fd} {m : Mn} {rest : List DL.S} {hi : Int} (hm : m.ok) (h : glob j = some fd) (hb : fd.body = .expr (.call 16 [.var 0]) :: .expr (.call 72 [.var 1, .cst (.int 1), .glb g]) :: rest) (hn : 2 = fd.np) (hl : fd.lend = false) (hg : gvG g = some (.int hi)) :
    semK glob gvG 100 (k + 5) j [.dat m.d, .dat .non] = .exc ⟨4, none⟩ none := by
  rw [semK_eq h, if_pos ⟨hn, by rw [hl]; rfl⟩, hb, hl]
  have e1 : (cfk (k + 4)).run 16 [.dat m.d] = .ok (.dat .non) none := by rw [cfk_run]; exact needm_ok k hm
  have e2 : (cfk (k + 4)).run 72 [.dat .non, .dat (.int 1), .dat (.int hi)] = .exc ⟨4, none⟩ none := by rw [cfk_run]; exact neednum_non (k + 2) 1 hi
  have g1 : (cfk (k + 4)).lend 16 = false := rfl
  have g2 : (cfk (k + 4)).lend 72 = false := rfl
  have g3 : (cfk (k + 4)).gv g = some (.int hi) := hg
  clear hb hn hl h hg
  generalize cfk (k + 4) = cf at *
  generalize m.d = md at *
  have s1 : ∀ r : Env', exS cf 99 (.expr (.call 16 [.var 0])) (some (.dat md) :: r) = .nx (some (.dat md) :: r) := fun r => by simp [ev_var, ev_cst, ev_glb, ev_fnv, ev_tup, ev_lst, ev_lmul, ev_dic_false, ev_dic_true, ev_dic1, ev_bin, ev_neg, ev_cmp, ev_chain, ev_and, ev_or, ev_not, ev_ite, ev_idx, ev_slc, ev_rev, ev_call, ev_callv, ev_bi, ev_inst, ev_get, ev_lrng, ev_dcp, ev_dprs, ev_lc, ev_lc2, ev_lc3, ev_tri, evT_and, evT_or, evT_not, evT_var, evT_cst, evT_glb, evT_fnv, evT_tup, evT_lst, evT_lmul, evT_dic, evT_dic1, evT_bin, evT_neg, evT_cmp, evT_chain, evT_ite, evT_idx, evT_slc, evT_rev, evT_call, evT_callv, evT_bi, evT_inst, evT_get, evT_lrng, evT_dcp, evT_dprs, evT_lc, evT_lc2, evT_lc3, evT_tri, opd_var, opd_cst, opd_glb, opd_fnv, opd_tup, opd_lst, opd_lmul, opd_dic, opd_dic1, opd_bin, opd_neg, opd_cmp, opd_chain, opd_and, opd_or, opd_not, opd_ite, opd_idx, opd_slc, opd_rev, opd_call, opd_callv, opd_bi, opd_inst, opd_get, opd_lrng, opd_dcp, opd_dprs, opd_lc, opd_lc2, opd_lc3, opd_tri, exS_set, exS_unp, exS_par, exS_parO, exS_store, exS_app, exS_expr, exS_ifs, exS_for_, exS_whil, exS_ret, exS_retv, exS_retN, exS_raise, exS_brk, exS_cont, exS_pass, exS_never, exSs_nil, exSs_cons, part_none, part_some, evIt, opds, vals, op2, cont, conts, Res.bind, Res.bindN, Res.sb, SRes.sq, lift, cmpP, binP, idxP, callP, finF, endF, backOf, isLent, SV.d, SV.lent, callR, lentOf, sharedSl, shLst, freezeSl, putBack, D.flat, tru, unpS, asg_tup, asg_ktup, asg_lst, asgs_cons, asgs_nil, setS_eq, asg_nm, free_none, free_dat, free_own, D.seq?, Z24, hasSlot, hasLst, modS, putAt, pushAt, retvS, lcFin, testO, DL.isP, keepO, List.replicate, e1, g1]
  have s2 : ∀ r : Env', exS cf 98 (.expr (.call 72 [.var 1, .cst (.int 1), .glb g])) (some (.dat md) :: some (.dat .non) :: r) = .exc ⟨4, none⟩ (some (.dat md) :: some (.dat .non) :: r) := fun r => by simp [ev_var, ev_cst, ev_glb, ev_fnv, ev_tup, ev_lst, ev_lmul, ev_dic_false, ev_dic_true, ev_dic1, ev_bin, ev_neg, ev_cmp, ev_chain, ev_and, ev_or, ev_not, ev_ite, ev_idx, ev_slc, ev_rev, ev_call, ev_callv, ev_bi, ev_inst, ev_get, ev_lrng, ev_dcp, ev_dprs, ev_lc, ev_lc2, ev_lc3, ev_tri, evT_and, evT_or, evT_not, evT_var, evT_cst, evT_glb, evT_fnv, evT_tup, evT_lst, evT_lmul, evT_dic, evT_dic1, evT_bin, evT_neg, evT_cmp, evT_chain, evT_ite, evT_idx, evT_slc, evT_rev, evT_call, evT_callv, evT_bi, evT_inst, evT_get, evT_lrng, evT_dcp, evT_dprs, evT_lc, evT_lc2, evT_lc3, evT_tri, opd_var, opd_cst, opd_glb, opd_fnv, opd_tup, opd_lst, opd_lmul, opd_dic, opd_dic1, opd_bin, opd_neg, opd_cmp, opd_chain, opd_and, opd_or, opd_not, opd_ite, opd_idx, opd_slc, opd_rev, opd_call, opd_callv, opd_bi, opd_inst, opd_get, opd_lrng, opd_dcp, opd_dprs, opd_lc, opd_lc2, opd_lc3, opd_tri, exS_set, exS_unp, exS_par, exS_parO, exS_store, exS_app, exS_expr, exS_ifs, exS_for_, exS_whil, exS_ret, exS_retv, exS_retN, exS_raise, exS_brk, exS_cont, exS_pass, exS_never, exSs_nil, exSs_cons, part_none, part_some, evIt, opds, vals, op2, cont, conts, Res.bind, Res.bindN, Res.sb, SRes.sq, lift, cmpP, binP, idxP, callP, finF, endF, backOf, isLent, SV.d, SV.lent, callR, lentOf, sharedSl, shLst, freezeSl, putBack, D.flat, tru, unpS, asg_tup, asg_ktup, asg_lst, asgs_cons, asgs_nil, setS_eq, asg_nm, free_none, free_dat, free_own, D.seq?, Z24, hasSlot, hasLst, modS, putAt, pushAt, retvS, lcFin, testO, DL.isP, keepO, List.replicate, e2, g2, g3]
  rw [exSs_cons]
  show finF false ((exS cf 99 (.expr (.call 16 [.var 0])) (some (.dat md) :: some (.dat .non) :: _)).sq _) = _
  rw [s1]
  show finF false (exSs cf 99 _ _) = _
  rw [exSs_cons, s2]
  rfl
end DL

namespace DL
open PySem PySem.Spec PyProof.Rows L2
def doorsA : List Nat := [175, 180, 181, 177, 176]
def doorsB : List Nat := [167, 163, 164]
structure Cf25 (cf : Cf) : Prop where
  deck : ∀ x j : Int, 0 ≤ j ∧ j ≤ 100 → ∃ dk, cf.run 5 [.dat (.int x), .dat (.int j)] = .ok (.own dk) none ∧ DeckOk 15 dk
  manner : ∀ dk, DeckOk 15 dk → ∃ (m : Mn) (dk1 : D), cf.run 10 [.bor dk] = .ok (.dat m.d) (some dk1) ∧ m.ok
  da : ∀ (m : Mn) (o : D) (j : Nat), m.ok → o ∈ oddM m → j ∈ doorsA → cf.run j [.dat o] = .exc ⟨0, none⟩ none
  db : ∀ (m : Mn) (o : D) (j : Nat), m.ok → o ∈ oddM m → j ∈ doorsB → cf.run j [.dat o, .dat .non] = .exc ⟨0, none⟩ none
  dn : ∀ (m : Mn) (j : Nat), m.ok → j ∈ doorsB → cf.run j [.dat m.d, .dat .non] = .exc ⟨4, none⟩ none
  la : ∀ j ∈ doorsA, cf.lend j = false
  lb : ∀ j ∈ doorsB, cf.lend j = false
  l5 : cf.lend 5 = false
  l10 : cf.lend 10 = true
theorem cf25 : Cf25 (cfk 39) where
  deck := fun x j hj => by rw [cfk_run]; exact deck' 38 x j 15 (by omega)
  manner := fun dk ok => by
    obtain ⟨m, dk1, e, h, _⟩ := manner_ok 36 0 (dk := dk) (by simpa using ok)
    exact ⟨m, dk1, by rw [cfk_run]; exact e, h⟩
  da := fun m o j h ho hj => by
    rw [cfk_run]
    have e := needm_odd 34 h ho
    simp only [doorsA, List.mem_cons, List.not_mem_nil, or_false] at hj
    rcases hj with rfl | rfl | rfl | rfl | rfl
    · exact first_exc g_fair_outs rfl rfl rfl e
    · exact first_exc g_least_day_limit rfl rfl rfl e
    · exact first_exc g_least_week_limit rfl rfl rfl e
    · exact first_exc g_never_loses rfl rfl rfl e
    · exact first_exc g_never_wins rfl rfl rfl e
  db := fun m o j h ho hj => by
    rw [cfk_run]
    have e := needm_odd 34 h ho
    simp only [doorsB, List.mem_cons, List.not_mem_nil, or_false] at hj
    rcases hj with rfl | rfl | rfl
    · exact first_exc g_least_week rfl rfl rfl e
    · exact first_exc g_most_in_week rfl rfl rfl e
    · exact first_exc g_week_for rfl rfl rfl e
  dn := fun m j h hj => by
    rw [cfk_run]
    simp only [doorsB, List.mem_cons, List.not_mem_nil, or_false] at hj
    rcases hj with rfl | rfl | rfl
    · exact second_exc (k := 34) (hi := 1500) h g_least_week rfl rfl rfl rfl
    · exact second_exc (k := 34) (hi := 480) h g_most_in_week rfl rfl rfl rfl
    · exact second_exc (k := 34) (hi := 480) h g_week_for rfl rfl rfl rfl
  la := fun j hj => by
    simp only [doorsA, List.mem_cons, List.not_mem_nil, or_false] at hj
    rcases hj with rfl | rfl | rfl | rfl | rfl <;> rfl
  lb := fun j hj => by
    simp only [doorsB, List.mem_cons, List.not_mem_nil, or_false] at hj
    rcases hj with rfl | rfl | rfl <;> rfl
  l5 := rfl
  l10 := rfl
section
variable {cf : Cf} {m : Mn} {x0 x1 x2 x3 x4 x5 x6 : Option SV} {rest : Env'}
theorem s0_25 {sc : D} {j : Int} {x : Int} {dk : D} {ds : List D} (hs : sc = .lst ds) (ex : L2.atI (ds ++ (List.replicate 4 [D.int 0]).flatten) j = some (.int x)) (hl : ds.length ≤ 63) (e1 : cf.run 5 [.dat (.int x), .dat (.int j)] = .ok (.own dk) none) (g : cf.lend 5 = false) (nf : ∃ l, dk = .lst l) (h2 : free x2 = true) :
    exS cf 97 (.set 2 (.call 5 [.idx (.bin .Add (.var 0) (.lmul [.cst (.int 0)] (.cst (.int 4)))) (.var 1), .var 1])) (some (.dat sc) :: some (.dat (.int j)) :: x2 :: rest) = .nx (some (.dat sc) :: some (.dat (.int j)) :: some (.own dk) :: rest) := by
  subst hs
  obtain ⟨l, rfl⟩ := nf
  have z : ds.length + 4 ≤ 16777216 := by omega
  simp only [List.replicate, List.flatten_cons, List.flatten_nil, List.cons_append, List.nil_append] at ex
  simp [ev_var, ev_cst, ev_glb, ev_fnv, ev_tup, ev_lst, ev_lmul, ev_dic_false, ev_dic_true, ev_dic1, ev_bin, ev_neg, ev_cmp, ev_chain, ev_and, ev_or, ev_not, ev_ite, ev_idx, ev_slc, ev_rev, ev_call, ev_callv, ev_bi, ev_inst, ev_get, ev_lrng, ev_dcp, ev_dprs, ev_lc, ev_lc2, ev_lc3, ev_tri, evT_and, evT_or, evT_not, evT_var, evT_cst, evT_glb, evT_fnv, evT_tup, evT_lst, evT_lmul, evT_dic, evT_dic1, evT_bin, evT_neg, evT_cmp, evT_chain, evT_ite, evT_idx, evT_slc, evT_rev, evT_call, evT_callv, evT_bi, evT_inst, evT_get, evT_lrng, evT_dcp, evT_dprs, evT_lc, evT_lc2, evT_lc3, evT_tri, opd_var, opd_cst, opd_glb, opd_fnv, opd_tup, opd_lst, opd_lmul, opd_dic, opd_dic1, opd_bin, opd_neg, opd_cmp, opd_chain, opd_and, opd_or, opd_not, opd_ite, opd_idx, opd_slc, opd_rev, opd_call, opd_callv, opd_bi, opd_inst, opd_get, opd_lrng, opd_dcp, opd_dprs, opd_lc, opd_lc2, opd_lc3, opd_tri, exS_set, exS_unp, exS_par, exS_parO, exS_store, exS_app, exS_expr, exS_ifs, exS_for_, exS_whil, exS_ret, exS_retv, exS_retN, exS_raise, exS_brk, exS_cont, exS_pass, exS_never, exSs_nil, exSs_cons, part_none, part_some, evIt, opds, vals, op2, cont, conts, Res.bind, Res.bindN, Res.sb, SRes.sq, lift, cmpP, binP, idxP, callP, finF, endF, backOf, isLent, SV.d, SV.lent, callR, lentOf, sharedSl, shLst, freezeSl, putBack, D.flat, tru, unpS, asg_tup, asg_ktup, asg_lst, asgs_cons, asgs_nil, setS_eq, asg_nm, free_none, free_dat, free_own, D.seq?, Z24, hasSlot, hasLst, modS, putAt, pushAt, retvS, lcFin, testO, DL.isP, keepO, List.replicate, z, ex, e1, g, h2]
theorem s1_25 {dk dk1 : D} (e2 : cf.run 10 [.bor dk] = .ok (.dat m.d) (some dk1)) (g : cf.lend 10 = true) (h3 : free x3 = true) : exS cf 96 (.set 3 (.call 10 [.var 2])) (x0 :: x1 :: some (.own dk) :: x3 :: rest) = .nx (x0 :: x1 :: some (.own dk1) :: some (.dat m.d) :: rest) := by
  simp only [Mn.d] at e2 ⊢
  simp [ev_var, ev_cst, ev_glb, ev_fnv, ev_tup, ev_lst, ev_lmul, ev_dic_false, ev_dic_true, ev_dic1, ev_bin, ev_neg, ev_cmp, ev_chain, ev_and, ev_or, ev_not, ev_ite, ev_idx, ev_slc, ev_rev, ev_call, ev_callv, ev_bi, ev_inst, ev_get, ev_lrng, ev_dcp, ev_dprs, ev_lc, ev_lc2, ev_lc3, ev_tri, evT_and, evT_or, evT_not, evT_var, evT_cst, evT_glb, evT_fnv, evT_tup, evT_lst, evT_lmul, evT_dic, evT_dic1, evT_bin, evT_neg, evT_cmp, evT_chain, evT_ite, evT_idx, evT_slc, evT_rev, evT_call, evT_callv, evT_bi, evT_inst, evT_get, evT_lrng, evT_dcp, evT_dprs, evT_lc, evT_lc2, evT_lc3, evT_tri, opd_var, opd_cst, opd_glb, opd_fnv, opd_tup, opd_lst, opd_lmul, opd_dic, opd_dic1, opd_bin, opd_neg, opd_cmp, opd_chain, opd_and, opd_or, opd_not, opd_ite, opd_idx, opd_slc, opd_rev, opd_call, opd_callv, opd_bi, opd_inst, opd_get, opd_lrng, opd_dcp, opd_dprs, opd_lc, opd_lc2, opd_lc3, opd_tri, exS_set, exS_unp, exS_par, exS_parO, exS_store, exS_app, exS_expr, exS_ifs, exS_for_, exS_whil, exS_ret, exS_retv, exS_retN, exS_raise, exS_brk, exS_cont, exS_pass, exS_never, exSs_nil, exSs_cons, part_none, part_some, evIt, opds, vals, op2, cont, conts, Res.bind, Res.bindN, Res.sb, SRes.sq, lift, cmpP, binP, idxP, callP, finF, endF, backOf, isLent, SV.d, SV.lent, callR, lentOf, sharedSl, shLst, freezeSl, putBack, D.flat, tru, unpS, asg_tup, asg_ktup, asg_lst, asgs_cons, asgs_nil, setS_eq, asg_nm, free_none, free_dat, free_own, D.seq?, Z24, hasSlot, hasLst, modS, putAt, pushAt, retvS, lcFin, testO, DL.isP, keepO, List.replicate, e2, g, h3]
theorem sl1 {a b c d e : D} : slP (.tup [a, b, c, d, e]) none (some 4) = some (.dat (.tup [a, b, c, d])) := rfl
theorem sl2 {a b c d e : D} : slP (.tup [a, b, c, d, e]) (some 1) none = some (.dat (.tup [b, c, d, e])) := rfl
theorem sl3 {a b c d e : D} : slP (.tup [a, b, c, d, e]) none (some 2) = some (.dat (.tup [a, b])) := rfl
theorem sl4 {a b c d e : D} : slP (.tup [a, b, c, d, e]) (some 3) none = some (.dat (.tup [d, e])) := rfl
theorem sl5 {a b c d e : D} : slP (.tup [a, b, c, d, e]) none (some 3) = some (.dat (.tup [a, b, c])) := rfl
theorem s2_25 (h4 : free x4 = true) : exS cf 95 (.set 4 (.lst [.cst .non, .slc (.var 3) none (some (.cst (.int 4))), .bi .list [.var 3], .bin .Add (.tup [.tup [.cst (.int 5), .cst (.str "up"), .cst (.int 0)]]) (.slc (.var 3) (some (.cst (.int 1))) none), .bin .Add (.bin .Add (.slc (.var 3) none (some (.cst (.int 2)))) (.tup [.tup [.tup [.cst (.int 0), .cst (.int 1)]]])) (.slc (.var 3) (some (.cst (.int 3))) none), .bin .Add (.slc (.var 3) none (some (.cst (.int 3)))) (.tup [.cst (.int 97), .cst .non])])) (x0 :: x1 :: x2 :: some (.dat m.d) :: x4 :: rest)
    = .nx (x0 :: x1 :: x2 :: some (.dat m.d) :: some (.own (.lst (oddM m))) :: rest) := by
  simp only [Mn.d, oddM]
  simp [ev_var, ev_cst, ev_glb, ev_fnv, ev_tup, ev_lst, ev_lmul, ev_dic_false, ev_dic_true, ev_dic1, ev_bin, ev_neg, ev_cmp, ev_chain, ev_and, ev_or, ev_not, ev_ite, ev_idx, ev_slc, ev_rev, ev_call, ev_callv, ev_bi, ev_inst, ev_get, ev_lrng, ev_dcp, ev_dprs, ev_lc, ev_lc2, ev_lc3, ev_tri, evT_and, evT_or, evT_not, evT_var, evT_cst, evT_glb, evT_fnv, evT_tup, evT_lst, evT_lmul, evT_dic, evT_dic1, evT_bin, evT_neg, evT_cmp, evT_chain, evT_ite, evT_idx, evT_slc, evT_rev, evT_call, evT_callv, evT_bi, evT_inst, evT_get, evT_lrng, evT_dcp, evT_dprs, evT_lc, evT_lc2, evT_lc3, evT_tri, opd_var, opd_cst, opd_glb, opd_fnv, opd_tup, opd_lst, opd_lmul, opd_dic, opd_dic1, opd_bin, opd_neg, opd_cmp, opd_chain, opd_and, opd_or, opd_not, opd_ite, opd_idx, opd_slc, opd_rev, opd_call, opd_callv, opd_bi, opd_inst, opd_get, opd_lrng, opd_dcp, opd_dprs, opd_lc, opd_lc2, opd_lc3, opd_tri, exS_set, exS_unp, exS_par, exS_parO, exS_store, exS_app, exS_expr, exS_ifs, exS_for_, exS_whil, exS_ret, exS_retv, exS_retN, exS_raise, exS_brk, exS_cont, exS_pass, exS_never, exSs_nil, exSs_cons, part_none, part_some, evIt, opds, vals, op2, cont, conts, Res.bind, Res.bindN, Res.sb, SRes.sq, lift, cmpP, binP, idxP, callP, finF, endF, backOf, isLent, SV.d, SV.lent, callR, lentOf, sharedSl, shLst, freezeSl, putBack, D.flat, tru, unpS, asg_tup, asg_ktup, asg_lst, asgs_cons, asgs_nil, setS_eq, asg_nm, free_none, free_dat, free_own, D.seq?, Z24, hasSlot, hasLst, modS, putAt, pushAt, retvS, lcFin, testO, DL.isP, keepO, List.replicate, h4, sl1, sl2, sl3, sl4, sl5, part_none, part_some]
theorem m_str : eqD (.str "Manner+") (.str "Manner+") = some true := eqD_self (n := 1) (by decide +kernel)
theorem n_str : eqD (.str "Number+") (.str "Number+") = some true := eqD_self (n := 1) (by decide +kernel)
theorem bA_ok (C : Cf25 cf) (h : m.ok) {o : D} (ho : o ∈ oddM m) {j : Nat} (hj : j ∈ doorsA) {n : Nat} : exSs cf (n + 20) [.ifs (.cmp .NotEq (.tri (.callv 6 [.var 5])) (.cst (.str "Manner+"))) [.ret (.cst (.bl false))] []] (x0 :: x1 :: x2 :: x3 :: x4 :: some (.dat o) :: some (.dat (.fn j)) :: rest) = .nx (x0 :: x1 :: x2 :: x3 :: x4 :: some (.dat o) :: some (.dat (.fn j)) :: rest) := by
  have e := C.da m o j h ho hj
  have g := C.la j hj
  have t := m_str
  clear ho
  simp [ev_var, ev_cst, ev_glb, ev_fnv, ev_tup, ev_lst, ev_lmul, ev_dic_false, ev_dic_true, ev_dic1, ev_bin, ev_neg, ev_cmp, ev_chain, ev_and, ev_or, ev_not, ev_ite, ev_idx, ev_slc, ev_rev, ev_call, ev_callv, ev_bi, ev_inst, ev_get, ev_lrng, ev_dcp, ev_dprs, ev_lc, ev_lc2, ev_lc3, ev_tri, evT_and, evT_or, evT_not, evT_var, evT_cst, evT_glb, evT_fnv, evT_tup, evT_lst, evT_lmul, evT_dic, evT_dic1, evT_bin, evT_neg, evT_cmp, evT_chain, evT_ite, evT_idx, evT_slc, evT_rev, evT_call, evT_callv, evT_bi, evT_inst, evT_get, evT_lrng, evT_dcp, evT_dprs, evT_lc, evT_lc2, evT_lc3, evT_tri, opd_var, opd_cst, opd_glb, opd_fnv, opd_tup, opd_lst, opd_lmul, opd_dic, opd_dic1, opd_bin, opd_neg, opd_cmp, opd_chain, opd_and, opd_or, opd_not, opd_ite, opd_idx, opd_slc, opd_rev, opd_call, opd_callv, opd_bi, opd_inst, opd_get, opd_lrng, opd_dcp, opd_dprs, opd_lc, opd_lc2, opd_lc3, opd_tri, exS_set, exS_unp, exS_par, exS_parO, exS_store, exS_app, exS_expr, exS_ifs, exS_for_, exS_whil, exS_ret, exS_retv, exS_retN, exS_raise, exS_brk, exS_cont, exS_pass, exS_never, exSs_nil, exSs_cons, part_none, part_some, evIt, opds, vals, op2, cont, conts, Res.bind, Res.bindN, Res.sb, SRes.sq, lift, cmpP, binP, idxP, callP, finF, endF, backOf, isLent, SV.d, SV.lent, callR, lentOf, sharedSl, shLst, freezeSl, putBack, D.flat, tru, unpS, asg_tup, asg_ktup, asg_lst, asgs_cons, asgs_nil, setS_eq, asg_nm, free_none, free_dat, free_own, D.seq?, Z24, hasSlot, hasLst, modS, putAt, pushAt, retvS, lcFin, testO, DL.isP, keepO, List.replicate, e, g, t, triR, nmT]
theorem bB_ok (C : Cf25 cf) (h : m.ok) {o : D} (ho : o ∈ oddM m) {j : Nat} (hj : j ∈ doorsB) {n : Nat} : exSs cf (n + 20) [.ifs (.cmp .NotEq (.tri (.callv 6 [.var 5, .cst .non])) (.cst (.str "Manner+"))) [.ret (.cst (.bl false))] []] (x0 :: x1 :: x2 :: x3 :: x4 :: some (.dat o) :: some (.dat (.fn j)) :: rest) = .nx (x0 :: x1 :: x2 :: x3 :: x4 :: some (.dat o) :: some (.dat (.fn j)) :: rest) := by
  have e := C.db m o j h ho hj
  have g := C.lb j hj
  have t := m_str
  clear ho
  simp [ev_var, ev_cst, ev_glb, ev_fnv, ev_tup, ev_lst, ev_lmul, ev_dic_false, ev_dic_true, ev_dic1, ev_bin, ev_neg, ev_cmp, ev_chain, ev_and, ev_or, ev_not, ev_ite, ev_idx, ev_slc, ev_rev, ev_call, ev_callv, ev_bi, ev_inst, ev_get, ev_lrng, ev_dcp, ev_dprs, ev_lc, ev_lc2, ev_lc3, ev_tri, evT_and, evT_or, evT_not, evT_var, evT_cst, evT_glb, evT_fnv, evT_tup, evT_lst, evT_lmul, evT_dic, evT_dic1, evT_bin, evT_neg, evT_cmp, evT_chain, evT_ite, evT_idx, evT_slc, evT_rev, evT_call, evT_callv, evT_bi, evT_inst, evT_get, evT_lrng, evT_dcp, evT_dprs, evT_lc, evT_lc2, evT_lc3, evT_tri, opd_var, opd_cst, opd_glb, opd_fnv, opd_tup, opd_lst, opd_lmul, opd_dic, opd_dic1, opd_bin, opd_neg, opd_cmp, opd_chain, opd_and, opd_or, opd_not, opd_ite, opd_idx, opd_slc, opd_rev, opd_call, opd_callv, opd_bi, opd_inst, opd_get, opd_lrng, opd_dcp, opd_dprs, opd_lc, opd_lc2, opd_lc3, opd_tri, exS_set, exS_unp, exS_par, exS_parO, exS_store, exS_app, exS_expr, exS_ifs, exS_for_, exS_whil, exS_ret, exS_retv, exS_retN, exS_raise, exS_brk, exS_cont, exS_pass, exS_never, exSs_nil, exSs_cons, part_none, part_some, evIt, opds, vals, op2, cont, conts, Res.bind, Res.bindN, Res.sb, SRes.sq, lift, cmpP, binP, idxP, callP, finF, endF, backOf, isLent, SV.d, SV.lent, callR, lentOf, sharedSl, shLst, freezeSl, putBack, D.flat, tru, unpS, asg_tup, asg_ktup, asg_lst, asgs_cons, asgs_nil, setS_eq, asg_nm, free_none, free_dat, free_own, D.seq?, Z24, hasSlot, hasLst, modS, putAt, pushAt, retvS, lcFin, testO, DL.isP, keepO, List.replicate, e, g, t, triR, nmT]
theorem bN_ok (C : Cf25 cf) (h : m.ok) {j : Nat} (hj : j ∈ doorsB) {n : Nat} : exSs cf (n + 20) [.ifs (.cmp .NotEq (.tri (.callv 6 [.var 3, .cst .non])) (.cst (.str "Number+"))) [.ret (.cst (.bl false))] []] (x0 :: x1 :: x2 :: some (.dat m.d) :: x4 :: x5 :: some (.dat (.fn j)) :: rest) = .nx (x0 :: x1 :: x2 :: some (.dat m.d) :: x4 :: x5 :: some (.dat (.fn j)) :: rest) := by
  have e := C.dn m j h hj
  have g := C.lb j hj
  have t := n_str
  generalize m.d = md at *
  simp [ev_var, ev_cst, ev_glb, ev_fnv, ev_tup, ev_lst, ev_lmul, ev_dic_false, ev_dic_true, ev_dic1, ev_bin, ev_neg, ev_cmp, ev_chain, ev_and, ev_or, ev_not, ev_ite, ev_idx, ev_slc, ev_rev, ev_call, ev_callv, ev_bi, ev_inst, ev_get, ev_lrng, ev_dcp, ev_dprs, ev_lc, ev_lc2, ev_lc3, ev_tri, evT_and, evT_or, evT_not, evT_var, evT_cst, evT_glb, evT_fnv, evT_tup, evT_lst, evT_lmul, evT_dic, evT_dic1, evT_bin, evT_neg, evT_cmp, evT_chain, evT_ite, evT_idx, evT_slc, evT_rev, evT_call, evT_callv, evT_bi, evT_inst, evT_get, evT_lrng, evT_dcp, evT_dprs, evT_lc, evT_lc2, evT_lc3, evT_tri, opd_var, opd_cst, opd_glb, opd_fnv, opd_tup, opd_lst, opd_lmul, opd_dic, opd_dic1, opd_bin, opd_neg, opd_cmp, opd_chain, opd_and, opd_or, opd_not, opd_ite, opd_idx, opd_slc, opd_rev, opd_call, opd_callv, opd_bi, opd_inst, opd_get, opd_lrng, opd_dcp, opd_dprs, opd_lc, opd_lc2, opd_lc3, opd_tri, exS_set, exS_unp, exS_par, exS_parO, exS_store, exS_app, exS_expr, exS_ifs, exS_for_, exS_whil, exS_ret, exS_retv, exS_retN, exS_raise, exS_brk, exS_cont, exS_pass, exS_never, exSs_nil, exSs_cons, part_none, part_some, evIt, opds, vals, op2, cont, conts, Res.bind, Res.bindN, Res.sb, SRes.sq, lift, cmpP, binP, idxP, callP, finF, endF, backOf, isLent, SV.d, SV.lent, callR, lentOf, sharedSl, shLst, freezeSl, putBack, D.flat, tru, unpS, asg_tup, asg_ktup, asg_lst, asgs_cons, asgs_nil, setS_eq, asg_nm, free_none, free_dat, free_own, D.seq?, Z24, hasSlot, hasLst, modS, putAt, pushAt, retvS, lcFin, testO, DL.isP, keepO, List.replicate, e, g, t, triR, nmT]
/-- a loop over defs in slot 6 -/
theorem loop6 {body : List DL.S} {n : Nat} {js : List Nat} {qs : List Q} (hq : ∀ ρ : Env', evIt (ev cf n) (.seq (.lst qs)) ρ = .ok (js.map D.fn) ρ) (h6 : free x6 = true) (hb : ∀ j ∈ js, exSs cf n body (x0 :: x1 :: x2 :: x3 :: x4 :: x5 :: some (.dat (.fn j)) :: rest) = .nx (x0 :: x1 :: x2 :: x3 :: x4 :: x5 :: some (.dat (.fn j)) :: rest)) :
    ∃ x, free x = true ∧ exS cf (n + 1) (.for_ (.nm 6) (.seq (.lst qs)) body) (x0 :: x1 :: x2 :: x3 :: x4 :: x5 :: x6 :: rest) = .nx (x0 :: x1 :: x2 :: x3 :: x4 :: x5 :: x :: rest) := by
  obtain ⟨ρ2, e, x, hx, rfl⟩ := for_cnt (body := exSs cf n body) (T := .nm 6) (fun _ ρ => ∃ x, free x = true ∧ ρ = (x0 :: x1 :: x2 :: x3 :: x4 :: x5 :: x :: rest)) (js.map D.fn) (x0 :: x1 :: x2 :: x3 :: x4 :: x5 :: x6 :: rest) ⟨x6, h6, rfl⟩ (fun d hd k ρ ⟨x, hx, e⟩ => by
    subst e
    obtain ⟨j, hj, rfl⟩ := List.mem_map.mp hd
    exact ⟨x0 :: x1 :: x2 :: x3 :: x4 :: x5 :: some (.dat (.fn j)) :: rest, by rw [asg_nm]; simp [hx], _, hb j hj, _, free_dat, rfl⟩)
  exact ⟨x, hx, for_nx (hq _) e⟩
theorem qA {n : Nat} (ρ : Env') : evIt (ev cf (n + 5)) (.seq (.lst [.fnv 175, .fnv 180, .fnv 181, .fnv 177, .fnv 176])) ρ = .ok (doorsA.map D.fn) ρ := by simp [ev_var, ev_cst, ev_glb, ev_fnv, ev_tup, ev_lst, ev_lmul, ev_dic_false, ev_dic_true, ev_dic1, ev_bin, ev_neg, ev_cmp, ev_chain, ev_and, ev_or, ev_not, ev_ite, ev_idx, ev_slc, ev_rev, ev_call, ev_callv, ev_bi, ev_inst, ev_get, ev_lrng, ev_dcp, ev_dprs, ev_lc, ev_lc2, ev_lc3, ev_tri, evT_and, evT_or, evT_not, evT_var, evT_cst, evT_glb, evT_fnv, evT_tup, evT_lst, evT_lmul, evT_dic, evT_dic1, evT_bin, evT_neg, evT_cmp, evT_chain, evT_ite, evT_idx, evT_slc, evT_rev, evT_call, evT_callv, evT_bi, evT_inst, evT_get, evT_lrng, evT_dcp, evT_dprs, evT_lc, evT_lc2, evT_lc3, evT_tri, opd_var, opd_cst, opd_glb, opd_fnv, opd_tup, opd_lst, opd_lmul, opd_dic, opd_dic1, opd_bin, opd_neg, opd_cmp, opd_chain, opd_and, opd_or, opd_not, opd_ite, opd_idx, opd_slc, opd_rev, opd_call, opd_callv, opd_bi, opd_inst, opd_get, opd_lrng, opd_dcp, opd_dprs, opd_lc, opd_lc2, opd_lc3, opd_tri, exS_set, exS_unp, exS_par, exS_parO, exS_store, exS_app, exS_expr, exS_ifs, exS_for_, exS_whil, exS_ret, exS_retv, exS_retN, exS_raise, exS_brk, exS_cont, exS_pass, exS_never, exSs_nil, exSs_cons, part_none, part_some, evIt, opds, vals, op2, cont, conts, Res.bind, Res.bindN, Res.sb, SRes.sq, lift, cmpP, binP, idxP, callP, finF, endF, backOf, isLent, SV.d, SV.lent, callR, lentOf, sharedSl, shLst, freezeSl, putBack, D.flat, tru, unpS, asg_tup, asg_ktup, asg_lst, asgs_cons, asgs_nil, setS_eq, asg_nm, free_none, free_dat, free_own, D.seq?, Z24, hasSlot, hasLst, modS, putAt, pushAt, retvS, lcFin, testO, DL.isP, keepO, List.replicate, doorsA]
theorem qB {n : Nat} (ρ : Env') : evIt (ev cf (n + 5)) (.seq (.lst [.fnv 167, .fnv 163, .fnv 164])) ρ = .ok (doorsB.map D.fn) ρ := by simp [ev_var, ev_cst, ev_glb, ev_fnv, ev_tup, ev_lst, ev_lmul, ev_dic_false, ev_dic_true, ev_dic1, ev_bin, ev_neg, ev_cmp, ev_chain, ev_and, ev_or, ev_not, ev_ite, ev_idx, ev_slc, ev_rev, ev_call, ev_callv, ev_bi, ev_inst, ev_get, ev_lrng, ev_dcp, ev_dprs, ev_lc, ev_lc2, ev_lc3, ev_tri, evT_and, evT_or, evT_not, evT_var, evT_cst, evT_glb, evT_fnv, evT_tup, evT_lst, evT_lmul, evT_dic, evT_dic1, evT_bin, evT_neg, evT_cmp, evT_chain, evT_ite, evT_idx, evT_slc, evT_rev, evT_call, evT_callv, evT_bi, evT_inst, evT_get, evT_lrng, evT_dcp, evT_dprs, evT_lc, evT_lc2, evT_lc3, evT_tri, opd_var, opd_cst, opd_glb, opd_fnv, opd_tup, opd_lst, opd_lmul, opd_dic, opd_dic1, opd_bin, opd_neg, opd_cmp, opd_chain, opd_and, opd_or, opd_not, opd_ite, opd_idx, opd_slc, opd_rev, opd_call, opd_callv, opd_bi, opd_inst, opd_get, opd_lrng, opd_dcp, opd_dprs, opd_lc, opd_lc2, opd_lc3, opd_tri, exS_set, exS_unp, exS_par, exS_parO, exS_store, exS_app, exS_expr, exS_ifs, exS_for_, exS_whil, exS_ret, exS_retv, exS_retN, exS_raise, exS_brk, exS_cont, exS_pass, exS_never, exSs_nil, exSs_cons, part_none, part_some, evIt, opds, vals, op2, cont, conts, Res.bind, Res.bindN, Res.sb, SRes.sq, lift, cmpP, binP, idxP, callP, finF, endF, backOf, isLent, SV.d, SV.lent, callR, lentOf, sharedSl, shLst, freezeSl, putBack, D.flat, tru, unpS, asg_tup, asg_ktup, asg_lst, asgs_cons, asgs_nil, setS_eq, asg_nm, free_none, free_dat, free_own, D.seq?, Z24, hasSlot, hasLst, modS, putAt, pushAt, retvS, lcFin, testO, DL.isP, keepO, List.replicate, doorsB]
def odd25 : List DL.S := [.for_ (.nm 6) (.seq (.lst [.fnv 175, .fnv 180, .fnv 181, .fnv 177, .fnv 176])) [.ifs (.cmp .NotEq (.tri (.callv 6 [.var 5])) (.cst (.str "Manner+"))) [.ret (.cst (.bl false))] []],
    .for_ (.nm 6) (.seq (.lst [.fnv 167, .fnv 163, .fnv 164])) [.ifs (.cmp .NotEq (.tri (.callv 6 [.var 5, .cst .non])) (.cst (.str "Manner+"))) [.ret (.cst (.bl false))] []]]
theorem odd25_ok (C : Cf25 cf) (h : m.ok) {o : D} (ho : o ∈ oddM m) (h6 : free x6 = true) : ∃ x, free x = true ∧ exSs cf 93 odd25 (x0 :: x1 :: x2 :: x3 :: x4 :: some (.dat o) :: x6 :: rest) = .nx (x0 :: x1 :: x2 :: x3 :: x4 :: some (.dat o) :: x :: rest) := by
  obtain ⟨x, hx, e1⟩ := loop6 (cf := cf) (n := 91) (x0 := x0) (x1 := x1) (x2 := x2) (x3 := x3) (x4 := x4) (x5 := some (.dat o)) (x6 := x6) (rest := rest) (body := [.ifs (.cmp .NotEq (.tri (.callv 6 [.var 5])) (.cst (.str "Manner+"))) [.ret (.cst (.bl false))] []]) (qA (n := 86)) h6 (fun j hj => bA_ok (n := 71) C h ho hj)
  obtain ⟨y, hy, e2⟩ := loop6 (cf := cf) (n := 90) (x0 := x0) (x1 := x1) (x2 := x2) (x3 := x3) (x4 := x4) (x5 := some (.dat o)) (x6 := x) (rest := rest) (body := [.ifs (.cmp .NotEq (.tri (.callv 6 [.var 5, .cst .non])) (.cst (.str "Manner+"))) [.ret (.cst (.bl false))] []]) (qB (n := 85)) hx (fun j hj => bB_ok (n := 70) C h ho hj)
  exact ⟨y, hy, (exSs_step e1).trans ((exSs_step e2).trans exSs_nil)⟩
theorem s3_25 (C : Cf25 cf) (h : m.ok) (h5 : free x5 = true) (h6 : free x6 = true) : ∃ y5 y6, free y5 = true ∧ free y6 = true ∧ exS cf 94 (.for_ (.nm 5) (.seq (.var 4)) odd25) (x0 :: x1 :: x2 :: x3 :: some (.own (.lst (oddM m))) :: x5 :: x6 :: rest) = .nx (x0 :: x1 :: x2 :: x3 :: some (.dat (.lst (oddM m))) :: y5 :: y6 :: rest) := by
  have it : evIt (ev cf 93) (.seq (.var 4)) (x0 :: x1 :: x2 :: x3 :: some (.own (.lst (oddM m))) :: x5 :: x6 :: rest) = .ok (oddM m) (x0 :: x1 :: x2 :: x3 :: some (.dat (.lst (oddM m))) :: x5 :: x6 :: rest) := by
    generalize oddM m = l
    simp [ev_var, ev_cst, ev_glb, ev_fnv, ev_tup, ev_lst, ev_lmul, ev_dic_false, ev_dic_true, ev_dic1, ev_bin, ev_neg, ev_cmp, ev_chain, ev_and, ev_or, ev_not, ev_ite, ev_idx, ev_slc, ev_rev, ev_call, ev_callv, ev_bi, ev_inst, ev_get, ev_lrng, ev_dcp, ev_dprs, ev_lc, ev_lc2, ev_lc3, ev_tri, evT_and, evT_or, evT_not, evT_var, evT_cst, evT_glb, evT_fnv, evT_tup, evT_lst, evT_lmul, evT_dic, evT_dic1, evT_bin, evT_neg, evT_cmp, evT_chain, evT_ite, evT_idx, evT_slc, evT_rev, evT_call, evT_callv, evT_bi, evT_inst, evT_get, evT_lrng, evT_dcp, evT_dprs, evT_lc, evT_lc2, evT_lc3, evT_tri, opd_var, opd_cst, opd_glb, opd_fnv, opd_tup, opd_lst, opd_lmul, opd_dic, opd_dic1, opd_bin, opd_neg, opd_cmp, opd_chain, opd_and, opd_or, opd_not, opd_ite, opd_idx, opd_slc, opd_rev, opd_call, opd_callv, opd_bi, opd_inst, opd_get, opd_lrng, opd_dcp, opd_dprs, opd_lc, opd_lc2, opd_lc3, opd_tri, exS_set, exS_unp, exS_par, exS_parO, exS_store, exS_app, exS_expr, exS_ifs, exS_for_, exS_whil, exS_ret, exS_retv, exS_retN, exS_raise, exS_brk, exS_cont, exS_pass, exS_never, exSs_nil, exSs_cons, part_none, part_some, evIt, opds, vals, op2, cont, conts, Res.bind, Res.bindN, Res.sb, SRes.sq, lift, cmpP, binP, idxP, callP, finF, endF, backOf, isLent, SV.d, SV.lent, callR, lentOf, sharedSl, shLst, freezeSl, putBack, D.flat, tru, unpS, asg_tup, asg_ktup, asg_lst, asgs_cons, asgs_nil, setS_eq, asg_nm, free_none, free_dat, free_own, D.seq?, Z24, hasSlot, hasLst, modS, putAt, pushAt, retvS, lcFin, testO, DL.isP, keepO, List.replicate]
  obtain ⟨ρ2, e, y5, y6, f5, f6, rfl⟩ := for_cnt (body := exSs cf 93 odd25) (T := .nm 5) (fun _ ρ => ∃ y5 y6, free y5 = true ∧ free y6 = true ∧ ρ = (x0 :: x1 :: x2 :: x3 :: some (.dat (.lst (oddM m))) :: y5 :: y6 :: rest)) (oddM m) (x0 :: x1 :: x2 :: x3 :: some (.dat (.lst (oddM m))) :: x5 :: x6 :: rest) ⟨x5, x6, h5, h6, rfl⟩ (fun d hd k ρ ⟨y5, y6, f5, f6, e⟩ => by
    subst e
    obtain ⟨y, hy, e2⟩ := odd25_ok (x0 := x0) (x1 := x1) (x2 := x2) (x3 := x3) (x4 := some (.dat (.lst (oddM m)))) (rest := rest) C h hd f6
    exact ⟨x0 :: x1 :: x2 :: x3 :: some (.dat (.lst (oddM m))) :: some (.dat d) :: y6 :: rest, by rw [asg_nm]; simp [f5], _, e2, _, _, free_dat, hy, rfl⟩)
  exact ⟨y5, y6, f5, f6, for_nx it e⟩
theorem s4_25 (C : Cf25 cf) (h : m.ok) (h6 : free x6 = true) : ∃ x, free x = true ∧ exS cf 93 (.for_ (.nm 6) (.seq (.lst [.fnv 167, .fnv 163, .fnv 164])) [.ifs (.cmp .NotEq (.tri (.callv 6 [.var 3, .cst .non])) (.cst (.str "Number+"))) [.ret (.cst (.bl false))] []]) (x0 :: x1 :: x2 :: some (.dat m.d) :: x4 :: x5 :: x6 :: rest) = .nx (x0 :: x1 :: x2 :: some (.dat m.d) :: x4 :: x5 :: x :: rest) :=
  loop6 (cf := cf) (n := 92) (qB (n := 87)) h6 (fun j hj => bN_ok (n := 72) C h hj)
def deck25 : List DL.S := [.set 2 (.call 5 [.idx (.bin .Add (.var 0) (.lmul [.cst (.int 0)] (.cst (.int 4)))) (.var 1), .var 1]),
    .set 3 (.call 10 [.var 2]),
    .set 4 (.lst [.cst .non, .slc (.var 3) none (some (.cst (.int 4))), .bi .list [.var 3], .bin .Add (.tup [.tup [.cst (.int 5), .cst (.str "up"), .cst (.int 0)]]) (.slc (.var 3) (some (.cst (.int 1))) none), .bin .Add (.bin .Add (.slc (.var 3) none (some (.cst (.int 2)))) (.tup [.tup [.tup [.cst (.int 0), .cst (.int 1)]]])) (.slc (.var 3) (some (.cst (.int 3))) none), .bin .Add (.slc (.var 3) none (some (.cst (.int 3)))) (.tup [.cst (.int 97), .cst .non])]),
    .for_ (.nm 5) (.seq (.var 4)) odd25,
    .for_ (.nm 6) (.seq (.lst [.fnv 167, .fnv 163, .fnv 164])) [.ifs (.cmp .NotEq (.tri (.callv 6 [.var 3, .cst .non])) (.cst (.str "Number+"))) [.ret (.cst (.bl false))] []]]
def O25 (sc : D) (ρ : Env') : Prop := ∃ x1 x2 x3 x4 x5 x6, ρ = [some (.dat sc), x1, x2, x3, x4, x5, x6] ∧ Fr [x1, x2, x3, x4, x5, x6]
theorem deck25_ok (C : Cf25 cf) (ns : List Int) (hn : ns.length ≤ 63) (j : Nat) (hj : j < 4) (ρ : Env') (h : O25 (.lst (ns.map D.int)) ρ) : ∃ ρ1, asg (.nm 1) (.int (0 + (j : Nat))) ρ = some ρ1 ∧ ∃ ρ2, exSs cf 98 deck25 ρ1 = .nx ρ2 ∧ O25 (.lst (ns.map D.int)) ρ2 := by
  obtain ⟨x1, x2, x3, x4, x5, x6, rfl, fr⟩ := h
  simp only [Fr, List.forall_mem_cons] at fr
  obtain ⟨f1, f2, f3, f4, f5, f6, _⟩ := fr
  obtain ⟨x, ex⟩ := cell_at ns hj
  obtain ⟨dk, e1, ok⟩ := C.deck x (j : Int) (by omega)
  obtain ⟨m, dk1, e2, hm⟩ := C.manner dk ok
  have nf : ∃ l, dk = .lst l := by obtain ⟨a, b, c, e, _⟩ := ok; exact ⟨_, e⟩
  rw [Int.zero_add]
  have a0 : asg (.nm 1) (.int (j : Int)) [some (.dat (.lst (ns.map D.int))), x1, x2, x3, x4, x5, x6] = some [some (.dat (.lst (ns.map D.int))), some (.dat (.int (j : Int))), x2, x3, x4, x5, x6] := by
    rw [asg_nm]; simp [f1]
  have t0 := s0_25 (rest := [x3, x4, x5, x6]) (x2 := x2) rfl ex (by rw [List.length_map]; exact hn) e1 C.l5 nf f2
  have t1 := s1_25 (x0 := some (.dat (.lst (ns.map D.int)))) (x1 := some (.dat (.int (j : Int)))) (rest := [x4, x5, x6]) e2 C.l10 f3
  have t2 := s2_25 (cf := cf) (m := m) (x0 := some (.dat (.lst (ns.map D.int)))) (x1 := some (.dat (.int (j : Int)))) (x2 := some (.own dk1)) (rest := [x5, x6]) f4
  obtain ⟨y5, y6, g5, g6, t3⟩ := s3_25 (x0 := some (.dat (.lst (ns.map D.int)))) (x1 := some (.dat (.int (j : Int)))) (x2 := some (.own dk1)) (x3 := some (.dat m.d)) (rest := []) C hm f5 f6
  obtain ⟨z6, g7, t4⟩ := s4_25 (x0 := some (.dat (.lst (ns.map D.int)))) (x1 := some (.dat (.int (j : Int)))) (x2 := some (.own dk1)) (x4 := some (.dat (.lst (oddM m)))) (x5 := y5) (rest := []) C hm g6
  exact ⟨_, a0, _, (exSs_step t0).trans ((exSs_step t1).trans ((exSs_step t2).trans ((exSs_step t3).trans ((exSs_step t4).trans exSs_nil)))), _, _, _, _, _, _, rfl, .cons rfl (.cons rfl (.cons rfl (.cons rfl (.cons g5 (.cons g7 .nil)))))⟩
end
theorem rng4 : rangeD 0 4 = (List.range 4).map fun i : Nat => D.int (0 + (i : Nat)) := rfl
theorem loop25 {cf : Cf} (C : Cf25 cf) (ns : List Int) (hn : ns.length ≤ 63) : ∃ ρ2, forGo (exSs cf 98 deck25) (.nm 1) (rangeD 0 4) [some (.dat (.lst (ns.map D.int))), none, none, none, none, none, none] = .nx ρ2 ∧ O25 (.lst (ns.map D.int)) ρ2 := by
  refine for_cnt (body := exSs cf 98 deck25) (T := .nm 1) (fun _ ρ => O25 (.lst (ns.map D.int)) ρ) (rangeD 0 4) _ ⟨none, none, none, none, none, none, rfl, .cons rfl (.cons rfl (.cons rfl (.cons rfl (.cons rfl (.cons rfl .nil)))))⟩ (fun d hd _ ρ h => ?_)
  rw [rng4] at hd
  obtain ⟨j, hj, rfl⟩ := List.mem_map.mp hd
  exact deck25_ok C ns hn j (List.mem_range.mp hj) ρ h
theorem law25_head (ns : List Int) : semK glob gvG 100 40 190 [.dat (.lst (ns.map D.int))] = finF false (exSs (cfk 39) 100 F_law_k25.body [some (.dat (.lst (ns.map D.int))), none, none, none, none, none, none]) := by
  rw [semK_eq g_law_k25, if_pos ⟨rfl, rfl⟩]
  rfl
theorem plain_k25 (ns : List Int) (hn : ns.length ≤ 63) : semK glob gvG 100 40 190 [.dat (.lst (ns.map D.int))] = .ok (.dat (.bl true)) none := by
  have C := cf25
  rw [law25_head]
  generalize cfk 39 = cf at *
  obtain ⟨ρ2, e, x1, x2, x3, x4, x5, x6, rfl, fr⟩ := loop25 C ns hn
  have it : evIt (ev cf 98) (.rng (.cst (.int 4))) [some (.dat (.lst (ns.map D.int))), none, none, none, none, none, none] = .ok (rangeD 0 4) [some (.dat (.lst (ns.map D.int))), none, none, none, none, none, none] := rng_lit (i := 4) (by decide)
  have a := exSs_step (ss := [.ret (.cst (.bl true))]) (for_nx it e)
  have b : exSs cf 100 F_law_k25.body [some (.dat (.lst (ns.map D.int))), none, none, none, none, none, none] = exSs cf 99 [.ret (.cst (.bl true))] _ := a
  rw [b]
  rfl
end DL

namespace DL.Law
open PySem PySem.Spec PyProof.Rows L2 DL
def top (i : Nat) : Stmt := PySem.Challenge.pw_clockcards_k25_errors_of_weeks_and_limit.main.body.getD i (.Pass ⟨0, 0, 0, 0⟩)
def i_is_from : DefI := ⟨0, "is_from", top 19, ["value", "low", "high"], ["value", "low", "high"], F_is_from⟩
def i_is_rounding_of : DefI := ⟨1, "is_rounding_of", top 20, ["value", "step", "side", "grace"], ["value"], F_is_rounding_of⟩
def i_are_breaks_of : DefI := ⟨2, "are_breaks_of", top 21, ["value", "one"], ["value"], F_are_breaks_of⟩
def i_is_manner_of : DefI := ⟨3, "is_manner_of", top 22, ["value", "ins", "outs", "breaks", "day", "week"], ["value"], F_is_manner_of⟩
def i_need_manner : DefI := ⟨16, "need_manner", top 23, ["value"], ["value"], F_need_manner⟩
def i_need_number : DefI := ⟨72, "need_number", top 24, ["value", "low", "high"], ["value", "low", "high"], F_need_number⟩
def i_came : DefI := ⟨18, "came", top 26, ["rounding", "time", "step", "side", "grace", "rest"], ["rounding", "time"], F_came⟩
def i_went : DefI := ⟨19, "went", top 27, ["rounding", "time", "step", "side", "grace", "lack"], ["rounding", "time"], F_went⟩
def i_counted_of : DefI := ⟨32, "counted_of", top 28, ["manner", "day"], ["manner", "day"], F_counted_of⟩
def i_left_of : DefI := ⟨33, "left_of", top 29, ["manner", "quarters", "minus", "start", "less"], ["manner", "quarters"], F_left_of⟩
def i_split_of : DefI := ⟨34, "split_of", top 30, ["manner", "quarters", "left", "normal"], ["manner", "quarters"], F_split_of⟩
def i_parts_of : DefI := ⟨35, "parts_of", top 31, ["manner", "day"], ["manner", "day"], F_parts_of⟩
def i_lists_of : DefI := ⟨47, "lists_of", top 32, ["manner", "times", "splits", "quarters", "time"], ["manner"], F_lists_of⟩
def i_all_parts : DefI := ⟨48, "all_parts", top 33, ["manner", "ins", "outs", "splits", "start", "end"], ["manner"], F_all_parts⟩
def i_paid_of : DefI := ⟨36, "paid_of", top 34, ["manner", "week", "parts", "day", "normal", "over", "one", "two", "extra"], ["manner", "week"], F_paid_of⟩
def i_every_day : DefI := ⟨49, "every_day", top 35, ["start", "end"], [], F_every_day⟩
def i_lowest_terms : DefI := ⟨73, "lowest_terms", top 37, ["top", "bottom", "first", "second"], ["top", "bottom"], F_lowest_terms⟩
def i_ends_of : DefI := ⟨75, "ends_of", top 38, ["rounding", "is_in", "time"], ["rounding", "is_in"], F_ends_of⟩
def i_mean_of : DefI := ⟨78, "mean_of", top 39, ["manner", "first", "second"], ["manner"], F_mean_of⟩
def i_every_rounding : DefI := ⟨123, "every_rounding", top 41, ["step", "side", "grace"], [], F_every_rounding⟩
def i_fair_outs : DefI := ⟨175, "fair_outs", top 43, ["manner", "one"], ["manner"], F_fair_outs⟩
def i_never_wins : DefI := ⟨176, "never_wins", top 44, ["manner"], ["manner"], F_never_wins⟩
def i_never_loses : DefI := ⟨177, "never_loses", top 45, ["manner"], ["manner"], F_never_loses⟩
def i_least_day_limit : DefI := ⟨180, "least_day_limit", top 46, ["manner", "most", "normal", "over"], ["manner"], F_least_day_limit⟩
def i_least_week_limit : DefI := ⟨181, "least_week_limit", top 47, ["manner", "normal", "over"], ["manner"], F_least_week_limit⟩
def i_by_time : DefI := ⟨160, "by_time", top 51, ["manner", "weight", "ins", "outs", "splits", "found", "day", "normal", "over", "pay", "time"], ["manner", "weight"], F_by_time⟩
def i_weeks_by_time : DefI := ⟨161, "weeks_by_time", top 52, ["manner", "weight", "days", "weeks", "turn", "later", "total", "amount", "week", "time", "pay", "day"], ["manner", "weight"], F_weeks_by_time⟩
def i_best_weeks_of : DefI := ⟨162, "best_weeks_of", top 53, ["manner", "found", "weight", "total", "amount", "week", "pay"], ["manner"], F_best_weeks_of⟩
def i_most_in_week : DefI := ⟨163, "most_in_week", top 54, ["manner", "quarters"], ["manner", "quarters"], F_most_in_week⟩
def i_week_for : DefI := ⟨164, "week_for", top 55, ["manner", "quarters"], ["manner", "quarters"], F_week_for⟩
def i_least_week : DefI := ⟨167, "least_week", top 56, ["manner", "pay", "some", "total", "most", "week"], ["manner", "pay"], F_least_week⟩
def i__law_deck : DefI := ⟨5, "_law_deck", top 58, ["_law_cell", "_law_turn"], ["_law_cell", "_law_turn"], F__law_deck⟩
def i__law_pick : DefI := ⟨6, "_law_pick", top 59, ["_law_deck_here", "_law_limit", "_law_found", "_law_number"], ["_law_deck_here", "_law_limit"], F__law_pick⟩
def i__law_rounding : DefI := ⟨9, "_law_rounding", top 62, ["_law_deck_here", "_law_step"], ["_law_deck_here"], F__law_rounding⟩
def i__law_manner : DefI := ⟨10, "_law_manner", top 63, ["_law_deck_here", "_law_breaks", "_law_start", "_law_turn", "_law_limit", "_law_most"], ["_law_deck_here"], F__law_manner⟩
def i_law : DefI := ⟨190, "law", top 66, ["_law_script", "_law_k", "_law_deck_here", "_law_r", "_law_some", "_law_odd", "_law_door"], ["_law_script"], F_law_k25⟩
def L : LawI := ⟨[i_is_from, i_is_rounding_of, i_are_breaks_of, i_is_manner_of, i_need_manner, i_need_number, i_came, i_went, i_counted_of, i_left_of, i_split_of, i_parts_of, i_lists_of, i_all_parts, i_paid_of, i_every_day, i_lowest_terms, i_ends_of, i_mean_of, i_every_rounding, i_fair_outs, i_never_wins, i_never_loses, i_least_day_limit, i_least_week_limit, i_by_time, i_weeks_by_time, i_best_weeks_of, i_most_in_week, i_week_for, i_least_week, i__law_deck, i__law_pick, i__law_rounding, i__law_manner, i_law], [⟨0, "STEPS", .tup [.int 1, .int 2, .int 3, .int 4, .int 6, .int 8, .int 12]⟩, ⟨1, "SIDES", .tup [.str "down", .str "near", .str "up"]⟩, ⟨2, "LAST", .int 96⟩, ⟨3, "MOST_MINUS", .int 8⟩, ⟨4, "MOST_DAYS", .int 5⟩, ⟨13, "MOST_TIME", .int 480⟩, ⟨6, "MOST_PAY", .int 1500⟩], ["isinstance", "bool", "int", "len", "tuple", "str", "max", "min", "list", "range", "sum", "abs", "dict"], [("InvalidManner", 0), ("InvalidNumber", 4)], ["law"], some (top 60, top 61)⟩
theorem o_is_from : DefOk glob L 60 i_is_from := ⟨rfl, ⟨rfl, rfl, rfl, by decide +kernel, rfl, by decide +kernel, by decide +kernel⟩, rfl, rfl, fun _ _ _ _ _ _ us hl => match us, hl with | [_, _, _], _ => rfl, by decide +kernel⟩
theorem o_is_rounding_of : DefOk glob L 60 i_is_rounding_of := ⟨rfl, ⟨rfl, rfl, rfl, by decide +kernel, rfl, by decide +kernel, by decide +kernel⟩, rfl, rfl, fun _ _ _ _ _ _ us hl => match us, hl with | [_], _ => rfl, by decide +kernel⟩
theorem o_are_breaks_of : DefOk glob L 60 i_are_breaks_of := ⟨rfl, ⟨rfl, rfl, rfl, by decide +kernel, rfl, by decide +kernel, by decide +kernel⟩, rfl, rfl, fun _ _ _ _ _ _ us hl => match us, hl with | [_], _ => rfl, by decide +kernel⟩
theorem o_is_manner_of : DefOk glob L 60 i_is_manner_of := ⟨rfl, ⟨rfl, rfl, rfl, by decide +kernel, rfl, by decide +kernel, by decide +kernel⟩, rfl, rfl, fun _ _ _ _ _ _ us hl => match us, hl with | [_], _ => rfl, by decide +kernel⟩
theorem o_need_manner : DefOk glob L 60 i_need_manner := ⟨rfl, ⟨rfl, rfl, rfl, by decide +kernel, rfl, by decide +kernel, by decide +kernel⟩, rfl, rfl, fun _ _ _ _ _ _ us hl => match us, hl with | [_], _ => rfl, by decide +kernel⟩
theorem o_need_number : DefOk glob L 60 i_need_number := ⟨rfl, ⟨rfl, rfl, rfl, by decide +kernel, rfl, by decide +kernel, by decide +kernel⟩, rfl, rfl, fun _ _ _ _ _ _ us hl => match us, hl with | [_, _, _], _ => rfl, by decide +kernel⟩
theorem o_came : DefOk glob L 60 i_came := ⟨rfl, ⟨rfl, rfl, rfl, by decide +kernel, rfl, by decide +kernel, by decide +kernel⟩, rfl, rfl, fun _ _ _ _ _ _ us hl => match us, hl with | [_, _], _ => rfl, by decide +kernel⟩
theorem o_went : DefOk glob L 60 i_went := ⟨rfl, ⟨rfl, rfl, rfl, by decide +kernel, rfl, by decide +kernel, by decide +kernel⟩, rfl, rfl, fun _ _ _ _ _ _ us hl => match us, hl with | [_, _], _ => rfl, by decide +kernel⟩
theorem o_counted_of : DefOk glob L 60 i_counted_of := ⟨rfl, ⟨rfl, rfl, rfl, by decide +kernel, rfl, by decide +kernel, by decide +kernel⟩, rfl, rfl, fun _ _ _ _ _ _ us hl => match us, hl with | [_, _], _ => rfl, by decide +kernel⟩
theorem o_left_of : DefOk glob L 60 i_left_of := ⟨rfl, ⟨rfl, rfl, rfl, by decide +kernel, rfl, by decide +kernel, by decide +kernel⟩, rfl, rfl, fun _ _ _ _ _ _ us hl => match us, hl with | [_, _], _ => rfl, by decide +kernel⟩
theorem o_split_of : DefOk glob L 60 i_split_of := ⟨rfl, ⟨rfl, rfl, rfl, by decide +kernel, rfl, by decide +kernel, by decide +kernel⟩, rfl, rfl, fun _ _ _ _ _ _ us hl => match us, hl with | [_, _], _ => rfl, by decide +kernel⟩
theorem o_parts_of : DefOk glob L 60 i_parts_of := ⟨rfl, ⟨rfl, rfl, rfl, by decide +kernel, rfl, by decide +kernel, by decide +kernel⟩, rfl, rfl, fun _ _ _ _ _ _ us hl => match us, hl with | [_, _], _ => rfl, by decide +kernel⟩
theorem o_lists_of : DefOk glob L 60 i_lists_of := ⟨rfl, ⟨rfl, rfl, rfl, by decide +kernel, rfl, by decide +kernel, by decide +kernel⟩, rfl, rfl, fun _ _ _ _ _ _ us hl => match us, hl with | [_], _ => rfl, by decide +kernel⟩
theorem o_all_parts : DefOk glob L 60 i_all_parts := ⟨rfl, ⟨rfl, rfl, rfl, by decide +kernel, rfl, by decide +kernel, by decide +kernel⟩, rfl, rfl, fun _ _ _ _ _ _ us hl => match us, hl with | [_], _ => rfl, by decide +kernel⟩
theorem o_paid_of : DefOk glob L 60 i_paid_of := ⟨rfl, ⟨rfl, rfl, rfl, by decide +kernel, rfl, by decide +kernel, by decide +kernel⟩, rfl, rfl, fun _ _ _ _ _ _ us hl => match us, hl with | [_, _], _ => rfl, by decide +kernel⟩
theorem o_every_day : DefOk glob L 60 i_every_day := ⟨rfl, ⟨rfl, rfl, rfl, by decide +kernel, rfl, by decide +kernel, by decide +kernel⟩, rfl, rfl, fun _ _ _ _ _ _ us hl => match us, hl with | [], _ => rfl, by decide +kernel⟩
theorem o_lowest_terms : DefOk glob L 60 i_lowest_terms := ⟨rfl, ⟨rfl, rfl, rfl, by decide +kernel, rfl, by decide +kernel, by decide +kernel⟩, rfl, rfl, fun _ _ _ _ _ _ us hl => match us, hl with | [_, _], _ => rfl, by decide +kernel⟩
theorem o_ends_of : DefOk glob L 60 i_ends_of := ⟨rfl, ⟨rfl, rfl, rfl, by decide +kernel, rfl, by decide +kernel, by decide +kernel⟩, rfl, rfl, fun _ _ _ _ _ _ us hl => match us, hl with | [_, _], _ => rfl, by decide +kernel⟩
theorem o_mean_of : DefOk glob L 60 i_mean_of := ⟨rfl, ⟨rfl, rfl, rfl, by decide +kernel, rfl, by decide +kernel, by decide +kernel⟩, rfl, rfl, fun _ _ _ _ _ _ us hl => match us, hl with | [_], _ => rfl, by decide +kernel⟩
theorem o_every_rounding : DefOk glob L 60 i_every_rounding := ⟨rfl, ⟨rfl, rfl, rfl, by decide +kernel, rfl, by decide +kernel, by decide +kernel⟩, rfl, rfl, fun _ _ _ _ _ _ us hl => match us, hl with | [], _ => rfl, by decide +kernel⟩
theorem o_fair_outs : DefOk glob L 60 i_fair_outs := ⟨rfl, ⟨rfl, rfl, rfl, by decide +kernel, rfl, by decide +kernel, by decide +kernel⟩, rfl, rfl, fun _ _ _ _ _ _ us hl => match us, hl with | [_], _ => rfl, by decide +kernel⟩
theorem o_never_wins : DefOk glob L 60 i_never_wins := ⟨rfl, ⟨rfl, rfl, rfl, by decide +kernel, rfl, by decide +kernel, by decide +kernel⟩, rfl, rfl, fun _ _ _ _ _ _ us hl => match us, hl with | [_], _ => rfl, by decide +kernel⟩
theorem o_never_loses : DefOk glob L 60 i_never_loses := ⟨rfl, ⟨rfl, rfl, rfl, by decide +kernel, rfl, by decide +kernel, by decide +kernel⟩, rfl, rfl, fun _ _ _ _ _ _ us hl => match us, hl with | [_], _ => rfl, by decide +kernel⟩
theorem o_least_day_limit : DefOk glob L 60 i_least_day_limit := ⟨rfl, ⟨rfl, rfl, rfl, by decide +kernel, rfl, by decide +kernel, by decide +kernel⟩, rfl, rfl, fun _ _ _ _ _ _ us hl => match us, hl with | [_], _ => rfl, by decide +kernel⟩
theorem o_least_week_limit : DefOk glob L 60 i_least_week_limit := ⟨rfl, ⟨rfl, rfl, rfl, by decide +kernel, rfl, by decide +kernel, by decide +kernel⟩, rfl, rfl, fun _ _ _ _ _ _ us hl => match us, hl with | [_], _ => rfl, by decide +kernel⟩
theorem o_by_time : DefOk glob L 60 i_by_time := ⟨rfl, ⟨rfl, rfl, rfl, by decide +kernel, rfl, by decide +kernel, by decide +kernel⟩, rfl, rfl, fun _ _ _ _ _ _ us hl => match us, hl with | [_, _], _ => rfl, by decide +kernel⟩
theorem o_weeks_by_time : DefOk glob L 60 i_weeks_by_time := ⟨rfl, ⟨rfl, rfl, rfl, by decide +kernel, rfl, by decide +kernel, by decide +kernel⟩, rfl, rfl, fun _ _ _ _ _ _ us hl => match us, hl with | [_, _], _ => rfl, by decide +kernel⟩
theorem o_best_weeks_of : DefOk glob L 60 i_best_weeks_of := ⟨rfl, ⟨rfl, rfl, rfl, by decide +kernel, rfl, by decide +kernel, by decide +kernel⟩, rfl, rfl, fun _ _ _ _ _ _ us hl => match us, hl with | [_], _ => rfl, by decide +kernel⟩
theorem o_most_in_week : DefOk glob L 60 i_most_in_week := ⟨rfl, ⟨rfl, rfl, rfl, by decide +kernel, rfl, by decide +kernel, by decide +kernel⟩, rfl, rfl, fun _ _ _ _ _ _ us hl => match us, hl with | [_, _], _ => rfl, by decide +kernel⟩
theorem o_week_for : DefOk glob L 60 i_week_for := ⟨rfl, ⟨rfl, rfl, rfl, by decide +kernel, rfl, by decide +kernel, by decide +kernel⟩, rfl, rfl, fun _ _ _ _ _ _ us hl => match us, hl with | [_, _], _ => rfl, by decide +kernel⟩
theorem o_least_week : DefOk glob L 60 i_least_week := ⟨rfl, ⟨rfl, rfl, rfl, by decide +kernel, rfl, by decide +kernel, by decide +kernel⟩, rfl, rfl, fun _ _ _ _ _ _ us hl => match us, hl with | [_, _], _ => rfl, by decide +kernel⟩
theorem o__law_deck : DefOk glob L 60 i__law_deck := ⟨rfl, ⟨rfl, rfl, rfl, by decide +kernel, rfl, by decide +kernel, by decide +kernel⟩, rfl, rfl, fun _ _ _ _ _ _ us hl => match us, hl with | [_, _], _ => rfl, by decide +kernel⟩
theorem o__law_pick : DefOk glob L 60 i__law_pick := ⟨rfl, ⟨rfl, rfl, rfl, by decide +kernel, rfl, by decide +kernel, by decide +kernel⟩, rfl, rfl, fun _ _ _ _ _ _ us hl => match us, hl with | [_, _], _ => rfl, by decide +kernel⟩
theorem o__law_rounding : DefOk glob L 60 i__law_rounding := ⟨rfl, ⟨rfl, rfl, rfl, by decide +kernel, rfl, by decide +kernel, by decide +kernel⟩, rfl, rfl, fun _ _ _ _ _ _ us hl => match us, hl with | [_], _ => rfl, by decide +kernel⟩
theorem o__law_manner : DefOk glob L 60 i__law_manner := ⟨rfl, ⟨rfl, rfl, rfl, by decide +kernel, rfl, by decide +kernel, by decide +kernel⟩, rfl, rfl, fun _ _ _ _ _ _ us hl => match us, hl with | [_], _ => rfl, by decide +kernel⟩
theorem o_law : DefOk glob L 60 i_law := ⟨rfl, ⟨rfl, rfl, rfl, by decide +kernel, rfl, by decide +kernel, by decide +kernel⟩, rfl, rfl, fun _ _ _ _ _ _ us hl => match us, hl with | [_], _ => rfl, by decide +kernel⟩
theorem SP : SpOk (top 60) (top 61) := ⟨⟨rfl, rfl, rfl, by decide +kernel, rfl, by decide +kernel, by decide +kernel⟩, by decide +kernel, by decide +kernel, fun _ _ _ _ _ _ us hl => match us, hl with | [_], _ => rfl, ⟨rfl, rfl, rfl, by decide +kernel, rfl, by decide +kernel, by decide +kernel⟩, fun _ _ _ _ _ _ us hl => match us, hl with | [_], _ => rfl, by decide +kernel, by decide +kernel⟩
theorem LO : LawOk glob gvG L 60 := ⟨by
  intro d hd
  have hd : d ∈ [i_is_from, i_is_rounding_of, i_are_breaks_of, i_is_manner_of, i_need_manner, i_need_number, i_came, i_went, i_counted_of, i_left_of, i_split_of, i_parts_of, i_lists_of, i_all_parts, i_paid_of, i_every_day, i_lowest_terms, i_ends_of, i_mean_of, i_every_rounding, i_fair_outs, i_never_wins, i_never_loses, i_least_day_limit, i_least_week_limit, i_by_time, i_weeks_by_time, i_best_weeks_of, i_most_in_week, i_week_for, i_least_week, i__law_deck, i__law_pick, i__law_rounding, i__law_manner, i_law] := hd
  simp only [List.mem_cons, List.not_mem_nil, or_false] at hd
  rcases hd with rfl | rfl | rfl | rfl | rfl | rfl | rfl | rfl | rfl | rfl | rfl | rfl | rfl | rfl | rfl | rfl | rfl | rfl | rfl | rfl | rfl | rfl | rfl | rfl | rfl | rfl | rfl | rfl | rfl | rfl | rfl | rfl | rfl | rfl | rfl | rfl
  · exact o_is_from
  · exact o_is_rounding_of
  · exact o_are_breaks_of
  · exact o_is_manner_of
  · exact o_need_manner
  · exact o_need_number
  · exact o_came
  · exact o_went
  · exact o_counted_of
  · exact o_left_of
  · exact o_split_of
  · exact o_parts_of
  · exact o_lists_of
  · exact o_all_parts
  · exact o_paid_of
  · exact o_every_day
  · exact o_lowest_terms
  · exact o_ends_of
  · exact o_mean_of
  · exact o_every_rounding
  · exact o_fair_outs
  · exact o_never_wins
  · exact o_never_loses
  · exact o_least_day_limit
  · exact o_least_week_limit
  · exact o_by_time
  · exact o_weeks_by_time
  · exact o_best_weeks_of
  · exact o_most_in_week
  · exact o_week_for
  · exact o_least_week
  · exact o__law_deck
  · exact o__law_pick
  · exact o__law_rounding
  · exact o__law_manner
  · exact o_law
  , by decide +kernel, by
  intro c hc
  simp only [L, List.mem_cons, List.not_mem_nil, or_false] at hc
  rcases hc with rfl | rfl | rfl | rfl | rfl | rfl | rfl <;> rfl
  , by decide +kernel, fun a b e => (by cases e; exact SP)⟩
abbrev R : PySem.W.OpenRow := PySem.W.OpenLaw.row PySem.Challenge.rw_clockcards_k25_errors_of_weeks_and_limit
def loose : List Str := (["CardError", "InvalidManner", "InvalidTime", "InvalidDay", "InvalidWeek", "InvalidNumber", "InvalidSeen", "InvalidPart", "WrongPunch", "NothingToUndo", "TooMany", "InvalidText", "LAST", "STEPS", "SIDES", "MOST_MINUS", "MOST_DAYS", "is_from", "is_rounding_of", "are_breaks_of", "is_manner_of", "need_manner", "need_number", "came", "went", "counted_of", "left_of", "split_of", "parts_of", "lists_of"] : List Str) ++ (["all_parts", "paid_of", "every_day", "lowest_terms", "ends_of", "mean_of", "every_rounding", "fair_outs", "never_wins", "never_loses", "least_day_limit", "least_week_limit", "MOST_TIME", "MOST_PAY", "by_time", "weeks_by_time", "best_weeks_of", "most_in_week", "week_for", "least_week", "_law_deck", "_law_pick", "_law_name_of", "_law_try", "_law_rounding", "_law_manner", "_law_pair", "_law_days"] : List Str)
def ob (s : PySem.W.SharedT) : He.AlD × Bool := obsL 4 L (HandSHeadRun.getT s)
theorem ob_eq (s : PySem.W.SharedT) : ob s = (hookL 4 L).obs s.abs := obsL_eq (HandSHeadRun.getT_eq s)
theorem run (w : World) : HandSHeadRun.RunEq R (PySem.W.view R.prog [66]) (hookL 4 L) ob 4000 loose w := by
  intro os
  kernel_rfl
end DL.Law

open PySem PySem.W PySem.Calls PyProof.Rows
theorem PySem.Challenge.cw_clockcards_k25_errors_of_weeks_and_limit_holds : PySem.Challenge.rw_clockcards_k25_errors_of_weeks_and_limit.Holds := by
  w_on; o_law
  refine HandSHeadRun.head_any (r := OpenLaw.row PySem.Challenge.rw_clockcards_k25_errors_of_weeks_and_limit) (q := view (OpenLaw.row PySem.Challenge.rw_clockcards_k25_errors_of_weeks_and_limit).prog [66]) (H := DL.hookL 4 DL.Law.L) (ob := DL.Law.ob) (M := 4000) (loose := DL.Law.loose) (d := HandSHeadRun.topDef (OpenLaw.row PySem.Challenge.rw_clockcards_k25_errors_of_weeks_and_limit).prog 66) (kwd := []) DL.Law.ob_eq
    (by kernel_rfl) (fun s => by kernel_rfl) DL.Law.run (by kernel_rfl) (by kernel_rfl) (by kernel_rfl) (by rfl) (by first | assumption | decide +kernel) (by decide +kernel) ⟨rfl, rfl, rfl, rfl, rfl, by decide +kernel⟩ ?hw ?hc
  case hw => w_witness2
  case hc =>
    refine LamX.walk_ofTsE (l := PySem.Challenge.rw_clockcards_k25_errors_of_weeks_and_limit) (n := 63) (k := 120) (x := "_law_script") (CX := fun _ => L2.CX0) rfl (by decide) (by kernel_rfl) ⟨rfl, by decide, by decide⟩ ?F (fun _ _ _ _ _ z => z)
    intro w mg fa h Y G hmg0
    obtain ⟨K, KX, c⟩ := Y
    have hmg : mg ("law" : PySem.Str) = some (.ref fa) := by
      have e : (HandSHeadRun.topDef (OpenLaw.row PySem.Challenge.rw_clockcards_k25_errors_of_weeks_and_limit).prog 66).name = ("law" : PySem.Str) := by kernel_rfl
      rw [← e]
      exact hmg0
    exact ⟨K, KX, DL.law_facts (l := PySem.Challenge.rw_clockcards_k25_errors_of_weeks_and_limit) (w := w) (N := 63) (n := 100) (k := 40) (d := DL.Law.i_law) (x := "_law_script") DL.Law.LO KX G c (by unfold DL.Law.L; simp) rfl hmg DL.plain_k25⟩


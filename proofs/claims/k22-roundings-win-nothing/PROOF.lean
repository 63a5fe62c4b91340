import PyProof.Rows.All
import Wide.All
import OpenK.AllK
import Wide.FinOn
import HandS.Base
import HandS.Call
import HandS.List
import HandS.Comp
import HandS.Ends
import HandS.Dict
import HandS.Iter
import HandS.Text
import HandS.Words
import HandS.SortInts
import HandS.Exc
import HandS.TupLe
import HandS.Deep
import HandS.TupAny
import HandS.IsInst
import HandS.Walk
import HandS.Style
import HandS.Conv
import HandS.More
import HandS.CallSlots
import HandS.Zip
import HandS.Small
import HandS.TryOnly
import HandS.WordsExc
import HandS.Defaults
import KE.GoesMore
import KE.GoesEnum
import KE.GoesZip
import KE.KStateDown
import HandS.Head0
import HandS.Head1
import HandS.Head2
import HandS.HeadEnd
import HandS.HeadHook1
import HandS.HeadHook2
import HandS.HeadHook4
import PySem.Challenge.RW_clockcards_k22_whole_roundings_that_win
set_option Elab.async false
set_option linter.all false
set_option maxRecDepth 100000
set_option maxHeartbeats 0
/-! data trees over the abstract heap -/
namespace DL
open PySem PySem.Spec PyProof.Rows L2

/-- data as a tree -/
inductive D where
  | non | bl (b : Bool) | int (i : Int) | str (x : Str)
  | tup (ds : List D) | ktup (ds : List D) | lst (ds : List D)
  | dK (kvs : List (Key × D)) | dT (kvs : List (List Key × D))
  | fn (j : Nat)

abbrev AP' := Addr → Prop

/-- a tuple of the written part -/
def KTup (K : PySem.W.Frag) (a : Addr) (xs : List V) : Prop :=
  ∃ (o : Obj) (its : Array Value) (n : Nat), K.lookup a = some o ∧ o.cls = .type "tuple" ∧ o.data = .seq its n ∧ its.size ≤ sizeLine ∧ Vals xs its.toList

variable (K : PySem.W.Frag) (fa : Nat → Option Addr)
mutual
inductive Rep (H : Hp) (F : AP') : V → D → Prop
  | non : Rep H F .non .non
  | bl (b : Bool) : Rep H F (.bl b) (.bl b)
  | int (i : Int) : Rep H F (.int i) (.int i)
  | str (x : Str) : Rep H F (.str x) (.str x)
  | tup {a : Addr} {xs : List V} {ds : List D} : H a = some (.tup xs) → RepL H F xs ds → Rep H F (.ref a) (.tup ds)
  | ktup {a : Addr} {xs : List V} {ds : List D} : KTup K a xs → RepL H F xs ds → Rep H F (.ref a) (.ktup ds)
  | lst {a : Addr} {xs : List V} {ds : List D} : F a → Rd H a (.lst xs) → RepL H F xs ds → Rep H F (.ref a) (.lst ds)
  | dK {a : Addr} {kvs : List (Key × V)} {kds : List (Key × D)} : F a → Rd H a (.dK kvs) → kvs.map Prod.fst = kds.map Prod.fst → RepL H F (kvs.map Prod.snd) (kds.map Prod.snd) → Rep H F (.ref a) (.dK kds)
  | dT {a : Addr} {kvs : List (List Key × V)} {kds : List (List Key × D)} : F a → Rd H a (.dT kvs) → kvs.map Prod.fst = kds.map Prod.fst → RepL H F (kvs.map Prod.snd) (kds.map Prod.snd) → Rep H F (.ref a) (.dT kds)
  | fn {j : Nat} {a : Addr} : fa j = some a → Rep H F (.ref a) (.fn j)
inductive RepL (H : Hp) (F : AP') : List V → List D → Prop
  | nil : RepL H F [] []
  | cons {v : V} {vs : List V} {d : D} {ds : List D} : Rep H F v d → RepL H F vs ds → RepL H F (v :: vs) (d :: ds)
end

variable {K : PySem.W.Frag} {fa : Nat → Option Addr}
section
variable {H H' : Hp} {F F' : AP'}
/-- what readings lean on stands -/
structure Stays (H : Hp) (F : AP') (H' : Hp) (F' : AP') : Prop where
  tup : ∀ a xs, H a = some (.tup xs) → H' a = some (.tup xs)
  rd : ∀ a u, F a → Rd H a u → Rd H' a u
  fr : ∀ a, F a → F' a
  fz : ∀ a ob u, H a = some (.frz ob u) → H' a = some (.frz ob u)
mutual
theorem Rep.stays (s : Stays H F H' F') : ∀ {v : V} {d : D}, Rep K fa H F v d → Rep K fa H' F' v d
  | _, _, .non => .non
  | _, _, .bl b => .bl b
  | _, _, .int i => .int i
  | _, _, .str x => .str x
  | _, _, .tup h r => .tup (s.tup _ _ h) (RepL.stays s r)
  | _, _, .ktup h r => .ktup h (RepL.stays s r)
  | _, _, .lst f h r => .lst (s.fr _ f) (s.rd _ _ f h) (RepL.stays s r)
  | _, _, .dK f h e r => .dK (s.fr _ f) (s.rd _ _ f h) e (RepL.stays s r)
  | _, _, .dT f h e r => .dT (s.fr _ f) (s.rd _ _ f h) e (RepL.stays s r)
  | _, _, .fn h => .fn h
theorem RepL.stays (s : Stays H F H' F') : ∀ {v : List V} {d : List D}, RepL K fa H F v d → RepL K fa H' F' v d
  | _, _, .nil => .nil
  | _, _, .cons h r => .cons (Rep.stays s h) (RepL.stays s r)
end
theorem RepL.length : ∀ {vs : List V} {ds : List D}, RepL K fa H F vs ds → vs.length = ds.length
  | _, _, .nil => rfl
  | _, _, .cons _ r => by rw [List.length_cons, List.length_cons, RepL.length r]
theorem RepL.get : ∀ {vs : List V} {ds : List D} {i : Nat} {d : D}, RepL K fa H F vs ds → ds[i]? = some d → ∃ v, vs[i]? = some v ∧ Rep K fa H F v d
  | _, _, _, _, .nil, e => by simp at e
  | _, _, 0, _, .cons h _, e => by simp at e; subst e; exact ⟨_, rfl, h⟩
  | _, _, i + 1, _, .cons _ r, e => by
    obtain ⟨v, h1, h2⟩ := RepL.get (i := i) r (by simpa using e)
    exact ⟨v, by simpa using h1, h2⟩
theorem RepL.get' : ∀ {vs : List V} {ds : List D} {i : Nat} {v : V}, RepL K fa H F vs ds → vs[i]? = some v → ∃ d, ds[i]? = some d ∧ Rep K fa H F v d
  | _, _, _, _, .nil, e => by simp at e
  | _, _, 0, _, .cons h _, e => by simp at e; subst e; exact ⟨_, rfl, h⟩
  | _, _, i + 1, _, .cons _ r, e => by
    obtain ⟨v, h1, h2⟩ := RepL.get' (i := i) r (by simpa using e)
    exact ⟨v, by simpa using h1, h2⟩
theorem RepL.append : ∀ {vs ws : List V} {ds es : List D}, RepL K fa H F vs ds → RepL K fa H F ws es → RepL K fa H F (vs ++ ws) (ds ++ es)
  | _, _, _, _, .nil, s => s
  | _, _, _, _, .cons h r, s => .cons h (RepL.append r s)
theorem RepL.take : ∀ {vs : List V} {ds : List D} (n : Nat), RepL K fa H F vs ds → RepL K fa H F (vs.take n) (ds.take n)
  | _, _, 0, _ => .nil
  | _, _, _ + 1, .nil => .nil
  | _, _, n + 1, .cons h r => .cons h (RepL.take n r)
theorem RepL.drop : ∀ {vs : List V} {ds : List D} (n : Nat), RepL K fa H F vs ds → RepL K fa H F (vs.drop n) (ds.drop n)
  | _, _, 0, r => r
  | _, _, _ + 1, .nil => .nil
  | _, _, n + 1, .cons _ r => RepL.drop n r
theorem RepL.set : ∀ {vs : List V} {ds : List D} (i : Nat) {v : V} {d : D}, RepL K fa H F vs ds → Rep K fa H F v d → RepL K fa H F (vs.set i v) (ds.set i d)
  | _, _, _, _, _, .nil, _ => .nil
  | _, _, 0, _, _, .cons _ r, h => .cons h r
  | _, _, i + 1, _, _, .cons h r, g => .cons h (RepL.set i r g)
theorem RepL.snoc {vs : List V} {ds : List D} {v : V} {d : D} (r : RepL K fa H F vs ds) (h : Rep K fa H F v d) : RepL K fa H F (vs ++ [v]) (ds ++ [d]) := r.append (.cons h .nil)
theorem RepL.reverse : ∀ {vs : List V} {ds : List D}, RepL K fa H F vs ds → RepL K fa H F vs.reverse ds.reverse
  | _, _, .nil => .nil
  | _, _, .cons h r => by rw [List.reverse_cons, List.reverse_cons]; exact (RepL.reverse r).snoc h
theorem RepL.rep_flat {k : Nat} {vs : List V} {ds : List D} (r : RepL K fa H F vs ds) : RepL K fa H F (List.replicate k vs).flatten (List.replicate k ds).flatten := by
  induction k with
  | zero => exact .nil
  | succ k ih => rw [List.replicate_succ, List.replicate_succ, List.flatten_cons, List.flatten_cons]; exact r.append ih
end

/-- a slot's content: data; a list or dict of this frame's own; one lent by the caller -/
inductive SV where
  | dat (d : D) | own (d : D) | bor (d : D)
abbrev Env' := List (Option SV)
def SV.d : SV → D
  | .dat d => d
  | .own d => d
  | .bor d => d
def SV.mine : SV → Bool
  | .dat _ => false
  | _ => true
def SV.lent : SV → Bool
  | .bor _ => true
  | _ => false

/-- the entries of a dict -/
def DRep {κ : Type} (K : PySem.W.Frag) (fa : Nat → Option Addr) (H : Hp) (F : AP') (kvs : List (κ × V)) (kds : List (κ × D)) : Prop :=
  kvs.map Prod.fst = kds.map Prod.fst ∧ RepL K fa H F (kvs.map Prod.snd) (kds.map Prod.snd)
/-- a thing that may be written: at a there stands d, its items frozen -/
inductive OwnAt (K : PySem.W.Frag) (fa : Nat → Option Addr) (H : Hp) (F : AP') (a : Addr) : D → Prop
  | lst {xs : List V} {ds : List D} : H a = some (.lst xs) → RepL K fa H F xs ds → OwnAt K fa H F a (.lst ds)
  | dK {kvs : List (Key × V)} {kds : List (Key × D)} : H a = some (.dK kvs) → DRep K fa H F kvs kds → OwnAt K fa H F a (.dK kds)
  | dT {kvs : List (List Key × V)} {kds : List (List Key × D)} : H a = some (.dT kvs) → DRep K fa H F kvs kds → OwnAt K fa H F a (.dT kds)

def RepS (K : PySem.W.Frag) (fa : Nat → Option Addr) (H : Hp) (F : AP') (v : V) : SV → Prop
  | .dat d => Rep K fa H F v d
  | .own d => ∃ a, v = .ref a ∧ ¬ F a ∧ OwnAt K fa H F a d
  | .bor d => ∃ a, v = .ref a ∧ ¬ F a ∧ OwnAt K fa H F a d

/-- the addresses that the slots own (or have on loan) -/
def Own (σ : L2.St) (ρ : Env') (a : Addr) : Prop := ∃ (i : Nat) (sv : SV), ρ[i]? = some (some sv) ∧ sv.mine = true ∧ σ[i]? = some (some (.ref a))
def Bor (σ : L2.St) (ρ : Env') (a : Addr) : Prop := ∃ (i : Nat) (sv : SV), ρ[i]? = some (some sv) ∧ sv.lent = true ∧ σ[i]? = some (some (.ref a))

structure EnvOk (K : PySem.W.Frag) (fa : Nat → Option Addr) (H : Hp) (F : AP') (σ : L2.St) (ρ : Env') : Prop where
  len : σ.length = ρ.length
  slot : ∀ (i : Nat) (sv : SV), ρ[i]? = some (some sv) → ∃ v, σ[i]? = some (some v) ∧ RepS K fa H F v sv
  apart : ∀ (i j : Nat) (sv sw : SV) (a : Addr), ρ[i]? = some (some sv) → ρ[j]? = some (some sw) → sv.mine = true → sw.mine = true → σ[i]? = some (some (.ref a)) → σ[j]? = some (some (.ref a)) → i = j
  fd : ∀ a, F a → H a ≠ none

/-- a dict -/
def dicO : HO → Prop
  | .dK _ => True
  | .dT _ => True
  | _ => False
/-- a step: what was not our own is kept (a frozen dict may be locked); what is newly frozen is new, or was our own and not lent -/
structure Step (H : Hp) (F O B : AP') (H' : Hp) (F' O' B' : AP') : Prop where
  keep : ∀ a o, H a = some o → ¬ O a → H' a = some o ∨ (F a ∧ dicO o ∧ ∃ ob, H' a = some (.frz ob o))
  fmono : ∀ a, F a → F' a
  fnew : ∀ a, F' a → F a ∨ H a = none ∨ (O a ∧ ¬ B a)
  onew : ∀ a, O' a → O a ∨ H a = none
  bor : ∀ a, B' a ↔ B a
  dom : ∀ a, H' a = none → H a = none

theorem Step.refl {H : Hp} {F O B : AP'} : Step H F O B H F O B :=
  ⟨fun _ _ h _ => .inl h, fun _ h => h, fun _ h => .inl h, fun _ h => .inl h, fun _ => Iff.rfl, fun _ h => h⟩
theorem Step.trans {H H1 H2 : Hp} {F F1 F2 O O1 O2 B B1 B2 : AP'} (s : Step H F O B H1 F1 O1 B1) (t : Step H1 F1 O1 B1 H2 F2 O2 B2) : Step H F O B H2 F2 O2 B2 where
  keep := fun a o h no => by
    have no1 : ¬ O1 a := fun z => by
      rcases s.onew a z with z | z
      · exact no z
      · rw [h] at z; cases z
    rcases s.keep a o h no with h1 | ⟨f, d, ob, h1⟩
    · rcases t.keep a o h1 no1 with h2 | ⟨f, d, ob, h2⟩
      · exact .inl h2
      · refine .inr ⟨?_, d, ob, h2⟩
        rcases s.fnew a f with f | f | ⟨f, _⟩
        · exact f
        · rw [h] at f; cases f
        · exact absurd f no
    · rcases t.keep a _ h1 no1 with h2 | ⟨_, d2, _⟩
      · exact .inr ⟨f, d, ob, h2⟩
      · exact d2.elim
  fmono := fun a h => t.fmono a (s.fmono a h)
  fnew := fun a h => by
    rcases t.fnew a h with h | h | ⟨h, nb⟩
    · exact s.fnew a h
    · exact .inr (.inl (s.dom a h))
    · rcases s.onew a h with h | h
      · exact .inr (.inr ⟨h, fun z => nb ((s.bor a).mpr z)⟩)
      · exact .inr (.inl h)
  onew := fun a h => by
    rcases t.onew a h with h | h
    · exact s.onew a h
    · exact .inr (s.dom a h)
  bor := fun a => (t.bor a).trans (s.bor a)
  dom := fun a h => s.dom a (t.dom a h)

section
variable {H H' : Hp} {F F' O B O' B' : AP'} {σ : L2.St} {ρ : Env'}
theorem EnvOk.own_nf (ok : EnvOk K fa H F σ ρ) {a : Addr} (h : Own σ ρ a) : ¬ F a := by
  obtain ⟨i, sv, e, m, e2⟩ := h
  obtain ⟨v, e3, r⟩ := ok.slot i sv e
  rw [e2] at e3; cases e3
  cases sv with
  | dat d => cases m
  | own d => obtain ⟨b, eb, nf, _⟩ := r; cases eb; exact nf
  | bor d => obtain ⟨b, eb, nf, _⟩ := r; cases eb; exact nf
theorem OwnAt.some {a : Addr} {d : D} (h : OwnAt K fa H F a d) : ∃ o, H a = some o ∧ (∀ xs, o ≠ .tup xs) ∧ ∀ ob u, o ≠ .frz ob u := by
  cases h with
  | lst e _ => exact ⟨_, e, (by intro _ z; cases z), (by intro _ _ z; cases z)⟩
  | dK e _ => exact ⟨_, e, (by intro _ z; cases z), (by intro _ _ z; cases z)⟩
  | dT e _ => exact ⟨_, e, (by intro _ z; cases z), (by intro _ _ z; cases z)⟩
theorem EnvOk.own_at (ok : EnvOk K fa H F σ ρ) {a : Addr} (h : Own σ ρ a) : ∃ o, H a = some o ∧ (∀ xs, o ≠ .tup xs) ∧ ∀ ob u, o ≠ .frz ob u := by
  obtain ⟨i, sv, e, m, e2⟩ := h
  obtain ⟨v, e3, r⟩ := ok.slot i sv e
  rw [e2] at e3; cases e3
  cases sv with
  | dat d => cases m
  | own d => obtain ⟨b, eb, nf, q⟩ := r; cases eb; exact q.some
  | bor d => obtain ⟨b, eb, nf, q⟩ := r; cases eb; exact q.some
/-- readings stand through a step of ours -/
theorem Step.stays (ok : EnvOk K fa H F σ ρ) (s : Step H F (Own σ ρ) B H' F' O' B') : Stays H F H' F' where
  tup := fun a xs h => by
    have no : ¬ Own σ ρ a := fun z => by
      obtain ⟨o, e, n1, n2⟩ := ok.own_at z
      rw [e] at h; exact n1 _ (Option.some.inj h)
    rcases s.keep _ _ h no with h | ⟨_, d, _⟩
    · exact h
    · exact d.elim
  rd := fun a u f h => by
    have no : ¬ Own σ ρ a := fun z => ok.own_nf z f
    rcases h with h | ⟨ob, h⟩
    · rcases s.keep _ _ h no with h | ⟨_, _, ob, h⟩
      · exact .inl h
      · exact .inr ⟨ob, h⟩
    · rcases s.keep _ _ h no with h | ⟨_, d, _⟩
      · exact .inr ⟨ob, h⟩
      · exact d.elim
  fr := s.fmono
  fz := fun a ob u h => by
    have no : ¬ Own σ ρ a := fun z => by
      obtain ⟨o, e, n1, n2⟩ := ok.own_at z
      rw [e] at h; exact n2 _ _ (Option.some.inj h)
    rcases s.keep _ _ h no with h | ⟨_, d, _⟩
    · exact h
    · exact d.elim
end

/-! ### what comes out -/
/-- an exception: the class by its number, and its field -/
structure Exn where
  cls : Nat
  fld : Option D
inductive Res (α : Type) where
  | ok (a : α) (ρ : Env')
  | exc (x : Exn) (ρ : Env')
  | stuck
@[reducible] def Res.bind {α β : Type} (r : Res α) (g : α → Env' → Res β) : Res β := match r with
  | .ok a ρ => g a ρ
  | .exc x ρ => .exc x ρ
  | .stuck => .stuck

/-- an exception as it lies: EX says it of the class value, the dict and the heap -/
abbrev ExR := Exn → Value → Option Addr → Hp → Prop

/-- the result's own address is new and no slot's -/
def ResOk (K : PySem.W.Frag) (fa : Nat → Option Addr) (H0 H : Hp) (F : AP') (σ : L2.St) (ρ : Env') (v : V) (sv : SV) : Prop :=
  RepS K fa H F v sv ∧ match sv with
    | .dat _ => True
    | .own _ => ∃ a, v = .ref a ∧ H0 a = none ∧ ¬ Own σ ρ a
    | .bor _ => False

/-- behind an expression that began at H0, F0, ρ0 -/
def PostE (K : PySem.W.Frag) (fa : Nat → Option Addr) (EX : ExR) (W : WX) (σ : L2.St) (H0 : Hp) (F0 : AP') (ρ0 : Env') (r : Res SV) (Q : VK) : Prop := match r with
  | .ok sv ρ' => ∀ v H' F', Step H0 F0 (Own σ ρ0) (Bor σ ρ0) H' F' (Own σ ρ') (Bor σ ρ') → EnvOk K fa H' F' σ ρ' → ResOk K fa H0 H' F' σ ρ' v sv → Q v H'
  | .exc x ρ' => ∀ cls d H' F', Step H0 F0 (Own σ ρ0) (Bor σ ρ0) H' F' (Own σ ρ') (Bor σ ρ') → EnvOk K fa H' F' σ ρ' → EX x cls d H' → W cls d σ H'
  | .stuck => False
def tE (K : PySem.W.Frag) (fa : Nat → Option Addr) (EX : ExR) (W : WX) (f : Env' → Res SV) : TE := fun σ H Q => ∃ F ρ, EnvOk K fa H F σ ρ ∧ PostE K fa EX W σ H F ρ (f ρ) Q

theorem PE.weak {X : Cx} {e : Expr} {t t' : TE} (h : PE X e t) (w : ∀ σ H Q, t' σ H Q → t σ H Q) : PE X e t' := ⟨fun pins s σ H Q I hq => h.run pins s σ H Q I (w σ H Q hq)⟩
end DL

namespace DL
open PySem PySem.Spec PyProof.Rows L2

/-! ### data as PyData -/
mutual
def D.py : D → PyData
  | .non => .none
  | .bl b => .bool b
  | .int i => .int i
  | .str x => .str x
  | .tup ds => .tuple (pyL ds)
  | .ktup ds => .tuple (pyL ds)
  | .lst ds => .list (pyL ds)
  | .dK _ => .dict []
  | .dT _ => .dict []
  | .fn _ => .dict []
def pyL : List D → List PyData
  | [] => []
  | d :: ds => d.py :: pyL ds
end
theorem pyL_map : ∀ ds : List D, pyL ds = ds.map D.py
  | [] => rfl
  | d :: ds => by rw [pyL, List.map_cons, pyL_map ds]

section
variable {K : PySem.W.Frag} {fa : Nat → Option Addr} {H : Hp} {F : AP'}
theorem KTup.sq {a : Addr} {xs : List V} (h : KTup K a xs) : SqT K H a xs := by
  obtain ⟨o, its, n, h1, h2, h3, h4, h5⟩ := h
  exact .inr ⟨o, its, n, h1, h2, h3, h4, h5⟩
mutual
theorem Rep.dp : ∀ {v : V} {d : D}, Rep K fa H F v d → d.py.canLay0 = true → Dp K H v d.py
  | _, _, .non, _ => .non
  | _, _, .bl b, _ => .bl b
  | _, _, .int i, _ => .int i
  | _, _, .str x, _ => .str x
  | _, _, .tup h r, c => .tup (.inl (.inl h)) (RepL.dp r (by simpa [D.py, PyData.canLay0] using c))
  | _, _, .ktup h r, c => .tup h.sq (RepL.dp r (by simpa [D.py, PyData.canLay0] using c))
  | _, _, .lst f h r, c => .lst (.inl h) (RepL.dp r (by simpa [D.py, PyData.canLay0] using c))
  | _, _, .dK _ _ _ _, c => by simp [D.py, PyData.canLay0] at c
  | _, _, .dT _ _ _ _, c => by simp [D.py, PyData.canLay0] at c
  | _, _, .fn _, c => by simp [D.py, PyData.canLay0] at c
theorem RepL.dp : ∀ {vs : List V} {ds : List D}, RepL K fa H F vs ds → PyData.canLayAll0 (pyL ds) = true → DpAll K H vs (pyL ds)
  | _, _, .nil, _ => .nil
  | _, _, .cons h r, c => by
    have c' := Bool.and_eq_true_iff.mp (by simpa [pyL, PyData.canLayAll0] using c)
    exact .cons (Rep.dp h c'.1) (RepL.dp r c'.2)
end

/-! ### what is read -/
/-- x reads as d: frozen, or a thing of our own -/
def RdF (K : PySem.W.Frag) (fa : Nat → Option Addr) (H : Hp) (F : AP') (x : V) (d : D) : Prop := Rep K fa H F x d ∨ ∃ a, x = .ref a ∧ OwnAt K fa H F a d
theorem RdF.dp {x : V} {d : D} (h : RdF K fa H F x d) (c : d.py.canLay0 = true) : Dp K H x d.py := by
  rcases h with h | ⟨a, rfl, h⟩
  · exact h.dp c
  · cases h with
    | lst e r => exact .lst (.inl (.inl e)) (r.dp (by simpa [D.py, PyData.canLay0] using c))
    | dK _ _ => simp [D.py, PyData.canLay0] at c
    | dT _ _ => simp [D.py, PyData.canLay0] at c
theorem RdF.int {x : V} {i : Int} (h : RdF K fa H F x (.int i)) : x = .int i := by
  rcases h with h | ⟨a, rfl, h⟩
  · cases h; rfl
  · cases h
theorem RdF.bl {x : V} {i : Bool} (h : RdF K fa H F x (.bl i)) : x = .bl i := by
  rcases h with h | ⟨a, rfl, h⟩
  · cases h; rfl
  · cases h
theorem RdF.non {x : V} (h : RdF K fa H F x .non) : x = .non := by
  rcases h with h | ⟨a, rfl, h⟩
  · cases h; rfl
  · cases h
theorem RdF.str {x : V} {i : Str} (h : RdF K fa H F x (.str i)) : x = .str i := by
  rcases h with h | ⟨a, rfl, h⟩
  · cases h; rfl
  · cases h
theorem RdF.tup {x : V} {ds : List D} (h : RdF K fa H F x (.tup ds)) : ∃ a xs, x = .ref a ∧ H a = some (.tup xs) ∧ RepL K fa H F xs ds := by
  rcases h with h | ⟨a, rfl, h⟩
  · cases h with
    | tup e r => exact ⟨_, _, rfl, e, r⟩
  · cases h
theorem RdF.ktup {x : V} {ds : List D} (h : RdF K fa H F x (.ktup ds)) : ∃ a xs, x = .ref a ∧ KTup K a xs ∧ RepL K fa H F xs ds := by
  rcases h with h | ⟨a, rfl, h⟩
  · cases h with
    | ktup e r => exact ⟨_, _, rfl, e, r⟩
  · cases h
theorem RdF.fn {x : V} {j : Nat} (h : RdF K fa H F x (.fn j)) : ∃ a, x = .ref a ∧ fa j = some a := by
  rcases h with h | ⟨a, rfl, h⟩
  · cases h with
    | fn e => exact ⟨_, rfl, e⟩
  · cases h
theorem RdF.lst {x : V} {ds : List D} (h : RdF K fa H F x (.lst ds)) : ∃ a xs, x = .ref a ∧ Rd H a (.lst xs) ∧ RepL K fa H F xs ds := by
  rcases h with h | ⟨a, rfl, h⟩
  · cases h with
    | lst f e r => exact ⟨_, _, rfl, e, r⟩
  · cases h with
    | lst e r => exact ⟨a, _, rfl, .inl e, r⟩
theorem RdF.dK {x : V} {kds : List (Key × D)} (h : RdF K fa H F x (.dK kds)) : ∃ a kvs, x = .ref a ∧ Rd H a (.dK kvs) ∧ DRep K fa H F kvs kds := by
  rcases h with h | ⟨a, rfl, h⟩
  · cases h with
    | dK f e k r => exact ⟨_, _, rfl, e, k, r⟩
  · cases h with
    | dK e r => exact ⟨a, _, rfl, .inl e, r⟩
theorem RdF.dT {x : V} {kds : List (List Key × D)} (h : RdF K fa H F x (.dT kds)) : ∃ a kvs, x = .ref a ∧ Rd H a (.dT kvs) ∧ DRep K fa H F kvs kds := by
  rcases h with h | ⟨a, rfl, h⟩
  · cases h with
    | dT f e k r => exact ⟨_, _, rfl, e, k, r⟩
  · cases h with
    | dT e r => exact ⟨a, _, rfl, .inl e, r⟩
/-- a sequence of any kind -/
def D.seq? : D → Option (List D)
  | .tup ds => some ds
  | .ktup ds => some ds
  | .lst ds => some ds
  | _ => none
theorem RdF.seq {x : V} {d : D} {ds : List D} (h : RdF K fa H F x d) (e : d.seq? = some ds) : ∃ a xs, x = .ref a ∧ (SqL K H a xs ∨ SqT K H a xs) ∧ RepL K fa H F xs ds := by
  cases d with
  | tup es => cases e; obtain ⟨a, xs, h1, h2, h3⟩ := h.tup; exact ⟨a, xs, h1, .inr (.inl (.inl h2)), h3⟩
  | ktup es => cases e; obtain ⟨a, xs, h1, h2, h3⟩ := h.ktup; exact ⟨a, xs, h1, .inr h2.sq, h3⟩
  | lst es => cases e; obtain ⟨a, xs, h1, h2, h3⟩ := h.lst; exact ⟨a, xs, h1, .inl (.inl h2), h3⟩
  | _ => cases e

/-! ### look-ups in dicts -/
def lookD {κ : Type} [DecidableEq κ] (kds : List (κ × D)) (k : κ) : Option D := (kds.find? fun kv => decide (kv.1 = k)).map (·.2)
def putD {κ : Type} [DecidableEq κ] (kds : List (κ × D)) (k : κ) (d : D) : List (κ × D) :=
  if (kds.any fun kv => decide (kv.1 = k)) = true then kds.map (fun kv => if kv.1 = k then (kv.1, d) else kv) else kds ++ [(k, d)]
theorem DRep.look {κ : Type} [DecidableEq κ] : ∀ {kvs : List (κ × V)} {kds : List (κ × D)} (k : κ), DRep K fa H F kvs kds →
    (∃ v d, valV kvs k = some v ∧ lookD kds k = some d ∧ Rep K fa H F v d) ∨ (valV kvs k = none ∧ lookD kds k = none)
  | [], [], _, _ => .inr ⟨rfl, rfl⟩
  | [], _ :: _, _, h => by have := h.1; simp at this
  | _ :: _, [], _, h => by have := h.1; simp at this
  | p :: kvs, q :: kds, k, h => by
    obtain ⟨h1, h2⟩ := h
    simp only [List.map_cons, List.cons.injEq] at h1
    cases h2 with
    | cons hv hr =>
      by_cases e : p.1 = k
      · refine .inl ⟨p.2, q.2, valV_pos e, ?_, hv⟩
        simp [lookD, List.find?_cons, ← h1.1, e]
      · rcases DRep.look k (show DRep K fa H F kvs kds from ⟨h1.2, hr⟩) with ⟨v, d, a1, a2, a3⟩ | ⟨a1, a2⟩
        · refine .inl ⟨v, d, by rw [valV_neg e]; exact a1, ?_, a3⟩
          simpa [lookD, List.find?_cons, ← h1.1, e] using a2
        · refine .inr ⟨by rw [valV_neg e]; exact a1, ?_⟩
          simpa [lookD, List.find?_cons, ← h1.1, e] using a2
theorem DRep.length {κ : Type} {kvs : List (κ × V)} {kds : List (κ × D)} (h : DRep K fa H F kvs kds) : kvs.length = kds.length := by
  have := congrArg List.length h.1
  simpa using this
theorem drep_map {κ : Type} [DecidableEq κ] {k : κ} {v : V} {d : D} (hv : Rep K fa H F v d) : ∀ {kvs : List (κ × V)} {kds : List (κ × D)}, DRep K fa H F kvs kds →
    DRep K fa H F (kvs.map fun kv => if kv.1 = k then (kv.1, v) else kv) (kds.map fun kv => if kv.1 = k then (kv.1, d) else kv)
  | [], [], _ => ⟨rfl, .nil⟩
  | [], _ :: _, h => by have := h.1; simp at this
  | _ :: _, [], h => by have := h.1; simp at this
  | p :: kvs, q :: kds, h => by
    obtain ⟨h1, h2⟩ := h
    simp only [List.map_cons, List.cons.injEq] at h1
    cases h2 with
    | cons hp hr =>
      obtain ⟨g1, g2⟩ := drep_map (k := k) hv (show DRep K fa H F kvs kds from ⟨h1.2, hr⟩)
      by_cases e : p.1 = k
      · refine ⟨?_, ?_⟩
        · simp only [List.map_cons, ← h1.1, e, if_true, List.cons.injEq, true_and]; exact g1
        · simp only [List.map_cons, ← h1.1, e, if_true]; exact .cons hv g2
      · refine ⟨?_, ?_⟩
        · simp only [List.map_cons, ← h1.1, e, if_false, List.cons.injEq, true_and]; first | exact g1 | exact ⟨h1.1, g1⟩
        · simp only [List.map_cons, ← h1.1, e, if_false]; exact .cons hp g2
theorem drep_any {κ : Type} [DecidableEq κ] {k : κ} : ∀ {kvs : List (κ × V)} {kds : List (κ × D)}, kvs.map Prod.fst = kds.map Prod.fst → (kvs.any fun kv => decide (kv.1 = k)) = kds.any fun kv => decide (kv.1 = k)
  | [], [], _ => rfl
  | [], _ :: _, h => by simp at h
  | _ :: _, [], h => by simp at h
  | p :: kvs, q :: kds, h => by
    simp only [List.map_cons, List.cons.injEq] at h
    rw [List.any_cons, List.any_cons, h.1, drep_any h.2]
theorem DRep.put {κ : Type} [DecidableEq κ] {kvs : List (κ × V)} {kds : List (κ × D)} {k : κ} {v : V} {d : D} (h : DRep K fa H F kvs kds) (hv : Rep K fa H F v d) : DRep K fa H F (putK kvs k v) (putD kds k d) := by
  unfold putK putD
  rw [drep_any h.1]
  split
  · exact drep_map hv h
  · refine ⟨by simp [h.1], ?_⟩
    rw [List.map_append, List.map_append]
    exact h.2.append (.cons hv .nil)

/-! ### keys -/
def keyOf : D → Option Key
  | .int i => some (.inl i)
  | .str x => some (.inr x)
  | _ => none
theorem keyOf_ok {x : V} {d : D} {k : Key} (h : Rep K fa H F x d) (e : keyOf d = some k) : x = kV k := by
  cases h <;> first | (cases e; rfl) | cases e
def keysOf : List D → Option (List Key)
  | [] => some []
  | d :: ds => match keyOf d, keysOf ds with
    | some k, some ks => some (k :: ks)
    | _, _ => none
theorem keysOf_ok : ∀ {xs : List V} {ds : List D} {ks : List Key}, RepL K fa H F xs ds → keysOf ds = some ks → xs = ks.map kV
  | _, _, _, .nil, e => by cases e; rfl
  | _, _, _, .cons (d := d) (ds := ds) h r, e => by
    unfold keysOf at e
    split at e
    · rename_i k ks' e1 e2
      cases e
      rw [keyOf_ok h e1, keysOf_ok r e2]; rfl
    · cases e
end

/-! ### growing -/
structure Grow (H : Hp) (F : AP') (H' : Hp) (F' : AP') : Prop where
  keep : ∀ a o, H a = some o → H' a = some o ∨ (F a ∧ dicO o ∧ ∃ ob, H' a = some (.frz ob o))
  fmono : ∀ a, F a → F' a
  fnew : ∀ a, F' a → F a ∨ H a = none
  fd : ∀ a, F' a → H' a ≠ none
theorem Grow.refl {H : Hp} {F : AP'} (fd : ∀ a, F a → H a ≠ none) : Grow H F H F := ⟨fun _ _ h => .inl h, fun _ h => h, fun _ h => .inl h, fd⟩
theorem Grow.dom {H H' : Hp} {F F' : AP'} (g : Grow H F H' F') : ∀ a, H' a = none → H a = none := fun a h => by
  cases e : H a with
  | none => rfl
  | some o => rcases g.keep a o e with q | ⟨_, _, _, q⟩ <;> (rw [q] at h; cases h)
theorem Grow.step {H H' : Hp} {F F' O B : AP'} (g : Grow H F H' F') : Step H F O B H' F' O B :=
  ⟨fun a o h _ => g.keep a o h, g.fmono, fun a h => (g.fnew a h).elim .inl fun z => .inr (.inl z), fun _ h => .inl h, fun _ => Iff.rfl, g.dom⟩
theorem Grow.stays {H H' : Hp} {F F' : AP'} (g : Grow H F H' F') : Stays H F H' F' :=
  ⟨fun a xs h => (g.keep _ _ h).resolve_right fun z => z.2.1, fun a u _ h => h.elim (fun z => (g.keep _ _ z).elim .inl fun ⟨_, _, z⟩ => .inr z) fun ⟨o, z⟩ => .inr ⟨o, (g.keep _ _ z).resolve_right fun z => z.2.1⟩, g.fmono, fun a _ _ h => (g.keep _ _ h).resolve_right fun z => z.2.1⟩
section
variable {K : PySem.W.Frag} {fa : Nat → Option Addr} {H H' : Hp} {F F' : AP'} {σ : L2.St} {ρ : Env'}
theorem OwnAt.stays {a : Addr} {d : D} (h : OwnAt K fa H F a d) (e : H' a = H a) (s : Stays H F H' F') : OwnAt K fa H' F' a d := by
  cases h with
  | lst q r => exact .lst (e.trans q) (r.stays s)
  | dK q r => exact .dK (e.trans q) ⟨r.1, r.2.stays s⟩
  | dT q r => exact .dT (e.trans q) ⟨r.1, r.2.stays s⟩
theorem EnvOk.grow (ok : EnvOk K fa H F σ ρ) (g : Grow H F H' F') : EnvOk K fa H' F' σ ρ := by
  refine ⟨ok.len, fun i sv e => ?_, ok.apart, g.fd⟩
  obtain ⟨v, e2, r⟩ := ok.slot i sv e
  refine ⟨v, e2, ?_⟩
  have far : ∀ a d, v = .ref a → ¬ F a → OwnAt K fa H F a d → ¬ F' a ∧ OwnAt K fa H' F' a d := fun a d _ nf q => by
    obtain ⟨o, ho, _⟩ := q.some
    refine ⟨fun z => ?_, q.stays (((g.keep a o ho).resolve_right fun z => nf z.1).trans ho.symm) g.stays⟩
    rcases g.fnew a z with z | z
    · exact nf z
    · rw [ho] at z; cases z
  cases sv with
  | dat d => exact Rep.stays g.stays r
  | own d => obtain ⟨a, e3, nf, q⟩ := r; exact ⟨a, e3, far a d e3 nf q⟩
  | bor d => obtain ⟨a, e3, nf, q⟩ := r; exact ⟨a, e3, far a d e3 nf q⟩
/-- a new object -/
theorem Grow.new {p : Addr} {o : HO} (fd : ∀ a, F a → H a ≠ none) (hp : H p = none) : Grow H F (upd H p o) F :=
  ⟨fun a u h => by rw [upd_ne (ne_of_none h hp)]; exact .inl h, fun _ h => h, fun _ h => .inl h, fun a h z => by
    by_cases e : a = p
    · subst e; exact fd _ h hp
    · rw [upd_ne e] at z; exact fd _ h z⟩
theorem Grow.trans {H1 : Hp} {F1 : AP'} (a : Grow H F H1 F1) (b : Grow H1 F1 H' F') : Grow H F H' F' :=
  ⟨fun x o h => by
    rcases a.keep x o h with h1 | ⟨f, d, ob, h1⟩
    · rcases b.keep x o h1 with h2 | ⟨f1, d, ob, h2⟩
      · exact .inl h2
      · refine .inr ⟨(a.fnew x f1).resolve_right fun z => ?_, d, ob, h2⟩
        rw [h] at z; cases z
    · exact .inr ⟨f, d, ob, (b.keep x _ h1).resolve_right fun z => z.2.1⟩, fun x h => b.fmono x (a.fmono x h), fun x h => (b.fnew x h).elim (a.fnew x) fun z => .inr (a.dom x z), b.fd⟩
end

/-- what an operation hands back: the heap has grown; the result reads as sv, a thing of one's own is new -/
def Made (K : PySem.W.Frag) (fa : Nat → Option Addr) (H : Hp) (F : AP') (sv : SV) (z : V) (H' : Hp) : Prop :=
  ∃ F', Grow H F H' F' ∧ RepS K fa H' F' z sv ∧ match sv with
    | .dat _ => True
    | .own _ => ∃ a, z = .ref a ∧ H a = none
    | .bor _ => False
section
variable {K : PySem.W.Frag} {fa : Nat → Option Addr} {H H' : Hp} {F F' : AP'}
theorem made_dat {z : V} {d : D} (fd : ∀ a, F a → H a ≠ none) (r : Rep K fa H F z d) : Made K fa H F (.dat d) z H := ⟨F, Grow.refl fd, r, trivial⟩
theorem made_tup {p : Addr} {xs : List V} {ds : List D} (fd : ∀ a, F a → H a ≠ none) (hp : H p = none) (r : RepL K fa H F xs ds) : Made K fa H F (.dat (.tup ds)) (.ref p) (upd H p (.tup xs)) :=
  ⟨F, Grow.new fd hp, .tup upd_same (r.stays (Grow.new fd hp).stays), trivial⟩
theorem made_lst {p : Addr} {xs : List V} {ds : List D} (fd : ∀ a, F a → H a ≠ none) (hp : H p = none) (r : RepL K fa H F xs ds) : Made K fa H F (.own (.lst ds)) (.ref p) (upd H p (.lst xs)) :=
  ⟨F, Grow.new fd hp, ⟨p, rfl, fun z => fd p z hp, .lst upd_same (r.stays (Grow.new fd hp).stays)⟩, p, rfl, hp⟩
theorem made_dK {p : Addr} {kvs : List (Key × V)} {kds : List (Key × D)} (fd : ∀ a, F a → H a ≠ none) (hp : H p = none) (r : DRep K fa H F kvs kds) : Made K fa H F (.own (.dK kds)) (.ref p) (upd H p (.dK kvs)) :=
  ⟨F, Grow.new fd hp, ⟨p, rfl, fun z => fd p z hp, .dK upd_same ⟨r.1, r.2.stays (Grow.new fd hp).stays⟩⟩, p, rfl, hp⟩
theorem made_dT {p : Addr} {kvs : List (List Key × V)} {kds : List (List Key × D)} (fd : ∀ a, F a → H a ≠ none) (hp : H p = none) (r : DRep K fa H F kvs kds) : Made K fa H F (.own (.dT kds)) (.ref p) (upd H p (.dT kvs)) :=
  ⟨F, Grow.new fd hp, ⟨p, rfl, fun z => fd p z hp, .dT upd_same ⟨r.1, r.2.stays (Grow.new fd hp).stays⟩⟩, p, rfl, hp⟩
end
end DL

namespace DL
open PySem PySem.Spec PyProof.Rows L2

def Z24 : Nat := 16777216
theorem z24 : sizeLine = Z24 := sizeLine_eq

/-! ### operators -/
def binP (o : Operator) (d e : D) : Option SV := match o, d, e with
  | .Add, .int i, .int j => some (.dat (.int (i + j)))
  | .Add, .str x, .str y => if x.length + y.length ≤ Z24 then some (.dat (.str (x ++ y))) else none
  | .Add, .tup xs, .tup ys => if xs.length + ys.length ≤ Z24 then some (.dat (.tup (xs ++ ys))) else none
  | .Add, .lst xs, .lst ys => if xs.length + ys.length ≤ Z24 then some (.own (.lst (xs ++ ys))) else none
  | .Sub, .int i, .int j => some (.dat (.int (i - j)))
  | .Mult, .int i, .int j => if (-(2 ^ 64) < i ∧ i < 2 ^ 64) ∨ (-(2 ^ 64) < j ∧ j < 2 ^ 64) then some (.dat (.int (i * j))) else none
  | .FloorDiv, .int i, .int j => if j ≠ 0 ∧ j.natAbs < 1073741824 then some (.dat (.int (i.fdiv j))) else none
  | .Mod, .int i, .int j => if j ≠ 0 then some (.dat (.int (i.fmod j))) else none
  | .Pow, .int i, .int j => if 0 ≤ j ∧ j ≤ 1000000 ∧ i.natAbs < 2 ^ 64 then some (.dat (.int (i ^ j.toNat))) else none
  | .Add, .bl a, .int j => some (.dat (.int ((if a = true then 1 else 0) + j)))
  | _, _, _ => none

/-! ### comparisons -/
def eqD (d e : D) : Option Bool := if SeqAt.shaped d.py = true ∧ SeqAt.shaped e.py = true then some (PyData.eqv d.py e.py) else none
def memD (d : D) (ds : List D) : Option Bool := if SeqAt.shaped d.py = true ∧ SeqAt.shaped (.list (pyL ds)) = true then some ((pyL ds).any fun z => PyData.eqv z d.py) else none
def inP (d e : D) : Option Bool := match e with
  | .tup ds => memD d ds
  | .ktup ds => memD d ds
  | .lst ds => memD d ds
  | .str z => (match d with
    | .str x => if x.cps.size = 1 then some (decide (x.cps.getD 0 0 ∈ z.cps.toList)) else none
    | _ => none)
  | .dK kds => (keyOf d).map fun k => (lookD kds k).isSome
  | .dT kds => (match d with
    | .tup ks => (keysOf ks).map fun k => (lookD kds k).isSome
    | _ => none)
  | _ => none
def isP (d e : D) : Option Bool := match d, e with
  | .non, .non => some true
  | _, .non => some false
  | .bl a, .bl b => some (decide (a = b))
  | _, _ => none
def cmpP (o : CmpOp) (d e : D) : Option Bool := match o, d, e with
  | .Eq, d, e => eqD d e
  | .NotEq, d, e => (eqD d e).map not
  | .Lt, .int i, .int j => some (decide (i < j))
  | .LtE, .int i, .int j => some (decide (i ≤ j))
  | .Gt, .int i, .int j => some (decide (j < i))
  | .GtE, .int i, .int j => some (decide (j ≤ i))
  | .In, d, e => inP d e
  | .NotIn, d, e => (inP d e).map not
  | .Is, d, e => isP d e
  | .IsNot, d, e => (isP d e).map not
  | _, _, _ => none

section
variable {X : Cx} {fa : Nat → Option Addr} {F : AP'} {pins : List (Addr × Obj)} {s : Shared} {σ : L2.St} {H : Hp} {x y : V} {v u : Value} {Q : VK}

/-- the sum of two lists that are read -/
theorem op_catR : OpR X (binaryOp .Add) (fun x y H Q => ∃ l b xs zs, x = .ref l ∧ y = .ref b ∧ Rd H l (.lst xs) ∧ Rd H b (.lst zs) ∧ xs.length + zs.length ≤ sizeLine ∧ ∀ p, H p = none → Q (.ref p) (upd H p (.lst (xs ++ zs)))) := by
  rintro pins s σ H x y v u Q I rx ry ⟨l, b, xs, zs, rfl, rfl, h1, h2, hz, q⟩
  cases rx
  cases ry
  obtain ⟨_, us, n, r, e⟩ := h1.ok I.hok
  obtain ⟨_, ws, m, t, g⟩ := h2.ok I.hok
  have a1 := r.length
  have a2 := t.length
  refine PySem.P.add_list e g ?_ (by simp only [List.size_toArray]; omega)
  rw [show us.toArray ++ ws.toArray = (us ++ ws).toArray by simp]
  exact ⟨.ref _, _, I.lnew (t' := s.toks) (r.append t) (by simp only [List.length_append]; omega), rfl, q _ I.fresh⟩

theorem bin_ok {o : Operator} {d e : D} {sv : SV} (h : binP o d e = some sv) (I : Inv X pins σ H s) (rx : RelV x v) (ry : RelV y u) (hd : RdF X.K fa H F x d) (he : RdF X.K fa H F y e) (fd : ∀ a, F a → H a ≠ none)
    (q : ∀ z H', Made X.K fa H F sv z H' → Q z H') : wpAny (model X.prog X.w) X.A (binaryOp o v u) (EP X pins σ Q) X.xe s := by
  unfold binP at h
  split at h
  · cases h; cases hd.int; cases he.int
    exact op_add pins s σ H _ _ v u Q I rx ry ⟨_, _, rfl, rfl, q _ _ (made_dat fd (.int _))⟩
  · split at h
    · rename_i hl
      cases h; cases hd.str; cases he.str
      exact op_add_str pins s σ H _ _ v u Q I rx ry ⟨_, _, rfl, rfl, by rw [z24]; exact hl, q _ _ (made_dat fd (.str _))⟩
    · cases h
  · rename_i ds es
    split at h
    · rename_i hl
      cases h
      obtain ⟨a, xs, rfl, ha, ra⟩ := hd.tup
      obtain ⟨b, ys, rfl, hb, rb⟩ := he.tup
      refine op_catA pins s σ H _ _ v u Q I rx ry ⟨a, b, xs, ys, rfl, rfl, .inl (.inl ha), .inl (.inl hb), ?_, fun e1 => ?_, fun _ e2 => ?_, fun _ _ p hp => ?_⟩
      · rw [ra.length, rb.length, z24]; exact hl
      · subst e1
        cases ra
        exact q _ _ (made_dat fd (.tup hb rb))
      · subst e2
        cases rb
        rw [List.append_nil] at q
        exact q _ _ (made_dat fd (.tup ha ra))
      · exact q _ _ (made_tup fd hp (ra.append rb))
    · cases h
  · split at h
    · rename_i hl
      cases h
      obtain ⟨a, xs, rfl, ha, ra⟩ := hd.lst
      obtain ⟨b, ys, rfl, hb, rb⟩ := he.lst
      refine op_catR pins s σ H _ _ v u Q I rx ry ⟨a, b, xs, ys, rfl, rfl, ha, hb, ?_, fun p hp => ?_⟩
      · rw [ra.length, rb.length, z24]; exact hl
      · exact q _ _ (made_lst fd hp (ra.append rb))
    · cases h
  · cases h; cases hd.int; cases he.int
    exact op_sub pins s σ H _ _ v u Q I rx ry ⟨_, _, rfl, rfl, q _ _ (made_dat fd (.int _))⟩
  · split at h
    · rename_i hl
      cases h; cases hd.int; cases he.int
      exact op_mul pins s σ H _ _ v u Q I rx ry ⟨_, _, rfl, rfl, hl, q _ _ (made_dat fd (.int _))⟩
    · cases h
  · split at h
    · rename_i hl
      cases h; cases hd.int; cases he.int
      exact op_fdivN pins s σ H _ _ v u Q I rx ry ⟨_, _, rfl, rfl, hl, q _ _ (made_dat fd (.int _))⟩
    · cases h
  · split at h
    · rename_i hl
      cases h; cases hd.int; cases he.int
      exact op_modN pins s σ H _ _ v u Q I rx ry ⟨_, _, rfl, rfl, hl, q _ _ (made_dat fd (.int _))⟩
    · cases h
  · split at h
    · rename_i hl
      cases h; cases hd.int; cases he.int
      exact op_pow pins s σ H _ _ v u Q I rx ry ⟨_, _, rfl, rfl, hl, q _ _ (made_dat fd (.int _))⟩
    · cases h
  · cases h; cases hd.bl; cases he.int
    cases (show v = Value.bool _ from rx)
    obtain ⟨t', rfl⟩ := ry
    exact PySem.IntBool.add_bool_int ⟨.int _, H, I.tok _, ⟨_, rfl⟩, q _ _ (made_dat fd (.int _))⟩
  · cases h

/-! ### comparisons by values -/
theorem can_of_shaped {d : PyData} (h : SeqAt.shaped d = true) : d.canLay0 = true := SeqAt.canLay_of_shaped h
theorem eq_ok {d e : D} {b : Bool} (h : eqD d e = some b) (hu : X.A.units + 64 < cLine) (I : Inv X pins σ H s) (rx : RelV x v) (ry : RelV y u) (hd : RdF X.K fa H F x d) (he : RdF X.K fa H F y e)
    (q : Q (.bl b) H) : wpAny (model X.prog X.w) X.A (compareOp .Eq v u) (EP X pins σ Q) X.xe s := by
  unfold eqD at h
  split at h
  · rename_i c
    cases h
    exact op_eqD hu pins s σ H x y v u Q I rx ry ⟨_, _, hd.dp (can_of_shaped c.1), he.dp (can_of_shaped c.2), c.1, c.2, q⟩
  · cases h
theorem ne_ok {d e : D} {b : Bool} (h : eqD d e = some b) (hu : X.A.units + 64 < cLine) (I : Inv X pins σ H s) (rx : RelV x v) (ry : RelV y u) (hd : RdF X.K fa H F x d) (he : RdF X.K fa H F y e)
    (q : Q (.bl (!b)) H) : wpAny (model X.prog X.w) X.A (compareOp .NotEq v u) (EP X pins σ Q) X.xe s := by
  unfold eqD at h
  split at h
  · rename_i c
    cases h
    exact op_neD hu pins s σ H x y v u Q I rx ry ⟨_, _, hd.dp (can_of_shaped c.1), he.dp (can_of_shaped c.2), c.1, c.2, q⟩
  · cases h

/-- membership in a tuple of data -/
theorem op_inT (hu : X.A.units + 65 < cLine) : OpR X (compareOp .In) (fun x y H Q => ∃ d ds, Dp X.K H x d ∧ Dp X.K H y (.tuple ds) ∧ SeqAt.shaped d = true ∧ SeqAt.shaped (.tuple ds) = true ∧ Q (.bl (ds.any fun z => PyData.eqv z d)) H) := by
  rintro pins s σ H x y v u Q I rx ry ⟨d, ds, h1, h2, c1, c2, q⟩
  obtain ⟨_, g1⟩ := Dp.reads I d x v h1 rx
  obtain ⟨_, g2⟩ := Dp.reads I (.tuple ds) y u h2 ry
  exact SeqAt.in_tuple_reads g2 g1 (SeqAt.canLay_of_shaped c2) (SeqAt.canLay_of_shaped c1) (room_in_shaped (xs := ds) c1 hu) ⟨.bl _, H, I, rfl, q⟩
theorem op_notInT (hu : X.A.units + 65 < cLine) : OpR X (compareOp .NotIn) (fun x y H Q => ∃ d ds, Dp X.K H x d ∧ Dp X.K H y (.tuple ds) ∧ SeqAt.shaped d = true ∧ SeqAt.shaped (.tuple ds) = true ∧ Q (.bl (!ds.any fun z => PyData.eqv z d)) H) := by
  rintro pins s σ H x y v u Q I rx ry ⟨d, ds, h1, h2, c1, c2, q⟩
  obtain ⟨_, g1⟩ := Dp.reads I d x v h1 rx
  obtain ⟨_, g2⟩ := Dp.reads I (.tuple ds) y u h2 ry
  exact SeqAt.notIn_tuple_reads g2 g1 (SeqAt.canLay_of_shaped c2) (SeqAt.canLay_of_shaped c1) (room_in_shaped (xs := ds) c1 hu) ⟨.bl _, H, I, rfl, q⟩

theorem mem_ok {d : D} {ds : List D} {b : Bool} {e : D} (h : memD d ds = some b) (he : e = .tup ds ∨ e = .ktup ds ∨ e = .lst ds) (hu : X.A.units + 65 < cLine) (I : Inv X pins σ H s) (rx : RelV x v) (ry : RelV y u)
    (hd : RdF X.K fa H F x d) (hy : RdF X.K fa H F y e) : (Q (.bl b) H → wpAny (model X.prog X.w) X.A (compareOp .In v u) (EP X pins σ Q) X.xe s) ∧ (Q (.bl (!b)) H → wpAny (model X.prog X.w) X.A (compareOp .NotIn v u) (EP X pins σ Q) X.xe s) := by
  unfold memD at h
  split at h
  · rename_i c
    cases h
    have c2 : SeqAt.shaped (.tuple (pyL ds)) = true := c.2
    have cl : (PyData.list (pyL ds)).canLay0 = true := can_of_shaped c.2
    rcases he with rfl | rfl | rfl
    · have hy' := hy.dp (d := .tup ds) (by simpa [D.py, PyData.canLay0] using cl)
      exact ⟨fun q => op_inT hu pins s σ H x y v u Q I rx ry ⟨_, _, hd.dp (can_of_shaped c.1), hy', c.1, c2, q⟩, fun q => op_notInT hu pins s σ H x y v u Q I rx ry ⟨_, _, hd.dp (can_of_shaped c.1), hy', c.1, c2, q⟩⟩
    · have hy' := hy.dp (d := .ktup ds) (by simpa [D.py, PyData.canLay0] using cl)
      exact ⟨fun q => op_inT hu pins s σ H x y v u Q I rx ry ⟨_, _, hd.dp (can_of_shaped c.1), hy', c.1, c2, q⟩, fun q => op_notInT hu pins s σ H x y v u Q I rx ry ⟨_, _, hd.dp (can_of_shaped c.1), hy', c.1, c2, q⟩⟩
    · have hy' := hy.dp (d := .lst ds) (by simpa [D.py, PyData.canLay0] using cl)
      exact ⟨fun q => op_inD hu pins s σ H x y v u Q I rx ry ⟨_, _, hd.dp (can_of_shaped c.1), hy', c.1, c.2, q⟩, fun q => op_notInD hu pins s σ H x y v u Q I rx ry ⟨_, _, hd.dp (can_of_shaped c.1), hy', c.1, c.2, q⟩⟩
  · cases h

theorem dget_K {kds : List (Key × D)} {k : Key} {d : D} (hy : RdF X.K fa H F y (.dK kds)) (hd : RdF X.K fa H F x d) (e : keyOf d = some k) :
    ∃ a o, y = .ref a ∧ DGet H a x o ∧ ((∃ w z, o = some w ∧ lookD kds k = some z ∧ Rep X.K fa H F w z) ∨ (o = none ∧ lookD kds k = none)) := by
  obtain ⟨a, kvs, rfl, ha, r⟩ := hy.dK
  have ex : x = kV k := by
    cases d with
    | int i => cases e; exact hd.int
    | str z => cases e; exact hd.str
    | _ => cases e
  refine ⟨a, valV kvs k, rfl, .inl ⟨kvs, k, ha, ex, rfl⟩, ?_⟩
  rcases r.look k with ⟨w, z, a1, a2, a3⟩ | ⟨a1, a2⟩
  · exact .inl ⟨w, z, a1, a2, a3⟩
  · exact .inr ⟨a1, a2⟩
theorem dget_T {kds : List (List Key × D)} {ds : List D} {ks : List Key} (hy : RdF X.K fa H F y (.dT kds)) (hd : RdF X.K fa H F x (.tup ds)) (e : keysOf ds = some ks) :
    ∃ a o, y = .ref a ∧ DGet H a x o ∧ ((∃ w z, o = some w ∧ lookD kds ks = some z ∧ Rep X.K fa H F w z) ∨ (o = none ∧ lookD kds ks = none)) := by
  obtain ⟨a, kvs, rfl, ha, r⟩ := hy.dT
  obtain ⟨b, xs, rfl, hb, rb⟩ := hd.tup
  have ex := keysOf_ok rb e
  subst ex
  refine ⟨a, valV kvs ks, rfl, .inr ⟨kvs, ks, b, ha, rfl, hb, rfl⟩, ?_⟩
  rcases r.look ks with ⟨w, z, a1, a2, a3⟩ | ⟨a1, a2⟩
  · exact .inl ⟨w, z, a1, a2, a3⟩
  · exact .inr ⟨a1, a2⟩

theorem in_ok {d e : D} {b : Bool} (h : inP d e = some b) (hu : X.A.units + 65 < cLine) (I : Inv X pins σ H s) (rx : RelV x v) (ry : RelV y u) (hd : RdF X.K fa H F x d) (he : RdF X.K fa H F y e) :
    (Q (.bl b) H → wpAny (model X.prog X.w) X.A (compareOp .In v u) (EP X pins σ Q) X.xe s) ∧ (Q (.bl (!b)) H → wpAny (model X.prog X.w) X.A (compareOp .NotIn v u) (EP X pins σ Q) X.xe s) := by
  unfold inP at h
  have hu1 : X.A.units + 1 < cLine := by omega
  have byD : ∀ a o, y = .ref a → DGet H a x o → (o.isSome = b) → (Q (.bl b) H → wpAny (model X.prog X.w) X.A (compareOp .In v u) (EP X pins σ Q) X.xe s) ∧ (Q (.bl (!b)) H → wpAny (model X.prog X.w) X.A (compareOp .NotIn v u) (EP X pins σ Q) X.xe s) := by
    intro a o ea g eb
    subst ea
    cases ry
    exact ⟨fun q => d_in hu1 I g rx fun s3 I3 => ⟨.bl o.isSome, H, I3, rfl, by rw [eb]; exact q⟩, fun q => d_notIn hu1 I g rx fun s3 I3 => ⟨.bl (!o.isSome), H, I3, rfl, by rw [eb]; exact q⟩⟩
  split at h
  · exact mem_ok h (.inl rfl) hu I rx ry hd he
  · exact mem_ok h (.inr (.inl rfl)) hu I rx ry hd he
  · exact mem_ok h (.inr (.inr rfl)) hu I rx ry hd he
  · split at h
    · split at h
      · rename_i z _ x1 hs
        cases h
        cases hd.str
        cases he.str
        obtain ⟨l⟩ := x1
        obtain ⟨c, hc⟩ : ∃ c, l = #[c] := by
          match l, hs with
          | ⟨[c]⟩, _ => exact ⟨c, rfl⟩
        subst hc
        refine ⟨fun q => op_in_sign pins s σ H _ _ v u Q I rx ry ⟨c, _, rfl, rfl, ?_⟩, fun q => op_notIn_sign pins s σ H _ _ v u Q I rx ry ⟨c, _, rfl, rfl, ?_⟩⟩
        · simpa using q
        · simpa using q
      · cases h
    · cases h
  · rename_i kds
    cases ek : keyOf d with
    | none => rw [ek] at h; cases h
    | some k =>
      rw [ek] at h
      cases h
      obtain ⟨a, o, ea, g, r⟩ := dget_K he hd ek
      refine byD a o ea g ?_
      show o.isSome = (lookD kds k).isSome
      rcases r with ⟨w, z, a1, a2, _⟩ | ⟨a1, a2⟩
      · rw [a1, a2]; rfl
      · rw [a1, a2]; rfl
  · split at h
    · rename_i kds _ ks
      cases ek : keysOf ks with
      | none => rw [ek] at h; cases h
      | some k =>
        rw [ek] at h
        cases h
        obtain ⟨a, o, ea, g, r⟩ := dget_T he hd ek
        refine byD a o ea g ?_
        show o.isSome = (lookD kds k).isSome
        rcases r with ⟨w, z, a1, a2, _⟩ | ⟨a1, a2⟩
        · rw [a1, a2]; rfl
        · rw [a1, a2]; rfl
    · cases h
  · cases h

theorem is_ok {d e : D} {b : Bool} (h : isP d e = some b) (I : Inv X pins σ H s) (rx : RelV x v) (ry : RelV y u) (hd : RdF X.K fa H F x d) (he : RdF X.K fa H F y e) :
    (Q (.bl b) H → wpAny (model X.prog X.w) X.A (compareOp .Is v u) (EP X pins σ Q) X.xe s) ∧ (Q (.bl (!b)) H → wpAny (model X.prog X.w) X.A (compareOp .IsNot v u) (EP X pins σ Q) X.xe s) := by
  unfold isP at h
  split at h
  · cases h
    cases hd.non
    cases he.non
    exact ⟨fun q => op_isN pins s σ H _ _ v u Q I rx ry ⟨rfl, by simpa using q⟩, fun q => op_notN pins s σ H _ _ v u Q I rx ry ⟨rfl, by simpa using q⟩⟩
  · rename_i nn
    cases h
    cases he.non
    have ne : x ≠ .non := fun z => by
      subst z
      rcases hd with hd | ⟨a, z, _⟩
      · cases hd; exact nn rfl
      · cases z
    exact ⟨fun q => op_isN pins s σ H _ _ v u Q I rx ry ⟨rfl, by simpa [ne] using q⟩, fun q => op_notN pins s σ H _ _ v u Q I rx ry ⟨rfl, by simpa [ne] using q⟩⟩
  · cases h
    cases hd.bl
    cases he.bl
    exact ⟨fun q => op_is_bl pins s σ H _ _ v u Q I rx ry ⟨_, _, rfl, rfl, q⟩, fun q => op_isnot_bl pins s σ H _ _ v u Q I rx ry ⟨_, _, rfl, rfl, q⟩⟩
  · cases h

theorem cmp_ok {o : CmpOp} {d e : D} {b : Bool} (h : cmpP o d e = some b) (hu : X.A.units + 65 < cLine) (I : Inv X pins σ H s) (rx : RelV x v) (ry : RelV y u) (hd : RdF X.K fa H F x d) (he : RdF X.K fa H F y e)
    (q : Q (.bl b) H) : wpAny (model X.prog X.w) X.A (compareOp o v u) (EP X pins σ Q) X.xe s := by
  have hu' : X.A.units + 64 < cLine := by omega
  unfold cmpP at h
  split at h
  · exact eq_ok h hu' I rx ry hd he q
  · obtain ⟨b', h1, rfl⟩ := Option.map_eq_some_iff.mp h
    exact ne_ok h1 hu' I rx ry hd he q
  · cases h; cases hd.int; cases he.int
    exact op_lt pins s σ H _ _ v u Q I rx ry ⟨_, _, rfl, rfl, q⟩
  · cases h; cases hd.int; cases he.int
    exact op_le pins s σ H _ _ v u Q I rx ry ⟨_, _, rfl, rfl, q⟩
  · cases h; cases hd.int; cases he.int
    exact op_gt pins s σ H _ _ v u Q I rx ry ⟨_, _, rfl, rfl, q⟩
  · cases h; cases hd.int; cases he.int
    exact op_ge pins s σ H _ _ v u Q I rx ry ⟨_, _, rfl, rfl, q⟩
  · exact (in_ok h hu I rx ry hd he).1 q
  · obtain ⟨b', h1, rfl⟩ := Option.map_eq_some_iff.mp h
    exact (in_ok h1 hu I rx ry hd he).2 q
  · exact (is_ok h I rx ry hd he).1 q
  · obtain ⟨b', h1, rfl⟩ := Option.map_eq_some_iff.mp h
    exact (is_ok h1 I rx ry hd he).2 q
  · cases h
end
end DL

namespace DL
open PySem PySem.Spec PyProof.Rows L2

/-! ### subscripts -/
section
variable {K : PySem.W.Frag} {fa : Nat → Option Addr} {H : Hp} {F : AP'}
theorem RepL.atI {xs : List V} {ds : List D} {i : Int} {d : D} (r : RepL K fa H F xs ds) (e : L2.atI ds i = some d) : ∃ v, L2.atI xs i = some v ∧ Rep K fa H F v d := by
  unfold L2.atI at e ⊢
  rw [r.length]
  cases q : ixN ds.length i with
  | none => rw [q] at e; cases e
  | some j =>
    rw [q] at e
    obtain ⟨v, h1, h2⟩ := r.get (show ds[j]? = some d from e)
    exact ⟨v, h1, h2⟩
end
def idxP (d e : D) : Option D := match d, e with
  | .dK kds, e => (keyOf e).bind (lookD kds)
  | .dT kds, .tup ks => (keysOf ks).bind (lookD kds)
  | .str z, .int i => if z.length ≤ Z24 then (atI z.cps.toList i).map fun c => .str ⟨#[c]⟩ else none
  | .tup ds, .int i => atI ds i
  | .ktup ds, .int i => atI ds i
  | .lst ds, .int i => atI ds i
  | _, _ => none
section
variable {X : Cx} {fa : Nat → Option Addr} {F : AP'} {pins : List (Addr × Obj)} {s : Shared} {σ : L2.St} {H : Hp} {x y : V} {v u : Value} {Q : VK}
theorem idx_ok {d e z : D} (h : idxP d e = some z) (hu : X.A.units + 1 < cLine) (value slice : Expr) (I : Inv X pins σ H s) (rx : RelV x v) (ry : RelV y u) (hd : RdF X.K fa H F x d) (he : RdF X.K fa H F y e)
    (hs : subscripted slice false v u = operate [v, u] (getItem v u)) (q : ∀ w, Rep X.K fa H F w z → Q w H) : wpAny (model X.prog X.w) X.A (subscriptTail value slice v u) (EP X pins σ Q) X.xe s := by
  have byD : ∀ (a : Addr) (o : Option V) (w : V), x = .ref a → DGet H a y o → o = some w → Rep X.K fa H F w z → wpAny (model X.prog X.w) X.A (subscriptTail value slice v u) (EP X pins σ Q) X.xe s := by
    intro a o w ea g eo rw'
    subst ea eo
    cases rx
    exact tail_any (dict_typeIs I g) PySem.F.slot_dict_getitem.lookup (d_getItem hu I g ry fun w' s3 I3 r3 => ⟨w, H, I3, r3, q w rw'⟩) hs
  unfold idxP at h
  split at h
  · rename_i kds
    cases ek : keyOf e with
    | none => rw [ek] at h; cases h
    | some k =>
      rw [ek] at h
      obtain ⟨a, o, ea, g, r⟩ := dget_K hd he ek
      rcases r with ⟨w, z', a1, a2, a3⟩ | ⟨a1, a2⟩
      · rw [show lookD kds k = some z from h] at a2; cases a2
        exact byD a o w ea g a1 a3
      · rw [show lookD kds k = some z from h] at a2; cases a2
  · rename_i kds ks
    cases ek : keysOf ks with
    | none => rw [ek] at h; cases h
    | some k =>
      rw [ek] at h
      obtain ⟨a, o, ea, g, r⟩ := dget_T hd he ek
      rcases r with ⟨w, z', a1, a2, a3⟩ | ⟨a1, a2⟩
      · rw [show lookD kds k = some z from h] at a2; cases a2
        exact byD a o w ea g a1 a3
      · rw [show lookD kds k = some z from h] at a2; cases a2
  · split at h
    · rename_i zz i hl
      cases hd.str
      cases he.int
      cases e1 : atI zz.cps.toList i with
      | none => rw [e1] at h; cases h
      | some c =>
        rw [e1] at h
        cases h
        exact ix_str value slice pins s σ H _ _ v u Q I rx ry ⟨zz, i, c, rfl, rfl, by rw [z24]; exact hl, e1, q _ (.str _)⟩ hs
    · cases h
  · cases he.int
    obtain ⟨a, xs, rfl, ha, ra⟩ := hd.tup
    obtain ⟨w, h1, h2⟩ := ra.atI h
    exact ix_tup value slice pins s σ H _ _ v u Q I rx ry ⟨a, xs, _, w, rfl, rfl, .inl (.inl ha), h1, q w h2⟩ hs
  · cases he.int
    obtain ⟨a, xs, rfl, ha, ra⟩ := hd.ktup
    obtain ⟨w, h1, h2⟩ := ra.atI h
    exact ix_tup value slice pins s σ H _ _ v u Q I rx ry ⟨a, xs, _, w, rfl, rfl, ha.sq, h1, q w h2⟩ hs
  · cases he.int
    obtain ⟨a, xs, rfl, ha, ra⟩ := hd.lst
    obtain ⟨w, h1, h2⟩ := ra.atI h
    exact ix_list value slice pins s σ H _ _ v u Q I rx ry ⟨a, xs, _, w, rfl, rfl, .inl ha, h1, q w h2⟩ hs
  · cases h
end

/-! ### slices -/
def cutD (ds : List D) (lo hi : Option Int) : List D := (ds.drop (HT.sIx ds.length 0 lo)).take (HT.sIx ds.length ds.length hi - HT.sIx ds.length 0 lo)
def slP (d : D) (lo hi : Option Int) : Option SV := match d with
  | .tup ds => some (.dat (.tup (cutD ds lo hi)))
  | .lst ds => some (.own (.lst (cutD ds lo hi)))
  | .str z => if z.length ≤ Z24 then some (.dat (.str (cutS z lo hi))) else none
  | _ => none
section
variable {K : PySem.W.Frag} {fa : Nat → Option Addr} {H : Hp} {F : AP'}
theorem RepL.cut {xs : List V} {ds : List D} (r : RepL K fa H F xs ds) (lo hi : Option Int) : RepL K fa H F (cutV xs lo hi) (cutD ds lo hi) := by
  unfold cutV cutD
  rw [r.length]
  exact (r.drop _).take _
theorem cutD_whole {ds : List D} {lo hi : Option Int} (h1 : HT.sIx ds.length 0 lo = 0) (h2 : HT.sIx ds.length ds.length hi = ds.length) : cutD ds lo hi = ds := by
  unfold cutD
  rw [h1, h2, List.drop_zero, Nat.sub_zero, List.take_length]
end
def SlOk (X : Cx) (fa : Nat → Option Addr) (F : AP') (d : D) (sv : SV) : V → Option Int → Option Int → Hp → VK → Prop := fun x lo hi H Q => slP d lo hi = some sv ∧ RdF X.K fa H F x d ∧ (∀ a, F a → H a ≠ none) ∧ ∀ z H', Made X.K fa H F sv z H' → Q z H'
theorem sl_ok {X : Cx} {fa : Nat → Option Addr} : SlR X (fun x lo hi H Q => ∃ F d sv, SlOk X fa F d sv x lo hi H Q) := by
  rintro pins s σ H x v vl vu lo hi sl Q I rx hs pl pu ⟨F, d, sv, h, hd, fd, q⟩
  unfold slP at h
  split at h
  · rename_i ds
    cases h
    obtain ⟨a, xs, rfl, ha, ra⟩ := hd.tup
    refine sl_tupA pins s σ H _ v vl vu lo hi sl Q I rx hs pl pu ⟨a, xs, rfl, .inl (.inl ha), fun hw => ?_, fun _ p hp => ?_⟩
    · rw [ra.length] at hw
      rw [cutD_whole hw.1 hw.2] at q
      exact q _ _ (made_dat fd (.tup ha ra))
    · exact q _ _ (made_tup fd hp (ra.cut lo hi))
  · cases h
    obtain ⟨a, xs, rfl, ha, ra⟩ := hd.lst
    exact sl_list pins s σ H _ v vl vu lo hi sl Q I rx hs pl pu ⟨a, xs, rfl, .inl ha, fun p hp => q _ _ (made_lst fd hp (ra.cut lo hi))⟩
  · split at h
    · rename_i hl
      cases h
      cases hd.str
      exact sl_str pins s σ H _ v vl vu lo hi sl Q I rx hs pl pu ⟨_, rfl, by rw [z24]; exact hl, q _ _ (made_dat fd (.str _))⟩
    · cases h
  · cases h

/-! ### built-in functions -/
inductive BI where
  | len | abs | int | str | tuple | list | sum | max | min | all | any | sorted
def intsOf : List D → Option (List Int)
  | [] => some []
  | .int i :: ds => (intsOf ds).map (i :: ·)
  | _ :: _ => none
def boolsOf : List D → Option (List Bool)
  | [] => some []
  | .bl i :: ds => (boolsOf ds).map (i :: ·)
  | _ :: _ => none
section
variable {K : PySem.W.Frag} {fa : Nat → Option Addr} {H : Hp} {F : AP'}
theorem intsOf_ok : ∀ {xs : List V} {ds : List D} {ns : List Int}, RepL K fa H F xs ds → intsOf ds = some ns → xs = ns.map V.int
  | _, _, _, .nil, e => by cases e; rfl
  | _, _, _, .cons h r, e => by
    unfold intsOf at e
    split at e
    · rename_i heq; cases heq
    · rename_i heq
      cases heq
      obtain ⟨ms, e2, rfl⟩ := Option.map_eq_some_iff.mp e
      cases h
      rw [intsOf_ok r e2]; rfl
    · cases e
theorem boolsOf_ok : ∀ {xs : List V} {ds : List D} {ns : List Bool}, RepL K fa H F xs ds → boolsOf ds = some ns → xs = ns.map V.bl
  | _, _, _, .nil, e => by cases e; rfl
  | _, _, _, .cons h r, e => by
    unfold boolsOf at e
    split at e
    · rename_i heq; cases heq
    · rename_i heq
      cases heq
      obtain ⟨ms, e2, rfl⟩ := Option.map_eq_some_iff.mp e
      cases h
      rw [boolsOf_ok r e2]; rfl
    · cases e
theorem repL_ints : ∀ ns : List Int, RepL K fa H F (ns.map V.int) (ns.map D.int)
  | [] => .nil
  | n :: ns => .cons (.int n) (repL_ints ns)
end
/-- the greatest, the smallest of a list that is not empty -/
def maxI : Int → List Int → Int
  | m, [] => m
  | m, n :: ns => maxI (if n > m then n else m) ns
def minI : Int → List Int → Int
  | m, [] => m
  | m, n :: ns => minI (if n < m then n else m) ns
theorem maxI_mem : ∀ (ns : List Int) (m : Int), maxI m ns ∈ m :: ns
  | [], m => by simp [maxI]
  | n :: ns, m => by
    have := maxI_mem ns (if n > m then n else m)
    rw [maxI]
    split at this <;> rename_i c
    · rw [if_pos c]; exact List.mem_cons_of_mem _ this
    · rw [if_neg c]
      rcases List.mem_cons.mp this with e | e
      · rw [e]; exact List.mem_cons_self
      · exact List.mem_cons_of_mem _ (List.mem_cons_of_mem _ e)
theorem maxI_ge : ∀ (ns : List Int) (m : Int), m ≤ maxI m ns ∧ ∀ n ∈ ns, n ≤ maxI m ns
  | [], m => by simp [maxI]
  | n :: ns, m => by
    obtain ⟨h1, h2⟩ := maxI_ge ns (if n > m then n else m)
    rw [maxI]
    refine ⟨?_, fun k hk => ?_⟩
    · split at h1 <;> rename_i c
      · rw [if_pos c]; omega
      · rw [if_neg c]; exact h1
    · rcases List.mem_cons.mp hk with e | e
      · subst e
        split at h1 <;> rename_i c
        · rw [if_pos c]; exact h1
        · rw [if_neg c]; omega
      · exact h2 k e
theorem minI_mem : ∀ (ns : List Int) (m : Int), minI m ns ∈ m :: ns
  | [], m => by simp [minI]
  | n :: ns, m => by
    have := minI_mem ns (if n < m then n else m)
    rw [minI]
    split at this <;> rename_i c
    · rw [if_pos c]; exact List.mem_cons_of_mem _ this
    · rw [if_neg c]
      rcases List.mem_cons.mp this with e | e
      · rw [e]; exact List.mem_cons_self
      · exact List.mem_cons_of_mem _ (List.mem_cons_of_mem _ e)
theorem minI_le : ∀ (ns : List Int) (m : Int), minI m ns ≤ m ∧ ∀ n ∈ ns, minI m ns ≤ n
  | [], m => by simp [minI]
  | n :: ns, m => by
    obtain ⟨h1, h2⟩ := minI_le ns (if n < m then n else m)
    rw [minI]
    refine ⟨?_, fun k hk => ?_⟩
    · split at h1 <;> rename_i c
      · rw [if_pos c]; omega
      · rw [if_neg c]; exact h1
    · rcases List.mem_cons.mp hk with e | e
      · subst e
        split at h1 <;> rename_i c
        · rw [if_pos c]; exact h1
        · rw [if_neg c]; omega
      · exact h2 k e
def leB (a b : Int) : Bool := decide (a ≤ b)
def sortI (ns : List Int) : List Int := ns.mergeSort leB
theorem sortI_perm (ns : List Int) : (sortI ns).Perm ns := List.mergeSort_perm ns leB
theorem sortI_sorted (ns : List Int) : (sortI ns).Pairwise (· ≤ ·) := by
  have h := List.pairwise_mergeSort (le := leB) (fun a b c h1 h2 => decide_eq_true (Int.le_trans (of_decide_eq_true h1) (of_decide_eq_true h2)))
    (fun a b => by rcases Int.le_total a b with h | h <;> simp [leB, h]) ns
  exact h.imp fun q => of_decide_eq_true q
theorem sorted_one : ∀ {as bs : List Int}, as.Perm bs → as.Pairwise (· ≤ ·) → bs.Pairwise (· ≤ ·) → as = bs := fun p a b => p.eq_of_pairwise (fun x y _ _ h1 h2 => Int.le_antisymm h1 h2) a b

def callP (b : BI) (ds : List D) : Option SV := match b, ds with
  | .len, [.str z] => if z.length ≤ Z24 then some (.dat (.int z.length)) else none
  | .len, [d] => d.seq?.map fun es => .dat (.int es.length)
  | .abs, [.int i] => some (.dat (.int (if i < 0 then -i else i)))
  | .int, [.int i] => some (.dat (.int i))
  | .int, [.bl k] => some (.dat (.int (if k then 1 else 0)))
  | .str, [.int i] => if i.natAbs.log2 < 1920 then some (.dat (.str (toString i))) else none
  | .tuple, [.lst es] => some (.dat (.tup es))
  | .tuple, [.tup es] => some (.dat (.tup es))
  | .list, [d] => d.seq?.map fun es => .own (.lst es)
  | .sum, [.lst es] => (intsOf es).map fun ns => .dat (.int ns.sum)
  | .max, [.int i, .int j] => some (.dat (.int (if j > i then j else i)))
  | .max, [.lst es] => (intsOf es).bind fun ns => match ns with
    | [] => none
    | n :: r => some (.dat (.int (maxI n r)))
  | .min, [.int i, .int j] => some (.dat (.int (if j < i then j else i)))
  | .min, [.lst es] => (intsOf es).bind fun ns => match ns with
    | [] => none
    | n :: r => some (.dat (.int (minI n r)))
  | .all, [.lst es] => (boolsOf es).map fun bs => .dat (.bl (bs.all id))
  | .any, [.lst es] => (boolsOf es).map fun bs => .dat (.bl (bs.any id))
  | .sorted, [.lst es] => (intsOf es).map fun ns => .own (.lst ((sortI ns).map D.int))
  | _, _ => none
def BI.name : BI → Str
  | .len => "len" | .abs => "abs" | .int => "int" | .str => "str" | .tuple => "tuple" | .list => "list" | .sum => "sum" | .max => "max" | .min => "min" | .all => "all" | .any => "any" | .sorted => "sorted"
def BI.val : BI → Value
  | .len => .builtin "len" | .abs => .builtin "abs" | .int => .type "int" | .str => .type "str" | .tuple => .type "tuple" | .list => .type "list" | .sum => .builtin "sum" | .max => .builtin "max" | .min => .builtin "min"
  | .all => .builtin "all" | .any => .builtin "any" | .sorted => .builtin "sorted"

/-- all of them read -/
inductive RdFs (K : PySem.W.Frag) (fa : Nat → Option Addr) (H : Hp) (F : AP') : List V → List D → Prop
  | nil : RdFs K fa H F [] []
  | cons {v : V} {vs : List V} {d : D} {ds : List D} : RdF K fa H F v d → RdFs K fa H F vs ds → RdFs K fa H F (v :: vs) (d :: ds)
section
variable {K : PySem.W.Frag} {fa : Nat → Option Addr} {H : Hp} {F : AP'}
theorem RdFs.one {xs : List V} {d : D} (h : RdFs K fa H F xs [d]) : ∃ x, xs = [x] ∧ RdF K fa H F x d := by
  cases h with
  | cons a b => cases b; exact ⟨_, rfl, a⟩
theorem RdFs.two {xs : List V} {d e : D} (h : RdFs K fa H F xs [d, e]) : ∃ x y, xs = [x, y] ∧ RdF K fa H F x d ∧ RdF K fa H F y e := by
  cases h with
  | cons a b =>
    cases b with
    | cons c t => cases t; exact ⟨_, _, rfl, a, c⟩
end
section
variable {X : Cx} {fa : Nat → Option Addr} {F : AP'} {pins : List (Addr × Obj)} {s : Shared} {σ : L2.St} {H : Hp} {xs : List V} {us : List Value} {Q : VK}
theorem call_ok {b : BI} {ds : List D} {sv : SV} (h : callP b ds = some sv) (hc : X.calm = true) (I : Inv X pins σ H s) (r : Vals xs us) (hd : RdFs X.K fa H F xs ds) (fd : ∀ a, F a → H a ≠ none)
    (q : ∀ z H', Made X.K fa H F sv z H' → Q z H') : wpAny (model X.prog X.w) X.A (call b.val us) (EP X pins σ Q) X.xe s := by
  unfold callP at h
  split at h
  · split at h
    · rename_i hl
      cases h
      obtain ⟨x, rfl, h1⟩ := hd.one
      cases h1.str
      exact call_len_str pins s σ H _ us Q I r ⟨_, rfl, by rw [z24]; exact hl, q _ _ (made_dat fd (.int _))⟩
    · cases h
  · obtain ⟨x, rfl, h1⟩ := hd.one
    obtain ⟨es, e1, rfl⟩ := Option.map_eq_some_iff.mp h
    obtain ⟨a, ys, rfl, h2, h3⟩ := h1.seq e1
    refine call_len_seq pins s σ H _ us Q I r ⟨a, ys, rfl, h2, ?_⟩
    rw [h3.length]
    exact q _ _ (made_dat fd (.int _))
  · cases h
    obtain ⟨x, rfl, h1⟩ := hd.one
    cases h1.int
    exact call_abs pins s σ H _ us Q I r ⟨_, rfl, q _ _ (made_dat fd (.int _))⟩
  · cases h
    obtain ⟨x, rfl, h1⟩ := hd.one
    cases h1.int
    exact call_int1 pins s σ H _ us Q I r (.inl ⟨_, rfl, q _ _ (made_dat fd (.int _))⟩)
  · cases h
    obtain ⟨x, rfl, h1⟩ := hd.one
    cases h1.bl
    exact call_int1 pins s σ H _ us Q I r (.inr ⟨_, rfl, q _ _ (made_dat fd (.int _))⟩)
  · split at h
    · rename_i hl
      cases h
      obtain ⟨x, rfl, h1⟩ := hd.one
      cases h1.int
      exact call_str_int pins s σ H _ us Q I r ⟨_, rfl, hl, q _ _ (made_dat fd (.str _))⟩
    · cases h
  · cases h
    obtain ⟨x, rfl, h1⟩ := hd.one
    obtain ⟨a, ys, rfl, h2, h3⟩ := h1.lst
    exact call_tuple_of pins s σ H _ us Q I r ⟨a, ys, rfl, .inl ⟨.inl h2, fun p hp => q _ _ (made_tup fd hp h3)⟩⟩
  · cases h
    obtain ⟨x, rfl, h1⟩ := hd.one
    obtain ⟨a, ys, rfl, h2, h3⟩ := h1.tup
    exact call_tuple_of pins s σ H _ us Q I r ⟨a, ys, rfl, .inr ⟨.inl (.inl h2), q _ _ (made_dat fd (.tup h2 h3))⟩⟩
  · obtain ⟨x, rfl, h1⟩ := hd.one
    obtain ⟨es, e1, rfl⟩ := Option.map_eq_some_iff.mp h
    obtain ⟨a, ys, rfl, h2, h3⟩ := h1.seq e1
    exact call_list_of pins s σ H _ us Q I r ⟨a, ys, rfl, h2, fun p hp => q _ _ (made_lst fd hp h3)⟩
  · obtain ⟨x, rfl, h1⟩ := hd.one
    obtain ⟨ns, e1, rfl⟩ := Option.map_eq_some_iff.mp h
    obtain ⟨a, ys, rfl, h2, h3⟩ := h1.lst
    cases intsOf_ok h3 e1
    exact cr_sum hc pins s σ H _ us Q I r ⟨a, ns, rfl, .inl h2, q _ _ (made_dat fd (.int _))⟩
  · cases h
    obtain ⟨x, y, rfl, h1, h2⟩ := hd.two
    cases h1.int
    cases h2.int
    exact call_max2 hc pins s σ H _ us Q I r ⟨_, _, rfl, q _ _ (made_dat fd (.int _))⟩
  · obtain ⟨x, rfl, h1⟩ := hd.one
    obtain ⟨ns, e1, h⟩ := Option.bind_eq_some_iff.mp h
    obtain ⟨a, ys, rfl, h2, h3⟩ := h1.lst
    cases intsOf_ok h3 e1
    cases ns with
    | nil => cases h
    | cons n ms =>
      cases h
      refine cr_max hc pins s σ H _ us Q I r ⟨a, n :: ms, rfl, .inl h2, Nat.succ_pos _, fun m hm hle => ?_⟩
      have e : m = maxI n ms := by
        have g1 := hle _ (maxI_mem ms n)
        have g2 := maxI_ge ms n
        rcases List.mem_cons.mp hm with e | e
        · omega
        · have := g2.2 m e; omega
      rw [e]
      exact q _ _ (made_dat fd (.int _))
  · cases h
    obtain ⟨x, y, rfl, h1, h2⟩ := hd.two
    cases h1.int
    cases h2.int
    exact call_min2 hc pins s σ H _ us Q I r ⟨_, _, rfl, q _ _ (made_dat fd (.int _))⟩
  · obtain ⟨x, rfl, h1⟩ := hd.one
    obtain ⟨ns, e1, h⟩ := Option.bind_eq_some_iff.mp h
    obtain ⟨a, ys, rfl, h2, h3⟩ := h1.lst
    cases intsOf_ok h3 e1
    cases ns with
    | nil => cases h
    | cons n ms =>
      cases h
      refine cr_min hc pins s σ H _ us Q I r ⟨a, n :: ms, rfl, .inl h2, Nat.succ_pos _, fun m hm hle => ?_⟩
      have e : m = minI n ms := by
        have g1 := hle _ (minI_mem ms n)
        have g2 := minI_le ms n
        rcases List.mem_cons.mp hm with e | e
        · omega
        · have := g2.2 m e; omega
      rw [e]
      exact q _ _ (made_dat fd (.int _))
  · obtain ⟨x, rfl, h1⟩ := hd.one
    obtain ⟨ns, e1, rfl⟩ := Option.map_eq_some_iff.mp h
    obtain ⟨a, ys, rfl, h2, h3⟩ := h1.lst
    cases boolsOf_ok h3 e1
    exact cr_all hc pins s σ H _ us Q I r ⟨a, ns, rfl, .inl h2, q _ _ (made_dat fd (.bl _))⟩
  · obtain ⟨x, rfl, h1⟩ := hd.one
    obtain ⟨ns, e1, rfl⟩ := Option.map_eq_some_iff.mp h
    obtain ⟨a, ys, rfl, h2, h3⟩ := h1.lst
    cases boolsOf_ok h3 e1
    exact cr_any hc pins s σ H _ us Q I r ⟨a, ns, rfl, .inl h2, q _ _ (made_dat fd (.bl _))⟩
  · obtain ⟨x, rfl, h1⟩ := hd.one
    obtain ⟨ns, e1, rfl⟩ := Option.map_eq_some_iff.mp h
    obtain ⟨a, ys, rfl, h2, h3⟩ := h1.lst
    cases intsOf_ok h3 e1
    refine cr_sortedI pins s σ H _ us Q I r ⟨a, ns, rfl, .inl h2, fun ns' p hp hs hn => ?_⟩
    have e : ns' = sortI ns := sorted_one (hp.trans (sortI_perm ns).symm) hs (sortI_sorted ns)
    rw [e]
    exact q _ _ (made_lst fd hn (repL_ints _))
  · cases h

/-! ### isinstance -/
def tyN : D → Option String
  | .non => some "NoneType" | .bl _ => some "bool" | .int _ => some "int" | .str _ => some "str" | .tup _ => some "tuple" | .ktup _ => some "tuple" | .lst _ => some "list"
  | _ => none
/-- isinstance(d, T) -/
def instP (d : D) (T : String) : Option Bool := match d with
  | .non => if T ∈ ["bool", "int", "str", "tuple", "list"] then some false else none
  | .bl _ => if T ∈ ["bool", "int"] then some true else if T ∈ ["str", "tuple", "list"] then some false else none
  | .int _ => if T = "int" then some true else if T ∈ ["bool", "str", "tuple", "list"] then some false else none
  | .str _ => if T = "str" then some true else if T ∈ ["bool", "int", "tuple", "list"] then some false else none
  | .tup _ => if T = "tuple" then some true else if T ∈ ["bool", "int", "str", "list"] then some false else none
  | .ktup _ => if T = "tuple" then some true else if T ∈ ["bool", "int", "str", "list"] then some false else none
  | .lst _ => if T = "list" then some true else if T ∈ ["bool", "int", "str", "tuple"] then some false else none
  | _ => none
theorem kit_all : ∀ p ∈ [("NoneType", "bool", false), ("NoneType", "int", false), ("NoneType", "str", false), ("NoneType", "tuple", false), ("NoneType", "list", false), ("bool", "bool", true), ("bool", "int", true), ("bool", "str", false), ("bool", "tuple", false), ("bool", "list", false),
    ("int", "int", true), ("int", "bool", false), ("int", "str", false), ("int", "tuple", false), ("int", "list", false), ("str", "str", true), ("str", "bool", false), ("str", "int", false), ("str", "tuple", false), ("str", "list", false),
    ("tuple", "tuple", true), ("tuple", "bool", false), ("tuple", "int", false), ("tuple", "str", false), ("tuple", "list", false), ("list", "list", true), ("list", "bool", false), ("list", "int", false), ("list", "str", false), ("list", "tuple", false)], kitB p.1 p.2.1 = some p.2.2 := by
  decide +kernel
theorem inst_kit {d : D} {T : String} {b : Bool} (h : instP d T = some b) : ∃ t, tyN d = some t ∧ kitB t T = some b := by
  have k := kit_all
  unfold instP at h
  split at h
  all_goals try (cases h; done)
  all_goals refine ⟨_, rfl, ?_⟩
  all_goals (split at h)
  all_goals try (split at h)
  all_goals try (cases h; done)
  all_goals cases h
  all_goals (rename_i c)
  all_goals try simp only [List.mem_cons, List.not_mem_nil, or_false] at c
  all_goals first
    | (rcases c with rfl | rfl | rfl | rfl | rfl <;> exact k (_, _, _) (by decide))
    | (rcases c with rfl | rfl | rfl | rfl <;> exact k (_, _, _) (by decide))
    | (rcases c with rfl | rfl | rfl <;> exact k (_, _, _) (by decide))
    | (rcases c with rfl | rfl <;> exact k (_, _, _) (by decide))
    | (subst c; exact k (_, _, _) (by decide))
theorem tyX_of {x : V} {d : D} {t : String} (h : RdF X.K fa H F x d) (e : tyN d = some t) : TyX X.K H x (.type t) := by
  cases d with
  | non => cases e; cases h.non; exact .base .non
  | bl b => cases e; cases h.bl; exact .base (.bl _)
  | int i => cases e; cases h.int; exact .base (.int _)
  | str z => cases e; cases h.str; exact .base (.str _)
  | tup ds => cases e; obtain ⟨a, xs, rfl, h1, _⟩ := h.tup; exact .base (.tup h1)
  | ktup ds => cases e; obtain ⟨a, xs, rfl, ⟨o, _, _, h1, h2, _⟩, _⟩ := h.ktup; exact .kTuple h1 h2
  | lst ds =>
    cases e
    obtain ⟨a, xs, rfl, h1, _⟩ := h.lst
    rcases h1 with h1 | ⟨o, h1⟩
    · exact .base (.lst h1)
    · exact .base (.frz h1)
  | _ => cases e
theorem inst_ok {d : D} {T : String} {b : Bool} {x : V} (h : instP d T = some b) (I : Inv X pins σ H s) (r : Vals [x, .ty T] us) (hd : RdF X.K fa H F x d) (q : Q (.bl b) H) :
    wpAny (model X.prog X.w) X.A (call (.builtin "isinstance") us) (EP X pins σ Q) X.xe s := by
  obtain ⟨t, e1, e2⟩ := inst_kit h
  exact call_isi pins s σ H _ us Q I r ⟨x, .ty T, .type t, .type T, b, rfl, .ty T, tyX_of hd e1, kit_ty e2, q⟩
end
end DL

namespace DL
open PySem PySem.Spec PyProof.Rows L2

/-! ### the small language -/
inductive Tg where
  | nm (i : Nat) | tup (ts : List Tg)
mutual
inductive Q where
  | var (i : Nat) | cst (d : D) | glb (j : Nat) | fnv (j : Nat)
  | tup (qs : List Q) | lst (qs : List Q) | lmul (qs : List Q) (b : Q)
  | dic (t : Bool) | dic1 (k v : Q)
  | bin (o : Operator) (a b : Q) | neg (a : Q) | cmp (o : CmpOp) (a b : Q) | chain (o o' : CmpOp) (a b c : Q)
  | and (a b : Q) | or (a b : Q) | not (a : Q) | ite (c a b : Q)
  | idx (a b : Q) | slc (a : Q) (lo hi : Option Q) | rev (a : Q)
  | call (j : Nat) (args : List Q) | callv (i : Nat) (args : List Q)
  | bi (b : BI) (args : List Q) | inst (a : Q) (T : String) | get (a k d : Q)
  | lrng (a : Q)
  | dcp (a : Q) | dprs (a : Q)
  | lc (own : List Nat) (tg : Tg) (it : It) (c : Option Q) (e : Q)
  | lc2 (own own1 : List Nat) (tg : Tg) (it : It) (tg1 : Tg) (it1 : It) (c : Option Q) (e : Q)
  | lc3 (own own1 own2 : List Nat) (tg : Tg) (it : It) (tg1 : Tg) (it1 : It) (tg2 : Tg) (it2 : It) (c : Option Q) (e : Q)
inductive It where
  | seq (q : Q) | rng (a : Q) | rng2 (a b : Q) | enum (q : Q) | zip (a b : Q) | zip3 (a b c : Q) | items (q : Q)
end
inductive S where
  | set (i : Nat) (q : Q) | unp (ts : List Tg) (q : Q) | par (i j : Nat) (a b : Q) | parO (k : Bool) (i j : Nat) (a b : Q)
  | store (i : Nat) (k v : Q) | app (i : Nat) (q : Q) | expr (q : Q)
  | ifs (c : Q) (a b : List S) | for_ (tg : Tg) (it : It) (body : List S) | whil (m : Nat) (c : Q) (body : List S)
  | ret (q : Q) | retv (i : Nat) | retN | brk | cont | pass | never

/-- an operand: the name in a slot, or a value -/
inductive PV where
  | sl (i : Nat) | dd (d : D)
def cont (ρ : Env') : PV → Option D
  | .sl i => (match ρ[i]? with
    | some (some sv) => some sv.d
    | _ => none)
  | .dd d => some d
def conts (ρ : Env') : List PV → Option (List D)
  | [] => some []
  | p :: ps => match cont ρ p, conts ρ ps with
    | some d, some ds => some (d :: ds)
    | _, _ => none
def lift {α : Type} (o : Option α) (ρ : Env') : Res α := match o with
  | some a => .ok a ρ
  | none => .stuck

inductive FRes where
  | ok (sv : SV) (b : Option D) | exc (x : Exn) (b : Option D) | stuck
structure Cf where
  run : Nat → List SV → FRes
  lend : Nat → Bool
  gv : Nat → Option D

section
variable (ev' : Q → Env' → Res SV)
def opd (q : Q) (ρ : Env') : Res PV := match q with
  | .var i => (match ρ[i]? with
    | some (some _) => .ok (.sl i) ρ
    | _ => .stuck)
  | q => (ev' q ρ).bind fun sv ρ' => .ok (.dd sv.d) ρ'
def opds : List Q → Env' → Res (List PV)
  | [], ρ => .ok [] ρ
  | q :: qs, ρ => (opd ev' q ρ).bind fun p ρ1 => (opds qs ρ1).bind fun ps ρ2 => .ok (p :: ps) ρ2
/-- values, frozen -/
def vals : List Q → Env' → Res (List D)
  | [], ρ => .ok [] ρ
  | q :: qs, ρ => (ev' q ρ).bind fun sv ρ1 => (vals qs ρ1).bind fun ds ρ2 => .ok (sv.d :: ds) ρ2
/-- two operands, then f of what they hold -/
def op2 {α : Type} (f : D → D → Option α) (a b : Q) (ρ : Env') : Res α :=
  (opd ev' a ρ).bind fun p ρ1 => (opd ev' b ρ1).bind fun r ρ2 => match cont ρ2 p, cont ρ2 r with
    | some d, some e => lift (f d e) ρ2
    | _, _ => .stuck
end

def tru : D → Option Bool
  | .non => some false
  | .bl b => some b
  | .int i => some (i != 0)
  | _ => none
def D.flat : D → Bool
  | .non => true | .bl _ => true | .int _ => true | .str _ => true
  | _ => false

def isDic : Option D → Bool
  | some (.dK _) => true
  | some (.dT _) => true
  | _ => false

/-! ### targets -/
mutual
def asg : Tg → D → Env' → Option Env'
  | .nm i, d, ρ => (match ρ[i]? with
    | some none => some (ρ.set i (some (.dat d)))
    | some (some sv) => if sv.lent then none else some (ρ.set i (some (.dat d)))
    | none => none)
  | .tup ts, d, ρ => (match d with
    | .tup ds => asgs ts ds ρ
    | .ktup ds => asgs ts ds ρ
    | .lst ds => asgs ts ds ρ
    | _ => none)
def asgs : List Tg → List D → Env' → Option Env'
  | [], [], ρ => some ρ
  | t :: ts, d :: ds, ρ => (asg t d ρ).bind fun ρ1 => asgs ts ds ρ1
  | _, _, _ => none
end

/-! ### calls -/
/-- the slots of our own (or lent to us) that the callee reads -/
def sharedSl (ρ : Env') : List PV → List Nat
  | [] => []
  | .sl i :: ps => (match ρ[i]? with
    | some (some (.dat _)) => sharedSl ρ ps
    | _ => i :: sharedSl ρ ps)
  | .dd _ :: ps => sharedSl ρ ps
/-- they are lists -/
def shLst (ρ : Env') : List Nat → Bool
  | [] => true
  | i :: is => (match ρ[i]? with
    | some (some (.own (.lst _))) => shLst ρ is
    | some (some (.bor (.lst _))) => shLst ρ is
    | _ => false)
/-- they are frozen -/
def freezeSl (ρ : Env') : List Nat → Option Env'
  | [] => some ρ
  | i :: is => (match ρ[i]? with
    | some (some (.own d)) => freezeSl (ρ.set i (some (.dat d))) is
    | some (some (.dat _)) => freezeSl ρ is
    | _ => none)
/-- the lent thing's new content -/
def putBack (ρ : Env') (i : Nat) (d : D) : Option Env' := match ρ[i]? with
  | some (some (.own _)) => some (ρ.set i (some (.own d)))
  | some (some (.bor _)) => some (ρ.set i (some (.bor d)))
  | _ => none
def lentOf (ρ : Env') : List PV → Option (Nat × D × List PV)
  | .sl i :: ps => (match ρ[i]? with
    | some (some (.own d)) => some (i, d, ps)
    | some (some (.bor d)) => some (i, d, ps)
    | _ => none)
  | _ => none
def callR (cf : Cf) (j : Nat) (ps : List PV) (ρ : Env') : Res SV :=
  if cf.lend j = true then match lentOf ρ ps with
    | none => .stuck
    | some (i, d, rest) => match conts ρ rest, freezeSl ρ (sharedSl ρ rest) with
      | some ds, some ρ1 => (match cf.run j (.bor d :: ds.map .dat) with
        | .ok sv (some d') => (match putBack ρ1 i d' with
          | some ρ2 => .ok sv ρ2
          | none => .stuck)
        | .exc x (some d') => (match putBack ρ1 i d' with
          | some ρ2 => .exc x ρ2
          | none => .stuck)
        | _ => .stuck)
      | _, _ => .stuck
  else match conts ρ ps with
    | none => .stuck
    | some ds => match cf.run j (ds.map .dat) with
      | .ok sv none => if (sv.d.flat && shLst ρ (sharedSl ρ ps)) = true then .ok (.dat sv.d) ρ else (match freezeSl ρ (sharedSl ρ ps) with
        | some ρ2 => .ok sv ρ2
        | none => .stuck)
      | .exc x none => (match freezeSl ρ (sharedSl ρ ps) with
        | some ρ2 => .exc x ρ2
        | none => .stuck)
      | _ => .stuck
def pairsK : List D → Option (List (Key × D))
  | [] => some []
  | .tup [k, v] :: ds => (match keyOf k, pairsK ds with
    | some kk, some r => some ((kk, v) :: r)
    | _, _ => none)
  | _ :: _ => none

/-! ### what is walked -/
def keyD : Key → D
  | .inl i => .int i
  | .inr x => .str x
def zipD : List D → List D → List D
  | a :: as, b :: bs => .tup [a, b] :: zipD as bs
  | _, _ => []
def zipP (a b : D) : Option (List D) := match a, b with
  | .lst xs, .lst ys => some (zipD xs ys)
  | .tup xs, .tup ys => some (zipD xs ys)
  | .ktup xs, .tup ys => some (zipD xs ys)
  | .tup xs, .ktup ys => some (zipD xs ys)
  | .ktup xs, .ktup ys => some (zipD xs ys)
  | _, _ => none
def zip3D : List D → List D → List D → List D
  | a :: as, b :: bs, c :: cs => .tup [a, b, c] :: zip3D as bs cs
  | _, _, _ => []
def enumD : Nat → List D → List D
  | _, [] => []
  | n, a :: as => .tup [.int (n : Nat), a] :: enumD (n + 1) as
def rangeD (lo : Int) (n : Nat) : List D := (List.range n).map fun i => .int (lo + (i : Nat))
def walkOf : D → Option (List D)
  | .tup ds => some ds
  | .ktup ds => some ds
  | .lst ds => some ds
  | .dK kds => some (kds.map fun kv => keyD kv.1)
  | .dT kds => some (kds.map fun kv => .tup (kv.1.map keyD))
  | _ => none
def itemsOf : D → Option (List D)
  | .dK kds => some (kds.map fun kv => .tup [keyD kv.1, kv.2])
  | _ => none
def small62 (i : Int) : Bool := decide (-(2 ^ 62) ≤ i) && decide (i < 2 ^ 62)
section
variable (ev' : Q → Env' → Res SV)
def evIt (it : It) (ρ : Env') : Res (List D) := match it with
  | .seq q => (ev' q ρ).bind fun sv ρ1 => lift sv.d.seq? ρ1
  | .rng a => (ev' a ρ).bind fun sv ρ1 => (match sv.d with
    | .int j => if small62 j = true then .ok (rangeD 0 j.toNat) ρ1 else .stuck
    | _ => .stuck)
  | .rng2 a b => (ev' a ρ).bind fun sv ρ1 => (ev' b ρ1).bind fun sw ρ2 => (match sv.d, sw.d with
    | .int i, .int j => if (small62 i && small62 j) = true then .ok (rangeD i (j - i).toNat) ρ2 else .stuck
    | _, _ => .stuck)
  | .enum q => (ev' q ρ).bind fun sv ρ1 => (match sv.d with
    | .lst ds => .ok (enumD 0 ds) ρ1
    | .tup ds => .ok (enumD 0 ds) ρ1
    | _ => .stuck)
  | .zip a b => (ev' a ρ).bind fun sv ρ1 => (ev' b ρ1).bind fun sw ρ2 => lift (zipP sv.d sw.d) ρ2
  | .zip3 a b c => (ev' a ρ).bind fun sv ρ1 => (ev' b ρ1).bind fun sw ρ2 => (ev' c ρ2).bind fun sz ρ3 => (match sv.d, sw.d, sz.d with
    | .lst xs, .lst ys, .lst zs => .ok (zip3D xs ys zs) ρ3
    | _, _, _ => .stuck)
  | .items q => (ev' q ρ).bind fun sv ρ1 => lift (itemsOf sv.d) ρ1
end

/-! ### comprehensions -/
def wipeR (ρ : Env') : List Nat → Env'
  | [] => ρ
  | i :: is => (wipeR ρ is).set i none
/-- a comprehension's own slots as they were -/
def backR (ρ0 : Env') (ρ : Env') : List Nat → Env'
  | [] => ρ
  | i :: is => (backR ρ0 ρ is).set i ((ρ0[i]?).getD none)
def tame (ρ : Env') (own : List Nat) : Bool := own.all fun i => match ρ[i]? with
  | some none => true
  | some (some (.dat _)) => true
  | _ => false
/-- in a comprehension nothing may be raised -/
@[reducible] def Res.bindN {α β : Type} (r : Res α) (g : α → Env' → Res β) : Res β := match r with
  | .ok a ρ => g a ρ
  | _ => .stuck
def testO (evT' : Q → Env' → Res Bool) (c : Option Q) (ρ : Env') : Res Bool := match c with
  | none => .ok true ρ
  | some q => evT' q ρ
/-- the last clause -/
def lcGo (fe : Env' → Res SV) (ft : Env' → Res Bool) (own : List Nat) (tg : Tg) : List D → List D → Env' → Res (List D)
  | [], acc, ρ => .ok acc ρ
  | d :: ds, acc, ρ => match asg tg d ρ with
    | none => .stuck
    | some ρ1 => (ft ρ1).bindN fun b ρ2 =>
      if b = true then (fe ρ2).bindN fun sv ρ3 => if acc.length < Z24 ∧ tame ρ3 own = true then lcGo fe ft own tg ds (acc ++ [sv.d]) (wipeR ρ3 own) else .stuck
      else if tame ρ2 own = true then lcGo fe ft own tg ds acc (wipeR ρ2 own) else .stuck
/-- a clause with more behind it -/
def lcOut (own own1 : List Nat) (tg : Tg) (fi : Env' → Res (List D)) (inner : List D → List D → Env' → Res (List D)) : List D → List D → Env' → Res (List D)
  | [], acc, ρ => .ok acc ρ
  | d :: ds, acc, ρ => match asg tg d ρ with
    | none => .stuck
    | some ρ1 => (fi ρ1).bindN fun items ρ2 => if tame ρ2 own1 = true then
        (inner items acc (wipeR ρ2 own1)).bindN fun acc' ρ3 => if tame ρ3 own = true then lcOut own own1 tg fi inner ds acc' (wipeR ρ3 own) else .stuck
      else .stuck
def lcFin (own : List Nat) (fi : Env' → Res (List D)) (go : List D → List D → Env' → Res (List D)) (ρ : Env') : Res SV :=
  (fi ρ).bind fun items ρ1 => if tame ρ1 own = true then (go items [] (wipeR ρ1 own)).bind fun acc ρ2 => .ok (.own (.lst acc)) (backR ρ1 ρ2 own) else .stuck

/-! ### the evaluator -/
mutual
def ev (cf : Cf) : Nat → Q → Env' → Res SV
  | 0, _, _ => .stuck
  | n + 1, q, ρ => match q with
    | .var i => (match ρ[i]? with
      | some (some (.dat d)) => .ok (.dat d) ρ
      | some (some (.own d)) => .ok (.dat d) (ρ.set i (some (.dat d)))
      | _ => .stuck)
    | .cst d => .ok (.dat d) ρ
    | .glb j => (match cf.gv j with
      | some d => .ok (.dat d) ρ
      | none => .stuck)
    | .fnv j => .ok (.dat (.fn j)) ρ
    | .tup qs => (vals (ev cf n) qs ρ).bind fun ds ρ1 => if ds.length ≤ Z24 then .ok (.dat (.tup ds)) ρ1 else .stuck
    | .lst qs => (vals (ev cf n) qs ρ).bind fun ds ρ1 => if ds.length ≤ Z24 then .ok (.own (.lst ds)) ρ1 else .stuck
    | .lmul qs b => (vals (ev cf n) qs ρ).bind fun ds ρ1 => if ds.length ≤ Z24 then (ev cf n b ρ1).bind fun sv ρ2 => (match sv.d with
      | .int k => if (-(2 ^ 63) ≤ k ∧ k < 2 ^ 63) ∧ ds.length * k.toNat ≤ Z24 then .ok (.own (.lst (List.replicate k.toNat ds).flatten)) ρ2 else .stuck
      | _ => .stuck) else .stuck
    | .dic false => .ok (.own (.dK [])) ρ
    | .dic true => .ok (.own (.dT [])) ρ
    | .dic1 k v => (ev cf n k ρ).bind fun sk ρ1 => (ev cf n v ρ1).bind fun sv ρ2 => (match keyOf sk.d with
      | some kk => .ok (.own (.dK [(kk, sv.d)])) ρ2
      | none => .stuck)
    | .bin o a b => op2 (ev cf n) (binP o) a b ρ
    | .neg a => (ev cf n a ρ).bind fun sv ρ1 => (match sv.d with
      | .int i => .ok (.dat (.int (-i))) ρ1
      | _ => .stuck)
    | .cmp o a b => (op2 (ev cf n) (cmpP o) a b ρ).bind fun c ρ1 => .ok (.dat (.bl c)) ρ1
    | .chain o o' a b c => (ev cf n a ρ).bind fun sa ρ1 => (ev cf n b ρ1).bind fun sb ρ2 => (match cmpP o sa.d sb.d with
      | some true => (ev cf n c ρ2).bind fun sc ρ3 => (match cmpP o' sb.d sc.d with
        | some r => .ok (.dat (.bl r)) ρ3
        | none => .stuck)
      | some false => .ok (.dat (.bl false)) ρ2
      | none => .stuck)
    | .and a b => (ev cf n a ρ).bind fun sa ρ1 => (match sa.d with
      | .bl true => (ev cf n b ρ1).bind fun sb ρ2 => .ok (.dat sb.d) ρ2
      | .bl false => .ok (.dat (.bl false)) ρ1
      | _ => .stuck)
    | .or a b => (ev cf n a ρ).bind fun sa ρ1 => (match sa.d with
      | .bl false => (ev cf n b ρ1).bind fun sb ρ2 => .ok (.dat sb.d) ρ2
      | .bl true => .ok (.dat (.bl true)) ρ1
      | _ => .stuck)
    | .not a => (ev cf n a ρ).bind fun sa ρ1 => (match sa.d with
      | .bl b => .ok (.dat (.bl (!b))) ρ1
      | _ => .stuck)
    | .ite c a b => (evT cf n c ρ).bind fun t ρ1 => if t = true then ev cf n a ρ1 else ev cf n b ρ1
    | .idx a b => (op2 (ev cf n) idxP a b ρ).bind fun d ρ1 => .ok (.dat d) ρ1
    | .slc a lo hi => (opd (ev cf n) a ρ).bind fun p ρ1 => (part cf n lo ρ1).bind fun l ρ2 => (part cf n hi ρ2).bind fun h ρ3 => (match cont ρ3 p with
      | some d => lift (slP d l h) ρ3
      | none => .stuck)
    | .rev a => (opd (ev cf n) a ρ).bind fun p ρ1 => (match cont ρ1 p with
      | some (.tup ds) => .ok (.dat (.tup ds.reverse)) ρ1
      | some (.lst ds) => .ok (.own (.lst ds.reverse)) ρ1
      | _ => .stuck)
    | .call j args => (opds (ev cf n) args ρ).bind fun ps ρ1 => callR cf j ps ρ1
    | .callv i args => (match ρ[i]? with
      | some (some (.dat (.fn j))) => (opds (ev cf n) args ρ).bind fun ps ρ1 => callR cf j ps ρ1
      | _ => .stuck)
    | .bi b args => (opds (ev cf n) args ρ).bind fun ps ρ1 => (match conts ρ1 ps with
      | some ds => lift (callP b ds) ρ1
      | none => .stuck)
    | .inst a T => (opd (ev cf n) a ρ).bind fun p ρ1 => (match cont ρ1 p with
      | some d => (match instP d T with
        | some b => .ok (.dat (.bl b)) ρ1
        | none => .stuck)
      | none => .stuck)
    | .get a k d => (opd (ev cf n) a ρ).bind fun p ρ1 => if isDic (cont ρ1 p) = true then (ev cf n k ρ1).bind fun sk ρ2 => (ev cf n d ρ2).bind fun sd ρ3 => (match cont ρ3 p with
      | some (.dK kds) => (match keyOf sk.d with
        | some kk => .ok (.dat ((lookD kds kk).getD sd.d)) ρ3
        | none => .stuck)
      | some (.dT kds) => (match sk.d with
        | .tup ks => (match keysOf ks with
          | some kk => .ok (.dat ((lookD kds kk).getD sd.d)) ρ3
          | none => .stuck)
        | _ => .stuck)
      | _ => .stuck) else .stuck
    | .lrng a => (ev cf n a ρ).bind fun sa ρ1 => (match sa.d with
      | .int j => if 0 ≤ j ∧ j ≤ Z24 then .ok (.own (.lst (rangeD 0 j.toNat))) ρ1 else .stuck
      | _ => .stuck)
    | .dcp a => (opd (ev cf n) a ρ).bind fun p ρ1 => (match cont ρ1 p with
      | some (.dK kds) => .ok (.own (.dK kds)) ρ1
      | _ => .stuck)
    | .dprs a => (opd (ev cf n) a ρ).bind fun p ρ1 => (match cont ρ1 p with
      | some (.lst es) => (match pairsK es with
        | some kds => .ok (.own (.dK (kds.foldl (fun acc kv => putD acc kv.1 kv.2) []))) ρ1
        | none => .stuck)
      | _ => .stuck)
    | .lc own tg it c e => lcFin own (evIt (ev cf n) it) (lcGo (ev cf n e) (testO (evT cf n) c) own tg) ρ
    | .lc2 own own1 tg it tg1 it1 c e => lcFin own (evIt (ev cf n) it) (lcOut own own1 tg (evIt (ev cf n) it1) (lcGo (ev cf n e) (testO (evT cf n) c) own1 tg1)) ρ
    | .lc3 own own1 own2 tg it tg1 it1 tg2 it2 c e => lcFin own (evIt (ev cf n) it) (lcOut own own1 tg (evIt (ev cf n) it1) (lcOut own1 own2 tg1 (evIt (ev cf n) it2) (lcGo (ev cf n e) (testO (evT cf n) c) own2 tg2))) ρ
def evT (cf : Cf) : Nat → Q → Env' → Res Bool
  | 0, _, _ => .stuck
  | n + 1, q, ρ => match q with
    | .and a b => (evT cf n a ρ).bind fun t ρ1 => if t = true then evT cf n b ρ1 else .ok false ρ1
    | .or a b => (evT cf n a ρ).bind fun t ρ1 => if t = true then .ok true ρ1 else evT cf n b ρ1
    | .not a => (evT cf n a ρ).bind fun t ρ1 => .ok (!t) ρ1
    | q => (ev cf n q ρ).bind fun sv ρ1 => lift (tru sv.d) ρ1
def part (cf : Cf) : Nat → Option Q → Env' → Res (Option Int)
  | 0, _, _ => .stuck
  | _ + 1, none, ρ => .ok none ρ
  | n + 1, some q, ρ => (ev cf n q ρ).bind fun sv ρ1 => (match sv.d with
    | .int i => .ok (some i) ρ1
    | _ => .stuck)
end

/-! ### statements -/
inductive SRes where
  | nx (ρ : Env') | rt (sv : SV) (ρ : Env') | bk (ρ : Env') | ct (ρ : Env') | exc (x : Exn) (ρ : Env') | stuck
@[reducible] def Res.sb {α : Type} (r : Res α) (g : α → Env' → SRes) : SRes := match r with
  | .ok a ρ => g a ρ
  | .exc x ρ => .exc x ρ
  | .stuck => .stuck
@[reducible] def SRes.sq (r : SRes) (g : Env' → SRes) : SRes := match r with
  | .nx ρ => g ρ
  | .rt sv ρ => .rt sv ρ
  | .bk ρ => .bk ρ
  | .ct ρ => .ct ρ
  | .exc x ρ => .exc x ρ
  | .stuck => .stuck
/-- kept our own, or frozen -/
def keepO (k : Bool) (sv : SV) : SV := if k = true then sv else .dat sv.d
/-- a name is stored -/
def setS (i : Nat) (sv : SV) (ρ : Env') : SRes := if sv.lent = true then .stuck else match ρ[i]? with
  | some none => .nx (ρ.set i (some sv))
  | some (some sw) => if sw.lent = true then .stuck else .nx (ρ.set i (some sv))
  | none => .stuck
def unpS (T : Tg) (d : D) (ρ : Env') : SRes := match asg T d ρ with
  | some ρ1 => .nx ρ1
  | none => .stuck
/-- a thing of ours is written -/
def putAt (d k v : D) : Option D := match d with
  | .lst ds => (match k with
    | .int i => (ixN ds.length i).map fun j => .lst (ds.set j v)
    | _ => none)
  | .dK kds => if kds.length < Z24 then (keyOf k).map fun kk => .dK (putD kds kk v) else none
  | .dT kds => if kds.length < Z24 then (match k with
    | .tup ks => (keysOf ks).map fun kk => .dT (putD kds kk v)
    | _ => none) else none
  | _ => none
def hasSlot (ρ : Env') (i : Nat) : Bool := match ρ[i]? with
  | some (some _) => true
  | _ => false
def hasLst (ρ : Env') (i : Nat) : Bool := match ρ[i]? with
  | some (some (.own (.lst _))) => true
  | some (some (.bor (.lst _))) => true
  | _ => false
def pushAt (d v : D) : Option D := match d with
  | .lst ds => if ds.length < Z24 then some (.lst (ds ++ [v])) else none
  | _ => none
def modS (i : Nat) (g : D → Option D) (ρ : Env') : SRes := match ρ[i]? with
  | some (some (.own d)) => (match g d with
    | some d' => .nx (ρ.set i (some (.own d')))
    | none => .stuck)
  | some (some (.bor d)) => (match g d with
    | some d' => .nx (ρ.set i (some (.bor d')))
    | none => .stuck)
  | _ => .stuck
def retvS (i : Nat) (ρ : Env') : SRes := match ρ[i]? with
  | some (some (.own d)) => .rt (.own d) ρ
  | some (some (.dat d)) => .rt (.dat d) ρ
  | _ => .stuck
def forGo (body : Env' → SRes) (T : Tg) : List D → Env' → SRes
  | [], ρ => .nx ρ
  | d :: ds, ρ => match asg T d ρ with
    | none => .stuck
    | some ρ1 => match body ρ1 with
      | .nx ρ2 => forGo body T ds ρ2
      | .ct ρ2 => forGo body T ds ρ2
      | .bk ρ2 => .nx ρ2
      | .rt sv ρ2 => .rt sv ρ2
      | .exc x ρ2 => .exc x ρ2
      | .stuck => .stuck
def whGo (c : Env' → Res Bool) (body : Env' → SRes) : Nat → Env' → SRes
  | 0, _ => .stuck
  | m + 1, ρ => (c ρ).sb fun b ρ1 => if b = true then match body ρ1 with
      | .nx ρ2 => whGo c body m ρ2
      | .ct ρ2 => whGo c body m ρ2
      | .bk ρ2 => .nx ρ2
      | .rt sv ρ2 => .rt sv ρ2
      | .exc x ρ2 => .exc x ρ2
      | .stuck => .stuck
    else .nx ρ1
mutual
def exS (cf : Cf) : Nat → S → Env' → SRes
  | 0, _, _ => .stuck
  | n + 1, s, ρ => match s with
    | .set i q => (ev cf n q ρ).sb fun sv ρ1 => setS i sv ρ1
    | .unp ts q => (ev cf n q ρ).sb fun sv ρ1 => unpS (.tup ts) sv.d ρ1
    | .par i j a b => (ev cf n a ρ).sb fun sv ρ1 => (ev cf n b ρ1).sb fun sw ρ2 => (setS i (.dat sv.d) ρ2).sq fun ρ3 => setS j (.dat sw.d) ρ3
    | .parO k i j a b => (ev cf n a ρ).sb fun sv ρ1 => (ev cf n b ρ1).sb fun sw ρ2 => (setS i (keepO k sv) ρ2).sq fun ρ3 => setS j sw ρ3
    | .store i k v => (ev cf n v ρ).sb fun sv ρ1 => if hasSlot ρ1 i = true then (ev cf n k ρ1).sb fun sk ρ2 => modS i (fun d => putAt d sk.d sv.d) ρ2 else .stuck
    | .app i q => if hasLst ρ i = true then (ev cf n q ρ).sb fun sv ρ1 => modS i (fun d => pushAt d sv.d) ρ1 else .stuck
    | .expr q => (ev cf n q ρ).sb fun _ ρ1 => .nx ρ1
    | .ifs c a b => (evT cf n c ρ).sb fun t ρ1 => if t = true then exSs cf n a ρ1 else exSs cf n b ρ1
    | .for_ T it body => (evIt (ev cf n) it ρ).sb fun items ρ1 => forGo (exSs cf n body) T items ρ1
    | .whil m c body => whGo (evT cf n c) (exSs cf n body) m ρ
    | .ret q => (ev cf n q ρ).sb fun sv ρ1 => .rt sv ρ1
    | .retv i => retvS i ρ
    | .retN => .rt (.dat .non) ρ
    | .brk => .bk ρ
    | .cont => .ct ρ
    | .pass => .nx ρ
    | .never => .stuck
def exSs (cf : Cf) : Nat → List S → Env' → SRes
  | 0, _, _ => .stuck
  | _ + 1, [], ρ => .nx ρ
  | n + 1, s :: ss, ρ => (exS cf n s ρ).sq fun ρ1 => exSs cf n ss ρ1
end
/-- a def -/
structure Fd where
  np : Nat
  nl : Nat
  lend : Bool
  body : List S
def backOf (ρ : Env') : Option D := match ρ with
  | some (.bor d) :: _ => some d
  | _ => none
def endF (lend : Bool) (ρ : Env') (g : Option D → FRes) : FRes := if lend = true then match backOf ρ with
  | some d => g (some d)
  | none => .stuck else g none
def finF (lend : Bool) (r : SRes) : FRes := match r with
  | .nx ρ => endF lend ρ fun b => .ok (.dat .non) b
  | .rt sv ρ => endF lend ρ fun b => .ok sv b
  | .exc x ρ => endF lend ρ fun b => .exc x b
  | _ => .stuck
def isLent : List SV → Bool
  | .bor _ :: _ => true
  | _ => false
/-- what def j computes with k calls deep, n the fuel of a body -/
def semK (defs : Nat → Option Fd) (gv : Nat → Option D) (n : Nat) : Nat → Nat → List SV → FRes
  | 0, _, _ => .stuck
  | k + 1, j, svs => match defs j with
    | none => .stuck
    | some fd => if svs.length = fd.np ∧ isLent svs = fd.lend then
        finF fd.lend (exSs ⟨semK defs gv n k, fun i => match defs i with
          | some g => g.lend
          | none => false, gv⟩ n fd.body (svs.map some ++ List.replicate (fd.nl - fd.np) none))
      else .stuck
end DL

namespace DL
open PySem PySem.Spec PyProof.Rows L2

section
variable {K : PySem.W.Frag} {fa : Nat → Option Addr} {H H' H0 H1 H2 : Hp} {F F' F0 F1 : AP'} {σ : L2.St} {ρ ρ' ρ0 : Env'}

abbrev StepE (H : Hp) (F : AP') (σ : L2.St) (ρ : Env') (H' : Hp) (F' : AP') (σ' : L2.St) (ρ' : Env') : Prop := Step H F (Own σ ρ) (Bor σ ρ) H' F' (Own σ' ρ') (Bor σ' ρ')

theorem set_get {α : Type} {l : List α} {i j : Nat} {x y : α} (h : (l.set i x)[j]? = some y) : (i = j ∧ y = x) ∨ (i ≠ j ∧ l[j]? = some y) := by
  by_cases e : i = j
  · subst e
    by_cases hi : i < l.length
    · rw [List.getElem?_set_self hi] at h; cases h; exact .inl ⟨rfl, rfl⟩
    · rw [List.getElem?_eq_none (by simpa using hi)] at h; cases h
  · rw [List.getElem?_set_ne e] at h; exact .inr ⟨e, h⟩
theorem get_lt {α : Type} {l : List α} {i : Nat} {x : α} (h : l[i]? = some x) : i < l.length := (List.getElem?_eq_some_iff.mp h).1

/-- a name of our own is frozen -/
theorem EnvOk.freeze {i : Nat} {d : D} {a : Addr} (ok : EnvOk K fa H F σ ρ) (e : ρ[i]? = some (some (.own d))) (es : σ[i]? = some (some (.ref a))) :
    EnvOk K fa H (fun b => F b ∨ b = a) σ (ρ.set i (some (.dat d))) ∧ StepE H F σ ρ H (fun b => F b ∨ b = a) σ (ρ.set i (some (.dat d))) ∧ Rep K fa H (fun b => F b ∨ b = a) (.ref a) d := by
  obtain ⟨v, e2, b, e3, nf, ow⟩ := ok.slot i _ e
  rw [es] at e2; cases e2; cases e3
  have st : Stays H F H (fun b => F b ∨ b = a) := ⟨fun _ _ h => h, fun _ _ _ h => h, fun _ h => .inl h, fun _ _ _ h => h⟩
  have rep : Rep K fa H (fun b => F b ∨ b = a) (.ref a) d := by
    cases ow with
    | lst q r => exact .lst (.inr rfl) (.inl q) (r.stays st)
    | dK q r => exact .dK (.inr rfl) (.inl q) r.1 (r.2.stays st)
    | dT q r => exact .dT (.inr rfl) (.inl q) r.1 (r.2.stays st)
  have own' : ∀ b, Own σ (ρ.set i (some (.dat d))) b → Own σ ρ b ∧ b ≠ a := fun b ⟨j, sv, h1, h2, h3⟩ => by
    rcases set_get h1 with ⟨_, h⟩ | ⟨ne, h⟩
    · cases h; cases h2
    · refine ⟨⟨j, sv, h, h2, h3⟩, fun z => ?_⟩
      subst z
      exact ne (ok.apart i j _ _ b e h rfl h2 es h3)
  refine ⟨⟨by rw [List.length_set]; exact ok.len, fun j sv h => ?_, fun j k sv sw b h1 h2 m1 m2 s1 s2 => ?_, fun b h => ?_⟩, ⟨fun _ _ h _ => .inl h, fun _ h => .inl h, fun b h => ?_, fun b h => .inl (own' b h).1, fun b => ?_, fun _ h => h⟩, rep⟩
  · rcases set_get h with ⟨rfl, g⟩ | ⟨ne, h⟩
    · cases g; exact ⟨_, es, rep⟩
    · obtain ⟨w, h1, h2⟩ := ok.slot j sv h
      refine ⟨w, h1, ?_⟩
      have far : ∀ c d', w = .ref c → ¬ F c → sv.mine = true → OwnAt K fa H F c d' → ¬ (F c ∨ c = a) ∧ OwnAt K fa H (fun b => F b ∨ b = a) c d' := fun c d' ew nc m q => by
        refine ⟨fun z => ?_, q.stays rfl st⟩
        rcases z with z | z
        · exact nc z
        · subst z ew
          exact ne (ok.apart i j _ _ c e h rfl m es h1)
      cases sv with
      | dat d' => exact Rep.stays st h2
      | own d' => obtain ⟨c, ew, nc, q⟩ := h2; exact ⟨c, ew, far c d' ew nc rfl q⟩
      | bor d' => obtain ⟨c, ew, nc, q⟩ := h2; exact ⟨c, ew, far c d' ew nc rfl q⟩
  · rcases set_get h1 with ⟨_, h⟩ | ⟨ne, h⟩
    · cases h; cases m1
    · rcases set_get h2 with ⟨_, h'⟩ | ⟨ne', h'⟩
      · cases h'; cases m2
      · exact ok.apart j k sv sw b h h' m1 m2 s1 s2
  · rcases h with h | h
    · exact ok.fd b h
    · subst h
      obtain ⟨o, ho, _⟩ := ow.some
      rw [ho]; exact fun z => nomatch z
  · rcases h with h | h
    · exact .inl h
    · subst h
      refine .inr (.inr ⟨⟨i, _, e, rfl, es⟩, fun ⟨j, sv, h1, h2, h3⟩ => ?_⟩)
      have hj := ok.apart i j _ _ b e h1 rfl (by cases sv <;> first | rfl | cases h2) es h3
      subst hj
      rw [e] at h1; cases h1; cases h2
  · constructor
    · rintro ⟨j, sv, h1, h2, h3⟩
      rcases set_get h1 with ⟨_, h⟩ | ⟨ne, h⟩
      · cases h; cases h2
      · exact ⟨j, sv, h, h2, h3⟩
    · rintro ⟨j, sv, h1, h2, h3⟩
      refine ⟨j, sv, ?_, h2, h3⟩
      rw [List.getElem?_set_ne ?_]
      · exact h1
      · intro z; subst z; rw [e] at h1; cases h1; cases h2

/-- the names of the frame, whatever the heap: a slot is stored anew -/
structure CanSet (K : PySem.W.Frag) (fa : Nat → Option Addr) (H : Hp) (F : AP') (σ : L2.St) (ρ : Env') (v : V) (sv : SV) : Prop where
  rep : RepS K fa H F v sv
  new : ∀ a, v = .ref a → sv.mine = true → ¬ Own σ ρ a
  nolend : sv.lent = false
theorem EnvOk.setSlot {i : Nat} {v : V} {sv : SV} (ok : EnvOk K fa H F σ ρ) (hi : i < ρ.length) (nl : ∀ sw, ρ[i]? = some (some sw) → sw.lent = false) (c : CanSet K fa H F σ ρ v sv) :
    EnvOk K fa H F (σ.set i (some v)) (ρ.set i (some sv)) ∧ (∀ a, Own (σ.set i (some v)) (ρ.set i (some sv)) a → Own σ ρ a ∨ (v = .ref a ∧ sv.mine = true)) ∧ ∀ a, Bor (σ.set i (some v)) (ρ.set i (some sv)) a ↔ Bor σ ρ a := by
  have hiσ : i < σ.length := by rw [ok.len]; exact hi
  refine ⟨⟨by rw [List.length_set, List.length_set]; exact ok.len, fun j sw h => ?_, fun j k sw sz b h1 h2 m1 m2 s1 s2 => ?_, ok.fd⟩, fun a ⟨j, sw, h1, h2, h3⟩ => ?_, fun a => ⟨fun ⟨j, sw, h1, h2, h3⟩ => ?_, fun ⟨j, sw, h1, h2, h3⟩ => ?_⟩⟩
  · rcases set_get h with ⟨rfl, g⟩ | ⟨ne, h⟩
    · cases g
      exact ⟨v, by rw [List.getElem?_set_self hiσ], c.rep⟩
    · obtain ⟨w, q1, q2⟩ := ok.slot j sw h
      exact ⟨w, by rw [List.getElem?_set_ne ne]; exact q1, q2⟩
  · rcases set_get h1 with ⟨rfl, g1⟩ | ⟨n1, g1⟩
    · rcases set_get h2 with ⟨rfl, g2⟩ | ⟨n2, g2⟩
      · rfl
      · cases g1
        rw [List.getElem?_set_self hiσ] at s1
        rw [List.getElem?_set_ne n2] at s2
        have e1 : v = .ref b := Option.some.inj (Option.some.inj s1)
        exact absurd ⟨k, sz, g2, m2, s2⟩ (c.new b e1 m1)
    · rw [List.getElem?_set_ne n1] at s1
      rcases set_get h2 with ⟨rfl, g2⟩ | ⟨n2, g2⟩
      · cases g2
        rw [List.getElem?_set_self hiσ] at s2
        have e1 : v = .ref b := Option.some.inj (Option.some.inj s2)
        exact absurd ⟨j, sw, g1, m1, s1⟩ (c.new b e1 m2)
      · rw [List.getElem?_set_ne n2] at s2
        exact ok.apart j k sw sz b g1 g2 m1 m2 s1 s2
  · rcases set_get h1 with ⟨rfl, g⟩ | ⟨ne, g⟩
    · cases g
      rw [List.getElem?_set_self hiσ] at h3
      exact .inr ⟨Option.some.inj (Option.some.inj h3), h2⟩
    · rw [List.getElem?_set_ne ne] at h3
      exact .inl ⟨j, sw, g, h2, h3⟩
  · rcases set_get h1 with ⟨rfl, g⟩ | ⟨ne, g⟩
    · cases g
      rw [c.nolend] at h2; cases h2
    · rw [List.getElem?_set_ne ne] at h3
      exact ⟨j, sw, g, h2, h3⟩
  · have ne : i ≠ j := by
      intro z; subst z
      rw [nl sw h1] at h2; cases h2
    exact ⟨j, sw, by rw [List.getElem?_set_ne ne]; exact h1, h2, by rw [List.getElem?_set_ne ne]; exact h3⟩

/-- what we own is written -/
theorem EnvOk.mutate {i : Nat} {sv sw : SV} {a : Addr} {o : HO} {d : D} (ok : EnvOk K fa H F σ ρ) (e : ρ[i]? = some (some sv)) (m : sv.mine = true) (es : σ[i]? = some (some (.ref a)))
    (hs : (sv.lent = false ∧ sw = .own d) ∨ (sv.lent = true ∧ sw = .bor d)) (hw : OwnAt K fa (upd H a o) F a d) :
    EnvOk K fa (upd H a o) F σ (ρ.set i (some sw)) ∧ StepE H F σ ρ (upd H a o) F σ (ρ.set i (some sw)) := by
  have oa : Own σ ρ a := ⟨i, sv, e, m, es⟩
  have nfa : ¬ F a := ok.own_nf oa
  obtain ⟨o0, ho0, nt, nz⟩ := ok.own_at oa
  have hi := get_lt e
  have mw : sw.mine = true := by rcases hs with ⟨_, rfl⟩ | ⟨_, rfl⟩ <;> rfl
  have lw : sw.lent = sv.lent := by rcases hs with ⟨h, rfl⟩ | ⟨h, rfl⟩ <;> rw [h] <;> rfl
  have own' : ∀ b, Own σ (ρ.set i (some sw)) b → Own σ ρ b := fun b ⟨j, sz, h1, h2, h3⟩ => by
    rcases set_get h1 with ⟨rfl, g⟩ | ⟨ne, g⟩
    · exact ⟨i, sv, e, m, h3⟩
    · exact ⟨j, sz, g, h2, h3⟩
  have st : Stays H F (upd H a o) F := by
    refine ⟨fun b xs h => ?_, fun b u f h => ?_, fun _ h => h, fun b o u h => by
      have ne : b ≠ a := by intro z; subst z; rw [ho0] at h; exact nz _ _ (Option.some.inj h)
      rw [upd_ne ne]; exact h⟩
    · have ne : b ≠ a := by intro z; subst z; rw [ho0] at h; exact nt _ (Option.some.inj h)
      rw [upd_ne ne]; exact h
    · have ne : b ≠ a := by intro z; subst z; exact nfa f
      unfold Rd
      rw [upd_ne ne]; exact h
  refine ⟨⟨by rw [List.length_set]; exact ok.len, fun j sz h => ?_, fun j k sz sy b h1 h2 m1 m2 s1 s2 => ?_, fun b f => ?_⟩, ⟨fun b u h no => ?_, fun _ h => h, fun _ h => .inl h, fun b h => .inl (own' b h), fun b => ?_, fun b h => ?_⟩⟩
  · rcases set_get h with ⟨rfl, g⟩ | ⟨ne, g⟩
    · cases g
      refine ⟨_, es, ?_⟩
      rcases hs with ⟨_, rfl⟩ | ⟨_, rfl⟩ <;> exact ⟨a, rfl, nfa, hw⟩
    · obtain ⟨w, q1, q2⟩ := ok.slot j sz g
      refine ⟨w, q1, ?_⟩
      have far : ∀ c d', w = .ref c → sz.mine = true → OwnAt K fa H F c d' → OwnAt K fa (upd H a o) F c d' := fun c d' ew mz q => by
        have nc : c ≠ a := by
          intro z; subst z ew
          exact ne (ok.apart i j _ _ c e g m mz es q1)
        exact q.stays (upd_ne nc) st
      cases sz with
      | dat d' => exact Rep.stays st q2
      | own d' => obtain ⟨c, ew, nc, q⟩ := q2; exact ⟨c, ew, nc, far c d' ew rfl q⟩
      | bor d' => obtain ⟨c, ew, nc, q⟩ := q2; exact ⟨c, ew, nc, far c d' ew rfl q⟩
  · have low : ∀ (j : Nat) (sz : SV), (ρ.set i (some sw))[j]? = some (some sz) → sz.mine = true → ∃ sz' : SV, ρ[j]? = some (some sz') ∧ sz'.mine = true := fun j sz h mz => by
      rcases set_get h with ⟨rfl, g⟩ | ⟨ne, g⟩
      · exact ⟨sv, e, m⟩
      · exact ⟨sz, g, mz⟩
    obtain ⟨z1, g1, n1⟩ := low j sz h1 m1
    obtain ⟨z2, g2, n2⟩ := low k sy h2 m2
    exact ok.apart j k z1 z2 b g1 g2 n1 n2 s1 s2
  · by_cases z : b = a
    · subst z; rw [upd_same]; exact fun q => nomatch q
    · rw [upd_ne z]; exact ok.fd b f
  · have ne : b ≠ a := by intro z; subst z; exact no oa
    rw [upd_ne ne]; exact .inl h
  · constructor
    · rintro ⟨j, sz, h1, h2, h3⟩
      rcases set_get h1 with ⟨rfl, g⟩ | ⟨ne, g⟩
      · cases g
        exact ⟨i, sv, e, by rw [← lw]; exact h2, h3⟩
      · exact ⟨j, sz, g, h2, h3⟩
    · rintro ⟨j, sz, h1, h2, h3⟩
      by_cases ne : i = j
      · subst ne
        rw [e] at h1; cases h1
        exact ⟨i, sw, by rw [List.getElem?_set_self hi], by rw [lw]; exact h2, h3⟩
      · exact ⟨j, sz, by rw [List.getElem?_set_ne ne]; exact h1, h2, h3⟩
  · by_cases z : b = a
    · subst z; rw [upd_same] at h; cases h
    · rw [upd_ne z] at h; exact h

/-- a result that nobody owns yet is frozen -/
theorem ResOk.freeze {v : V} {sv : SV} (ok : EnvOk K fa H F σ ρ) (r : ResOk K fa H0 H F σ ρ v sv) : ∃ F1, EnvOk K fa H F1 σ ρ ∧ Rep K fa H F1 v sv.d ∧ (∀ b, F b → F1 b) ∧ ∀ b, F1 b → F b ∨ H0 b = none := by
  obtain ⟨r1, r2⟩ := r
  cases sv with
  | dat d => exact ⟨F, ok, r1, fun _ h => h, fun _ h => .inl h⟩
  | own d =>
    obtain ⟨a, rfl, nf, ow⟩ := r1
    obtain ⟨b, eb, nn, no⟩ := r2
    cases eb
    have st : Stays H F H (fun b => F b ∨ b = a) := ⟨fun _ _ h => h, fun _ _ _ h => h, fun _ h => .inl h, fun _ _ _ h => h⟩
    refine ⟨fun b => F b ∨ b = a, ⟨ok.len, fun j sz h => ?_, ok.apart, fun b f => ?_⟩, ?_, fun _ h => .inl h, fun b h => ?_⟩
    · obtain ⟨w, q1, q2⟩ := ok.slot j sz h
      refine ⟨w, q1, ?_⟩
      have far : ∀ c d', w = .ref c → sz.mine = true → ¬ F c → OwnAt K fa H F c d' → ¬ (F c ∨ c = a) ∧ OwnAt K fa H (fun b => F b ∨ b = a) c d' := fun c d' ew mz nc q => by
        refine ⟨fun z => ?_, q.stays rfl st⟩
        rcases z with z | z
        · exact nc z
        · subst z ew
          exact no ⟨j, sz, h, mz, q1⟩
      cases sz with
      | dat d' => exact Rep.stays st q2
      | own d' => obtain ⟨c, ew, nc, q⟩ := q2; exact ⟨c, ew, far c d' ew rfl nc q⟩
      | bor d' => obtain ⟨c, ew, nc, q⟩ := q2; exact ⟨c, ew, far c d' ew rfl nc q⟩
    · rcases f with f | f
      · exact ok.fd b f
      · subst f
        obtain ⟨o, ho, _⟩ := ow.some
        rw [ho]; exact fun z => nomatch z
    · cases ow with
      | lst q r => exact .lst (.inr rfl) (.inl q) (r.stays st)
      | dK q r => exact .dK (.inr rfl) (.inl q) r.1 (r.2.stays st)
      | dT q r => exact .dT (.inr rfl) (.inl q) r.1 (r.2.stays st)
    · rcases h with h | h
      · exact .inl h
      · subst h; exact .inr nn
  | bor d => exact r2.elim
/-- the step behind which more is frozen, new since H0 -/
theorem Step.more {O B O' B' : AP'} (s : Step H0 F0 O B H F O' B') (h1 : ∀ b, F b → F1 b) (h2 : ∀ b, F1 b → F b ∨ H0 b = none) : Step H0 F0 O B H F1 O' B' :=
  ⟨s.keep, fun b h => h1 b (s.fmono b h), fun b h => (h2 b h).elim (s.fnew b) fun z => .inr (.inl z), s.onew, s.bor, s.dom⟩
end

/-! ### operands -/
def PVok (K : PySem.W.Frag) (fa : Nat → Option Addr) (H : Hp) (F : AP') (σ : L2.St) (x : V) : PV → Prop
  | .sl i => σ[i]? = some (some x)
  | .dd d => Rep K fa H F x d
section
variable {K : PySem.W.Frag} {fa : Nat → Option Addr} {H H' : Hp} {F F' : AP'} {σ : L2.St} {ρ : Env'}
theorem PVok.stays {x : V} {p : PV} (h : PVok K fa H F σ x p) (s : Stays H F H' F') : PVok K fa H' F' σ x p := by
  cases p with
  | sl i => exact h
  | dd d => exact Rep.stays s h
theorem RepS.rd {v : V} {sv : SV} (h : RepS K fa H F v sv) : RdF K fa H F v sv.d := by
  cases sv with
  | dat d => exact .inl h
  | own d => obtain ⟨a, e, _, q⟩ := h; exact .inr ⟨a, e, q⟩
  | bor d => obtain ⟨a, e, _, q⟩ := h; exact .inr ⟨a, e, q⟩
theorem PVok.read {x : V} {p : PV} {d : D} (h : PVok K fa H F σ x p) (ok : EnvOk K fa H F σ ρ) (e : cont ρ p = some d) : RdF K fa H F x d := by
  cases p with
  | sl i =>
    unfold cont at e
    dsimp only at e
    split at e
    · rename_i sv h1
      cases e
      obtain ⟨v, h2, h3⟩ := ok.slot i sv h1
      rw [show σ[i]? = some (some x) from h] at h2
      cases h2
      exact h3.rd
    · cases e
  | dd d' => cases e; exact .inl h
inductive PVs (K : PySem.W.Frag) (fa : Nat → Option Addr) (H : Hp) (F : AP') (σ : L2.St) : List V → List PV → Prop
  | nil : PVs K fa H F σ [] []
  | cons {x : V} {xs : List V} {p : PV} {ps : List PV} : PVok K fa H F σ x p → PVs K fa H F σ xs ps → PVs K fa H F σ (x :: xs) (p :: ps)
theorem PVs.stays (s : Stays H F H' F') : ∀ {xs : List V} {ps : List PV}, PVs K fa H F σ xs ps → PVs K fa H' F' σ xs ps
  | _, _, .nil => .nil
  | _, _, .cons h r => .cons (h.stays s) (PVs.stays s r)
theorem PVs.read (ok : EnvOk K fa H F σ ρ) : ∀ {xs : List V} {ps : List PV} {ds : List D}, PVs K fa H F σ xs ps → conts ρ ps = some ds → RdFs K fa H F xs ds
  | _, _, _, .nil, e => by cases e; exact .nil
  | _, _, _, .cons h r, e => by
    unfold conts at e
    split at e
    · rename_i d ds e1 e2
      cases e
      exact .cons (h.read ok e1) (PVs.read ok r e2)
    · cases e
end
end DL

namespace DL
open PySem PySem.Spec PyProof.Rows L2

/-- what is fixed: the functions' addresses, how an exception lies, the wish about it -/
structure Fix where
  fa : Nat → Option Addr
  EX : ExR
  W : WX

section
variable (K : PySem.W.Frag) (Z : Fix)
/-- behind a reading that began at H0, F0, ρ0; R: how a result lies -/
def PostG {α β : Type} (R : Hp → α → β → Hp → AP' → L2.St → Env' → Prop) (σ : L2.St) (H0 : Hp) (F0 : AP') (ρ0 : Env') (r : Res α) (Q : β → Hp → Prop) : Prop := match r with
  | .ok a ρ' => ∀ b H' F', StepE H0 F0 σ ρ0 H' F' σ ρ' → EnvOk K Z.fa H' F' σ ρ' → R H0 a b H' F' σ ρ' → Q b H'
  | .exc x ρ' => ∀ cls d H' F', StepE H0 F0 σ ρ0 H' F' σ ρ' → EnvOk K Z.fa H' F' σ ρ' → Z.EX x cls d H' → Z.W cls d σ H'
  | .stuck => False
/-- R looks at its beginning only for what is new -/
def Late {α β : Type} (R : Hp → α → β → Hp → AP' → L2.St → Env' → Prop) : Prop := ∀ H0 H1 a b H' F' σ ρ', (∀ x, H1 x = none → H0 x = none) → R H1 a b H' F' σ ρ' → R H0 a b H' F' σ ρ'
def RSV : Hp → SV → V → Hp → AP' → L2.St → Env' → Prop := fun H0 sv v H F σ ρ => ResOk K Z.fa H0 H F σ ρ v sv
def RD : Hp → D → V → Hp → AP' → L2.St → Env' → Prop := fun _ d v H F _ _ => Rep K Z.fa H F v d
def RPV : Hp → PV → V → Hp → AP' → L2.St → Env' → Prop := fun _ p v H F σ _ => PVok K Z.fa H F σ v p
def RPVs : Hp → List PV → List V → Hp → AP' → L2.St → Env' → Prop := fun _ p v H F σ _ => PVs K Z.fa H F σ v p
def RDs : Hp → List D → List V → Hp → AP' → L2.St → Env' → Prop := fun _ d v H F _ _ => RepL K Z.fa H F v d
def RB : Hp → Bool → Bool → Hp → AP' → L2.St → Env' → Prop := fun _ b c _ _ _ _ => b = c
def RPt : Hp → Option Int → Option Int → Hp → AP' → L2.St → Env' → Prop := fun _ b c _ _ _ _ => b = c
end
section
variable {K : PySem.W.Frag} {Z : Fix} {α β α' β' : Type} {R : Hp → α → β → Hp → AP' → L2.St → Env' → Prop} {R' : Hp → α' → β' → Hp → AP' → L2.St → Env' → Prop}
variable {σ : L2.St} {H0 H1 : Hp} {F0 F1 : AP'} {ρ0 ρ1 : Env'}
theorem late_RSV : Late (RSV K Z) := fun H0 H1 sv v H' F' σ ρ' d h => by
  obtain ⟨h1, h2⟩ := h
  refine ⟨h1, ?_⟩
  cases sv with
  | dat _ => trivial
  | own _ => obtain ⟨a, e, n, o⟩ := h2; exact ⟨a, e, d a n, o⟩
  | bor _ => exact h2
theorem late_RD : Late (RD K Z) := fun _ _ _ _ _ _ _ _ _ h => h
theorem late_RPV : Late (RPV K Z) := fun _ _ _ _ _ _ _ _ _ h => h
theorem late_RPVs : Late (RPVs K Z) := fun _ _ _ _ _ _ _ _ _ h => h
theorem late_RDs : Late (RDs K Z) := fun _ _ _ _ _ _ _ _ _ h => h
theorem late_RB : Late RB := fun _ _ _ _ _ _ _ _ _ h => h
theorem late_RPt : Late RPt := fun _ _ _ _ _ _ _ _ _ h => h
theorem PostG.after {r : Res α} {Q : β → Hp → Prop} (l : Late R) (st : StepE H0 F0 σ ρ0 H1 F1 σ ρ1) (h : PostG K Z R σ H0 F0 ρ0 r Q) : PostG K Z R σ H1 F1 ρ1 r Q := by
  cases r with
  | ok a ρ' => exact fun b H' F' s ok r => h b H' F' (st.trans s) ok (l _ _ _ _ _ _ _ _ st.dom r)
  | exc x ρ' => exact fun cls d H' F' s ok r => h cls d H' F' (st.trans s) ok r
  | stuck => exact h
/-- one reading, then another -/
theorem PostG.bind {f : Res α} {g : α → Env' → Res α'} {Q : β' → Hp → Prop} (l : Late R') (h : PostG K Z R' σ H0 F0 ρ0 (f.bind g) Q) :
    PostG K Z R σ H0 F0 ρ0 f (fun b H1 => ∃ a F1 ρ1, EnvOk K Z.fa H1 F1 σ ρ1 ∧ StepE H0 F0 σ ρ0 H1 F1 σ ρ1 ∧ R H0 a b H1 F1 σ ρ1 ∧ PostG K Z R' σ H1 F1 ρ1 (g a ρ1) Q) := by
  cases f with
  | ok a ρ' => exact fun b H' F' s ok r => ⟨a, F', ρ', ok, s, r, PostG.after l s h⟩
  | exc x ρ' => exact h
  | stuck => exact h
/-- .. the value frozen -/
theorem PostG.bindF {f : Res SV} {g : SV → Env' → Res α'} {Q : β' → Hp → Prop} (l : Late R') (h : PostG K Z R' σ H0 F0 ρ0 (f.bind g) Q) :
    PostG K Z (RSV K Z) σ H0 F0 ρ0 f (fun v H1 => ∃ sv F1 ρ1, EnvOk K Z.fa H1 F1 σ ρ1 ∧ StepE H0 F0 σ ρ0 H1 F1 σ ρ1 ∧ Rep K Z.fa H1 F1 v sv.d ∧ PostG K Z R' σ H1 F1 ρ1 (g sv ρ1) Q) := by
  cases f with
  | ok sv ρ' =>
    intro v H' F' s ok r
    obtain ⟨F1, ok1, rep, m1, m2⟩ := ResOk.freeze ok r
    exact ⟨sv, F1, ρ', ok1, s.more m1 m2, rep, PostG.after l (s.more m1 m2) h⟩
  | exc x ρ' => exact h
  | stuck => exact h
theorem PostG.imp {r : Res α} {Q Q' : β → Hp → Prop} (h : PostG K Z R σ H0 F0 ρ0 r Q) (i : ∀ b H, Q b H → Q' b H) : PostG K Z R σ H0 F0 ρ0 r Q' := by
  cases r with
  | ok a ρ' => exact fun b H' F' s ok r => i _ _ (h b H' F' s ok r)
  | exc x ρ' => exact h
  | stuck => exact h
theorem RSV.of_made {sv : SV} {z : V} {H' : Hp} (ok : EnvOk K Z.fa H0 F0 σ ρ0) (m : Made K Z.fa H0 F0 sv z H') : ∃ F', StepE H0 F0 σ ρ0 H' F' σ ρ0 ∧ EnvOk K Z.fa H' F' σ ρ0 ∧ ResOk K Z.fa H0 H' F' σ ρ0 z sv := by
  obtain ⟨F', g, r, n⟩ := m
  refine ⟨F', g.step, ok.grow g, r, ?_⟩
  cases sv with
  | dat _ => trivial
  | own _ =>
    obtain ⟨a, e, nn⟩ := n
    refine ⟨a, e, nn, fun o => ?_⟩
    obtain ⟨u, hu, _⟩ := ok.own_at o
    rw [nn] at hu; cases hu
  | bor _ => exact n
/-- a value made at the end -/
theorem PostG.made {sv : SV} {z : V} {H' : Hp} {Q : VK} (ok : EnvOk K Z.fa H0 F0 σ ρ0) (h : PostG K Z (RSV K Z) σ H0 F0 ρ0 (.ok sv ρ0) Q) (m : Made K Z.fa H0 F0 sv z H') : Q z H' := by
  obtain ⟨F', s, ok', r⟩ := RSV.of_made ok m
  exact h z H' F' s ok' r
theorem PostG.rep {z : V} {d : D} {Q : VK} (ok : EnvOk K Z.fa H0 F0 σ ρ0) (h : PostG K Z (RSV K Z) σ H0 F0 ρ0 (.ok (.dat d) ρ0) Q) (r : Rep K Z.fa H0 F0 z d) : Q z H0 := h.made ok (made_dat ok.fd r)
theorem PostG.test {b : Bool} {Q : Bool → Hp → Prop} (ok : EnvOk K Z.fa H0 F0 σ ρ0) (h : PostG K Z RB σ H0 F0 ρ0 (.ok b ρ0) Q) : Q b H0 := h b H0 F0 Step.refl ok rfl
end

/-! ### the judgements over data -/
section
variable (X : Cx) (Z : Fix)
def tD {α β : Type} (R : Hp → α → β → Hp → AP' → L2.St → Env' → Prop) (f : Env' → Res α) : L2.St → Hp → (β → Hp → Prop) → Prop :=
  fun σ H Q => ∃ F ρ, EnvOk X.K Z.fa H F σ ρ ∧ PostG X.K Z R σ H F ρ (f ρ) Q
abbrev PEd (e : Expr) (f : Env' → Res SV) : Prop := PE X e (tD X Z (RSV X.K Z) f)
abbrev POd (e : Expr) (f : Env' → Res PV) : Prop := PE X e (tD X Z (RPV X.K Z) f)
abbrev PTd (e : Expr) (f : Env' → Res Bool) : Prop := PT X e (tD X Z RB f)
abbrev PWd (e : Expr) (f : Env' → Res Bool) : Prop := PW X e (tD X Z RB f)
abbrev PAd (es : List Expr) (f : Env' → Res (List PV)) : Prop := PA X es (tD X Z (RPVs X.K Z) f)
abbrev PVd (es : List Expr) (f : Env' → Res (List D)) : Prop := PA X es (tD X Z (RDs X.K Z) f)
end
section
variable {X : Cx} {Z : Fix} {e a b c : Expr} {pos : Pos}

/-! ### names and constants -/
theorem pd_var {i : Nat} {x : Str} (hN : X.N[i]? = some x) (hv : Vis X.env.scope x) (hd : (x == ("__debug__" : Str)) = false) (hcd : (x == ("__classdict__" : Str)) = false) :
    PEd X Z (.Name x pos) (fun ρ => match ρ[i]? with
      | some (some (.dat d)) => .ok (.dat d) ρ
      | some (some (.own d)) => .ok (.dat d) (ρ.set i (some (.dat d)))
      | _ => .stuck) := by
  refine PE.weak (pe_var hN hv hd hcd) ?_
  rintro σ H Q ⟨F, ρ, ok, h⟩
  dsimp only at h
  split at h
  · rename_i d e1
    obtain ⟨v, e2, r⟩ := ok.slot i _ e1
    exact ⟨v, e2, h.rep ok r⟩
  · rename_i d e1
    obtain ⟨v, e2, a, ea, nf, ow⟩ := ok.slot i _ e1
    subst ea
    obtain ⟨ok', st, rep⟩ := ok.freeze e1 e2
    exact ⟨_, e2, h _ _ _ st ok' ⟨rep, trivial⟩⟩
  · exact h.elim
theorem po_var {i : Nat} {x : Str} (hN : X.N[i]? = some x) (hv : Vis X.env.scope x) (hd : (x == ("__debug__" : Str)) = false) (hcd : (x == ("__classdict__" : Str)) = false) :
    POd X Z (.Name x pos) (fun ρ => match ρ[i]? with
      | some (some _) => .ok (.sl i) ρ
      | _ => .stuck) := by
  refine PE.weak (pe_var hN hv hd hcd) ?_
  rintro σ H Q ⟨F, ρ, ok, h⟩
  dsimp only at h
  split at h
  · rename_i sv e1
    obtain ⟨v, e2, r⟩ := ok.slot i _ e1
    exact ⟨v, e2, h v H F Step.refl ok e2⟩
  · exact h.elim
theorem po_val {f : Env' → Res SV} (h : PEd X Z e f) : POd X Z e (fun ρ => (f ρ).bind fun sv ρ' => .ok (.dd sv.d) ρ') := by
  refine PE.weak h ?_
  rintro σ H Q ⟨F, ρ, ok, h⟩
  refine ⟨F, ρ, ok, (PostG.bindF late_RPV h).imp ?_⟩
  rintro v H1 ⟨sv, F1, ρ1, ok1, st, rep, h1⟩
  exact h1 v H1 F1 Step.refl ok1 rep
/-- a constant of any kind by its reading -/
theorem pd_con {v : V} {d : D} (h : PE X e (tC v)) (r : ∀ H F, Rep X.K Z.fa H F v d) : PEd X Z e (fun ρ => .ok (.dat d) ρ) := by
  refine PE.weak h ?_
  rintro σ H Q ⟨F, ρ, ok, h⟩
  exact h.rep ok (r H F)

/-! ### two operands -/
theorem PEd.run2 {α β : Type} {R : Hp → α → β → Hp → AP' → L2.St → Env' → Prop} {f1 f2 : Env' → Res PV} {g : D → D → Option α} {pins : List (Addr × Obj)} {s : Shared} {σ : L2.St} {H : Hp} {F : AP'} {ρ : Env'} {Q : β → Hp → Prop} {P : Value → Shared → Prop} {k : Value → Value → Sem Value}
    (l : Late R) (ha : POd X Z a f1) (hb : POd X Z b f2) (I : Inv X pins σ H s) (ok : EnvOk X.K Z.fa H F σ ρ)
    (h : PostG X.K Z R σ H F ρ ((f1 ρ).bind fun p ρ1 => (f2 ρ1).bind fun r ρ2 => match cont ρ2 p, cont ρ2 r with
      | some d, some e => lift (g d e) ρ2
      | _, _ => .stuck) Q)
    (hk : ∀ v u s2 x y H2 F2 ρ2 d e z, Inv X pins σ H2 s2 → RelV x v → RelV y u → EnvOk X.K Z.fa H2 F2 σ ρ2 → RdF X.K Z.fa H2 F2 x d → RdF X.K Z.fa H2 F2 y e → g d e = some z → PostG X.K Z R σ H2 F2 ρ2 (.ok z ρ2) Q →
      wpAny (model X.prog X.w) X.A (k v u) P X.xe s2) :
    wpAny (model X.prog X.w) X.A (eval a X.env) (fun v s₁ => wpAny (model X.prog X.w) X.A (eval b X.env) (fun u s₂ => wpAny (model X.prog X.w) X.A (k v u) P X.xe s₂) X.xe s₁) X.xe s := by
  refine binT ha hb (R := fun x y H2 => ∃ F2 ρ2 d e z, EnvOk X.K Z.fa H2 F2 σ ρ2 ∧ RdF X.K Z.fa H2 F2 x d ∧ RdF X.K Z.fa H2 F2 y e ∧ g d e = some z ∧ PostG X.K Z R σ H2 F2 ρ2 (.ok z ρ2) Q) I ?_ ?_
  · refine ⟨F, ρ, ok, (PostG.bind l h).imp ?_⟩
    rintro x H1 ⟨p, F1, ρ1, ok1, st1, r1, h1⟩
    refine ⟨F1, ρ1, ok1, (PostG.bind l h1).imp ?_⟩
    rintro y H2 ⟨r, F2, ρ2, ok2, st2, r2, h2⟩
    have r1' : PVok X.K Z.fa H2 F2 σ x p := PVok.stays r1 (st2.stays ok1)
    split at h2
    · rename_i d e e1 e2
      unfold lift at h2
      split at h2
      · rename_i z e3
        exact ⟨F2, ρ2, d, e, z, ok2, r1'.read ok2 e1, PVok.read r2 ok2 e2, e3, h2⟩
      · exact h2.elim
    · exact h2.elim
  · rintro v u s2 x y H2 I2 rx ry ⟨F2, ρ2, d, e, z, ok2, q1, q2, q3, q4⟩
    exact hk v u s2 x y H2 F2 ρ2 d e z I2 rx ry ok2 q1 q2 q3 q4
theorem pd_bin {o : Operator} {f1 f2 : Env' → Res PV} (ha : POd X Z a f1) (hb : POd X Z b f2) :
    PEd X Z (.BinOp a o b pos) (fun ρ => (f1 ρ).bind fun p ρ1 => (f2 ρ1).bind fun r ρ2 => match cont ρ2 p, cont ρ2 r with
      | some d, some e => lift (binP o d e) ρ2
      | _, _ => .stuck) := by
  refine ⟨?_⟩
  rintro pins s σ H Q I ⟨F, ρ, ok, h⟩
  refine wpAny_BinOp (PEd.run2 late_RSV ha hb I ok h ?_)
  intro v u s2 x y H2 F2 ρ2 d e z I2 rx ry ok2 q1 q2 q3 q4
  exact bin_ok q3 I2 rx ry q1 q2 ok2.fd fun w H' m => q4.made ok2 m
theorem pd_idx {f1 f2 : Env' → Res PV} (hu : X.A.units + 1 < cLine) (ha : POd X Z a f1) (hb : POd X Z b f2) (hs : PlainIx b) :
    PEd X Z (.Subscript a b pos) (fun ρ => ((f1 ρ).bind fun p ρ1 => (f2 ρ1).bind fun r ρ2 => match cont ρ2 p, cont ρ2 r with
      | some d, some e => lift (idxP d e) ρ2
      | _, _ => .stuck).bind fun d ρ1 => .ok (.dat d) ρ1) := by
  refine ⟨?_⟩
  rintro pins s σ H Q I ⟨F, ρ, ok, h⟩
  refine Subscript_ (PEd.run2 (R := RD X.K Z) (g := idxP) (Q := Q) late_RD ha hb I ok ?_ ?_)
  · have h1 := PostG.bind (R := RD X.K Z) late_RSV h
    refine h1.imp ?_
    rintro v H1 ⟨d, F1, ρ1, ok1, st, r, h2⟩
    exact h2.rep ok1 r
  · intro v u s2 x y H2 F2 ρ2 d e z I2 rx ry ok2 q1 q2 q3 q4
    exact idx_ok q3 hu a b I2 rx ry q1 q2 (hs _ _) fun w r => q4 w H2 F2 Step.refl ok2 r

/-! ### comparisons -/
theorem pc_cmp {o : CmpOp} {f1 f2 : Env' → Res PV} (hu : X.A.units + 65 < cLine) (ha : POd X Z a f1) (hb : POd X Z b f2) {pins : List (Addr × Obj)} {s : Shared} {σ : L2.St} {H : Hp} {F : AP'} {ρ : Env'} {Q : Bool → Hp → Prop} (I : Inv X pins σ H s) (ok : EnvOk X.K Z.fa H F σ ρ)
    (h : PostG X.K Z RB σ H F ρ ((f1 ρ).bind fun p ρ1 => (f2 ρ1).bind fun r ρ2 => match cont ρ2 p, cont ρ2 r with
      | some d, some e => lift (cmpP o d e) ρ2
      | _, _ => .stuck) Q) :
    wpAny (model X.prog X.w) X.A (eval a X.env) (fun v s₁ => wpAny (model X.prog X.w) X.A (eval b X.env) (fun u s₂ => wpAny (model X.prog X.w) X.A (compareOp o v u) (EP X pins σ fun v H => ∃ k, v = .bl k ∧ Q k H) X.xe s₂) X.xe s₁) X.xe s := by
  refine PEd.run2 late_RB ha hb I ok h ?_
  intro v u s2 x y H2 F2 ρ2 d e z I2 rx ry ok2 q1 q2 q3 q4
  exact cmp_ok q3 hu I2 rx ry q1 q2 ⟨z, rfl, q4.test ok2⟩
theorem pd_cmp {o : CmpOp} {f1 f2 : Env' → Res PV} (hu : X.A.units + 65 < cLine) (ha : POd X Z a f1) (hb : POd X Z b f2) (hm : behindInMarks o b = false) :
    PEd X Z (.Compare a [o] [b] pos) (fun ρ => ((f1 ρ).bind fun p ρ1 => (f2 ρ1).bind fun r ρ2 => match cont ρ2 p, cont ρ2 r with
      | some d, some e => lift (cmpP o d e) ρ2
      | _, _ => .stuck).bind fun c ρ1 => .ok (.dat (.bl c)) ρ1) := by
  refine ⟨?_⟩
  rintro pins s σ H Q I ⟨F, ρ, ok, h⟩
  refine wpAny_Compare1 (thn (pc_cmp hu ha hb (Q := fun k H => Q (.bl k) H) I ok ?_) fun v s1 h1 => thn h1 fun u s2 h2 => thn h2 ?_) hm
  · refine (PostG.bind (R := RB) late_RSV h).imp ?_
    rintro k H1 ⟨k', F1, ρ1, ok1, st, r, h2⟩
    cases r
    exact h2.rep ok1 (.bl _)
  · rintro w s3 ⟨x, H', I', rx, k, rfl, q⟩
    exact ⟨_, H', I', rx, q⟩
theorem ptd_cmp {o : CmpOp} {f1 f2 : Env' → Res PV} (hu : X.A.units + 65 < cLine) (ha : POd X Z a f1) (hb : POd X Z b f2) (hm : behindInMarks o b = false) :
    PTd X Z (.Compare a [o] [b] pos) (fun ρ => (f1 ρ).bind fun p ρ1 => (f2 ρ1).bind fun r ρ2 => match cont ρ2 p, cont ρ2 r with
      | some d, some e => lift (cmpP o d e) ρ2
      | _, _ => .stuck) := by
  refine ⟨?_⟩
  rintro pins s σ H Q I ⟨F, ρ, ok, h⟩
  refine wpAny_isTrue_Compare1 (thn (pc_cmp hu ha hb I ok h) fun v s1 h1 => thn h1 fun u s2 h2 => thn h2 ?_) hm
  rintro w s3 ⟨x, H', I', rx, k, rfl, q⟩
  cases rx
  exact wpAny_truthy_bool ⟨H', I', q⟩
end
end DL

namespace DL
open PySem PySem.Spec PyProof.Rows L2

section
variable {X : Cx} {Z : Fix} {e a b c : Expr} {es rest : List Expr} {pos : Pos}

/-! ### values by truth -/
theorem pd_neg {f : Env' → Res SV} (ha : PEd X Z a f) : PEd X Z (.UnaryOp .USub a pos) (fun ρ => (f ρ).bind fun sv ρ1 => (match sv.d with
      | .int i => .ok (.dat (.int (-i))) ρ1
      | _ => .stuck)) := by
  refine PE.weak (pe_un un_neg ha) ?_
  rintro σ H Q ⟨F, ρ, ok, h⟩
  refine ⟨F, ρ, ok, (PostG.bindF late_RSV h).imp ?_⟩
  rintro v H1 ⟨sv, F1, ρ1, ok1, st, r, h1⟩
  split at h1
  · rename_i i e1
    rw [e1] at r
    cases r
    exact ⟨_, rfl, h1.rep ok1 (.int _)⟩
  · exact h1.elim
theorem pd_and {f g : Env' → Res SV} (ha : PEd X Z a f) (hb : PEd X Z (.BoolOp .And (b :: rest) pos) g) : PEd X Z (.BoolOp .And (a :: b :: rest) pos) (fun ρ => (f ρ).bind fun sa ρ1 => (match sa.d with
      | .bl true => (g ρ1).bind fun sb ρ2 => .ok (.dat sb.d) ρ2
      | .bl false => .ok (.dat (.bl false)) ρ1
      | _ => .stuck)) := by
  refine PE.weak (pe_and ha hb) ?_
  rintro σ H Q ⟨F, ρ, ok, h⟩
  refine ⟨F, ρ, ok, (PostG.bindF late_RSV h).imp ?_⟩
  rintro v H1 ⟨sv, F1, ρ1, ok1, st, r, h1⟩
  split at h1
  · rename_i e1
    rw [e1] at r
    cases r
    refine ⟨true, rfl, ?_⟩
    rw [if_pos rfl]
    refine ⟨F1, ρ1, ok1, (PostG.bindF late_RSV h1).imp ?_⟩
    rintro w H2 ⟨sw, F2, ρ2, ok2, st2, r2, h2⟩
    exact h2.rep ok2 r2
  · rename_i e1
    rw [e1] at r
    cases r
    exact ⟨false, rfl, h1.rep ok1 (.bl _)⟩
  · exact h1.elim
theorem pd_or {f g : Env' → Res SV} (ha : PEd X Z a f) (hb : PEd X Z (.BoolOp .Or (b :: rest) pos) g) : PEd X Z (.BoolOp .Or (a :: b :: rest) pos) (fun ρ => (f ρ).bind fun sa ρ1 => (match sa.d with
      | .bl false => (g ρ1).bind fun sb ρ2 => .ok (.dat sb.d) ρ2
      | .bl true => .ok (.dat (.bl true)) ρ1
      | _ => .stuck)) := by
  refine PE.weak (pe_or ha hb) ?_
  rintro σ H Q ⟨F, ρ, ok, h⟩
  refine ⟨F, ρ, ok, (PostG.bindF late_RSV h).imp ?_⟩
  rintro v H1 ⟨sv, F1, ρ1, ok1, st, r, h1⟩
  split at h1
  · rename_i e1
    rw [e1] at r
    cases r
    refine ⟨false, rfl, ?_⟩
    rw [if_neg (by decide)]
    refine ⟨F1, ρ1, ok1, (PostG.bindF late_RSV h1).imp ?_⟩
    rintro w H2 ⟨sw, F2, ρ2, ok2, st2, r2, h2⟩
    exact h2.rep ok2 r2
  · rename_i e1
    rw [e1] at r
    cases r
    exact ⟨true, rfl, h1.rep ok1 (.bl _)⟩
  · exact h1.elim
theorem pd_not {f : Env' → Res SV} (ha : PEd X Z a f) : PEd X Z (.UnaryOp .Not a pos) (fun ρ => (f ρ).bind fun sa ρ1 => (match sa.d with
      | .bl b => .ok (.dat (.bl (!b))) ρ1
      | _ => .stuck)) := by
  refine PE.weak (pe_not ha) ?_
  rintro σ H Q ⟨F, ρ, ok, h⟩
  refine ⟨F, ρ, ok, (PostG.bindF late_RSV h).imp ?_⟩
  rintro v H1 ⟨sv, F1, ρ1, ok1, st, r, h1⟩
  split at h1
  · rename_i k e1
    rw [e1] at r
    cases r
    exact ⟨k, rfl, h1.rep ok1 (.bl _)⟩
  · exact h1.elim
theorem pd_ite {t : Env' → Res Bool} {f g : Env' → Res SV} (hc : PTd X Z c t) (ha : PEd X Z a f) (hb : PEd X Z b g) : PEd X Z (.IfExp c a b pos) (fun ρ => (t ρ).bind fun k ρ1 => if k = true then f ρ1 else g ρ1) := by
  refine PE.weak (pe_ifExp hc ha hb) ?_
  rintro σ H Q ⟨F, ρ, ok, h⟩
  refine ⟨F, ρ, ok, (PostG.bind late_RSV h).imp ?_⟩
  rintro k H1 ⟨k', F1, ρ1, ok1, st, r, h1⟩
  cases r
  split at h1 <;> rename_i e1
  · rw [if_pos e1]; exact ⟨F1, ρ1, ok1, h1⟩
  · rw [if_neg e1]; exact ⟨F1, ρ1, ok1, h1⟩

/-! ### tests -/
theorem ptd_val {f : Env' → Res SV} (ha : PEd X Z a f) (he : ∀ whole, isTrue a X.env whole = (do let v ← whole; standAt a.pos; holding [v] (truthy v))) :
    PTd X Z a (fun ρ => (f ρ).bind fun sv ρ1 => lift (tru sv.d) ρ1) := by
  refine ⟨?_⟩
  rintro pins s σ H Q I ⟨F, ρ, ok, h⟩
  refine isTrue_plain (thn (ha.run pins s σ H _ I ⟨F, ρ, ok, PostG.bindF late_RB h⟩) ?_) (he _)
  rintro v s1 ⟨x, H1, I1, rx, sv, F1, ρ1, ok1, st, r, h1⟩
  unfold lift at h1
  split at h1
  · rename_i k e1
    refine tru_ok pins s1 σ H1 x v Q I1 rx ⟨k, ?_, h1.test ok1⟩
    unfold tru at e1
    split at e1
    · rename_i e2
      rw [e2] at r
      cases r
      cases e1
      rfl
    · rename_i e2
      rw [e2] at r
      cases r
      cases e1
      rfl
    · rename_i e2
      rw [e2] at r
      cases r
      cases e1
      rfl
    · cases e1
  · exact h1.elim
theorem pwd_and1 {f : Env' → Res Bool} (ha : PTd X Z a f) : PWd X Z (.BoolOp .And [a] pos) f := pw_and1 ha
theorem pwd_or1 {f : Env' → Res Bool} (ha : PTd X Z a f) : PWd X Z (.BoolOp .Or [a] pos) f := pw_or1 ha
theorem PW.weak {t t' : TT} (h : PW X e t) (w : ∀ σ H Q, t' σ H Q → t σ H Q) : PW X e t' := ⟨fun wh pins s σ H Q I hq => h.run wh pins s σ H Q I (w σ H Q hq)⟩
theorem PT.weak {t t' : TT} (h : PT X e t) (w : ∀ σ H Q, t' σ H Q → t σ H Q) : PT X e t' := ⟨fun pins s σ H Q I hq => h.run pins s σ H Q I (w σ H Q hq)⟩
theorem pwd_and {f g : Env' → Res Bool} (ha : PTd X Z a f) (hb : PWd X Z (.BoolOp .And (b :: rest) pos) g) : PWd X Z (.BoolOp .And (a :: b :: rest) pos) (fun ρ => (f ρ).bind fun t ρ1 => if t = true then g ρ1 else .ok false ρ1) := by
  refine PW.weak (pw_and ha hb) ?_
  rintro σ H Q ⟨F, ρ, ok, h⟩
  refine ⟨F, ρ, ok, (PostG.bind late_RB h).imp ?_⟩
  rintro k H1 ⟨k', F1, ρ1, ok1, st, r, h1⟩
  cases r
  split at h1 <;> rename_i e1
  · rw [if_pos e1]; exact ⟨F1, ρ1, ok1, h1⟩
  · rw [if_neg e1]; exact h1.test ok1
theorem pwd_or {f g : Env' → Res Bool} (ha : PTd X Z a f) (hb : PWd X Z (.BoolOp .Or (b :: rest) pos) g) : PWd X Z (.BoolOp .Or (a :: b :: rest) pos) (fun ρ => (f ρ).bind fun t ρ1 => if t = true then .ok true ρ1 else g ρ1) := by
  refine PW.weak (pw_or ha hb) ?_
  rintro σ H Q ⟨F, ρ, ok, h⟩
  refine ⟨F, ρ, ok, (PostG.bind late_RB h).imp ?_⟩
  rintro k H1 ⟨k', F1, ρ1, ok1, st, r, h1⟩
  cases r
  split at h1 <;> rename_i e1
  · rw [if_pos e1]; exact h1.test ok1
  · rw [if_neg e1]; exact ⟨F1, ρ1, ok1, h1⟩
theorem ptd_not {f : Env' → Res Bool} (ha : PTd X Z a f) : PTd X Z (.UnaryOp .Not a pos) (fun ρ => (f ρ).bind fun t ρ1 => .ok (!t) ρ1) := by
  refine PT.weak (pt_not ha) ?_
  rintro σ H Q ⟨F, ρ, ok, h⟩
  refine ⟨F, ρ, ok, (PostG.bind late_RB h).imp ?_⟩
  rintro k H1 ⟨k', F1, ρ1, ok1, st, r, h1⟩
  cases r
  exact h1.test ok1

/-! ### chains of two comparisons -/
theorem op_cmpD {o : CmpOp} (hu : X.A.units + 65 < cLine) : OpR X (compareOp o) (fun x y H Q => ∃ F d e b, cmpP o d e = some b ∧ RdF X.K Z.fa H F x d ∧ RdF X.K Z.fa H F y e ∧ Q (.bl b) H) := by
  rintro pins s σ H x y v u Q I rx ry ⟨F, d, e, b, h, q1, q2, q⟩
  exact cmp_ok h hu I rx ry q1 q2 q
theorem pd_chain {o o' : CmpOp} {f g k : Env' → Res SV} (hu : X.A.units + 65 < cLine) (ha : PEd X Z a f) (hb : PEd X Z b g) (hc : PEd X Z c k) (hm : lastMarks [o, o'] [b, c] = false) :
    PEd X Z (.Compare a [o, o'] [b, c] pos) (fun ρ => (f ρ).bind fun sa ρ1 => (g ρ1).bind fun sb ρ2 => (match cmpP o sa.d sb.d with
      | some true => (k ρ2).bind fun sc ρ3 => (match cmpP o' sb.d sc.d with
        | some r => .ok (.dat (.bl r)) ρ3
        | none => .stuck)
      | some false => .ok (.dat (.bl false)) ρ2
      | none => .stuck)) := by
  refine PE.weak (pe_chain (op_cmpD (Z := Z) hu) (op_cmpD (Z := Z) hu) ha hb hc hm) ?_
  rintro σ H Q ⟨F, ρ, ok, h⟩
  refine ⟨F, ρ, ok, (PostG.bindF late_RSV h).imp ?_⟩
  rintro v1 H1 ⟨sa, F1, ρ1, ok1, st1, r1, h1⟩
  refine ⟨F1, ρ1, ok1, (PostG.bindF late_RSV h1).imp ?_⟩
  rintro v2 H2 ⟨sb, F2, ρ2, ok2, st2, r2, h2⟩
  have r1' := Rep.stays (st2.stays ok1) r1
  split at h2
  · rename_i e1
    refine ⟨F2, _, _, true, e1, .inl r1', .inl r2, true, rfl, ?_⟩
    rw [if_pos rfl]
    refine ⟨F2, ρ2, ok2, (PostG.bindF late_RSV h2).imp ?_⟩
    rintro v3 H3 ⟨sc, F3, ρ3, ok3, st3, r3, h3⟩
    split at h3
    · rename_i r e2
      exact ⟨F3, _, _, r, e2, .inl (Rep.stays (st3.stays ok2) r2), .inl r3, h3.rep ok3 (.bl _)⟩
    · exact h3.elim
  · rename_i e1
    refine ⟨F2, _, _, false, e1, .inl r1', .inl r2, false, rfl, ?_⟩
    rw [if_neg (by decide)]
    exact h2.rep ok2 (.bl _)
  · exact h2.elim
theorem PostG.bool {σ : L2.St} {H0 : Hp} {F0 : AP'} {ρ0 : Env'} {r : Res SV} {Q : Bool → Hp → Prop} (hb : ∀ sv ρ', r = .ok sv ρ' → ∃ k, sv = .dat (.bl k)) (h : PostG X.K Z RB σ H0 F0 ρ0 (r.bind fun sv ρ1 => lift (tru sv.d) ρ1) Q) :
    PostG X.K Z (RSV X.K Z) σ H0 F0 ρ0 r (fun v H1 => ∃ k, v = .bl k ∧ Q k H1) := by
  cases r with
  | ok sv ρ' =>
    obtain ⟨k, rfl⟩ := hb sv ρ' rfl
    intro v H' F' s ok rr
    have r1 : Rep X.K Z.fa H' F' v (.bl k) := rr.1
    cases r1
    exact ⟨k, rfl, h k H' F' s ok rfl⟩
  | exc x ρ' => exact h
  | stuck => exact h
theorem bind_ok {α β : Type} {r : Res α} {g : α → Env' → Res β} {b : β} {ρ' : Env'} (h : r.bind g = .ok b ρ') : ∃ a ρ1, r = .ok a ρ1 ∧ g a ρ1 = .ok b ρ' := by
  cases r with
  | ok a ρ1 => exact ⟨a, ρ1, rfl, h⟩
  | exc x ρ1 => cases h
  | stuck => cases h
theorem ptd_chain {o o' : CmpOp} {f g k : Env' → Res SV} (hu : X.A.units + 65 < cLine) (ha : PEd X Z a f) (hb : PEd X Z b g) (hc : PEd X Z c k) (hm : lastMarks [o, o'] [b, c] = false) :
    PTd X Z (.Compare a [o, o'] [b, c] pos) (fun ρ => Res.bind (α := SV) ((f ρ).bind fun sa ρ1 => (g ρ1).bind fun sb ρ2 => (match cmpP o sa.d sb.d with
      | some true => (k ρ2).bind fun sc ρ3 => (match cmpP o' sb.d sc.d with
        | some r => .ok (.dat (.bl r)) ρ3
        | none => .stuck)
      | some false => .ok (.dat (.bl false)) ρ2
      | none => .stuck)) fun sv ρ1 => lift (tru sv.d) ρ1) := by
  refine PT.weak (pt_chain (op_cmpD (Z := Z) hu) (op_cmpD (Z := Z) hu) ha hb hc hm) ?_
  rintro σ H Q ⟨F, ρ, ok, h⟩
  have h' := PostG.bool (fun sv ρ' e => by
    obtain ⟨sa, ρ1, _, e⟩ := bind_ok e
    obtain ⟨sb, ρ2, _, e⟩ := bind_ok e
    split at e
    · obtain ⟨sc, ρ3, _, e⟩ := bind_ok e
      split at e
      · cases e; exact ⟨_, rfl⟩
      · cases e
    · cases e; exact ⟨_, rfl⟩
    · cases e) h
  refine ⟨F, ρ, ok, (PostG.bindF late_RSV h').imp ?_⟩
  rintro v1 H1 ⟨sa, F1, ρ1, ok1, st1, r1, h1⟩
  refine ⟨F1, ρ1, ok1, (PostG.bindF late_RSV h1).imp ?_⟩
  rintro v2 H2 ⟨sb, F2, ρ2, ok2, st2, r2, h2⟩
  have r1' := Rep.stays (st2.stays ok1) r1
  split at h2
  · rename_i e1
    refine ⟨F2, _, _, true, e1, .inl r1', .inl r2, true, rfl, ?_⟩
    rw [if_pos rfl]
    refine ⟨F2, ρ2, ok2, (PostG.bindF late_RSV h2).imp ?_⟩
    rintro v3 H3 ⟨sc, F3, ρ3, ok3, st3, r3, h3⟩
    split at h3
    · rename_i r e2
      exact ⟨F3, _, _, r, e2, .inl (Rep.stays (st3.stays ok2) r2), .inl r3, h3.rep ok3 (.bl _)⟩
    · exact h3.elim
  · rename_i e1
    refine ⟨F2, _, _, false, e1, .inl r1', .inl r2, false, rfl, ?_⟩
    rw [if_neg (by decide)]
    exact h2.rep ok2 (.bl _)
  · exact h2.elim

/-! ### lists of operands, of values -/
def plainE : Expr → Bool
  | .Starred _ _ => false
  | _ => true
theorem star_plain {env : Env} (h : plainE e = true) : starEach (e :: es) env = (false, eval e env) :: starEach es env := by
  cases e <;> first | rfl | cases h
theorem back_plain {env : Env} {p : Pos} : ∀ {es : List Expr}, es.all plainE = true → (backTo p (starEach es env)).any (·.1) = false
  | [], _ => rfl
  | e :: es, h => by
    rw [List.all_cons, Bool.and_eq_true] at h
    rw [star_plain h.1]
    have ih := back_plain (env := env) (p := p) h.2
    unfold backTo at ih ⊢
    rw [List.map_cons, List.any_cons, ih]
    rfl
theorem PA.weak {t t' : TA} (h : PA X es t) (w : ∀ σ H Q, t' σ H Q → t σ H Q) : PA X es t' := ⟨fun p pins s σ H Q I hq => h.run p pins s σ H Q I (w σ H Q hq)⟩
theorem pad_nil : PAd X Z [] (fun ρ => .ok [] ρ) := by
  refine PA.weak pa_nil ?_
  rintro σ H Q ⟨F, ρ, ok, h⟩
  exact h [] H F Step.refl ok .nil
theorem pad_cons {f : Env' → Res PV} {g : Env' → Res (List PV)} (ha : POd X Z e f) (hr : PAd X Z es g) (hs : plainE e = true) : PAd X Z (e :: es) (fun ρ => (f ρ).bind fun p ρ1 => (g ρ1).bind fun ps ρ2 => .ok (p :: ps) ρ2) := by
  refine PA.weak (pa_cons ha hr (star_plain hs)) ?_
  rintro σ H Q ⟨F, ρ, ok, h⟩
  refine ⟨F, ρ, ok, (PostG.bind late_RPVs h).imp ?_⟩
  rintro v H1 ⟨p, F1, ρ1, ok1, st1, r1, h1⟩
  refine ⟨F1, ρ1, ok1, (PostG.bind late_RPVs h1).imp ?_⟩
  rintro vs H2 ⟨ps, F2, ρ2, ok2, st2, r2, h2⟩
  exact h2 (v :: vs) H2 F2 Step.refl ok2 (.cons (PVok.stays r1 (st2.stays ok1)) r2)
theorem pvd_nil : PVd X Z [] (fun ρ => .ok [] ρ) := by
  refine PA.weak pa_nil ?_
  rintro σ H Q ⟨F, ρ, ok, h⟩
  exact h [] H F Step.refl ok .nil
theorem pvd_cons {f : Env' → Res SV} {g : Env' → Res (List D)} (ha : PEd X Z e f) (hr : PVd X Z es g) (hs : plainE e = true) : PVd X Z (e :: es) (fun ρ => (f ρ).bind fun sv ρ1 => (g ρ1).bind fun ds ρ2 => .ok (sv.d :: ds) ρ2) := by
  refine PA.weak (pa_cons ha hr (star_plain hs)) ?_
  rintro σ H Q ⟨F, ρ, ok, h⟩
  refine ⟨F, ρ, ok, (PostG.bindF late_RDs h).imp ?_⟩
  rintro v H1 ⟨sv, F1, ρ1, ok1, st1, r1, h1⟩
  refine ⟨F1, ρ1, ok1, (PostG.bind late_RDs h1).imp ?_⟩
  rintro vs H2 ⟨ds, F2, ρ2, ok2, st2, r2, h2⟩
  exact h2 (v :: vs) H2 F2 Step.refl ok2 (.cons (Rep.stays (st2.stays ok1) r1) r2)

/-! ### displays -/
theorem pd_tup {k : Nat} {f : Env' → Res (List D)} (h : PVd X Z es f) : PEd X Z (.Tuple es k pos) (fun ρ => (f ρ).bind fun ds ρ1 => if ds.length ≤ Z24 then .ok (.dat (.tup ds)) ρ1 else .stuck) := by
  refine PE.weak (pe_tup h) ?_
  rintro σ H Q ⟨F, ρ, ok, h⟩
  refine ⟨F, ρ, ok, (PostG.bind late_RSV h).imp ?_⟩
  rintro vs H1 ⟨ds, F1, ρ1, ok1, st1, r1, h1⟩
  split at h1
  · rename_i hl
    refine ⟨by rw [RepL.length r1, z24]; exact hl, fun p hp => h1.made ok1 (made_tup ok1.fd hp r1)⟩
  · exact h1.elim
theorem pd_lst {f : Env' → Res (List D)} (h : PVd X Z es f) : PEd X Z (.List es pos) (fun ρ => (f ρ).bind fun ds ρ1 => if ds.length ≤ Z24 then .ok (.own (.lst ds)) ρ1 else .stuck) := by
  refine PE.weak (pe_lst h) ?_
  rintro σ H Q ⟨F, ρ, ok, h⟩
  refine ⟨F, ρ, ok, (PostG.bind late_RSV h).imp ?_⟩
  rintro vs H1 ⟨ds, F1, ρ1, ok1, st1, r1, h1⟩
  split at h1
  · rename_i hl
    refine ⟨by rw [RepL.length r1, z24]; exact hl, fun p hp => h1.made ok1 (made_lst ok1.fd hp r1)⟩
  · exact h1.elim
theorem pd_dicK : PEd X Z (.Dict [] [] pos) (fun ρ => .ok (.own (.dK [])) ρ) := by
  refine PE.weak pe_dnewK ?_
  rintro σ H Q ⟨F, ρ, ok, h⟩
  exact fun p hp => h.made ok (made_dK ok.fd hp ⟨rfl, .nil⟩)
theorem pd_dicT : PEd X Z (.Dict [] [] pos) (fun ρ => .ok (.own (.dT [])) ρ) := by
  refine PE.weak pe_dnewT ?_
  rintro σ H Q ⟨F, ρ, ok, h⟩
  exact fun p hp => h.made ok (made_dT ok.fd hp ⟨rfl, .nil⟩)
/-- [..] * b -/
theorem pd_lmul {f : Env' → Res (List D)} {g : Env' → Res SV} {p2 : Pos} (h : PVd X Z es f) (hb : PEd X Z b g) : PEd X Z (.BinOp (.List es p2) .Mult b pos) (fun ρ => (f ρ).bind fun ds ρ1 => if ds.length ≤ Z24 then (g ρ1).bind fun sv ρ2 => (match sv.d with
      | .int k => if (-(2 ^ 63) ≤ k ∧ k < 2 ^ 63) ∧ ds.length * k.toNat ≤ Z24 then .ok (.own (.lst (List.replicate k.toNat ds).flatten)) ρ2 else .stuck
      | _ => .stuck) else .stuck) := by
  refine PE.weak (pe_op op_rep (pe_lst h) hb) ?_
  rintro σ H Q ⟨F, ρ, ok, h⟩
  refine ⟨F, ρ, ok, (PostG.bind late_RSV h).imp ?_⟩
  rintro vs H1 ⟨ds, F1, ρ1, ok1, st1, r1, h1⟩
  split at h1
  · rename_i hl
    refine ⟨by rw [RepL.length r1, z24]; exact hl, fun p hp => ?_⟩
    have gr : Grow H1 F1 (upd H1 p (.lst vs)) F1 := Grow.new ok1.fd hp
    have ok1' := ok1.grow gr
    have nop : ¬ Own σ ρ1 p := fun o => by
      obtain ⟨u, hu, _⟩ := ok1.own_at o
      rw [hp] at hu; cases hu
    refine ⟨F1, ρ1, ok1', (PostG.bindF late_RSV (PostG.after late_RSV gr.step h1)).imp ?_⟩
    rintro v H2 ⟨sv, F2, ρ2, ok2, st2, r2, h2⟩
    split at h2
    · rename_i k e2
      rw [e2] at r2
      cases r2
      split at h2
      · rename_i hk
        have hp2 : H2 p = some (.lst vs) := (st2.keep p _ upd_same nop).resolve_right fun z => z.2.1
        have r1' := RepL.stays (st2.stays ok1') (RepL.stays gr.stays r1)
        refine ⟨p, k, vs, rfl, rfl, hp2, hk.1.1, hk.1.2, by rw [RepL.length r1, z24]; exact hk.2, fun q hq => ?_⟩
        exact h2.made ok2 (made_lst ok2.fd hq r1'.rep_flat)
      · exact h2.elim
    · exact h2.elim
  · exact h1.elim
end
end DL

namespace DL
open PySem PySem.Spec PyProof.Rows L2

/-! ### tuples backwards -/
section
variable {prog : Program} {w : World} {A : Around} {E : Value → Shared → Prop} {s : Shared}
theorem fm_congr {α β : Type} {f g : α → Option β} : ∀ {l : List α}, (∀ x ∈ l, f x = g x) → l.filterMap f = l.filterMap g
  | [], _ => rfl
  | x :: l, h => by
    rw [List.filterMap_cons, List.filterMap_cons, h x List.mem_cons_self, fm_congr fun y hy => h y (List.mem_cons_of_mem _ hy)]
theorem back_pick (xs : Array Value) : ((List.range xs.size).filterMap fun (m : Nat) => xs[((xs.size : Int) - 1 + (m : Int) * (-1)).toNat]?).toArray = xs.toList.reverse.toArray := by
  have e : ∀ m ∈ List.range xs.size, xs[((xs.size : Int) - 1 + (m : Int) * (-1)).toNat]? = xs[xs.size - 1 - m]? := fun m hm => by
    have := List.mem_range.mp hm
    rw [show ((xs.size : Int) - 1 + (m : Int) * (-1)).toNat = xs.size - 1 - m by omega]
  rw [fm_congr e]
  have q := PySem.W.krv_all xs
  rw [← q, ← List.filterMap_reverse, ← PySem.W.krv_range, List.filterMap_map]
  rfl
theorem sliceApplied_back {sl : Addr} {vl vu : Value} {t : Tok} {n : Nat} {Q : Int × Int × Nat → Shared → Prop} (hs : s.heap.IsSliceOf sl .none .none (.int (-1) t))
    (h : Q ((n : Int) - 1, -1, n) s) : wpAny (model prog w) A (Builtin.Slice.sliceApplied (.ref sl) (pure (n : Int))) Q E s := by
  obtain ⟨os, hos, hcs, hds⟩ := id hs
  unfold Builtin.Slice.sliceApplied Builtin.Slice.sliceFields
  refine wpAny_bind (wpAny_bind (wpAny_field hos hds (x := .none) rfl (wpAny_bind (wpAny_field hos hds (x := .none) rfl (wpAny_bind (wpAny_field hos hds (x := .int (-1) t) rfl (wpAny_pure ?_)))))))
  refine wpAny_bind (HT.slicePart_ (.int (-1) t) ?_)
  show wpAny _ _ (if ((-1 : Int) == 0) = true then _ else _) _ _ s
  rw [if_neg (by decide)]
  refine wpAny_bind (HT.slicePart_ .none (wpAny_bind (HT.slicePart_ .none (wpAny_bind (wpAny_pure ?_)))))
  show wpAny _ _ (match Builtin.Slice.sliceAdjust none none (-1) (n : Int) with | (lo, hi) => pure (lo, (-1 : Int), Builtin.Slice.slicePlaces lo hi (-1))) _ _ s
  have e : Builtin.Slice.sliceAdjust none none (-1) (n : Int) = ((n : Int) - 1, -1) := by
    unfold Builtin.Slice.sliceAdjust
    rfl
  have e2 : Builtin.Slice.slicePlaces ((n : Int) - 1) (-1) (-1) = n := by
    unfold Builtin.Slice.slicePlaces
    have h1 : ¬ ((-1 : Int) > 0) := by omega
    simp only [h1, if_false]
    split <;> simp <;> omega
  rw [e]
  show wpAny _ _ (pure ((n : Int) - 1, (-1 : Int), Builtin.Slice.slicePlaces ((n : Int) - 1) (-1) (-1))) _ _ s
  rw [e2]
  exact wpAny_pure h
theorem getItem_tuple_back {t sl : Addr} {items : Array Value} {tk : Tok} {Q : Value → Shared → Prop} (ht : IsTup s.heap t items) (hs : s.heap.IsSliceOf sl .none .none (.int (-1) tk))
    (h : Q (.ref s.heap.objs.size) { s with heap := s.heap.push { cls := .type "tuple", data := .seq items.toList.reverse.toArray } }) (hsz : items.size ≤ sizeLine) : wpAny (model prog w) A (getItem (.ref t) (.ref sl)) Q E s := by
  have hk : sizeOk (.seq items.toList.reverse.toArray) := by
    show items.toList.reverse.toArray.size ≤ sizeLine
    rw [List.size_toArray, List.length_reverse, Array.length_toList]
    exact hsz
  obtain ⟨os, hos, hcs, hds⟩ := id hs
  have hT : s.TypeIs (.ref sl) "slice" := ⟨os, hos, hcs⟩
  unfold getItem
  try with_reducible refine wpAny_holding ?_
  first | refine wpAny_bind (wpAny_pure ?_) | skip
  refine wpAny_bind (wpAny_sequenceKey ht.typeIs (by decide) ?_)
  refine wpAny_bind (wpAny_callSpecial?_slot (name := Str.ofString "__getitem__") ht.typeIs PyProof.Rows.slot_tuple_getitem (wpAny_call_entry PyProof.Rows.slot_tuple_getitem ht.typeIs entry_tuple_getitem ?_ (args_tuple_getitem _ _)))
  show wpAny _ _ (Builtin.Tuple.tupleItemsOf (.ref t) >>= _) _ _ s
  refine wpAny_bind (tupleItemsOf_ ht ?_)
  refine wpAny_bind (wpAny_typeOf hT ?_)
  rw [if_pos (by decide)]
  refine wpAny_bind (sliceApplied_back (vl := .none) (vu := .none) hs ?_)
  show wpAny _ _ (if (((items.size : Int) - 1) == 0 && (-1 : Int) == 1 && items.size == items.size) = true then _ else _) _ _ s
  rw [if_neg (by simp), back_pick]
  first
    | exact wpAny_bind (m := Builtin.Tuple.tupleExact _) (wpAny_newObj_type (wpAny_pure ⟨_, rfl, wpAny_pure h⟩) hk)
    | exact wpAny_bind (m := Builtin.Tuple.tupleExact _) (wpAny_newObj_type (wpAny_bind (wpAny_pure (wpAny_pure ⟨_, rfl, wpAny_pure h⟩))) hk)
    | exact wpAny_bind (wpAny_bind (m := Builtin.Tuple.tupleExact _) (wpAny_newObj_type (wpAny_pure (wpAny_pure ⟨_, rfl, wpAny_pure h⟩)) hk))
    | exact wpAny_bind (wpAny_bind (m := Builtin.Tuple.tupleExact _) (wpAny_newObj_type (wpAny_pure ⟨_, rfl, wpAny_pure h⟩) hk))
end

section
variable {X : Cx} {Z : Fix} {e a b c : Expr} {es rest : List Expr} {pos p p2 : Pos}
/-! ### slices -/
theorem PO.weak {o : Option Expr} {t t' : TO} (h : PO X o t) (w : ∀ σ H Q, t' σ H Q → t σ H Q) : PO X o t' := ⟨fun pins s σ H Q I hq => h.run pins s σ H Q I (w σ H Q hq)⟩
abbrev POpt (X : Cx) (Z : Fix) (o : Option Expr) (f : Env' → Res (Option Int)) : Prop := PO X o (tD X Z RPt f)
theorem pod_none : POpt X Z none (fun ρ => .ok none ρ) := by
  refine PO.weak po_none ?_
  rintro σ H Q ⟨F, ρ, ok, h⟩
  exact h none H F Step.refl ok rfl
theorem pod_some {f : Env' → Res SV} (h : PEd X Z e f) : POpt X Z (some e) (fun ρ => (f ρ).bind fun sv ρ1 => (match sv.d with
    | .int i => .ok (some i) ρ1
    | _ => .stuck)) := by
  refine PO.weak (po_some h) ?_
  rintro σ H Q ⟨F, ρ, ok, h⟩
  refine ⟨F, ρ, ok, (PostG.bindF late_RPt h).imp ?_⟩
  rintro v H1 ⟨sv, F1, ρ1, ok1, st, r, h1⟩
  split at h1
  · rename_i i e1
    rw [e1] at r
    cases r
    exact ⟨i, rfl, h1 (some i) H1 F1 Step.refl ok1 rfl⟩
  · exact h1.elim
theorem pd_slc {lo hi : Option Expr} {f : Env' → Res PV} {g k : Env' → Res (Option Int)} (ha : POd X Z a f) (hl : POpt X Z lo g) (hh : POpt X Z hi k) :
    PEd X Z (.Subscript a (.Slice lo hi none p2) pos) (fun ρ => (f ρ).bind fun p ρ1 => (g ρ1).bind fun l ρ2 => (k ρ2).bind fun h ρ3 => (match cont ρ3 p with
      | some d => lift (slP d l h) ρ3
      | none => .stuck)) := by
  refine PE.weak (pe_slice (sl_ok (fa := Z.fa)) ha hl hh) ?_
  rintro σ H Q ⟨F, ρ, ok, h⟩
  refine ⟨F, ρ, ok, (PostG.bind late_RSV h).imp ?_⟩
  rintro v H1 ⟨pv, F1, ρ1, ok1, st1, r1, h1⟩
  refine ⟨F1, ρ1, ok1, (PostG.bind late_RSV h1).imp ?_⟩
  rintro l H2 ⟨l', F2, ρ2, ok2, st2, r2, h2⟩
  cases r2
  refine ⟨F2, ρ2, ok2, (PostG.bind late_RSV h2).imp ?_⟩
  rintro u H3 ⟨u', F3, ρ3, ok3, st3, r3, h3⟩
  cases r3
  have r1' := PVok.stays (PVok.stays r1 (st2.stays ok1)) (st3.stays ok2)
  split at h3
  · rename_i d e1
    unfold lift at h3
    split at h3
    · rename_i sv e2
      exact ⟨F3, d, sv, e2, r1'.read ok3 e1, ok3.fd, fun z H' m => h3.made ok3 m⟩
    · exact h3.elim
  · exact h3.elim
/-- e[::-1] -/
theorem pd_rev {k : Nat} {p3 p4 : Pos} {f : Env' → Res PV} (ha : POd X Z a f) : PEd X Z (.Subscript a (.Slice none none (some (.UnaryOp .USub (.Constant (.int 1) k p3) p4)) p2) pos) (fun ρ => (f ρ).bind fun p ρ1 => (match cont ρ1 p with
      | some (.tup ds) => .ok (.dat (.tup ds.reverse)) ρ1
      | some (.lst ds) => .ok (.own (.lst ds.reverse)) ρ1
      | _ => .stuck)) := by
  refine ⟨?_⟩
  rintro pins s σ H Q I ⟨F, ρ, ok, h⟩
  refine Subscript_ (thn (ha.run pins s σ H _ I ⟨F, ρ, ok, PostG.bind late_RSV h⟩) ?_)
  rintro v s1 ⟨x, H1, I1, rx, pv, F1, ρ1, ok1, st1, r1, h1⟩
  have hst : PO X (some (.UnaryOp .USub (.Constant (.int 1) k p3) p4)) (tPart (tUn (rU fun i => .int (-i)) (tC (.int 1)))) := po_some (pe_un un_neg pe_int)
  refine wpAny_Slice (thn (po_none.run pins s1 σ H1 (fun o H2 => o = none ∧ H2 = H1) I1 ⟨rfl, rfl⟩) ?_)
  rintro vl s2 ⟨l, H2, I2, pl, rfl, rfl⟩
  refine thn (po_none.run pins s2 σ H2 (fun o H3 => o = none ∧ H3 = H2) I2 ⟨rfl, rfl⟩) ?_
  rintro vu s3 ⟨u, H3, I3, pu, rfl, rfl⟩
  refine thn (hst.run pins s3 σ H3 (fun o H4 => o = some (-1) ∧ H4 = H3) I3 ⟨1, rfl, -1, rfl, rfl, rfl⟩) ?_
  rintro vs s4 ⟨o, H4, I4, ps, rfl, rfl⟩
  have I5 : Inv X pins σ H4 { s4 with heap := s4.heap.push { cls := .type "slice", data := .fields #[vl, vu, vs] } } := I4.kept (t' := s4.toks) fun b ob q => Heap.get?_push_of_some _ q
  have sl := Heap.IsSliceOf.new s4.heap vl vu vs
  split at h1
  · rename_i ds e1
    obtain ⟨t, xs, rfl, ht, rt⟩ := (PVok.read r1 ok1 e1).tup
    cases rx
    cases pl
    cases pu
    cases ps
    obtain ⟨its, r, tt, hz⟩ := I5.tuple (.inl (.inl ht))
    refine tail_any (ops := [.ref t, .ref s4.heap.objs.size]) tt.typeIs PyProof.Rows.slot_tuple_getitem.lookup ?_ (by with_unfolding_all rfl)
    refine getItem_tuple_back tt sl ?_ (by rw [List.size_toArray, ← r.length]; exact hz)
    refine ⟨.ref _, _, I5.laid (t' := s4.toks) (o := .tup xs.reverse) (fun b ob q => Heap.get?_push_of_some _ q) (Nat.le_refl _) ?_, rfl, ?_⟩
    · exact ⟨by rw [List.length_reverse]; exact hz, _, r.reverse, IsTup.new _ _⟩
    · exact h1.made ok1 (made_tup ok1.fd (I5.hok.fresh (Nat.le_refl _)) rt.reverse)
  · rename_i ds e1
    obtain ⟨t, xs, rfl, ht, rt⟩ := (PVok.read r1 ok1 e1).lst
    cases rx
    obtain ⟨its, r, tt, hz⟩ := I5.list (.inl ht)
    refine tail_any (ops := [.ref t, .ref s4.heap.objs.size]) tt.isList.typeIs PySem.slot_list_getitem.lookup ?_ (by with_unfolding_all rfl)
    have hl := r.length
    refine wpAny_getItem_list_slice tt.isList sl pl pu ps (by decide) ?_ (by rw [List.size_toArray]; omega)
    rw [PySem.W.krv_pick]
    refine ⟨.ref _, _, I5.laid (t' := s4.toks) (o := .lst xs.reverse) (fun b ob q => Heap.get?_push_of_some _ q) (Nat.le_refl _) ?_, rfl, ?_⟩
    · exact ⟨by rw [List.length_reverse]; exact hz, _, 0, r.reverse, Heap.get?_push_size _ rfl⟩
    · exact h1.made ok1 (made_lst ok1.fd (I5.hok.fresh (Nat.le_refl _)) rt.reverse)
  · exact h1.elim

/-! ### built-in functions -/
theorem callR_D {f : Value} {r : List V → Hp → VK → Prop} : True := trivial
def rBI (X : Cx) (fa : Nat → Option Addr) (b : BI) : List V → Hp → VK → Prop := fun xs H Q => ∃ F ds sv, callP b ds = some sv ∧ RdFs X.K fa H F xs ds ∧ (∀ a, F a → H a ≠ none) ∧ ∀ z H', Made X.K fa H F sv z H' → Q z H'
theorem cr_bi {bi : BI} {fa : Nat → Option Addr} (hc : X.calm = true) : CallR X bi.val (rBI X fa bi) := by
  rintro pins s σ H xs us Q I r ⟨F, ds, sv, h, hd, fd, q⟩
  exact call_ok h hc I r hd fd q
theorem bi_boot (bi : BI) : bootBuiltins bi.name = some bi.val := by cases bi <;> decide +kernel
theorem bi_name (bi : BI) : bi.name ≠ "__name__" ∧ (bi.name == ("__debug__" : Str)) = false := by cases bi <;> decide
theorem pe_bi {bi : BI} {fa : Nat → Option Addr} {t : TA} (hc : X.calm = true) (hg : Gl X bi.name) (hm : X.mg bi.name = none) (ha : PA X (e :: es) t) (hs : (e :: es).all plainE = true) : PE X (.Call (.Name bi.name p) (e :: es) [] pos) (tCB (rBI X fa bi) t) := by
  rw [List.all_cons, Bool.and_eq_true] at hs
  have hr : CallR X bi.val (rBI X fa bi) := cr_bi hc
  have h1 := bi_boot bi
  have h2 := bi_name bi
  cases bi with
  | len => exact pe_callB hr hg hm h1 ha h2.1 h2.2 (star_plain hs.1) (back_plain hs.2)
  | abs => exact pe_callB hr hg hm h1 ha h2.1 h2.2 (star_plain hs.1) (back_plain hs.2)
  | int => exact pe_callTy hr hg hm h1 ha h2.1 h2.2 (star_plain hs.1) (back_plain hs.2)
  | str => exact pe_callTy hr hg hm h1 ha h2.1 h2.2 (star_plain hs.1) (back_plain hs.2)
  | tuple => exact pe_callTy hr hg hm h1 ha h2.1 h2.2 (star_plain hs.1) (back_plain hs.2)
  | list => exact pe_callTy hr hg hm h1 ha h2.1 h2.2 (star_plain hs.1) (back_plain hs.2)
  | sum => exact pe_callB hr hg hm h1 ha h2.1 h2.2 (star_plain hs.1) (back_plain hs.2)
  | max => exact pe_callB hr hg hm h1 ha h2.1 h2.2 (star_plain hs.1) (back_plain hs.2)
  | min => exact pe_callB hr hg hm h1 ha h2.1 h2.2 (star_plain hs.1) (back_plain hs.2)
  | all => exact pe_callB hr hg hm h1 ha h2.1 h2.2 (star_plain hs.1) (back_plain hs.2)
  | any => exact pe_callB hr hg hm h1 ha h2.1 h2.2 (star_plain hs.1) (back_plain hs.2)
  | sorted => exact pe_callB hr hg hm h1 ha h2.1 h2.2 (star_plain hs.1) (back_plain hs.2)
theorem pd_bi {bi : BI} {f : Env' → Res (List PV)} (hc : X.calm = true) (hg : Gl X bi.name) (hm : X.mg bi.name = none) (ha : PAd X Z (e :: es) f) (hs : (e :: es).all plainE = true) :
    PEd X Z (.Call (.Name bi.name p) (e :: es) [] pos) (fun ρ => (f ρ).bind fun ps ρ1 => (match conts ρ1 ps with
      | some ds => lift (callP bi ds) ρ1
      | none => .stuck)) := by
  refine PE.weak (pe_bi (fa := Z.fa) hc hg hm ha hs) ?_
  rintro σ H Q ⟨F, ρ, ok, h⟩
  refine ⟨F, ρ, ok, (PostG.bind late_RSV h).imp ?_⟩
  rintro vs H1 ⟨ps, F1, ρ1, ok1, st1, r1, h1⟩
  split at h1
  · rename_i ds e1
    unfold lift at h1
    split at h1
    · rename_i sv e2
      exact ⟨F1, ds, sv, e2, PVs.read ok1 r1 e1, ok1.fd, fun z H' m => h1.made ok1 m⟩
    · exact h1.elim
  · exact h1.elim
/-- isinstance(e, T) -/
def rIn1 (X : Cx) (fa : Nat → Option Addr) (T : String) : List V → Hp → VK → Prop := fun xs H Q => ∃ F x d b, xs = [x, .ty T] ∧ instP d T = some b ∧ RdF X.K fa H F x d ∧ Q (.bl b) H
theorem cr_inst {T : String} {fa : Nat → Option Addr} : CallR X (.builtin "isinstance") (rIn1 X fa T) := by
  rintro pins s σ H xs us Q I r ⟨F, x, d, b, rfl, h, hd, q⟩
  exact inst_ok h I r hd q
theorem pd_inst {T : String} {x2 : Str} {p3 : Pos} {f : Env' → Res PV} (hg : Gl X "isinstance") (hm : X.mg "isinstance" = none) (hg2 : Gl X x2) (hm2 : X.mg x2 = none) (hv2 : bootBuiltins x2 = some (.type T)) (hn2 : x2 ≠ "__name__") (hd2 : (x2 == ("__debug__" : Str)) = false)
    (ha : POd X Z a f) (hs : plainE a = true) :
    PEd X Z (.Call (.Name "isinstance" p) [a, .Name x2 p3] [] pos) (fun ρ => (f ρ).bind fun p ρ1 => (match cont ρ1 p with
      | some d => (match instP d T with
        | some b => .ok (.dat (.bl b)) ρ1
        | none => .stuck)
      | none => .stuck)) := by
  have hty : PE X (.Name x2 p3) (tC (.ty T)) := pe_bltn hg2 hm2 hv2 rfl hn2 hd2
  refine PE.weak (pe_callB (cr_inst (fa := Z.fa) (T := T)) hg hm (by decide +kernel) (pa_cons ha (pa_cons hty pa_nil (star_plain rfl)) (star_plain hs)) (by decide) (by decide) (star_plain hs) (back_plain (es := [.Name x2 p3]) rfl)) ?_
  rintro σ H Q ⟨F, ρ, ok, h⟩
  refine ⟨F, ρ, ok, (PostG.bind late_RSV h).imp ?_⟩
  rintro v H1 ⟨pv, F1, ρ1, ok1, st1, r1, h1⟩
  split at h1
  · rename_i d e1
    split at h1
    · rename_i b e2
      exact ⟨F1, v, d, b, rfl, e2, PVok.read r1 ok1 e1, h1.rep ok1 (.bl _)⟩
    · exact h1.elim
  · exact h1.elim
/-- list(range(a)) -/
theorem rgV_rep {K : PySem.W.Frag} {fa : Nat → Option Addr} {H : Hp} {F : AP'} (lo : Int) (n : Nat) : RepL K fa H F ((List.range n).map fun i => V.int (lo + (i : Nat))) (rangeD lo n) := by
  unfold rangeD
  induction (List.range n) with
  | nil => exact .nil
  | cons i l ih => exact .cons (.int _) ih
theorem pd_lrng {p3 : Pos} {f : Env' → Res SV} (hc : X.calm = true) (hg : Gl X "list") (hm : X.mg "list" = none) (hg2 : Gl X "range") (hm2 : X.mg "range" = none) (ha : PEd X Z a f) (hs : plainE a = true) :
    PEd X Z (.Call (.Name "list" p) [.Call (.Name "range" p2) [a] [] p3] [] pos) (fun ρ => (f ρ).bind fun sa ρ1 => (match sa.d with
      | .int j => if 0 ≤ j ∧ j ≤ Z24 then .ok (.own (.lst (rangeD 0 j.toNat))) ρ1 else .stuck
      | _ => .stuck)) := by
  refine PE.weak (pe_listRg hc hg hm (prg_1 hg2 hm2 ha (star_plain hs)) (star_plain rfl)) ?_
  rintro σ H Q ⟨F, ρ, ok, h⟩
  refine ⟨F, ρ, ok, (PostG.bindF late_RSV h).imp ?_⟩
  rintro v H1 ⟨sv, F1, ρ1, ok1, st1, r1, h1⟩
  split at h1
  · rename_i j e1
    rw [e1] at r1
    cases r1
    split at h1
    · rename_i hj
      have hz : (Z24 : Int) = 16777216 := rfl
      refine ⟨j, rfl, RgOk.of_le (Int.le_refl 0) (by omega) (by omega) hj.1, fun q hq => ?_⟩
      refine h1.made ok1 (made_lst ok1.fd hq ?_)
      unfold rgV
      rw [Int.sub_zero]
      exact rgV_rep 0 _
    · exact h1.elim
  · exact h1.elim

/-! ### dicts -/
def rDcp (X : Cx) (fa : Nat → Option Addr) : List V → Hp → VK → Prop := fun xs H Q => ∃ F x kds, xs = [x] ∧ RdF X.K fa H F x (.dK kds) ∧ (∀ a, F a → H a ≠ none) ∧ ∀ z H', Made X.K fa H F (.own (.dK kds)) z H' → Q z H'
theorem cr_dcp {fa : Nat → Option Addr} : CallR X (.type "dict") (rDcp X fa) := by
  rintro pins s σ H xs us Q I r ⟨F, x, kds, rfl, hd, fd, q⟩
  obtain ⟨a, kvs, rfl, h1, h2⟩ := hd.dK
  exact call_dictD pins s σ H _ us Q I r ⟨a, kvs, rfl, h1, fun p hp => q _ _ (made_dK fd hp h2)⟩
theorem pd_dcp {f : Env' → Res PV} (hg : Gl X "dict") (hm : X.mg "dict" = none) (ha : POd X Z a f) (hs : plainE a = true) : PEd X Z (.Call (.Name "dict" p) [a] [] pos) (fun ρ => (f ρ).bind fun p ρ1 => (match cont ρ1 p with
      | some (.dK kds) => .ok (.own (.dK kds)) ρ1
      | _ => .stuck)) := by
  refine PE.weak (pe_callTy (cr_dcp (fa := Z.fa)) hg hm (by decide +kernel) (pa_cons ha pa_nil (star_plain hs)) (by decide) (by decide) (star_plain hs) (back_plain (es := []) rfl)) ?_
  rintro σ H Q ⟨F, ρ, ok, h⟩
  refine ⟨F, ρ, ok, (PostG.bind late_RSV h).imp ?_⟩
  rintro v H1 ⟨pv, F1, ρ1, ok1, st1, r1, h1⟩
  split at h1
  · rename_i kds e1
    exact ⟨F1, v, kds, rfl, PVok.read r1 ok1 e1, ok1.fd, fun z H' m => h1.made ok1 m⟩
  · exact h1.elim
theorem pairs_ok {K : PySem.W.Frag} {fa : Nat → Option Addr} {H : Hp} {F : AP'} : ∀ {xs : List V} {ds : List D} {kds : List (Key × D)}, RepL K fa H F xs ds → pairsK ds = some kds →
    ∃ (ps : List Addr) (kvs : List (Key × V)), xs = ps.map V.ref ∧ Paired (fun p kv => SqT K H p [kV kv.1, kv.2]) ps kvs ∧ DRep K fa H F kvs kds
  | _, _, _, .nil, e => by cases e; exact ⟨[], [], rfl, .nil, rfl, .nil⟩
  | _, _, _, .cons (ds := ds) h r, e => by
    unfold pairsK at e
    split at e
    · rename_i heq; cases heq
    · rename_i k v ds' heq
      cases heq
      split at e
      · rename_i kk rr e1 e2
        cases e
        obtain ⟨ps, kvs, a1, a2, a3⟩ := pairs_ok r e2
        cases h with
        | tup ht hr =>
          rename_i a xs'
          cases hr with
          | cons hk hr2 =>
            cases hr2 with
            | cons hv hr3 =>
              cases hr3
              have := keyOf_ok hk e1
              subst this
              refine ⟨a :: ps, (kk, _) :: kvs, by rw [a1]; rfl, .cons (.inl (.inl ht)) a2, by simp [a3.1], .cons hv a3.2⟩
      · cases e
    · cases e
theorem merge_rep {K : PySem.W.Frag} {fa : Nat → Option Addr} {H : Hp} {F : AP'} : ∀ {kvs : List (Key × V)} {kds : List (Key × D)} {acc : List (Key × V)} {dac : List (Key × D)}, DRep K fa H F kvs kds → DRep K fa H F acc dac →
    DRep K fa H F (mergeK acc kvs) (kds.foldl (fun a kv => putD a kv.1 kv.2) dac)
  | [], [], _, _, _, q => q
  | [], _ :: _, _, _, h, _ => by have := h.1; simp at this
  | _ :: _, [], _, _, h, _ => by have := h.1; simp at this
  | p :: kvs, q :: kds, acc, dac, h, g => by
    obtain ⟨h1, h2⟩ := h
    simp only [List.map_cons, List.cons.injEq] at h1
    cases h2 with
    | cons hv hr =>
      have g' := g.put (k := q.1) hv
      rw [List.foldl_cons]
      have := merge_rep (show DRep K fa H F kvs kds from ⟨h1.2, hr⟩) g'
      rw [← h1.1] at this
      rw [← h1.1]
      exact this
def rDpr (X : Cx) (fa : Nat → Option Addr) : List V → Hp → VK → Prop := fun xs H Q => ∃ F x es kds, xs = [x] ∧ RdF X.K fa H F x (.lst es) ∧ pairsK es = some kds ∧ (∀ a, F a → H a ≠ none) ∧ ∀ z H', Made X.K fa H F (.own (.dK (kds.foldl (fun acc kv => putD acc kv.1 kv.2) []))) z H' → Q z H'
theorem cr_dpr {fa : Nat → Option Addr} (hc : X.calm = true) : CallR X (.type "dict") (rDpr X fa) := by
  rintro pins s σ H xs us Q I r ⟨F, x, es, kds, rfl, hd, hp, fd, q⟩
  obtain ⟨a, ys, rfl, h1, h2⟩ := hd.lst
  obtain ⟨ps, kvs, rfl, a2, a3⟩ := pairs_ok h2 hp
  exact call_dictP hc pins s σ H _ us Q I r ⟨a, ps, kvs, rfl, .inl h1, a2, fun p hp => q _ _ (made_dK fd hp (merge_rep a3 ⟨rfl, .nil⟩))⟩
theorem pd_dprs {f : Env' → Res PV} (hc : X.calm = true) (hg : Gl X "dict") (hm : X.mg "dict" = none) (ha : POd X Z a f) (hs : plainE a = true) : PEd X Z (.Call (.Name "dict" p) [a] [] pos) (fun ρ => (f ρ).bind fun p ρ1 => (match cont ρ1 p with
      | some (.lst es) => (match pairsK es with
        | some kds => .ok (.own (.dK (kds.foldl (fun acc kv => putD acc kv.1 kv.2) []))) ρ1
        | none => .stuck)
      | _ => .stuck)) := by
  refine PE.weak (pe_callTy (cr_dpr (fa := Z.fa) hc) hg hm (by decide +kernel) (pa_cons ha pa_nil (star_plain hs)) (by decide) (by decide) (star_plain hs) (back_plain (es := []) rfl)) ?_
  rintro σ H Q ⟨F, ρ, ok, h⟩
  refine ⟨F, ρ, ok, (PostG.bind late_RSV h).imp ?_⟩
  rintro v H1 ⟨pv, F1, ρ1, ok1, st1, r1, h1⟩
  split at h1
  · rename_i es e1
    split at h1
    · rename_i kds e2
      exact ⟨F1, v, es, kds, rfl, PVok.read r1 ok1 e1, e2, ok1.fd, fun z H' m => h1.made ok1 m⟩
    · exact h1.elim
  · exact h1.elim
theorem PostG.bindX {K : PySem.W.Frag} {Z : Fix} {α' β' : Type} {R' : Hp → α' → β' → Hp → AP' → L2.St → Env' → Prop} {σ : L2.St} {H0 Hs : Hp} {F0 Fs : AP'} {ρ0 ρs : Env'} {f : Res SV} {g : SV → Env' → Res α'} {Q : β' → Hp → Prop}
    (st : StepE H0 F0 σ ρ0 Hs Fs σ ρs) (h : PostG K Z R' σ H0 F0 ρ0 (f.bind g) Q) :
    PostG K Z (RSV K Z) σ Hs Fs ρs f (fun v H1 => ∃ sv F1 ρ1, EnvOk K Z.fa H1 F1 σ ρ1 ∧ StepE Hs Fs σ ρs H1 F1 σ ρ1 ∧ Rep K Z.fa H1 F1 v sv.d ∧ PostG K Z R' σ H0 F0 ρ0 (g sv ρ1) Q) := by
  cases f with
  | ok sv ρ' =>
    intro v H' F' s ok r
    obtain ⟨F1, ok1, rep, m1, m2⟩ := ResOk.freeze ok r
    exact ⟨sv, F1, ρ', ok1, s.more m1 m2, rep, h⟩
  | exc x ρ' => exact fun cls d H' F' s ok r => h cls d H' F' (st.trans s) ok r
  | stuck => exact h
/-- {k: v} -/
theorem pd_dic1 {f g : Env' → Res SV} (ha : PEd X Z a f) (hb : PEd X Z b g) : PEd X Z (.Dict [some a] [b] pos) (fun ρ => (f ρ).bind fun sk ρ1 => (g ρ1).bind fun sv ρ2 => (match keyOf sk.d with
      | some kk => .ok (.own (.dK [(kk, sv.d)])) ρ2
      | none => .stuck)) := by
  refine PE.weak (pe_disp (pps_cons ha hb pps_nil) rfl rfl (fun z => by cases z) (Nat.le_add_left 1 14)) ?_
  rintro σ H Q ⟨F, ρ, ok, h⟩
  intro p hp
  -- the dict is laid ahead of its entries
  have gr : Grow H F (upd H p (.dK [])) F := Grow.new ok.fd hp
  have ok' := ok.grow gr
  have nop : ∀ {ρ1 : Env'}, (∀ x, Own σ ρ1 x → Own σ ρ x ∨ upd H p (.dK []) x = none) → ¬ Own σ ρ1 p := fun {ρ1} hn o => by
    rcases hn p o with o | o
    · obtain ⟨u, hu, _⟩ := ok.own_at o
      rw [hp] at hu; cases hu
    · rw [upd_same] at o; cases o
  refine ⟨F, ρ, ok', (PostG.bindX gr.step h).imp ?_⟩
  rintro v H1 ⟨sk, F1, ρ1, ok1, st1, r1, h1⟩
  refine ⟨F1, ρ1, ok1, (PostG.bindX (gr.step.trans st1) h1).imp ?_⟩
  rintro w H2 ⟨sv, F2, ρ2, ok2, st2, r2, h2⟩
  split at h2
  · rename_i kk e1
    have r1' := Rep.stays (st2.stays ok1) r1
    have hk := keyOf_ok r1' e1
    subst hk
    have q1 : H1 p = some (.dK []) := (st1.keep p _ upd_same (nop fun x o => .inl o)).resolve_right fun z => ok.fd p z.1 hp
    have nF1 : ¬ F1 p := fun z => by
      rcases st1.fnew p z with z | z | ⟨z, _⟩
      · exact ok.fd p z hp
      · rw [upd_same] at z; cases z
      · exact nop (fun x o => .inl o) z
    have q2 : H2 p = some (.dK []) := (st2.keep p _ q1 (nop st1.onew)).resolve_right fun z => nF1 z.1
    refine ⟨q2, [(kk, w)], rfl, by simp, ?_⟩
    -- the dict at p, new since the beginning, is written
    have nF2 : ¬ F2 p := fun z => by
      rcases st2.fnew p z with z | z | ⟨z, _⟩
      · rcases st1.fnew p z with z | z | ⟨z, _⟩
        · exact ok.fd p z hp
        · rw [upd_same] at z; cases z
        · exact nop (fun x o => .inl o) z
      · rw [q1] at z; cases z
      · exact nop st1.onew z
    have no2 : ¬ Own σ ρ2 p := by
      refine nop fun x o => ?_
      rcases st2.onew x o with o | o
      · exact st1.onew x o
      · exact .inr (st1.dom x o)
    have sta : Stays H2 F2 (upd H2 p (.dK (mergeK [] [(kk, w)]))) F2 := by
      refine ⟨fun b xs hb => ?_, fun b u fb hb => ?_, fun _ z => z, fun b o u hb => by
        have ne : b ≠ p := by intro z; subst z; rw [q2] at hb; cases hb
        rw [upd_ne ne]; exact hb⟩
      · have ne : b ≠ p := by intro z; subst z; rw [q2] at hb; cases hb
        rw [upd_ne ne]; exact hb
      · have ne : b ≠ p := by intro z; subst z; exact nF2 fb
        unfold Rd
        rw [upd_ne ne]; exact hb
    have hmk : mergeK [] [(kk, w)] = [(kk, w)] := by simp [mergeK, putK]
    rw [hmk] at sta ⊢
    have okE : EnvOk X.K Z.fa (upd H2 p (.dK [(kk, w)])) F2 σ ρ2 := by
      refine ⟨ok2.len, fun i sz e => ?_, ok2.apart, fun b fb => ?_⟩
      · obtain ⟨y, g1, g2⟩ := ok2.slot i sz e
        refine ⟨y, g1, ?_⟩
        have far : ∀ c d', y = .ref c → sz.mine = true → OwnAt X.K Z.fa H2 F2 c d' → OwnAt X.K Z.fa (upd H2 p (.dK [(kk, w)])) F2 c d' := fun c d' ey mz q => by
          have ne : c ≠ p := by
            intro z; subst z ey
            exact no2 ⟨i, sz, e, mz, g1⟩
          exact q.stays (upd_ne ne) sta
        cases sz with
        | dat d' => exact Rep.stays sta g2
        | own d' => obtain ⟨c, ey, nc, q⟩ := g2; exact ⟨c, ey, nc, far c d' ey rfl q⟩
        | bor d' => obtain ⟨c, ey, nc, q⟩ := g2; exact ⟨c, ey, nc, far c d' ey rfl q⟩
      · by_cases z : b = p
        · subst z; rw [upd_same]; exact fun q => nomatch q
        · rw [upd_ne z]; exact ok2.fd b fb
    have full : StepE H F σ ρ (upd H2 p (.dK [(kk, w)])) F2 σ ρ2 := by
      have st02 := (gr.step (O := Own σ ρ) (B := Bor σ ρ)).trans (st1.trans st2)
      refine ⟨fun b u hb no => ?_, st02.fmono, st02.fnew, st02.onew, st02.bor, fun b hb => ?_⟩
      · have ne : b ≠ p := by intro z; subst z; rw [hp] at hb; cases hb
        rw [upd_ne ne]; exact st02.keep b u hb no
      · by_cases z : b = p
        · subst z; rw [upd_same] at hb; cases hb
        · rw [upd_ne z] at hb; exact st02.dom b hb
    exact h2 (.ref p) _ F2 full okE ⟨⟨p, rfl, nF2, .dK upd_same ⟨rfl, .cons (Rep.stays sta r2) .nil⟩⟩, p, rfl, hp, no2⟩
  · exact h2.elim
end
end DL

namespace DL
open PySem PySem.Spec PyProof.Rows L2

/-! ### what a def promises -/
inductive RepSs (K : PySem.W.Frag) (fa : Nat → Option Addr) (H : Hp) (F : AP') : List V → List SV → Prop
  | nil : RepSs K fa H F [] []
  | cons {v : V} {vs : List V} {d : SV} {ds : List SV} : RepS K fa H F v d → RepSs K fa H F vs ds → RepSs K fa H F (v :: vs) (d :: ds)
/-- at most the first argument is lent -/
def ArgsOk : List SV → Prop
  | [] => True
  | s :: ss => (∀ d, s ≠ .own d) ∧ ∀ t ∈ ss, ∃ d, t = .dat d
def lentA : List V → List SV → Addr → Prop
  | v :: _, .bor _ :: _, a => v = .ref a
  | _, _, _ => False
def lentD : List SV → Option D
  | .bor d :: _ => some d
  | _ => none
def Back (K : PySem.W.Frag) (fa : Nat → Option Addr) (vs : List V) (svs : List SV) (b : Option D) (H : Hp) (F : AP') : Prop := match vs, svs, b with
  | v :: _, .bor _ :: _, some d => ∃ a, v = .ref a ∧ ¬ F a ∧ OwnAt K fa H F a d
  | _, .bor _ :: _, none => False
  | _, _, none => True
  | _, _, some _ => False
def PostF (K : PySem.W.Frag) (fa : Nat → Option Addr) (EX : ExR) (H : Hp) (F : AP') (vs : List V) (svs : List SV) (r : FRes) (Q : VK) (E : XK) : Prop := match r with
  | .ok sv b => ∀ v H' F', Step H F (lentA vs svs) (lentA vs svs) H' F' (lentA vs svs) (lentA vs svs) → (∀ a, F' a → H' a ≠ none) → RepS K fa H' F' v sv → (sv.mine = true → ∃ d a, sv = .own d ∧ v = .ref a ∧ H a = none) → Back K fa vs svs b H' F' → Q v H'
  | .exc x b => ∀ cls d H' F', Step H F (lentA vs svs) (lentA vs svs) H' F' (lentA vs svs) (lentA vs svs) → (∀ a, F' a → H' a ≠ none) → Back K fa vs svs b H' F' → EX x cls d H' → E cls d H'
  | .stuck => False
def spF (K : PySem.W.Frag) (fa : Nat → Option Addr) (EX : ExR) (g : List SV → FRes) : Sp := fun vs H Q E => ∃ F svs, (∀ a, F a → H a ≠ none) ∧ RepSs K fa H F vs svs ∧ ArgsOk svs ∧ PostF K fa EX H F vs svs (g svs) Q E

section
variable {K : PySem.W.Frag} {fa : Nat → Option Addr} {H H' : Hp} {F F' : AP'} {σ : L2.St} {ρ ρ1 ρ2 : Env'}
/-! ### slots that a callee reads -/
def ShA (σ : L2.St) (ρ : Env') (sh : List Nat) (a : Addr) : Prop := ∃ i ∈ sh, (∃ sv : SV, ρ[i]? = some (some sv) ∧ sv.mine = true) ∧ σ[i]? = some (some (.ref a))
theorem shA_own {σ : L2.St} {ρ : Env'} {sh : List Nat} {a : Addr} (h : ShA σ ρ sh a) : Own σ ρ a := by
  obtain ⟨i, _, ⟨sv, e, m⟩, es⟩ := h
  exact ⟨i, sv, e, m, es⟩
theorem freezeSl_ok {K : PySem.W.Frag} {fa : Nat → Option Addr} {H : Hp} {σ : L2.St} {ρ2 : Env'} : ∀ {sh : List Nat} {ρ : Env'} {F : AP'}, EnvOk K fa H F σ ρ → freezeSl ρ sh = some ρ2 → EnvOk K fa H (fun a => F a ∨ ShA σ ρ sh a) σ ρ2 ∧ StepE H F σ ρ H (fun a => F a ∨ ShA σ ρ sh a) σ ρ2
  | [], ρ, F, ok, e => by
    cases e
    have eq : ∀ q, (fun a => F a ∨ ShA σ q [] a) = F := by
      intro q
      funext a
      exact propext ⟨fun h => h.elim id (fun ⟨i, hi, _⟩ => nomatch hi), .inl⟩
    rw [eq _]
    exact ⟨ok, Step.refl⟩
  | i :: is, ρ, F, ok, e => by
    unfold freezeSl at e
    split at e
    · rename_i d e1
      obtain ⟨v, es, a, ea, nf, ow⟩ := ok.slot i _ e1
      subst ea
      obtain ⟨ok1, st1, _⟩ := ok.freeze e1 es
      obtain ⟨ok2, st2⟩ := freezeSl_ok ok1 e
      have eq : (fun b => (F b ∨ b = a) ∨ ShA σ (ρ.set i (some (.dat d))) is b) = fun b => F b ∨ ShA σ ρ (i :: is) b := by
        funext b
        refine propext ⟨fun h => ?_, fun h => ?_⟩
        · rcases h with (h | h) | h
          · exact .inl h
          · subst h; exact .inr ⟨i, List.mem_cons_self, ⟨_, e1, rfl⟩, es⟩
          · obtain ⟨j, hj, ⟨sv, q1, q2⟩, q3⟩ := h
            rcases set_get q1 with ⟨rfl, q⟩ | ⟨ne, q⟩
            · cases q; cases q2
            · exact .inr ⟨j, List.mem_cons_of_mem _ hj, ⟨sv, q, q2⟩, q3⟩
        · rcases h with h | ⟨j, hj, ⟨sv, q1, q2⟩, q3⟩
          · exact .inl (.inl h)
          · by_cases ne : i = j
            · subst ne
              rw [es] at q3
              cases q3
              exact .inl (.inr rfl)
            · rcases List.mem_cons.mp hj with rfl | hj
              · exact absurd rfl ne
              · exact .inr ⟨j, hj, ⟨sv, by rw [List.getElem?_set_ne ne]; exact q1, q2⟩, q3⟩
      rw [eq] at ok2 st2
      exact ⟨ok2, st1.trans st2⟩
    · rename_i d e1
      obtain ⟨ok2, st2⟩ := freezeSl_ok ok e
      have eq : (fun b => F b ∨ ShA σ ρ is b) = fun b => F b ∨ ShA σ ρ (i :: is) b := by
        funext b
        refine propext ⟨fun h => ?_, fun h => ?_⟩
        · rcases h with h | ⟨j, hj, q⟩
          · exact .inl h
          · exact .inr ⟨j, List.mem_cons_of_mem _ hj, q⟩
        · rcases h with h | ⟨j, hj, ⟨sv, q1, q2⟩, q3⟩
          · exact .inl h
          · rcases List.mem_cons.mp hj with rfl | hj
            · rw [e1] at q1; cases q1; cases q2
            · exact .inr ⟨j, hj, ⟨sv, q1, q2⟩, q3⟩
      rw [eq] at ok2 st2
      exact ⟨ok2, st2⟩
    · cases e
/-- a frozen name is data from then on -/
theorem freezeSl_dat {ρ2 : Env'} : ∀ {sh : List Nat} {ρ : Env'}, freezeSl ρ sh = some ρ2 → (∀ i ∈ sh, ∃ d, ρ2[i]? = some (some (.dat d))) ∧ ∀ (i : Nat) (d : D), ρ[i]? = some (some (.dat d)) → ρ2[i]? = some (some (.dat d))
  | [], ρ, e => by cases e; exact ⟨fun _ h => (nomatch h), fun _ _ h => h⟩
  | i :: is, ρ, e => by
    unfold freezeSl at e
    split at e
    · rename_i d e1
      obtain ⟨h1, h2⟩ := freezeSl_dat e
      have hi : (ρ.set i (some (.dat d)))[i]? = some (some (.dat d)) := by rw [List.getElem?_set_self (get_lt e1)]
      refine ⟨fun j hj => ?_, fun j d' hj => ?_⟩
      · rcases List.mem_cons.mp hj with rfl | hj
        · exact ⟨d, h2 _ _ hi⟩
        · exact h1 j hj
      · refine h2 j d' ?_
        rw [List.getElem?_set_ne ?_]
        · exact hj
        · intro z; subst z; rw [e1] at hj; cases hj
    · rename_i d e1
      obtain ⟨h1, h2⟩ := freezeSl_dat e
      refine ⟨fun j hj => ?_, h2⟩
      rcases List.mem_cons.mp hj with rfl | hj
      · exact ⟨d, h2 _ _ e1⟩
      · exact h1 j hj
    · cases e
/-- other names stand -/
theorem freezeSl_other {ρ2 : Env'} : ∀ {sh : List Nat} {ρ : Env'} {i : Nat}, freezeSl ρ sh = some ρ2 → i ∉ sh → ρ2[i]? = ρ[i]?
  | [], ρ, i, e, _ => by cases e; rfl
  | k :: is, ρ, i, e, h => by
    have h1 : i ≠ k := fun z => h (z ▸ List.mem_cons_self)
    have h2 : i ∉ is := fun z => h (List.mem_cons_of_mem _ z)
    unfold freezeSl at e
    split at e
    · rw [freezeSl_other e h2, List.getElem?_set_ne (Ne.symm h1)]
    · exact freezeSl_other e h2
    · cases e

/-- the arguments that are read, as data, with the shared names frozen -/
theorem args_read (ok : EnvOk K fa H F σ ρ) : ∀ {xs : List V} {ps : List PV} {ds : List D} {G : AP'}, PVs K fa H F σ xs ps → conts ρ ps = some ds → (∀ a, F a → G a) → (∀ a, ShA σ ρ (sharedSl ρ ps) a → G a) → RepSs K fa H G xs (ds.map .dat)
  | _, _, _, _, .nil, e, _, _ => by cases e; exact .nil
  | x :: xs, p :: ps, _, G, .cons h r, e, hF, hS => by
    have st : Stays H F H G := ⟨fun _ _ h => h, fun _ _ _ h => h, hF, fun _ _ _ h => h⟩
    unfold conts at e
    split at e
    · rename_i d ds e1 e2
      cases e
      have tail : RepSs K fa H G xs (ds.map .dat) := args_read ok r e2 hF fun a ⟨i, hi, q⟩ => hS a ⟨i, by
        cases p with
        | dd d' => exact hi
        | sl j =>
          unfold sharedSl
          split
          · exact hi
          · exact List.mem_cons_of_mem _ hi, q⟩
      refine .cons ?_ tail
      cases p with
      | dd d' => cases e1; exact Rep.stays st h
      | sl i =>
        unfold cont at e1
        dsimp only at e1
        split at e1
        · rename_i sv hsv
          cases e1
          obtain ⟨v, q1, q2⟩ := ok.slot i sv hsv
          rw [show σ[i]? = some (some x) from h] at q1
          cases q1
          have own : ∀ d', sv.mine = true → (∃ a, x = .ref a ∧ ¬ F a ∧ OwnAt K fa H F a d') → Rep K fa H G x d' := fun d' m ⟨a, ea, nf, ow⟩ => by
            subst ea
            have ga : G a := hS a ⟨i, by
              unfold sharedSl
              split
              · rename_i d2 hd2; rw [hsv] at hd2; cases hd2; cases m
              · exact List.mem_cons_self, ⟨sv, hsv, m⟩, h⟩
            cases ow with
            | lst q r => exact .lst ga (.inl q) (r.stays st)
            | dK q r => exact .dK ga (.inl q) r.1 (r.2.stays st)
            | dT q r => exact .dT ga (.inl q) r.1 (r.2.stays st)
          cases sv with
          | dat d' => exact Rep.stays st q2
          | own d' => exact own d' rfl q2
          | bor d' => exact own d' rfl q2
        · cases e1
    · cases e
theorem flat_rep {v : V} {sv : SV} (h : RepS K fa H F v sv) (f : sv.d.flat = true) : ∀ H' F', Rep K fa H' F' v sv.d := by
  intro H' F'
  cases sv with
  | dat d =>
    cases (show Rep K fa H F v d from h) <;> first | exact .non | exact .bl _ | exact .int _ | exact .str _ | cases f
  | own d => obtain ⟨a, _, _, ow⟩ := h; cases ow <;> cases f
  | bor d => obtain ⟨a, _, _, ow⟩ := h; cases ow <;> cases f
/-- behind a call that had a thing of ours on loan -/
theorem EnvOk.lent {i : Nat} {sv sw : SV} {a : Addr} {d : D} {O : AP'} (ok : EnvOk K fa H F σ ρ) (e : ρ[i]? = some (some sv)) (m : sv.mine = true) (es : σ[i]? = some (some (.ref a)))
    (hs : (sv.lent = false ∧ sw = .own d) ∨ (sv.lent = true ∧ sw = .bor d)) (hO : ∀ b, O b → b = a) (st : Step H F O O H' F' O O) (fd : ∀ b, F' b → H' b ≠ none) (nf : ¬ F' a) (hw : OwnAt K fa H' F' a d) :
    EnvOk K fa H' F' σ (ρ.set i (some sw)) ∧ StepE H F σ ρ H' F' σ (ρ.set i (some sw)) ∧ ∀ b, Own σ (ρ.set i (some sw)) b → Own σ ρ b := by
  have oa : Own σ ρ a := ⟨i, sv, e, m, es⟩
  have hi := get_lt e
  have mw : sw.mine = true := by rcases hs with ⟨_, rfl⟩ | ⟨_, rfl⟩ <;> rfl
  have lw : sw.lent = sv.lent := by rcases hs with ⟨h, rfl⟩ | ⟨h, rfl⟩ <;> rw [h] <;> rfl
  have own' : ∀ b, Own σ (ρ.set i (some sw)) b → Own σ ρ b := fun b ⟨j, sz, h1, h2, h3⟩ => by
    rcases set_get h1 with ⟨rfl, g⟩ | ⟨ne, g⟩
    · exact ⟨i, sv, e, m, h3⟩
    · exact ⟨j, sz, g, h2, h3⟩
  have fnew : ∀ b, F' b → F b ∨ H b = none := fun b h => by
    rcases st.fnew b h with h | h | ⟨h, n⟩
    · exact .inl h
    · exact .inr h
    · exact absurd h n
  have sta : Stays H F H' F' := by
    refine ⟨fun b xs h => ?_, fun b u f h => ?_, st.fmono, fun b o u h => (st.keep _ _ h fun z => (fun ne : b ≠ a => ne (hO b z)) (by
      intro z; subst z
      obtain ⟨o0, ho0, _, nt⟩ := ok.own_at oa
      rw [ho0] at h; exact nt _ _ (Option.some.inj h))).resolve_right fun z => z.2.1⟩
    · have ne : b ≠ a := by
        intro z; subst z
        obtain ⟨o0, ho0, nt, _⟩ := ok.own_at oa
        rw [ho0] at h; exact nt _ (Option.some.inj h)
      exact (st.keep _ _ h fun z => ne (hO b z)).resolve_right fun z => z.2.1
    · have ne : b ≠ a := by intro z; subst z; exact ok.own_nf oa f
      rcases h with h | ⟨o, h⟩
      · exact (st.keep _ _ h fun z => ne (hO b z)).elim .inl fun z => .inr z.2.2
      · exact .inr ⟨o, (st.keep _ _ h fun z => ne (hO b z)).resolve_right fun z => z.2.1⟩
  refine ⟨⟨by rw [List.length_set]; exact ok.len, fun j sz h => ?_, fun j k sz sy b h1 h2 m1 m2 s1 s2 => ?_, fd⟩, ⟨fun b u h no => ?_, st.fmono, fun b h => ?_, fun b h => .inl (own' b h), fun b => ?_, st.dom⟩, own'⟩
  · rcases set_get h with ⟨rfl, g⟩ | ⟨ne, g⟩
    · cases g
      refine ⟨_, es, ?_⟩
      rcases hs with ⟨_, rfl⟩ | ⟨_, rfl⟩ <;> exact ⟨a, rfl, nf, hw⟩
    · obtain ⟨w, q1, q2⟩ := ok.slot j sz g
      refine ⟨w, q1, ?_⟩
      have far : ∀ c d', w = .ref c → sz.mine = true → ¬ F c → OwnAt K fa H F c d' → ¬ F' c ∧ OwnAt K fa H' F' c d' := fun c d' ew mz nc q => by
        have nca : c ≠ a := by
          intro z; subst z ew
          exact ne (ok.apart i j _ _ c e g m mz es q1)
        obtain ⟨o, ho, _⟩ := q.some
        refine ⟨fun z => ?_, q.stays (((st.keep c o ho fun z => nca (hO c z)).resolve_right fun z => nc z.1).trans ho.symm) sta⟩
        rcases fnew c z with z | z
        · exact nc z
        · rw [ho] at z; cases z
      cases sz with
      | dat d' => exact Rep.stays sta q2
      | own d' => obtain ⟨c, ew, nc, q⟩ := q2; exact ⟨c, ew, far c d' ew rfl nc q⟩
      | bor d' => obtain ⟨c, ew, nc, q⟩ := q2; exact ⟨c, ew, far c d' ew rfl nc q⟩
  · have low : ∀ (j : Nat) (sz : SV), (ρ.set i (some sw))[j]? = some (some sz) → sz.mine = true → ∃ sz' : SV, ρ[j]? = some (some sz') ∧ sz'.mine = true := fun j sz h mz => by
      rcases set_get h with ⟨rfl, g⟩ | ⟨ne, g⟩
      · exact ⟨sv, e, m⟩
      · exact ⟨sz, g, mz⟩
    obtain ⟨z1, g1, n1⟩ := low j sz h1 m1
    obtain ⟨z2, g2, n2⟩ := low k sy h2 m2
    exact ok.apart j k z1 z2 b g1 g2 n1 n2 s1 s2
  · exact st.keep b u h fun z => by rw [hO b z] at no; exact no oa
  · exact (fnew b h).elim .inl fun z => .inr (.inl z)
  · constructor
    · rintro ⟨j, sz, h1, h2, h3⟩
      rcases set_get h1 with ⟨rfl, g⟩ | ⟨ne, g⟩
      · cases g
        exact ⟨i, sv, e, by rw [← lw]; exact h2, h3⟩
      · exact ⟨j, sz, g, h2, h3⟩
    · rintro ⟨j, sz, h1, h2, h3⟩
      by_cases ne : i = j
      · subst ne
        rw [e] at h1; cases h1
        exact ⟨i, sw, by rw [List.getElem?_set_self hi], by rw [lw]; exact h2, h3⟩
      · exact ⟨j, sz, by rw [List.getElem?_set_ne ne]; exact h1, h2, h3⟩
theorem datArgs : ∀ ds : List D, ArgsOk (ds.map SV.dat) ∧ (∀ vs a, ¬ lentA vs (ds.map SV.dat) a)
  | [] => ⟨trivial, (fun vs a h => by cases vs <;> exact h)⟩
  | d :: ds => ⟨⟨(fun _ z => nomatch z), (fun t ht => by obtain ⟨e, _, rfl⟩ := List.mem_map.mp ht; exact ⟨e, rfl⟩)⟩, (fun vs a h => by cases vs <;> exact h)⟩
theorem back_dat {vs : List V} {ds : List D} {b : Option D} (h : b = none) : Back K fa vs (ds.map SV.dat) b H F := by
  subst h
  cases ds <;> cases vs <;> trivial
end
end DL

namespace DL
open PySem PySem.Spec PyProof.Rows L2

section
variable {K : PySem.W.Frag} {Z : Fix} {H : Hp} {F : AP'} {σ : L2.St} {ρ : Env'} {cf : Cf} {j : Nat}
theorem shA_fd {sh : List Nat} (ok : EnvOk K Z.fa H F σ ρ) : ∀ a, (F a ∨ ShA σ ρ sh a) → H a ≠ none := fun a h => h.elim (ok.fd a) fun h => by
  obtain ⟨o, ho, _⟩ := ok.own_at (shA_own h)
  rw [ho]; exact fun z => nomatch z
theorem lentOf_ok {ps rest : List PV} {i : Nat} {d : D} (h : lentOf ρ ps = some (i, d, rest)) : ps = .sl i :: rest ∧ ∃ sv : SV, ρ[i]? = some (some sv) ∧ sv.mine = true ∧ sv.d = d := by
  unfold lentOf at h
  split at h
  · split at h
    · rename_i e; cases h; exact ⟨rfl, _, e, rfl, rfl⟩
    · rename_i e; cases h; exact ⟨rfl, _, e, rfl, rfl⟩
    · cases h
  · cases h
theorem putBack_ok {ρ2 : Env'} {i : Nat} {d : D} (h : putBack ρ i d = some ρ2) : ∃ sv sw : SV, ρ[i]? = some (some sv) ∧ sv.mine = true ∧ ρ2 = ρ.set i (some sw) ∧ ((sv.lent = false ∧ sw = .own d) ∨ (sv.lent = true ∧ sw = .bor d)) := by
  unfold putBack at h
  split at h
  · rename_i e; cases h; exact ⟨_, _, e, rfl, rfl, .inl ⟨rfl, rfl⟩⟩
  · rename_i e; cases h; exact ⟨_, _, e, rfl, rfl, .inr ⟨rfl, rfl⟩⟩
  · cases h
theorem RepS.mineAt {v : V} {sv : SV} (h : RepS K Z.fa H F v sv) (m : sv.mine = true) : ∃ a, v = .ref a ∧ ¬ F a ∧ OwnAt K Z.fa H F a sv.d := by
  cases sv with
  | dat _ => cases m
  | own d => exact h
  | bor d => exact h
theorem shLst_ok {sh : List Nat} {a : Addr} {o : HO} (ok : EnvOk K Z.fa H F σ ρ) (h : shLst ρ sh = true) (s : ShA σ ρ sh a) (e : H a = some o) : ¬ dicO o := by
  obtain ⟨i, hi, ⟨sv, h1, m⟩, h2⟩ := s
  have h3 : ∃ ds, sv.d = .lst ds := by
    clear h2 m
    induction sh with
    | nil => cases hi
    | cons j js ih =>
      unfold shLst at h
      rcases List.mem_cons.mp hi with rfl | hi
      · rw [h1] at h
        split at h
        · rename_i z; cases z; exact ⟨_, rfl⟩
        · rename_i z; cases z; exact ⟨_, rfl⟩
        · cases h
      · split at h
        · exact ih h hi
        · exact ih h hi
        · cases h
  obtain ⟨ds, ed⟩ := h3
  obtain ⟨w, q1, q2⟩ := ok.slot i sv h1
  rw [h2] at q1; cases q1
  obtain ⟨b, eb, _, ow⟩ := RepS.mineAt q2 m
  cases eb
  rw [ed] at ow
  cases ow with
  | lst z _ => rw [e] at z; cases z; exact id
theorem grow_of {G F' : AP'} {H' : Hp} {vs : List V} {ds : List D} (st : Step H G (lentA vs (ds.map .dat)) (lentA vs (ds.map .dat)) H' F' (lentA vs (ds.map .dat)) (lentA vs (ds.map .dat))) (fd : ∀ a, F' a → H' a ≠ none) : Grow H G H' F' :=
  ⟨fun a o h => st.keep a o h ((datArgs ds).2 vs a), st.fmono, fun a h => by
    rcases st.fnew a h with h | h | h
    · exact .inl h
    · exact .inr h
    · exact absurd h.1 ((datArgs ds).2 vs a), fd⟩
theorem call_sp {vs : List V} {ps : List PV} {Q : VK} (r : PVs K Z.fa H F σ vs ps) (ok : EnvOk K Z.fa H F σ ρ) (h : PostG K Z (RSV K Z) σ H F ρ (callR cf j ps ρ) Q) : spF K Z.fa Z.EX (cf.run j) vs H Q (WE Z.W σ) := by
  unfold callR at h
  split at h
  · split at h
    · exact h.elim
    · rename_i i d rest e1
      obtain ⟨rfl, sv0, e2, m0, rfl⟩ := lentOf_ok e1
      cases r with
      | cons r0 rr =>
        rename_i v0 vs0
        have r0' : σ[i]? = some (some v0) := r0
        obtain ⟨w, q1, q2⟩ := ok.slot i sv0 e2
        rw [r0'] at q1; cases q1
        obtain ⟨a, rfl, nf, ow⟩ := q2.mineAt m0
        split at h
        · rename_i ds ρ1 e3 e4
          obtain ⟨ok1, st1⟩ := freezeSl_ok ok e4
          have sta : Stays H F H (fun b => F b ∨ ShA σ ρ (sharedSl ρ rest) b) := ⟨fun _ _ h => h, fun _ _ _ h => h, fun _ h => .inl h, fun _ _ _ h => h⟩
          have rest' := args_read ok rr e3 (G := fun b => F b ∨ ShA σ ρ (sharedSl ρ rest) b) (fun _ h => .inl h) (fun _ h => .inr h)
          have key : ∀ {d' : D} {ρ2 : Env'}, putBack ρ1 i d' = some ρ2 → ¬ (F a ∨ ShA σ ρ (sharedSl ρ rest) a) ∧ ∀ {H' : Hp} {F' : AP'}, Step H (fun b => F b ∨ ShA σ ρ (sharedSl ρ rest) b) (fun b => V.ref a = .ref b) (fun b => V.ref a = .ref b) H' F' (fun b => V.ref a = .ref b) (fun b => V.ref a = .ref b) → (∀ b, F' b → H' b ≠ none) → ¬ F' a → OwnAt K Z.fa H' F' a d' →
              EnvOk K Z.fa H' F' σ ρ2 ∧ StepE H F σ ρ H' F' σ ρ2 ∧ ∀ b, Own σ ρ2 b → H b ≠ none := by
            intro d' ρ2 e5
            obtain ⟨sv, sw, f1, f2, rfl, f4⟩ := putBack_ok e5
            refine ⟨ok1.own_nf ⟨i, sv, f1, f2, r0'⟩, fun st fd nf' hw => ?_⟩
            obtain ⟨g1, g2, g3⟩ := ok1.lent f1 f2 r0' f4 (O := fun b => V.ref a = .ref b) (fun b z => by cases z; rfl) st fd nf' hw
            refine ⟨g1, st1.trans g2, fun b hb => ?_⟩
            obtain ⟨o, ho, _⟩ := ok1.own_at (g3 b hb)
            rw [ho]; exact fun z => nomatch z
          have fd1 := ok1.fd
          split at h
          · rename_i sv d' hr
            split at h
            · rename_i ρ2 e5
              obtain ⟨nG, fin⟩ := key e5
              refine ⟨_, .bor sv0.d :: ds.map .dat, fd1, .cons ⟨a, rfl, nG, ow.stays rfl sta⟩ rest', ⟨(fun _ z => nomatch z), (fun t ht => by obtain ⟨e, _, rfl⟩ := List.mem_map.mp ht; exact ⟨e, rfl⟩)⟩, ?_⟩
              rw [hr]
              intro v H' F' st fd rep mine back
              obtain ⟨b, eb, nb, owb⟩ := back
              cases eb
              obtain ⟨g1, g2, g3⟩ := fin st fd nb owb
              refine h v H' F' g2 g1 ⟨rep, ?_⟩
              cases sv with
              | dat _ => trivial
              | own dd =>
                obtain ⟨d2, a2, e6, e7, e8⟩ := mine rfl
                exact ⟨a2, e7, e8, fun z => g3 a2 z e8⟩
              | bor dd =>
                obtain ⟨d2, a2, e6, e7, e8⟩ := mine rfl
                cases e6
            · exact h.elim
          · rename_i x d' hr
            split at h
            · rename_i ρ2 e5
              obtain ⟨nG, fin⟩ := key e5
              refine ⟨_, .bor sv0.d :: ds.map .dat, fd1, .cons ⟨a, rfl, nG, ow.stays rfl sta⟩ rest', ⟨(fun _ z => nomatch z), (fun t ht => by obtain ⟨e, _, rfl⟩ := List.mem_map.mp ht; exact ⟨e, rfl⟩)⟩, ?_⟩
              rw [hr]
              intro cls dd H' F' st fd back hx
              obtain ⟨b, eb, nb, owb⟩ := back
              cases eb
              obtain ⟨g1, g2, g3⟩ := fin st fd nb owb
              exact h cls dd H' F' g2 g1 hx
            · exact h.elim
          · exact h.elim
        · exact h.elim
  · split at h
    · exact h.elim
    · rename_i ds e3
      have rest' := args_read ok r e3 (G := fun b => F b ∨ ShA σ ρ (sharedSl ρ ps) b) (fun _ h => .inl h) (fun _ h => .inr h)
      have fd1 := shA_fd (sh := sharedSl ρ ps) ok
      split at h
      · rename_i sv hr
        refine ⟨_, ds.map .dat, fd1, rest', (datArgs ds).1, ?_⟩
        rw [hr]
        intro v H' F' st fd rep mine back
        have gr := grow_of st fd
        split at h
        · rename_i fl
          have g2 : Grow H F H' F := ⟨fun b o e => (gr.keep b o e).elim .inl fun z => (z.1.elim (fun f => .inr ⟨f, z.2⟩) fun sh => absurd z.2.1 (shLst_ok ok (Bool.and_eq_true_iff.mp fl).2 sh e)), fun _ h => h, fun _ h => .inl h, fun b hb hn => ok.fd b hb (gr.dom b hn)⟩
          exact h v H' F g2.step (ok.grow g2) ⟨flat_rep rep (Bool.and_eq_true_iff.mp fl).1 H' F, trivial⟩
        · split at h
          · rename_i ρ2 e4
            obtain ⟨ok1, st1⟩ := freezeSl_ok ok e4
            refine h v H' F' (st1.trans gr.step) (ok1.grow gr) ⟨rep, ?_⟩
            cases sv with
            | dat _ => trivial
            | own dd =>
              obtain ⟨d2, a2, e6, e7, e8⟩ := mine rfl
              refine ⟨a2, e7, e8, fun z => ?_⟩
              obtain ⟨o, ho, _⟩ := ok1.own_at z
              rw [e8] at ho; cases ho
            | bor dd =>
              obtain ⟨d2, a2, e6, e7, e8⟩ := mine rfl
              cases e6
          · exact h.elim
      · rename_i x hr
        refine ⟨_, ds.map .dat, fd1, rest', (datArgs ds).1, ?_⟩
        rw [hr]
        intro cls dd H' F' st fd back hx
        have gr := grow_of st fd
        split at h
        · rename_i ρ2 e4
          obtain ⟨ok1, st1⟩ := freezeSl_ok ok e4
          exact h cls dd H' F' (st1.trans gr.step) (ok1.grow gr) hx
        · exact h.elim
      · exact h.elim
end
section
variable {X : Cx} {Z : Fix} {e : Expr} {es : List Expr} {pos p : Pos} {cf : Cf} {j k : Nat} {f : Addr} {fd : FuncData} {ps : List Str} {x : Str} {g : Env' → Res (List PV)}
theorem pd_call (F : FnOk X.prog X.w X.K X.mg X.base (CX X.prog X.w) k f fd ps (spF X.K Z.fa Z.EX (cf.run j))) (tk : Takes X Z.W) (hr : Room k X.A) (hg : Gl X x) (hm : X.mg x = some (.ref f)) (hk : PySem.W.keepIn X.K (.ref f) = true) (hb : Binds X.K fd ps [])
    (ha : PAd X Z (e :: es) g) (hdb : (x == ("__debug__" : Str)) = false) (he : starEach (e :: es) X.env = (false, eval e X.env) :: starEach es X.env) (hpl : (backTo pos (starEach es X.env)).any (·.1) = false) :
    PEd X Z (.Call (.Name x p) (e :: es) [] pos) (fun ρ => (g ρ).bind fun ps ρ1 => callR cf j ps ρ1) := by
  refine PE.weak (pe_callSD (dvs := []) (E := WE Z.W) F hr hg hm hk hb .nil (fun σ => passAt tk σ) ha hdb he hpl) ?_
  rintro σ H Q ⟨F, ρ, ok, h⟩
  refine ⟨F, ρ, ok, (PostG.bind late_RSV h).imp ?_⟩
  rintro vs H1 ⟨pv, F1, ρ1, ok1, st1, r1, h1⟩
  rw [List.append_nil]
  exact call_sp r1 ok1 h1
theorem pd_call0 (F : FnOk X.prog X.w X.K X.mg X.base (CX X.prog X.w) k f fd ps (spF X.K Z.fa Z.EX (cf.run j))) (tk : Takes X Z.W) (hr : Room k X.A) (hg : Gl X x) (hm : X.mg x = some (.ref f)) (hk : PySem.W.keepIn X.K (.ref f) = true) (hb : Binds X.K fd ps [])
    (hdb : (x == ("__debug__" : Str)) = false) :
    PEd X Z (.Call (.Name x p) [] [] pos) (fun ρ => callR cf j [] ρ) := by
  refine ⟨fun pins s σ H Q I h => ?_⟩
  obtain ⟨F', ρ, ok, h⟩ := h
  refine wpAny_Call_Name_kw (ld_glob I hg hm ?_ hdb)
  refine PySem.W.callWith_K0 I.kIn hk (run_fnSD (us := []) (dvs := []) (E := WE Z.W) F hr hb .nil (passAt tk σ) I .nil ?_)
  exact call_sp (ps := []) .nil ok h
/-- a name that holds a def -/
theorem pd_callv {i : Nat} (hN : X.N[i]? = some x) (hv : Vis X.env.scope x) (hcd : (x == ("__classdict__" : Str)) = false) (tk : Takes X Z.W)
    (hfv : ∀ j f, Z.fa j = some f → ∃ k fd ps, FnOk X.prog X.w X.K X.mg X.base (CX X.prog X.w) k f fd ps (spF X.K Z.fa Z.EX (cf.run j)) ∧ Room k X.A ∧ PySem.W.keepIn X.K (.ref f) = true ∧ Binds X.K fd ps [])
    (ha : PAd X Z (e :: es) g) (hdb : (x == ("__debug__" : Str)) = false) (he : starEach (e :: es) X.env = (false, eval e X.env) :: starEach es X.env) (hpl : (backTo pos (starEach es X.env)).any (·.1) = false) :
    PEd X Z (.Call (.Name x p) (e :: es) [] pos) (fun ρ => (match ρ[i]? with
      | some (some (.dat (.fn j))) => (g ρ).bind fun ps ρ1 => callR cf j ps ρ1
      | _ => .stuck)) := by
  refine ⟨fun pins s σ H Q I h => ?_⟩
  obtain ⟨F', ρ, ok, h⟩ := h
  dsimp only at h
  split at h
  · rename_i j e1
    obtain ⟨v, q1, q2⟩ := ok.slot i _ e1
    cases (show Rep X.K Z.fa H F' v (.fn j) from q2) with
    | fn ej =>
      rename_i f
      obtain ⟨k, fd, ps, F, hr, hk, hb⟩ := hfv j f ej
      refine wpAny_Call_Name_kw (thn ((pe_var (pos := p) hN hv hdb hcd).run pins s σ H (fun v H1 => v = .ref f ∧ H1 = H) I ⟨.ref f, q1, rfl, rfl⟩) fun u s1 ⟨v, H1, I1, r1, e⟩ => ?_)
      obtain ⟨rfl, rfl⟩ := e
      cases r1
      refine PySem.W.callWith_K (h₀ := X.base) I.ok.mod.kin hk (thn (ha.run pos pins s1 σ H1 (fun vs H2 => spF X.K Z.fa Z.EX (cf.run j) vs H2 Q (WE Z.W σ)) I1 ⟨F', ρ, ok, (PostG.bind late_RSV h).imp ?_⟩) fun us s2 ⟨vs, H2, I2, r, q⟩ => ⟨I2.kIn, ?_⟩) he hpl
      · rintro vs H2 ⟨pv, F1, ρ1, ok1, st1, r1, h1⟩
        exact call_sp r1 ok1 h1
      · exact run_fnSD (dvs := []) (ds := []) (E := WE Z.W) F hr hb .nil (passAt tk σ) I2 r (by rw [List.append_nil]; exact q)
  · exact h.elim
end
end DL

namespace DL
open PySem PySem.Spec PyProof.Rows L2

theorem Stays.refl {H : Hp} {F : AP'} : Stays H F H F := ⟨fun _ _ h => h, fun _ _ _ h => h, fun _ h => h, fun _ _ _ h => h⟩
theorem Stays.trans {H H1 H2 : Hp} {F F1 F2 : AP'} (a : Stays H F H1 F1) (b : Stays H1 F1 H2 F2) : Stays H F H2 F2 :=
  ⟨fun x u h => b.tup x u (a.tup x u h), fun x u f h => b.rd x u (a.fr x f) (a.rd x u f h), fun x h => b.fr x (a.fr x h), fun x o u h => b.fz x o u (a.fz x o u h)⟩

/-! ### what is walked -/
structure WalkD (K : PySem.W.Frag) (fa : Nat → Option Addr) (J : L2.It) (items : List D) (H0 : Hp) (F0 : AP') : Prop where
  goes : ∀ i H F, Stays H0 F0 H F → i < items.length → J.go i H
  stops : ∀ i H F, Stays H0 F0 H F → items.length ≤ i → J.stop i H
  yields : ∀ i H F x H', Stays H0 F0 H F → (∀ a, F a → H a ≠ none) → i < items.length → J.yld i H x H' → ∃ d, items[i]? = some d ∧ Made K fa H F (.dat d) x H'
def RW (K : PySem.W.Frag) (Z : Fix) : Hp → List D → L2.It → Hp → AP' → L2.St → Env' → Prop := fun _ ds J H F _ _ => WalkD K Z.fa J ds H F
theorem late_RW {K : PySem.W.Frag} {Z : Fix} : Late (RW K Z) := fun _ _ _ _ _ _ _ _ _ h => h
abbrev PId (X : Cx) (Z : Fix) (tg e : Expr) (f : Env' → Res (List D)) : Prop := PI X tg e (tD X Z (RW X.K Z) f)
section
variable {K : PySem.W.Frag} {fa : Nat → Option Addr} {H : Hp} {F : AP'}
theorem get_of {α : Type} {l : List α} {i : Nat} (h : i < l.length) : l[i]? = some l[i] := List.getElem?_eq_getElem h
theorem walkD_lst {a : Addr} {xs : List V} {ds : List D} (f : F a) (h : Rd H a (.lst xs)) (r : RepL K fa H F xs ds) : WalkD K fa (Itl K a) ds H F where
  goes := fun i H' F' s hi => ⟨xs, xs[i]'(by rw [r.length]; exact hi), .inl (s.rd _ _ f h), get_of _⟩
  stops := fun i H' F' s hi => ⟨xs, .inl (s.rd _ _ f h), by rw [r.length]; exact hi⟩
  yields := fun i H' F' x H2 s fd hi y => by
    obtain ⟨rfl, y⟩ := y
    obtain ⟨d, h1, h2⟩ := (RepL.stays s r).get' (y xs (.inl (s.rd _ _ f h)))
    exact ⟨d, h1, made_dat fd h2⟩
theorem walkD_tup {a : Addr} {xs : List V} {ds : List D} (h : ∀ H' F', Stays H F H' F' → SqT K H' a xs) (r : RepL K fa H F xs ds) : WalkD K fa (Itt K a) ds H F where
  goes := fun i H' F' s hi => ⟨xs, xs[i]'(by rw [r.length]; exact hi), h _ _ s, get_of _⟩
  stops := fun i H' F' s hi => ⟨xs, h _ _ s, by rw [r.length]; exact hi⟩
  yields := fun i H' F' x H2 s fd hi y => by
    obtain ⟨rfl, y⟩ := y
    obtain ⟨d, h1, h2⟩ := (RepL.stays s r).get' (y xs (h _ _ s))
    exact ⟨d, h1, made_dat fd h2⟩
theorem rangeD_get {lo : Int} {n i : Nat} (h : i < n) : (rangeD lo n)[i]? = some (.int (lo + (i : Nat))) := by
  unfold rangeD
  rw [List.getElem?_map, List.getElem?_range h]; rfl
theorem rangeD_len {lo : Int} {n : Nat} : (rangeD lo n).length = n := by unfold rangeD; simp
theorem walkD_rng {lo : Int} {n : Nat} : WalkD K fa (Itr lo n) (rangeD lo n) H F where
  goes := fun i H' F' s hi => by rw [rangeD_len] at hi; exact hi
  stops := fun i H' F' s hi => by rw [rangeD_len] at hi; exact hi
  yields := fun i H' F' x H2 s fd hi y => by
    obtain ⟨rfl, rfl⟩ := y
    rw [rangeD_len] at hi
    exact ⟨_, rangeD_get hi, made_dat fd (.int _)⟩
theorem enumD_get : ∀ {ds : List D} {n i : Nat} {d : D}, ds[i]? = some d → (enumD n ds)[i]? = some (.tup [.int ((n + i : Nat)), d])
  | [], _, _, _, h => by simp at h
  | a :: as, n, 0, d, h => by simp at h; subst h; rfl
  | a :: as, n, i + 1, d, h => by
    have := enumD_get (ds := as) (n := n + 1) (i := i) (by simpa using h)
    rw [enumD, List.getElem?_cons_succ, this, show n + 1 + i = n + (i + 1) by omega]
theorem enumD_len : ∀ {ds : List D} {n : Nat}, (enumD n ds).length = ds.length
  | [], _ => rfl
  | a :: as, n => by rw [enumD, List.length_cons, List.length_cons, enumD_len]
theorem made_pair {T : Addr} {x y : V} {d e : D} (fd : ∀ a, F a → H a ≠ none) (hT : H T = none) (h1 : Rep K fa H F x d) (h2 : Rep K fa H F y e) : Made K fa H F (.dat (.tup [d, e])) (.ref T) (upd H T (.tup [x, y])) :=
  made_tup fd hT (.cons h1 (.cons h2 .nil))
theorem walkD_enum {a : Addr} {xs : List V} {ds : List D} (f : F a) (h : Rd H a (.lst xs)) (r : RepL K fa H F xs ds) : WalkD K fa (Ite K a) (enumD 0 ds) H F where
  goes := fun i H' F' s hi => ⟨xs, xs[i]'(by rw [r.length]; rw [enumD_len] at hi; exact hi), .inl (s.rd _ _ f h), get_of _⟩
  stops := fun i H' F' s hi => ⟨xs, .inl (s.rd _ _ f h), by rw [r.length]; rw [enumD_len] at hi; exact hi⟩
  yields := fun i H' F' x H2 s fd hi y => by
    obtain ⟨T, v, rfl, hT, rfl, y⟩ := y
    obtain ⟨d, h1, h2⟩ := (RepL.stays s r).get' (y xs (.inl (s.rd _ _ f h)))
    refine ⟨.tup [.int ((i : Nat)), d], by have := enumD_get (n := 0) h1; rwa [Nat.zero_add] at this, made_pair fd hT (.int _) h2⟩
theorem zipD_get : ∀ {ds es : List D} {i : Nat} {d e : D}, ds[i]? = some d → es[i]? = some e → (zipD ds es)[i]? = some (.tup [d, e])
  | [], _, _, _, _, h, _ => by simp at h
  | _ :: _, [], _, _, _, _, h => by simp at h
  | a :: as, b :: bs, 0, d, e, h, g => by simp at h g; subst h g; rfl
  | a :: as, b :: bs, i + 1, d, e, h, g => by
    rw [zipD, List.getElem?_cons_succ]
    exact zipD_get (by simpa using h) (by simpa using g)
theorem zipD_len : ∀ {ds es : List D}, (zipD ds es).length = min ds.length es.length
  | [], _ => by simp [zipD]
  | _ :: _, [] => by simp [zipD]
  | a :: as, b :: bs => by rw [zipD, List.length_cons, zipD_len, List.length_cons, List.length_cons]; omega
theorem walkD_zip {a b : Addr} {xs ys : List V} {ds es : List D} (h : ∀ H' F', Stays H F H' F' → SqL K H' a xs) (g : ∀ H' F', Stays H F H' F' → SqL K H' b ys) (r : RepL K fa H F xs ds) (q : RepL K fa H F ys es) : WalkD K fa (Itz K a b) (zipD ds es) H F where
  goes := fun i H' F' s hi => by
    rw [zipD_len, ← r.length, ← q.length] at hi
    exact ⟨xs, ys, xs[i]'(by omega), ys[i]'(by omega), h _ _ s, g _ _ s, get_of _, get_of _⟩
  stops := fun i H' F' s hi => ⟨xs, ys, h _ _ s, g _ _ s, by rw [zipD_len, ← r.length, ← q.length] at hi; omega⟩
  yields := fun i H' F' x H2 s fd hi y => by
    obtain ⟨T, v, w, rfl, hT, rfl, y, z⟩ := y
    obtain ⟨d, h1, h2⟩ := (RepL.stays s r).get' (y xs (h _ _ s))
    obtain ⟨e, g1, g2⟩ := (RepL.stays s q).get' (z ys (g _ _ s))
    exact ⟨_, zipD_get h1 g1, made_pair fd hT h2 g2⟩
theorem walkD_zipT {a b : Addr} {xs ys : List V} {ds es : List D} (h : ∀ H' F', Stays H F H' F' → SqT K H' a xs) (g : ∀ H' F', Stays H F H' F' → SqT K H' b ys) (r : RepL K fa H F xs ds) (q : RepL K fa H F ys es) : WalkD K fa (RZ.ItzT K a b) (zipD ds es) H F where
  goes := fun i H' F' s hi => by
    rw [zipD_len, ← r.length, ← q.length] at hi
    exact ⟨xs, ys, xs[i]'(by omega), ys[i]'(by omega), h _ _ s, g _ _ s, get_of _, get_of _⟩
  stops := fun i H' F' s hi => ⟨xs, ys, h _ _ s, g _ _ s, by rw [zipD_len, ← r.length, ← q.length] at hi; omega⟩
  yields := fun i H' F' x H2 s fd hi y => by
    obtain ⟨T, v, w, rfl, hT, rfl, y, z⟩ := y
    obtain ⟨d, h1, h2⟩ := (RepL.stays s r).get' (y xs (h _ _ s))
    obtain ⟨e, g1, g2⟩ := (RepL.stays s q).get' (z ys (g _ _ s))
    exact ⟨_, zipD_get h1 g1, made_pair fd hT h2 g2⟩
/-- a frozen tuple's items, whatever comes -/
theorem Rep.tupAt {v : V} {d : D} {ds : List D} (r : Rep K fa H F v d) (e : d = .tup ds ∨ d = .ktup ds) : ∃ a xs, v = .ref a ∧ (∀ H' F', Stays H F H' F' → SqT K H' a xs) ∧ RepL K fa H F xs ds := by
  rcases e with rfl | rfl
  · cases r with
    | tup h q => exact ⟨_, _, rfl, fun H' F' s => .inl (.inl (s.tup _ _ h)), q⟩
  · cases r with
    | ktup h q => exact ⟨_, _, rfl, fun H' F' s => h.sq, q⟩
theorem Rep.lstAt {v : V} {ds : List D} (r : Rep K fa H F v (.lst ds)) : ∃ a xs, v = .ref a ∧ F a ∧ Rd H a (.lst xs) ∧ RepL K fa H F xs ds := by
  cases r with
  | lst f h q => exact ⟨_, _, rfl, f, h, q⟩
end
section
variable {X : Cx} {Z : Fix} {tg a b e : Expr} {pos p : Pos}
theorem PI.weak {wi wi' : TI} (h : PI X tg e wi) (w : ∀ σ H R, wi' σ H R → wi σ H R) : PI X tg e wi' := ⟨fun pins s σ H R I hq => h.run pins s σ H R I (w σ H R hq)⟩
theorem PostG.bindF' {K : PySem.W.Frag} {Z : Fix} {α' β' : Type} {R' : Hp → α' → β' → Hp → AP' → L2.St → Env' → Prop} {σ : L2.St} {H0 : Hp} {F0 : AP'} {ρ0 : Env'} {f : Res SV} {g : SV → Env' → Res α'} {Q : β' → Hp → Prop} (l : Late R') (h : PostG K Z R' σ H0 F0 ρ0 (f.bind g) Q) :
    PostG K Z (RSV K Z) σ H0 F0 ρ0 f (fun v H1 => ∃ sv F1 ρ1, f = .ok sv ρ1 ∧ EnvOk K Z.fa H1 F1 σ ρ1 ∧ StepE H0 F0 σ ρ0 H1 F1 σ ρ1 ∧ Rep K Z.fa H1 F1 v sv.d ∧ PostG K Z R' σ H1 F1 ρ1 (g sv ρ1) Q) := by
  cases f with
  | ok sv ρ' =>
    intro v H' F' s ok r
    obtain ⟨F1, ok1, rep, m1, m2⟩ := ResOk.freeze ok r
    exact ⟨sv, F1, ρ', rfl, ok1, s.more m1 m2, rep, PostG.after l (s.more m1 m2) h⟩
  | exc x ρ' => exact h
  | stuck => exact h
theorem pid_seq {l : Expr} {f : Env' → Res SV} (hl : PEd X Z l f) : PId X Z tg l (fun ρ => (f ρ).bind fun sv ρ1 => lift sv.d.seq? ρ1) := by
  refine ⟨fun pins s σ H R I h => ?_⟩
  obtain ⟨F, ρ, ok, h⟩ := h
  have h2 := PostG.bindF' late_RW h
  have tupC : (∀ sv ρ1, f ρ = .ok sv ρ1 → ∀ ds, sv.d ≠ .lst ds) → wpAny (model X.prog X.w) X.A (eval l X.env) (fun v s1 => wpAny (model X.prog X.w) X.A (pyIter v) (PIE X pins σ tg R) X.xe s1) X.xe s := fun hc => by
    refine (pi_tup hl).run pins s σ H R I ⟨F, ρ, ok, h2.imp ?_⟩
    rintro v H1 ⟨sv, F1, ρ1, e, ok1, st, r, h1⟩
    unfold lift at h1
    split at h1
    · rename_i ds e2
      have : sv.d = .tup ds ∨ sv.d = .ktup ds := by
        have := hc sv ρ1 e
        cases hd : sv.d <;> rw [hd] at e2 <;> first | (cases e2; exact .inl rfl) | (cases e2; exact .inr rfl) | (cases e2; exact absurd hd (this _)) | cases e2
      obtain ⟨a, xs, rfl, sq, rl⟩ := r.tupAt this
      exact ⟨a, rfl, ⟨xs, sq _ _ Stays.refl⟩, h1 _ H1 F1 Step.refl ok1 (walkD_tup sq rl)⟩
    · exact h1.elim
  by_cases hc : ∃ sv ρ1 ds, f ρ = .ok sv ρ1 ∧ sv.d = .lst ds
  · obtain ⟨sv0, ρ10, ds, e0, ed⟩ := hc
    refine (pi_list hl).run pins s σ H R I ⟨F, ρ, ok, h2.imp ?_⟩
    rintro v H1 ⟨sv, F1, ρ1, e, ok1, st, r, h1⟩
    rw [e0] at e
    cases e
    rw [ed] at r h1
    obtain ⟨a, xs, rfl, fa, rd, rl⟩ := r.lstAt
    exact ⟨a, rfl, ⟨xs, .inl rd⟩, h1 _ H1 F1 Step.refl ok1 (walkD_lst fa rd rl)⟩
  · exact tupC fun sv ρ1 e ds ed => hc ⟨sv, ρ1, ds, e, ed⟩
theorem Rep.intAt {K : PySem.W.Frag} {fa : Nat → Option Addr} {H : Hp} {F : AP'} {v : V} {j : Int} (r : Rep K fa H F v (.int j)) : v = .int j := by cases r; rfl
theorem small_iff {j : Int} (h : small62 j = true) : -(2 ^ 62) ≤ j ∧ j < 2 ^ 62 := by
  unfold small62 at h
  simpa using h
theorem pid_rng {f : Env' → Res SV} (hg : Gl X "range") (hm : X.mg "range" = none) (ha : PEd X Z a f) (hs : starEach [a] X.env = (false, eval a X.env) :: starEach [] X.env) : PId X Z tg (.Call (.Name "range" p) [a] [] pos) (fun ρ => (f ρ).bind fun sv ρ1 => (match sv.d with
    | .int j => if small62 j = true then .ok (rangeD 0 j.toNat) ρ1 else .stuck
    | _ => .stuck)) := by
  refine PI.weak (pi_range1 hg hm (pa_cons ha pa_nil hs) (by rw [hs]; rfl)) ?_
  rintro σ H R ⟨F, ρ, ok, h⟩
  refine ⟨F, ρ, ok, (PostG.bindF late_RW h).imp ?_⟩
  rintro v H1 ⟨sv, F1, ρ1, ok1, st, r, h1⟩
  split at h1
  · rename_i j e1
    rw [e1] at r
    cases r
    split at h1
    · rename_i e2
      exact ⟨j, rfl, (small_iff e2).1, (small_iff e2).2, h1 _ H1 F1 Step.refl ok1 walkD_rng⟩
    · exact h1.elim
  · exact h1.elim
theorem pid_rng2 {f g : Env' → Res SV} (hg : Gl X "range") (hm : X.mg "range" = none) (ha : PEd X Z a f) (hb : PEd X Z b g) (hs : starEach [a, b] X.env = (false, eval a X.env) :: starEach [b] X.env) (hs2 : starEach [b] X.env = (false, eval b X.env) :: starEach [] X.env) :
    PId X Z tg (.Call (.Name "range" p) [a, b] [] pos) (fun ρ => (f ρ).bind fun sv ρ1 => (g ρ1).bind fun sw ρ2 => (match sv.d, sw.d with
    | .int i, .int j => if (small62 i && small62 j) = true then .ok (rangeD i (j - i).toNat) ρ2 else .stuck
    | _, _ => .stuck)) := by
  refine PI.weak (pi_range2 hg hm (pa_cons ha (pa_cons hb pa_nil hs2) hs) (by rw [hs, hs2]; rfl) (by rw [hs2]; rfl)) ?_
  rintro σ H R ⟨F, ρ, ok, h⟩
  refine ⟨F, ρ, ok, (PostG.bindF late_RW h).imp ?_⟩
  rintro v H1 ⟨sv, F1, ρ1, ok1, st, r, h1⟩
  refine ⟨F1, ρ1, ok1, (PostG.bindF late_RW h1).imp ?_⟩
  rintro w H2 ⟨sw, F2, ρ2, ok2, st2, r2, h2⟩
  split at h2
  · rename_i i j e1 e2
    rw [e1] at r
    rw [e2] at r2
    cases r
    cases r2
    split at h2
    · rename_i e3
      have e3' := Bool.and_eq_true_iff.mp e3
      exact ⟨i, j, rfl, ⟨(small_iff e3'.1).1, (small_iff e3'.1).2, (small_iff e3'.2).1, (small_iff e3'.2).2⟩, h2 _ H2 F2 Step.refl ok2 walkD_rng⟩
    · exact h2.elim
  · exact h2.elim
theorem pid_enum {elts : List Expr} {kk : Nat} {tpos : Pos} {f : Env' → Res SV} (hg : Gl X "enumerate") (hm : X.mg "enumerate" = none) (ha : PEd X Z a f) (hs : starEach [a] X.env = (false, eval a X.env) :: starEach [] X.env) :
    PId X Z (.Tuple elts kk tpos) (.Call (.Name "enumerate" p) [a] [] pos) (fun ρ => (f ρ).bind fun sv ρ1 => (match sv.d with
    | .lst ds => .ok (enumD 0 ds) ρ1
    | _ => .stuck)) := by
  refine PI.weak (pi_enum hg hm (pa_cons ha pa_nil hs) (by rw [hs]; rfl)) ?_
  rintro σ H R ⟨F, ρ, ok, h⟩
  refine ⟨F, ρ, ok, (PostG.bindF late_RW h).imp ?_⟩
  rintro v H1 ⟨sv, F1, ρ1, ok1, st, r, h1⟩
  split at h1
  · rename_i ds e1
    rw [e1] at r
    obtain ⟨a, xs, rfl, fa, rd, rl⟩ := r.lstAt
    exact ⟨a, xs, rfl, .inl rd, h1 _ H1 F1 Step.refl ok1 (walkD_enum fa rd rl)⟩
  · exact h1.elim
theorem pid_zip {elts : List Expr} {kk : Nat} {tpos : Pos} {f g : Env' → Res SV} (hg : Gl X "zip") (hm : X.mg "zip" = none) (ha : PEd X Z a f) (hb : PEd X Z b g) (hs : starEach [a, b] X.env = (false, eval a X.env) :: starEach [b] X.env) (hs2 : starEach [b] X.env = (false, eval b X.env) :: starEach [] X.env) :
    PId X Z (.Tuple elts kk tpos) (.Call (.Name "zip" p) [a, b] [] pos) (fun ρ => (f ρ).bind fun sv ρ1 => (g ρ1).bind fun sw ρ2 => lift (zipP sv.d sw.d) ρ2) := by
  refine PI.weak (RZ.pi_zipA hg hm (pa_cons ha (pa_cons hb pa_nil hs2) hs) hs (by rw [hs2]; rfl)) ?_
  rintro σ H R ⟨F, ρ, ok, h⟩
  refine ⟨F, ρ, ok, (PostG.bindF late_RW h).imp ?_⟩
  rintro v H1 ⟨sv, F1, ρ1, ok1, st, r, h1⟩
  refine ⟨F1, ρ1, ok1, (PostG.bindF late_RW h1).imp ?_⟩
  rintro w H2 ⟨sw, F2, ρ2, ok2, st2, r2, h2⟩
  have r' := Rep.stays (st2.stays ok1) r
  unfold lift at h2
  split at h2
  · rename_i ds e
    have tt : ∀ xs ys, (sv.d = .tup xs ∨ sv.d = .ktup xs) → (sw.d = .tup ys ∨ sw.d = .ktup ys) → ds = zipD xs ys → ∃ a b xs ys, [v, w] = [.ref a, .ref b] ∧ ((SqL X.K H2 a xs ∧ SqL X.K H2 b ys ∧ R (Itz X.K a b) H2) ∨ (SqT X.K H2 a xs ∧ SqT X.K H2 b ys ∧ R (RZ.ItzT X.K a b) H2)) := fun xs ys e1 e2 e3 => by
      obtain ⟨a, us, rfl, q1, q2⟩ := r'.tupAt e1
      obtain ⟨b, ws, rfl, q3, q4⟩ := r2.tupAt e2
      subst e3
      exact ⟨a, b, us, ws, rfl, .inr ⟨q1 _ _ Stays.refl, q3 _ _ Stays.refl, h2 _ H2 F2 Step.refl ok2 (walkD_zipT q1 q3 q2 q4)⟩⟩
    unfold zipP at e
    split at e
    · rename_i xs ys e1 e2
      cases e
      rw [e1] at r'
      rw [e2] at r2
      obtain ⟨a, us, rfl, f1, q1, q2⟩ := r'.lstAt
      obtain ⟨b, ws, rfl, f2, q3, q4⟩ := r2.lstAt
      exact ⟨a, b, us, ws, rfl, .inl ⟨.inl q1, .inl q3, h2 _ H2 F2 Step.refl ok2 (walkD_zip (fun H' F' s => .inl (s.rd _ _ f1 q1)) (fun H' F' s => .inl (s.rd _ _ f2 q3)) q2 q4)⟩⟩
    · rename_i xs ys e1 e2; cases e; exact tt xs ys (.inl e1) (.inl e2) rfl
    · rename_i xs ys e1 e2; cases e; exact tt xs ys (.inr e1) (.inl e2) rfl
    · rename_i xs ys e1 e2; cases e; exact tt xs ys (.inl e1) (.inr e2) rfl
    · rename_i xs ys e1 e2; cases e; exact tt xs ys (.inr e1) (.inr e2) rfl
    · cases e
  · exact h2.elim
end
end DL

namespace DL
open PySem PySem.Spec PyProof.Rows L2

/-! ### targets -/
mutual
def Tg.sl : Tg → List Nat
  | .nm i => [i]
  | .tup ts => slL ts
def slL : List Tg → List Nat
  | [] => []
  | t :: ts => t.sl ++ slL ts
end
/-- only these slots are stored -/
def KeepT (vs : List Nat) (σ σ' : L2.St) : Prop := σ'.length = σ.length ∧ ∀ i, i ∉ vs → σ'[i]? = σ[i]?
theorem KeepT.refl {vs : List Nat} {σ : L2.St} : KeepT vs σ σ := ⟨rfl, fun _ _ => rfl⟩
theorem KeepT.trans {vs ws : List Nat} {σ σ1 σ2 : L2.St} (a : KeepT vs σ σ1) (b : KeepT ws σ1 σ2) : KeepT (vs ++ ws) σ σ2 :=
  ⟨b.1.trans a.1, fun i h => (b.2 i fun z => h (List.mem_append_right _ z)).trans (a.2 i fun z => h (List.mem_append_left _ z))⟩
theorem KeepT.set {σ : L2.St} {i : Nat} {v : Option V} : KeepT [i] σ (σ.set i v) := ⟨List.length_set, fun j h => List.getElem?_set_ne fun e => h (by rw [e]; exact List.mem_cons_self)⟩
section
variable (X : Cx) (Z : Fix)
def tG (T : Tg) : TG := fun v σ H Q => ∃ F ρ d ρ', EnvOk X.K Z.fa H F σ ρ ∧ Rep X.K Z.fa H F v d ∧ asg T d ρ = some ρ' ∧ ∀ σ', EnvOk X.K Z.fa H F σ' ρ' → StepE H F σ ρ H F σ' ρ' → KeepT T.sl σ σ' → Q σ' H
def tGs (T : List Tg) : TGs := fun vs σ H Q => ∃ F ρ ds ρ', EnvOk X.K Z.fa H F σ ρ ∧ RepL X.K Z.fa H F vs ds ∧ asgs T ds ρ = some ρ' ∧ ∀ σ', EnvOk X.K Z.fa H F σ' ρ' → StepE H F σ ρ H F σ' ρ' → KeepT (slL T) σ σ' → Q σ' H
abbrev PGd (e : Expr) (T : Tg) : Prop := PG X e (tG X Z T)
abbrev PGsd (es : List Expr) (T : List Tg) : Prop := PGs X es (tGs X Z T)
end
section
variable {X : Cx} {Z : Fix} {e : Expr} {es : List Expr} {pos : Pos}
theorem PG.weak {t t' : TG} (h : PG X e t) (w : ∀ v σ H Q, t' v σ H Q → t v σ H Q) : PG X e t' := ⟨fun pins s σ H v u Q I r hq => h.run pins s σ H v u Q I r (w v σ H Q hq)⟩
theorem PGs.weak {t t' : TGs} (h : PGs X es t) (w : ∀ v σ H Q, t' v σ H Q → t v σ H Q) : PGs X es t' := ⟨fun pins s σ H v u Q I r hq => h.run pins s σ H v u Q I r (w v σ H Q hq)⟩
theorem step_set {K : PySem.W.Frag} {fa : Nat → Option Addr} {H : Hp} {F : AP'} {σ : L2.St} {ρ : Env'} {i : Nat} {v : V} {d : D} (ok : EnvOk K fa H F σ ρ) (hi : i < ρ.length) (nl : ∀ sw, ρ[i]? = some (some sw) → sw.lent = false) (r : Rep K fa H F v d) :
    EnvOk K fa H F (σ.set i (some v)) (ρ.set i (some (.dat d))) ∧ StepE H F σ ρ H F (σ.set i (some v)) (ρ.set i (some (.dat d))) := by
  obtain ⟨h1, h2, h3⟩ := ok.setSlot (sv := .dat d) hi nl ⟨r, fun _ _ m => (by cases m), rfl⟩
  refine ⟨h1, fun _ _ h _ => .inl h, fun _ h => h, fun _ h => .inl h, fun a h => ?_, h3, fun _ h => h⟩
  rcases h2 a h with h | ⟨_, m⟩
  · exact .inl h
  · cases m
theorem pgd_name {i : Nat} {x : Str} (hN : X.N.Nodup) (hi : X.N[i]? = some x) (hx : Loc X.env.scope x) (hf : X.fn x = true ∨ X.env.scope.names.lookup x = some .local) : PGd X Z (.Name x pos) (.nm i) := by
  refine PG.weak (pg_name hN hi hx hf) ?_
  rintro v σ H Q ⟨F, ρ, d, ρ', ok, r, e, h⟩
  show Q (σ.set i (some v)) H
  unfold asg at e
  split at e
  · rename_i e1
    cases e
    obtain ⟨o, s⟩ := step_set (v := v) ok (get_lt e1) (fun sw z => by rw [e1] at z; cases z) r
    exact h _ o s KeepT.set
  · rename_i sv e1
    split at e
    · cases e
    · rename_i nl
      cases e
      obtain ⟨o, s⟩ := step_set (v := v) ok (get_lt e1) (fun sw z => by rw [e1] at z; cases z; simpa using nl) r
      exact h _ o s KeepT.set
  · cases e
theorem pgsd_nil : PGsd X Z [] [] := by
  refine PGs.weak pgs_nil ?_
  rintro vs σ H Q ⟨F, ρ, ds, ρ', ok, r, e, h⟩
  cases r with
  | nil => cases e; exact ⟨rfl, h _ ok Step.refl KeepT.refl⟩
  | cons _ _ => cases e
theorem pgsd_cons {T : Tg} {Ts : List Tg} (h1 : PGd X Z e T) (h2 : PGsd X Z es Ts) (hs : (assignEach (e :: es) X.env).map (·.2) = assign e X.env :: (assignEach es X.env).map (·.2)) : PGsd X Z (e :: es) (T :: Ts) := by
  refine PGs.weak (pgs_cons h1 h2 hs) ?_
  rintro vs σ H Q ⟨F, ρ, ds, ρ', ok, r, e, h⟩
  cases r with
  | nil => cases e
  | cons r0 rr =>
    rename_i v vs d ds
    unfold asgs at e
    cases e1 : asg T d ρ with
    | none => rw [e1] at e; cases e
    | some ρ1 =>
      rw [e1] at e
      refine ⟨_, _, rfl, F, ρ, d, ρ1, ok, r0, e1, fun σ1 ok1 st1 kp1 => ?_⟩
      exact ⟨F, ρ1, ds, ρ', ok1, rr, e, fun σ2 ok2 st2 kp2 => h σ2 ok2 (st1.trans st2) (kp1.trans kp2)⟩
theorem pgd_tup {k : Nat} {Ts : List Tg} (hc : X.calm = true) (h : PGsd X Z es Ts) (hl : es.length = Ts.length) (hn : (assignEach es X.env).length = es.length) (hst : (assignEach es X.env).findIdx? (·.1) = none) : PGd X Z (.Tuple es k pos) (.tup Ts) := by
  refine ⟨fun pins s σ H v u Q I rv hq => ?_⟩
  obtain ⟨F, ρ, d, ρ', ok, r, e, hk⟩ := hq
  have len : ∀ {Ts : List Tg} {ds : List D} {ρ ρ' : Env'}, asgs Ts ds ρ = some ρ' → ds.length = Ts.length := by
    intro Ts
    induction Ts with
    | nil => intro ds ρ ρ' e; cases ds <;> first | rfl | cases e
    | cons T Ts ih =>
      intro ds ρ ρ' e
      cases ds with
      | nil => cases e
      | cons d ds =>
        unfold asgs at e
        cases e1 : asg T d ρ with
        | none => rw [e1] at e; cases e
        | some ρ1 => rw [e1] at e; rw [List.length_cons, List.length_cons, ih e]
  have go : ∀ ds, (d = .tup ds ∨ d = .ktup ds) → asgs Ts ds ρ = some ρ' → gTup X.K es.length (tGs X Z Ts) v σ H Q := fun ds ed e => by
    obtain ⟨a, xs, rfl, sq, rl⟩ := r.tupAt ed
    exact ⟨a, xs, rfl, sq _ _ Stays.refl, by rw [rl.length, len e, hl], F, ρ, ds, ρ', ok, rl, e, hk⟩
  unfold asg at e
  split at e
  · exact (pg_tup hc h hn hst).run pins s σ H v u Q I rv (go _ (.inl rfl) e)
  · exact (pg_tup hc h hn hst).run pins s σ H v u Q I rv (go _ (.inr rfl) e)
  · refine (pg_lst (n := es.length) hc h hn hst).run pins s σ H v u Q I rv ?_
    obtain ⟨a, xs, rfl, _, rd, rl⟩ := r.lstAt
    exact ⟨a, xs, rfl, .inl rd, by rw [rl.length, len e, hl], F, ρ, _, ρ', ok, rl, e, hk⟩
  · cases e
end

/-! ### statements -/
section
variable (K : PySem.W.Frag) (Z : Fix)
def RetOk (H0 : Hp) (v : V) (sv : SV) (H : Hp) (F : AP') (σ : L2.St) (ρ : Env') : Prop := RepS K Z.fa H F v sv ∧ match sv with
  | .dat _ => True
  | .own _ => ∃ a, v = .ref a ∧ ¬ Bor σ ρ a ∧ (Own σ ρ a ∨ H0 a = none)
  | .bor _ => False
def PostS (σ : L2.St) (H : Hp) (F : AP') (ρ : Env') (r : SRes) (D : Ends) : Prop := match r with
  | .nx ρ' => ∀ σ' H' F', StepE H F σ ρ H' F' σ' ρ' → EnvOk K Z.fa H' F' σ' ρ' → D.nx σ' H'
  | .bk ρ' => ∀ σ' H' F', StepE H F σ ρ H' F' σ' ρ' → EnvOk K Z.fa H' F' σ' ρ' → D.bk σ' H'
  | .ct ρ' => ∀ σ' H' F', StepE H F σ ρ H' F' σ' ρ' → EnvOk K Z.fa H' F' σ' ρ' → D.ct σ' H'
  | .rt sv ρ' => ∀ v σ' H' F', StepE H F σ ρ H' F' σ' ρ' → EnvOk K Z.fa H' F' σ' ρ' → RetOk K Z H v sv H' F' σ' ρ' → D.rt v H'
  | .exc x ρ' => ∀ cls d σ' H' F', StepE H F σ ρ H' F' σ' ρ' → EnvOk K Z.fa H' F' σ' ρ' → Z.EX x cls d H' → Z.W cls d σ' H'
  | .stuck => False
end
section
variable {K : PySem.W.Frag} {Z : Fix} {σ σ1 : L2.St} {H H1 : Hp} {F F1 : AP'} {ρ ρ1 : Env'} {D : Ends} {r : SRes} {α β : Type} {R : Hp → α → β → Hp → AP' → L2.St → Env' → Prop}
theorem RetOk.early {v : V} {sv : SV} {H2 : Hp} {F2 : AP'} {σ2 : L2.St} {ρ2 : Env'} (st : ∀ a, H1 a = none → H a = none) (h : RetOk K Z H1 v sv H2 F2 σ2 ρ2) : RetOk K Z H v sv H2 F2 σ2 ρ2 := by
  obtain ⟨h1, h2⟩ := h
  refine ⟨h1, ?_⟩
  cases sv with
  | dat _ => trivial
  | own _ => obtain ⟨a, e, nb, o⟩ := h2; exact ⟨a, e, nb, o.elim .inl fun z => .inr (st a z)⟩
  | bor _ => exact h2
theorem PostS.after (st : StepE H F σ ρ H1 F1 σ1 ρ1) (h : PostS K Z σ H F ρ r D) : PostS K Z σ1 H1 F1 ρ1 r D := by
  cases r with
  | nx ρ' => exact fun σ' H' F' s ok => h σ' H' F' (st.trans s) ok
  | bk ρ' => exact fun σ' H' F' s ok => h σ' H' F' (st.trans s) ok
  | ct ρ' => exact fun σ' H' F' s ok => h σ' H' F' (st.trans s) ok
  | rt sv ρ' => exact fun v σ' H' F' s ok q => h v σ' H' F' (st.trans s) ok (q.early st.dom)
  | exc x ρ' => exact fun cls d σ' H' F' s ok q => h cls d σ' H' F' (st.trans s) ok q
  | stuck => exact h
theorem PostS.seq {g : Env' → SRes} (h : PostS K Z σ H F ρ (r.sq g) D) : PostS K Z σ H F ρ r { D with nx := fun σ1 H1 => ∃ F1 ρ1, EnvOk K Z.fa H1 F1 σ1 ρ1 ∧ PostS K Z σ1 H1 F1 ρ1 (g ρ1) D } := by
  cases r with
  | nx ρ' => exact fun σ' H' F' s ok => ⟨F', ρ', ok, PostS.after s h⟩
  | bk ρ' => exact h
  | ct ρ' => exact h
  | rt sv ρ' => exact h
  | exc x ρ' => exact h
  | stuck => exact h
/-- a reading, then a statement -/
theorem PostS.sb {f : Res α} {g : α → Env' → SRes} (h : PostS K Z σ H F ρ (f.sb g) D) :
    PostG K Z R σ H F ρ f (fun b H1 => ∃ a F1 ρ1, EnvOk K Z.fa H1 F1 σ ρ1 ∧ StepE H F σ ρ H1 F1 σ ρ1 ∧ R H a b H1 F1 σ ρ1 ∧ PostS K Z σ H1 F1 ρ1 (g a ρ1) D) := by
  cases f with
  | ok a ρ' => exact fun b H' F' s ok r => ⟨a, F', ρ', ok, s, r, PostS.after s h⟩
  | exc x ρ' => exact fun cls d H' F' s ok q => h cls d σ H' F' s ok q
  | stuck => exact h
theorem PostS.sbF {f : Res SV} {g : SV → Env' → SRes} (h : PostS K Z σ H F ρ (f.sb g) D) :
    PostG K Z (RSV K Z) σ H F ρ f (fun v H1 => ∃ sv F1 ρ1, EnvOk K Z.fa H1 F1 σ ρ1 ∧ StepE H F σ ρ H1 F1 σ ρ1 ∧ Rep K Z.fa H1 F1 v sv.d ∧ PostS K Z σ H1 F1 ρ1 (g sv ρ1) D) := by
  cases f with
  | ok sv ρ' =>
    intro v H' F' s ok r
    obtain ⟨F1, ok1, rep, m1, m2⟩ := ResOk.freeze ok r
    exact ⟨sv, F1, ρ', ok1, s.more m1 m2, rep, PostS.after (s.more m1 m2) h⟩
  | exc x ρ' => exact fun cls d H' F' s ok q => h cls d σ H' F' s ok q
  | stuck => exact h
theorem PostS.nx0 (ok : EnvOk K Z.fa H F σ ρ) (h : PostS K Z σ H F ρ (.nx ρ) D) : D.nx σ H := h σ H F Step.refl ok
end
section
variable (X : Cx) (Z : Fix)
def tSd (f : Env' → SRes) : TS := fun D σ H => ∃ F ρ, EnvOk X.K Z.fa H F σ ρ ∧ PostS X.K Z σ H F ρ (f ρ) D
abbrev PSd (st : Stmt) (f : Env' → SRes) : Prop := PS X st (tSd X Z f)
abbrev PSsd (st : List Stmt) (f : Env' → SRes) : Prop := PSs X st (tSd X Z f)
end
section
variable {X : Cx} {Z : Fix} {e c k : Expr} {st : Stmt} {sts body a b : List Stmt} {pos p p2 : Pos} {i j : Nat} {x y : Str}
theorem PS.weak {t t' : TS} (h : PS X st t) (w : ∀ D σ H, t' D σ H → t D σ H) : PS X st t' := ⟨fun pins s σ H D I hq => h.run pins s σ H D I (w D σ H hq)⟩
theorem PSs.weak {t t' : TS} (h : PSs X sts t) (w : ∀ D σ H, t' D σ H → t D σ H) : PSs X sts t' := ⟨fun pins s σ H D I hq => h.run pins s σ H D I (w D σ H hq)⟩
theorem pssd_nil : PSsd X Z [] (fun ρ => .nx ρ) := by
  refine PSs.weak pss_nil ?_
  rintro D σ H ⟨F, ρ, ok, h⟩
  exact h.nx0 ok
theorem pssd_cons {f g : Env' → SRes} (h1 : PSd X Z st f) (h2 : PSsd X Z sts g) : PSsd X Z (st :: sts) (fun ρ => (f ρ).sq g) := by
  refine PSs.weak (pss_cons h1 h2) ?_
  rintro D σ H ⟨F, ρ, ok, h⟩
  exact ⟨F, ρ, ok, PostS.seq h⟩
theorem psd_pass : PSd X Z (.Pass pos) (fun ρ => .nx ρ) := by
  refine PS.weak ps_pass ?_
  rintro D σ H ⟨F, ρ, ok, h⟩
  exact h.nx0 ok
theorem psd_brk : PSd X Z (.Break pos) (fun ρ => .bk ρ) := by
  refine PS.weak ps_break ?_
  rintro D σ H ⟨F, ρ, ok, h⟩
  exact h σ H F Step.refl ok
theorem psd_cont : PSd X Z (.Continue pos) (fun ρ => .ct ρ) := by
  refine PS.weak ps_continue ?_
  rintro D σ H ⟨F, ρ, ok, h⟩
  exact h σ H F Step.refl ok
theorem psd_never : PSd X Z st (fun _ => .stuck) := by
  refine PS.weak ps_never ?_
  rintro D σ H ⟨F, ρ, ok, h⟩
  exact h
theorem psd_expr {f : Env' → Res SV} (h : PEd X Z e f) (hs : swapsWith e none pos.line X.env = pure false) : PSd X Z (.Expr e pos) (fun ρ => (f ρ).sb fun _ ρ1 => .nx ρ1) := by
  refine PS.weak (ps_expr h hs) ?_
  rintro D σ H ⟨F, ρ, ok, h⟩
  refine ⟨F, ρ, ok, (PostS.sb h).imp ?_⟩
  rintro v H1 ⟨sv, F1, ρ1, ok1, st, r, h1⟩
  exact h1.nx0 ok1
theorem psd_ret {f : Env' → Res SV} (h : PEd X Z e f) : PSd X Z (.Return (some e) pos) (fun ρ => (f ρ).sb fun sv ρ1 => .rt sv ρ1) := by
  refine PS.weak (ps_ret h) ?_
  rintro D σ H ⟨F, ρ, ok, h⟩
  refine ⟨F, ρ, ok, ?_⟩
  cases hf : f ρ with
  | ok sv ρ' =>
    dsimp only at h
    rw [hf] at h
    refine fun v H' F' s ok r => h v σ H' F' s ok ⟨r.1, ?_⟩
    cases sv with
    | dat _ => trivial
    | own _ =>
      obtain ⟨a, e, n, no⟩ := r.2
      exact ⟨a, e, fun ⟨i, sv, h1, h2, h3⟩ => no ⟨i, sv, h1, (by cases sv <;> first | rfl | cases h2), h3⟩, .inr n⟩
    | bor _ => exact r.2
  | exc x ρ' => dsimp only at h; rw [hf] at h; exact fun cls d H' F' s ok q => h cls d σ H' F' s ok q
  | stuck => dsimp only at h; rw [hf] at h; exact h
theorem psd_retN : PSd X Z (.Return none pos) (fun ρ => .rt (.dat .non) ρ) := by
  refine PS.weak ps_retN ?_
  rintro D σ H ⟨F, ρ, ok, h⟩
  exact h _ σ H F Step.refl ok ⟨.non, trivial⟩
theorem psd_retv (hN : X.N[i]? = some x) (hv : Vis X.env.scope x) (hd : (x == ("__debug__" : Str)) = false) (hcd : (x == ("__classdict__" : Str)) = false) : PSd X Z (.Return (some (.Name x p)) pos) (retvS i) := by
  refine PS.weak (ps_ret (pe_var hN hv hd hcd)) ?_
  rintro D σ H ⟨F, ρ, ok, h⟩
  unfold retvS at h
  split at h
  · rename_i d e1
    obtain ⟨v, e2, a, rfl, nf, ow⟩ := ok.slot i _ e1
    refine ⟨_, e2, h _ σ H F Step.refl ok ⟨⟨a, rfl, nf, ow⟩, a, rfl, ?_, .inl ⟨i, _, e1, rfl, e2⟩⟩⟩
    rintro ⟨j, sv, h1, h2, h3⟩
    have := ok.apart i j _ sv a e1 h1 rfl (by cases sv <;> first | rfl | cases h2) e2 h3
    subst this
    rw [e1] at h1; cases h1; cases h2
  · rename_i d e1
    obtain ⟨v, e2, r⟩ := ok.slot i _ e1
    exact ⟨_, e2, h _ σ H F Step.refl ok ⟨r, trivial⟩⟩
  · exact h.elim
theorem psd_if {fc : Env' → Res Bool} {fa fb : Env' → SRes} (hc : PTd X Z c fc) (ha : PSsd X Z a fa) (hb : PSsd X Z b fb) : PSd X Z (.If c a b pos) (fun ρ => (fc ρ).sb fun t ρ1 => if t = true then fa ρ1 else fb ρ1) := by
  refine PS.weak (ps_if hc ha hb) ?_
  rintro D σ H ⟨F, ρ, ok, h⟩
  refine ⟨F, ρ, ok, (PostS.sb (R := RB) h).imp ?_⟩
  rintro t H1 ⟨t', F1, ρ1, ok1, st, rfl, h1⟩
  cases t' with
  | true => rw [if_pos rfl] at h1 ⊢; exact ⟨F1, ρ1, ok1, h1⟩
  | false => rw [if_neg Bool.false_ne_true] at h1 ⊢; exact ⟨F1, ρ1, ok1, h1⟩
/-- a result is stored -/
theorem set_core {K : PySem.W.Frag} {σ : L2.St} {H H1 : Hp} {F F1 : AP'} {ρ ρ1 : Env'} {v : V} {sv : SV} (ok1 : EnvOk K Z.fa H1 F1 σ ρ1) (r : ResOk K Z.fa H H1 F1 σ ρ1 v sv)
    (st : StepE H F σ ρ H1 F1 σ ρ1) : setS i sv ρ1 = .stuck ∨ ∃ ρ2, setS i sv ρ1 = .nx ρ2 ∧ EnvOk K Z.fa H1 F1 (σ.set i (some v)) ρ2 ∧ StepE H F σ ρ H1 F1 (σ.set i (some v)) ρ2 := by
  unfold setS
  split
  · exact .inl rfl
  · rename_i nl
    have nl' : sv.lent = false := by simpa using nl
    have go : i < ρ1.length → (∀ sw, ρ1[i]? = some (some sw) → sw.lent = false) → EnvOk K Z.fa H1 F1 (σ.set i (some v)) (ρ1.set i (some sv)) ∧ StepE H F σ ρ H1 F1 (σ.set i (some v)) (ρ1.set i (some sv)) := fun hi hl => by
      have can : CanSet K Z.fa H1 F1 σ ρ1 v sv := ⟨r.1, (fun a ea m => by
        cases sv with
        | dat _ => cases m
        | own _ => obtain ⟨b, eb, n, no⟩ := r.2; subst ea; cases eb; exact no
        | bor _ => cases nl'), nl'⟩
      obtain ⟨h1, h2, h3⟩ := ok1.setSlot hi hl can
      refine ⟨h1, st.keep, st.fmono, st.fnew, fun a z => ?_, fun a => (h3 a).trans (st.bor a), st.dom⟩
      rcases h2 a z with z | ⟨zz, m⟩
      · exact st.onew a z
      · cases sv with
        | dat _ => cases m
        | own _ => obtain ⟨b, eb, n, no⟩ := r.2; rw [zz] at eb; cases eb; exact .inr n
        | bor _ => cases nl'
    split
    · rename_i e1
      exact .inr ⟨_, rfl, go (get_lt e1) (fun sw z => by rw [e1] at z; cases z)⟩
    · rename_i sw e1
      split
      · exact .inl rfl
      · rename_i nsw
        exact .inr ⟨_, rfl, go (get_lt e1) (fun sw' z => by rw [e1] at z; cases z; simpa using nsw)⟩
    · exact .inl rfl
theorem set_step {K : PySem.W.Frag} {σ : L2.St} {H H1 : Hp} {F F1 : AP'} {ρ ρ1 : Env'} {D : Ends} {v : V} {sv : SV} (ok1 : EnvOk K Z.fa H1 F1 σ ρ1) (r : ResOk K Z.fa H H1 F1 σ ρ1 v sv)
    (h : PostS K Z σ H F ρ (setS i sv ρ1) D) (st : StepE H F σ ρ H1 F1 σ ρ1) : D.nx (σ.set i (some v)) H1 := by
  rcases set_core (i := i) ok1 r st with e | ⟨ρ2, e, ok2, st2⟩
  · rw [e] at h; exact h.elim
  · rw [e] at h; exact h _ H1 F1 st2 ok2
theorem psd_set {f : Env' → Res SV} (hN : X.N.Nodup) (hi : X.N[i]? = some x) (hx : Loc X.env.scope x) (hfn : X.fn x = true ∨ X.env.scope.names.lookup x = some .local) (h : PEd X Z e f) (hs : swapsWith e (some (.Name x p)) pos.line X.env = pure false) :
    PSd X Z (.Assign [.Name x p] e pos) (fun ρ => (f ρ).sb fun sv ρ1 => setS i sv ρ1) := by
  refine PS.weak (ps_set hN hi hx h hs hfn) ?_
  rintro D σ H ⟨F, ρ, ok, h⟩
  refine ⟨F, ρ, ok, ?_⟩
  cases hf : f ρ with
  | ok sv ρ' =>
    dsimp only at h
    rw [hf] at h
    exact fun v H' F' s ok r => set_step ok r h s
  | exc x ρ' => dsimp only at h; rw [hf] at h; exact fun cls d H' F' s ok q => h cls d σ H' F' s ok q
  | stuck => dsimp only at h; rw [hf] at h; exact h
theorem psd_unp {f : Env' → Res SV} {T : Tg} {tg : Expr} (h : PEd X Z e f) (hg : PGd X Z tg T) (hs : swapsWithSole [tg] e pos.line X.env = pure false) (hw : swappedStores [tg] e X.env = pure none)
    (h1 : (assignEach [tg] X.env).map (·.2) = [assign tg X.env]) : PSd X Z (.Assign [tg] e pos) (fun ρ => (f ρ).sb fun sv ρ1 => unpS T sv.d ρ1) := by
  refine PS.weak (ps_asg h hg hs hw h1) ?_
  rintro D σ H ⟨F, ρ, ok, h⟩
  refine ⟨F, ρ, ok, (PostS.sbF h).imp ?_⟩
  rintro v H1 ⟨sv, F1, ρ1, ok1, st, r, h1⟩
  unfold unpS at h1
  split at h1
  · rename_i ρ2 e2
    exact ⟨F1, ρ1, sv.d, ρ2, ok1, r, e2, fun σ' ok2 st2 _ => h1 σ' H1 F1 st2 ok2⟩
  · exact h1.elim
theorem psd_par {f g : Env' → Res SV} {a b : Expr} {px py pt pt2 : Pos} {kt k2} (hc : X.calm = true) (hN : X.N.Nodup) (hi : X.N[i]? = some x) (hj : X.N[j]? = some y) (hij : i ≠ j)
    (hx : X.env.scope.names.lookup x = some .local) (hy : X.env.scope.names.lookup y = some .local) (ha : PEd X Z a f) (hb : PEd X Z b g) (hs1 : starEach [a, b] X.env = (false, eval a X.env) :: starEach [b] X.env) (hs2 : starEach [b] X.env = (false, eval b X.env) :: starEach [] X.env)
    (hw : swappedStores [.Tuple [.Name x px, .Name y py] kt pt] (.Tuple [a, b] k2 pt2) X.env = pure (some [x, y]))
    (hs : swapsWithSole [.Tuple [.Name x px, .Name y py] kt pt] (.Tuple [a, b] k2 pt2) pos.line X.env = pure false) :
    PSd X Z (.Assign [.Tuple [.Name x px, .Name y py] kt pt] (.Tuple [a, b] k2 pt2) pos) (fun ρ => (f ρ).sb fun sv ρ1 => (g ρ1).sb fun sw ρ2 => (setS i (.dat sv.d) ρ2).sq fun ρ3 => setS j (.dat sw.d) ρ3) := by
  refine PS.weak (ps_par hc hN hi hj hij hx hy (pa_cons ha (pa_cons hb pa_nil hs2) hs1) hw hs) ?_
  rintro D σ H ⟨F, ρ, ok, h⟩
  refine ⟨F, ρ, ok, (PostS.sbF h).imp ?_⟩
  rintro v H1 ⟨sv, F1, ρ1, ok1, st, r, h1⟩
  refine ⟨F1, ρ1, ok1, (PostS.sbF h1).imp ?_⟩
  rintro w H2 ⟨sw, F2, ρ2, ok2, st2, r2, h2⟩
  refine ⟨v, w, rfl, ?_⟩
  have r' := Rep.stays (st2.stays ok1) r
  rcases set_core (i := i) ok2 (⟨r', trivial⟩ : ResOk X.K Z.fa H2 H2 F2 σ ρ2 v (.dat sv.d)) Step.refl with e3 | ⟨ρ3, e3, ok3, st3⟩
  · rw [e3] at h2; exact h2.elim
  · rw [e3] at h2
    have h3 : PostS X.K Z σ H2 F2 ρ2 (setS j (.dat sw.d) ρ3) D := h2
    rcases set_core (i := j) ok3 (⟨r2, trivial⟩ : ResOk X.K Z.fa H2 H2 F2 (σ.set i (some v)) ρ3 w (.dat sw.d)) Step.refl with e4 | ⟨ρ4, e4, ok4, st4⟩
    · rw [e4] at h3; exact h3.elim
    · rw [e4] at h3
      exact h3 _ H2 F2 (st3.trans st4) ok4
/-! ### loops -/
theorem psd_for {tg iter : Expr} {T : Tg} {f : Env' → Res (List D)} {g : Env' → SRes} (hp : PassesOwn (model X.prog X.w) X.A X.env X.xe) (hc : X.calm = true) (hi : PId X Z tg iter f) (hg : PGd X Z tg T) (hb : PSsd X Z body g) (hs : ∀ x, foldedSetIterable iter X.env x = pure x) :
    PSd X Z (.For tg iter body [] pos) (fun ρ => (f ρ).sb fun items ρ1 => forGo g T items ρ1) := by
  refine PS.weak (ps_for hp hc hi hg hb hs) ?_
  rintro D σ H ⟨F, ρ, ok, h⟩
  refine ⟨F, ρ, ok, (PostS.sb h).imp ?_⟩
  rintro J H1 ⟨items, F1, ρ1, ok1, st1, w, h1⟩
  refine ⟨fun i m σ' H' => m = items.length - i ∧ i ≤ items.length ∧ ∃ F' ρ', EnvOk X.K Z.fa H' F' σ' ρ' ∧ Stays H1 F1 H' F' ∧ PostS X.K Z σ' H' F' ρ' (forGo g T (items.drop i) ρ') D, ⟨_, rfl, Nat.zero_le _, F1, ρ1, ok1, Stays.refl, h1⟩, ?_⟩
  rintro i m σ' H' ⟨rfl, hi, F', ρ', ok', sy, h'⟩
  by_cases hlt : i < items.length
  · refine .inr ⟨w.goes i H' F' sy hlt, fun σ2 H2 => i + 1 ≤ items.length ∧ ∃ F2 ρ2, EnvOk X.K Z.fa H2 F2 σ2 ρ2 ∧ Stays H1 F1 H2 F2 ∧ PostS X.K Z σ2 H2 F2 ρ2 (forGo g T (items.drop (i + 1)) ρ2) D, fun σ2 H2 ⟨q1, q2⟩ => ⟨items.length - (i + 1), by omega, rfl, q1, q2⟩, fun x H2 y => ?_⟩
    obtain ⟨d, e1, F2, gr, rx, _⟩ := w.yields i H' F' x H2 sy ok'.fd hlt y
    have e2 : items.drop i = d :: items.drop (i + 1) := by
      obtain ⟨hh, e3⟩ := List.getElem?_eq_some_iff.mp e1
      rw [List.drop_eq_getElem_cons hh, e3]
    rw [e2] at h'
    unfold forGo at h'
    split at h'
    · exact h'.elim
    · rename_i ρ2 e3
      have ok2 := ok'.grow gr
      refine ⟨F2, ρ', d, ρ2, ok2, rx, e3, fun σ3 ok3 st3 _ => ⟨F2, ρ2, ok3, ?_⟩⟩
      have stp : StepE H' F' σ' ρ' H2 F2 σ3 ρ2 := Step.trans gr.step st3
      have fin : ∀ σ4 H4 F4 ρ4, StepE H2 F2 σ3 ρ2 H4 F4 σ4 ρ4 → EnvOk X.K Z.fa H4 F4 σ4 ρ4 → PostS X.K Z σ' H' F' ρ' (forGo g T (items.drop (i + 1)) ρ4) D → i + 1 ≤ items.length ∧ ∃ F2 ρ2, EnvOk X.K Z.fa H4 F2 σ4 ρ2 ∧ Stays H1 F1 H4 F2 ∧ PostS X.K Z σ4 H4 F2 ρ2 (forGo g T (items.drop (i + 1)) ρ2) D := fun σ4 H4 F4 ρ4 s4 ok4 h4 =>
        ⟨hlt, F4, ρ4, ok4, sy.trans ((stp.trans s4).stays ok'), PostS.after (stp.trans s4) h4⟩
      cases hg2 : g ρ2 with
      | nx ρ4 => rw [hg2] at h'; exact fun σ4 H4 F4 s4 ok4 => fin σ4 H4 F4 ρ4 s4 ok4 h'
      | ct ρ4 => rw [hg2] at h'; exact fun σ4 H4 F4 s4 ok4 => fin σ4 H4 F4 ρ4 s4 ok4 h'
      | bk ρ4 => rw [hg2] at h'; exact fun σ4 H4 F4 s4 ok4 => h' σ4 H4 F4 (stp.trans s4) ok4
      | rt sv ρ4 => rw [hg2] at h'; exact fun v σ4 H4 F4 s4 ok4 q => h' v σ4 H4 F4 (stp.trans s4) ok4 (q.early stp.dom)
      | exc x ρ4 => rw [hg2] at h'; exact fun cls d σ4 H4 F4 s4 ok4 q => h' cls d σ4 H4 F4 (stp.trans s4) ok4 q
      | stuck => rw [hg2] at h'; exact h'
  · have e : items.drop i = [] := List.drop_eq_nil_iff.mpr (by omega)
    rw [e] at h'
    exact .inl ⟨w.stops i H' F' sy (by omega), h'.nx0 ok'⟩
theorem psd_while {m : Nat} {fc : Env' → Res Bool} {g : Env' → SRes} (hp : PassesOwn (model X.prog X.w) X.A X.env X.xe) (hc : PTd X Z c fc) (hb : PSsd X Z body g) : PSd X Z (.While c body [] pos) (whGo fc g m) := by
  refine PS.weak (ps_while hp hc hb) ?_
  rintro D σ H ⟨F, ρ, ok, h⟩
  refine ⟨fun m σ H => ∃ F ρ, EnvOk X.K Z.fa H F σ ρ ∧ PostS X.K Z σ H F ρ (whGo fc g m ρ) D, ⟨m, F, ρ, ok, h⟩, ?_⟩
  rintro m σ H ⟨F, ρ, ok, h⟩
  cases m with
  | zero => exact h.elim
  | succ m =>
    unfold whGo at h
    refine ⟨F, ρ, ok, (PostS.sb (R := RB) h).imp ?_⟩
    rintro b H1 ⟨b', F1, ρ1, ok1, st1, rfl, h1⟩
    cases b' with
    | false => rw [if_neg Bool.false_ne_true] at h1 ⊢; exact h1.nx0 ok1
    | true =>
      rw [if_pos rfl] at h1 ⊢
      refine ⟨fun σ2 H2 => ∃ F2 ρ2, EnvOk X.K Z.fa H2 F2 σ2 ρ2 ∧ PostS X.K Z σ2 H2 F2 ρ2 (whGo fc g m ρ2) D, fun σ' H' q => ⟨m, Nat.lt_succ_self _, q⟩, F1, ρ1, ok1, ?_⟩
      cases hg2 : g ρ1 with
      | nx ρ4 => rw [hg2] at h1; exact fun σ4 H4 F4 s4 ok4 => ⟨F4, ρ4, ok4, PostS.after s4 h1⟩
      | ct ρ4 => rw [hg2] at h1; exact fun σ4 H4 F4 s4 ok4 => ⟨F4, ρ4, ok4, PostS.after s4 h1⟩
      | bk ρ4 => rw [hg2] at h1; exact h1
      | rt sv ρ4 => rw [hg2] at h1; exact h1
      | exc x ρ4 => rw [hg2] at h1; exact h1
      | stuck => rw [hg2] at h1; exact h1
end
end DL

namespace DL
open PySem PySem.Spec PyProof.Rows L2

/-! ### a, b = x, y where what is made stays our own -/
section
variable {K : PySem.W.Frag} {Z : Fix} {σ : L2.St} {H H1 H2 : Hp} {F F1 F2 : AP'} {ρ ρ1 ρ2 : Env'} {v w : V} {sv sw : SV}
theorem set_core2 {i : Nat} {σ0 : L2.St} (ok1 : EnvOk K Z.fa H1 F1 σ ρ1) (r : ResOk K Z.fa H H1 F1 σ ρ1 v sv) (st : StepE H F σ0 ρ H1 F1 σ ρ1) : setS i sv ρ1 = .stuck ∨ ∃ ρ2, setS i sv ρ1 = .nx ρ2 ∧ EnvOk K Z.fa H1 F1 (σ.set i (some v)) ρ2 ∧ StepE H F σ0 ρ H1 F1 (σ.set i (some v)) ρ2 ∧ ∀ a, Own (σ.set i (some v)) ρ2 a → Own σ ρ1 a ∨ (v = .ref a ∧ sv.mine = true) := by
  unfold setS
  split
  · exact .inl rfl
  · rename_i nl
    have nl' : sv.lent = false := by simpa using nl
    have can : CanSet K Z.fa H1 F1 σ ρ1 v sv := ⟨r.1, (fun a ea m => by
      cases sv with
      | dat _ => cases m
      | own _ => obtain ⟨b, eb, n, no⟩ := r.2; subst ea; cases eb; exact no
      | bor _ => cases nl'), nl'⟩
    have go : i < ρ1.length → (∀ sw, ρ1[i]? = some (some sw) → sw.lent = false) → EnvOk K Z.fa H1 F1 (σ.set i (some v)) (ρ1.set i (some sv)) ∧ StepE H F σ0 ρ H1 F1 (σ.set i (some v)) (ρ1.set i (some sv)) ∧ ∀ a, Own (σ.set i (some v)) (ρ1.set i (some sv)) a → Own σ ρ1 a ∨ (v = .ref a ∧ sv.mine = true) := fun hi hl => by
      obtain ⟨h1, h2, h3⟩ := ok1.setSlot hi hl can
      refine ⟨h1, ⟨st.keep, st.fmono, st.fnew, fun a z => ?_, fun a => (h3 a).trans (st.bor a), st.dom⟩, h2⟩
      rcases h2 a z with z | ⟨zz, m⟩
      · exact st.onew a z
      · cases sv with
        | dat _ => cases m
        | own _ => obtain ⟨b, eb, n, no⟩ := r.2; rw [zz] at eb; cases eb; exact .inr n
        | bor _ => cases nl'
    split
    · rename_i e1
      exact .inr ⟨_, rfl, go (get_lt e1) (fun sw z => by rw [e1] at z; cases z)⟩
    · rename_i sw e1
      split
      · exact .inl rfl
      · rename_i nsw
        exact .inr ⟨_, rfl, go (get_lt e1) (fun sw' z => by rw [e1] at z; cases z; simpa using nsw)⟩
    · exact .inl rfl
/-- a result in the air while something else is computed -/
theorem ResOk.air (ok1 : EnvOk K Z.fa H1 F1 σ ρ1) (r : ResOk K Z.fa H H1 F1 σ ρ1 v sv) (st : StepE H1 F1 σ ρ1 H2 F2 σ ρ2) : ResOk K Z.fa H H2 F2 σ ρ2 v sv ∧ (∀ a, v = .ref a → sv.mine = true → H1 a ≠ none) := by
  obtain ⟨r1, r2⟩ := r
  cases sv with
  | dat d => exact ⟨⟨Rep.stays (st.stays ok1) r1, trivial⟩, fun a e m => by cases m⟩
  | own d =>
    obtain ⟨a, rfl, nf, ow⟩ := r1
    obtain ⟨a', e, n, no⟩ := r2
    cases e
    obtain ⟨o, ho, _⟩ := ow.some
    have e2 : H2 a = some o := (st.keep a o ho no).resolve_right fun z => nf z.1
    refine ⟨⟨⟨a, rfl, fun z => ?_, ow.stays (e2.trans ho.symm) (st.stays ok1)⟩, a, rfl, n, fun z => ?_⟩, fun b e m => by cases e; rw [ho]; exact fun z => nomatch z⟩
    · rcases st.fnew a z with z | z | z
      · exact nf z
      · rw [ho] at z; cases z
      · exact no z.1
    · rcases st.onew a z with z | z
      · exact no z
      · rw [ho] at z; cases z
  | bor d => exact r2.elim
theorem ResOk.keepO {k : Bool} (ok1 : EnvOk K Z.fa H1 F1 σ ρ1) (r : ResOk K Z.fa H H1 F1 σ ρ1 v sv) : ∃ F2, EnvOk K Z.fa H1 F2 σ ρ1 ∧ ResOk K Z.fa H H1 F2 σ ρ1 v (DL.keepO k sv) ∧ ∀ {ρ0 : Env'} {F0 : AP'}, StepE H F0 σ ρ0 H1 F1 σ ρ1 → StepE H F0 σ ρ0 H1 F2 σ ρ1 := by
  unfold DL.keepO
  cases k with
  | true => exact ⟨F1, ok1, r, fun h => h⟩
  | false =>
    obtain ⟨F2, ok2, rep, m1, m2⟩ := ResOk.freeze ok1 r
    exact ⟨F2, ok2, ⟨rep, trivial⟩, fun s => s.more m1 m2⟩
/-- both stores -/
theorem par_core {i j : Nat} {D : Ends} (ok2 : EnvOk K Z.fa H2 F2 σ ρ2) (r1 : ResOk K Z.fa H H2 F2 σ ρ2 v sv) (r2 : ResOk K Z.fa H1 H2 F2 σ ρ2 w sw) (hd : ∀ x, H1 x = none → H x = none) (hne : ∀ a, v = .ref a → sv.mine = true → H1 a ≠ none) (st : StepE H F σ ρ H2 F2 σ ρ2)
    (h : PostS K Z σ H F ρ ((setS i sv ρ2).sq fun ρ3 => setS j sw ρ3) D) : D.nx ((σ.set i (some v)).set j (some w)) H2 := by
  rcases set_core2 (i := i) ok2 r1 st with e3 | ⟨ρ3, e3, ok3, st3, o3⟩
  · rw [e3] at h; exact h.elim
  · rw [e3] at h
    have h3 : PostS K Z σ H F ρ (setS j sw ρ3) D := h
    have r3 : ResOk K Z.fa H H2 F2 (σ.set i (some v)) ρ3 w sw := by
      obtain ⟨q1, q2⟩ := r2
      refine ⟨q1, ?_⟩
      cases sw with
      | dat _ => trivial
      | own d =>
        obtain ⟨b, e, n, no⟩ := q2
        refine ⟨b, e, hd b n, fun z => ?_⟩
        rcases o3 b z with z | ⟨z1, z2⟩
        · exact no z
        · exact hne b z1 z2 n
      | bor _ => exact q2
    rcases set_core2 (i := j) ok3 r3 st3 with e4 | ⟨ρ4, e4, ok4, st4, _⟩
    · rw [e4] at h3; exact h3.elim
    · rw [e4] at h3
      exact h3 _ H2 F2 st4 ok4
end
theorem PostS.sbK {K : PySem.W.Frag} {Z : Fix} {σ : L2.St} {H : Hp} {F : AP'} {ρ : Env'} {D : Ends} {f : Res SV} {g : SV → Env' → SRes} (k : Bool) (h : PostS K Z σ H F ρ (f.sb g) D) :
    PostG K Z (RSV K Z) σ H F ρ f (fun v H1 => ∃ sv F1 ρ1, EnvOk K Z.fa H1 F1 σ ρ1 ∧ StepE H F σ ρ H1 F1 σ ρ1 ∧ ResOk K Z.fa H H1 F1 σ ρ1 v (keepO k sv) ∧ PostS K Z σ H F ρ (g sv ρ1) D) := by
  cases f with
  | ok sv ρ' =>
    intro v H' F' s ok r
    obtain ⟨F2, ok2, r2, up⟩ := ResOk.keepO (k := k) ok r
    exact ⟨sv, F2, ρ', ok2, up s, r2, h⟩
  | exc x ρ' => exact fun cls d H' F' s ok q => h cls d σ H' F' s ok q
  | stuck => exact h
theorem PostS.sb2 {K : PySem.W.Frag} {Z : Fix} {σ : L2.St} {H H1 : Hp} {F F1 : AP'} {ρ ρ1 : Env'} {D : Ends} {f : Res SV} {g : SV → Env' → SRes} (st : StepE H F σ ρ H1 F1 σ ρ1) (h : PostS K Z σ H F ρ (f.sb g) D) :
    PostG K Z (RSV K Z) σ H1 F1 ρ1 f (fun v H2 => ∃ sv F2 ρ2, EnvOk K Z.fa H2 F2 σ ρ2 ∧ StepE H1 F1 σ ρ1 H2 F2 σ ρ2 ∧ ResOk K Z.fa H1 H2 F2 σ ρ2 v sv ∧ PostS K Z σ H F ρ (g sv ρ2) D) := by
  cases f with
  | ok sv ρ' => exact fun v H' F' s ok r => ⟨sv, F', ρ', ok, s, r, h⟩
  | exc x ρ' => exact fun cls d H' F' s ok q => h cls d σ H' F' (st.trans s) ok q
  | stuck => exact h
section
variable {X : Cx} {Z : Fix} {i j : Nat} {x y : Str} {pos : Pos}
theorem psd_parO {ka : Bool} {f g : Env' → Res SV} {a b : Expr} {px py pt pt2 : Pos} {kt k2} (hc : X.calm = true) (hN : X.N.Nodup) (hi : X.N[i]? = some x) (hj : X.N[j]? = some y) (hij : i ≠ j)
    (hx : X.env.scope.names.lookup x = some .local) (hy : X.env.scope.names.lookup y = some .local) (ha : PEd X Z a f) (hb : PEd X Z b g) (hs1 : starEach [a, b] X.env = (false, eval a X.env) :: starEach [b] X.env) (hs2 : starEach [b] X.env = (false, eval b X.env) :: starEach [] X.env)
    (hw : swappedStores [.Tuple [.Name x px, .Name y py] kt pt] (.Tuple [a, b] k2 pt2) X.env = pure (some [x, y]))
    (hs : swapsWithSole [.Tuple [.Name x px, .Name y py] kt pt] (.Tuple [a, b] k2 pt2) pos.line X.env = pure false) :
    PSd X Z (.Assign [.Tuple [.Name x px, .Name y py] kt pt] (.Tuple [a, b] k2 pt2) pos) (fun ρ => (f ρ).sb fun sv ρ1 => (g ρ1).sb fun sw ρ2 => (setS i (keepO ka sv) ρ2).sq fun ρ3 => setS j sw ρ3) := by
  refine PS.weak (ps_par hc hN hi hj hij hx hy (pa_cons ha (pa_cons hb pa_nil hs2) hs1) hw hs) ?_
  rintro D σ H ⟨F, ρ, ok, h⟩
  refine ⟨F, ρ, ok, (PostS.sbK ka h).imp ?_⟩
  rintro v H1 ⟨sv, F1, ρ1, ok1, st, r, h1⟩
  refine ⟨F1, ρ1, ok1, (PostS.sb2 st h1).imp ?_⟩
  rintro w H2 ⟨sw, F2, ρ2, ok2, st2, r2, h2⟩
  refine ⟨v, w, rfl, ?_⟩
  obtain ⟨r1, ne⟩ := r.air ok1 st2
  exact par_core ok2 r1 r2 st.dom ne (st.trans st2) h2
/-- .. unpacked from a tuple -/
theorem psd_parP {ka : Bool} {f g : Env' → Res SV} {a b : Expr} {px py pt pt2 : Pos} {kt k2} (hc : X.calm = true) (hN : X.N.Nodup) (hi : X.N[i]? = some x) (hj : X.N[j]? = some y) (hij : i ≠ j)
    (hx : Loc X.env.scope x) (hy : Loc X.env.scope y) (hfx : X.fn x = true ∨ X.env.scope.names.lookup x = some .local) (hfy : X.fn y = true ∨ X.env.scope.names.lookup y = some .local) (ha : PEd X Z a f) (hb : PEd X Z b g) (hs1 : starEach [a, b] X.env = (false, eval a X.env) :: starEach [b] X.env) (hs2 : starEach [b] X.env = (false, eval b X.env) :: starEach [] X.env)
    (hw : swappedStores [.Tuple [.Name x px, .Name y py] kt pt] (.Tuple [a, b] k2 pt2) X.env = pure none)
    (hs : swapsWithSole [.Tuple [.Name x px, .Name y py] kt pt] (.Tuple [a, b] k2 pt2) pos.line X.env = pure false) :
    PSd X Z (.Assign [.Tuple [.Name x px, .Name y py] kt pt] (.Tuple [a, b] k2 pt2) pos) (fun ρ => (f ρ).sb fun sv ρ1 => (g ρ1).sb fun sw ρ2 => (setS i (keepO ka sv) ρ2).sq fun ρ3 => setS j sw ρ3) := by
  refine PS.weak (ps_asg (pe_tup (pa_cons ha (pa_cons hb pa_nil hs2) hs1)) (pg_tup hc (pgs_cons (pg_name hN hi hx hfx) (pgs_cons (pg_name hN hj hy hfy) pgs_nil))) hs hw) ?_
  rintro D σ H ⟨F, ρ, ok, h⟩
  refine ⟨F, ρ, ok, (PostS.sbK ka h).imp ?_⟩
  rintro v H1 ⟨sv, F1, ρ1, ok1, st, r, h1⟩
  refine ⟨F1, ρ1, ok1, (PostS.sb2 st h1).imp ?_⟩
  rintro w H2 ⟨sw, F2, ρ2, ok2, st2, r2, h2⟩
  obtain ⟨r1, ne⟩ := r.air ok1 st2
  refine ⟨by rw [z24]; show 2 ≤ Z24; decide, fun p hp => ⟨p, [v, w], rfl, .inl (.inl upd_same), rfl, _, _, rfl, _, _, rfl, rfl, ?_⟩⟩
  have gr : Grow H2 F2 (upd H2 p (.tup [v, w])) F2 := Grow.new ok2.fd hp
  exact par_core (ok2.grow gr) (r1.air ok2 gr.step).1 (r2.air ok2 gr.step).1 st.dom ne ((st.trans st2).trans gr.step) h2
end
end DL

namespace DL
open PySem PySem.Spec PyProof.Rows L2

/-! ### what is ours is written -/
section
variable {X : Cx} {Z : Fix} {e k : Expr} {st : Stmt} {pos p p2 : Pos} {i j : Nat} {x y : Str}
/-- a PSet of lists and dicts -/
def rPut : TSet := fun o i v H Q => rSetL o i v H Q ∨ rSetD o i v H Q
theorem set_put (hu : X.A.units + 1 < cLine) : PSet X rPut := by
  intro pins s σ H o i v ov iv u Q I ro ri rv h
  rcases h with h | h
  · exact set_list pins s σ H o i v ov iv u Q I ro ri rv h
  · exact set_dict hu pins s σ H o i v ov iv u Q I ro ri rv h
theorem modS_ok {K : PySem.W.Frag} {σ : L2.St} {H : Hp} {F : AP'} {ρ : Env'} {De : Ends} {g : D → Option D} (ok : EnvOk K Z.fa H F σ ρ) (h : PostS K Z σ H F ρ (modS i g ρ) De) :
    ∃ a d d', σ[i]? = some (some (.ref a)) ∧ g d = some d' ∧ OwnAt K Z.fa H F a d ∧ ¬ F a ∧ ∀ o, OwnAt K Z.fa (upd H a o) F a d' → De.nx σ (upd H a o) := by
  unfold modS at h
  split at h
  · rename_i d e1
    split at h
    · rename_i d' e2
      obtain ⟨v, e3, a, rfl, nf, ow⟩ := ok.slot i _ e1
      refine ⟨a, d, d', e3, e2, ow, nf, fun o how => ?_⟩
      obtain ⟨ok', st⟩ := ok.mutate (sw := .own d') e1 rfl e3 (.inl ⟨rfl, rfl⟩) how
      exact h σ _ F st ok'
    · exact h.elim
  · rename_i d e1
    split at h
    · rename_i d' e2
      obtain ⟨v, e3, a, rfl, nf, ow⟩ := ok.slot i _ e1
      refine ⟨a, d, d', e3, e2, ow, nf, fun o how => ?_⟩
      obtain ⟨ok', st⟩ := ok.mutate (sw := .bor d') e1 rfl e3 (.inr ⟨rfl, rfl⟩) how
      exact h σ _ F st ok'
    · exact h.elim
  · exact h.elim
theorem DRep.here {κ : Type} {K : PySem.W.Frag} {fa : Nat → Option Addr} {H H' : Hp} {F F' : AP'} {kvs : List (κ × V)} {kds : List (κ × D)} (s : Stays H F H' F') (h : DRep K fa H F kvs kds) : DRep K fa H' F' kvs kds := ⟨h.1, h.2.stays s⟩
/-- a write to what is ours leaves readings -/
theorem stays_upd {K : PySem.W.Frag} {fa : Nat → Option Addr} {H : Hp} {F : AP'} {a : Addr} {d : D} {o : HO} (ow : OwnAt K fa H F a d) (nf : ¬ F a) : Stays H F (upd H a o) F := by
  obtain ⟨o0, ho0, nt, nz⟩ := ow.some
  refine ⟨fun b xs h => ?_, fun b u f h => ?_, fun _ h => h, fun b o u h => by
    have ne : b ≠ a := by intro z; subst z; rw [ho0] at h; exact nz _ _ (Option.some.inj h)
    rw [upd_ne ne]; exact h⟩
  · have ne : b ≠ a := by intro z; subst z; rw [ho0] at h; exact nt _ (Option.some.inj h)
    rw [upd_ne ne]; exact h
  · have ne : b ≠ a := by intro z; subst z; exact nf f
    unfold Rd
    rw [upd_ne ne]; exact h
theorem psd_store {fv fk : Env' → Res SV} (hu : X.A.units + 1 < cLine) (hN : X.N[i]? = some x) (hvs : Vis X.env.scope x) (hd : (x == ("__debug__" : Str)) = false) (hcd : (x == ("__classdict__" : Str)) = false) (hv : PEd X Z e fv) (hk : PEd X Z k fk)
    (hs : swapsWithSole [.Subscript (.Name x p) k p2] e pos.line X.env = pure false) (hw : swappedStores [.Subscript (.Name x p) k p2] e X.env = pure none)
    (ha : ∀ v, assign (.Subscript (.Name x p) k p2) X.env v = (do
      let ov ← holding [v] (eval (.Name x p) X.env)
      let iv ← holding [v, ov] (eval k X.env)
      standAt p2
      holding [v, ov, iv] (setItem ov iv v)
      release [v, ov, iv] []))
    (h1 : (assignEach [.Subscript (.Name x p) k p2] X.env).map (·.2) = [assign (.Subscript (.Name x p) k p2) X.env]) :
    PSd X Z (.Assign [.Subscript (.Name x p) k p2] e pos) (fun ρ => (fv ρ).sb fun sv ρ1 => if hasSlot ρ1 i = true then (fk ρ1).sb fun sk ρ2 => modS i (fun d => putAt d sk.d sv.d) ρ2 else .stuck) := by
  refine PS.weak (ps_asg hv (pg_sub (pe_var hN hvs hd hcd) hk (set_put hu) ha) hs hw h1) ?_
  rintro De σ H ⟨F, ρ, ok, h⟩
  refine ⟨F, ρ, ok, (PostS.sbF h).imp ?_⟩
  rintro v H1 ⟨sv, F1, ρ1, ok1, st, r, h1⟩
  split at h1
  · rename_i hsl
    have ex : ∃ o, σ[i]? = some (some o) := by
      unfold hasSlot at hsl
      split at hsl
      · rename_i sw e1
        obtain ⟨o, e2, _⟩ := ok1.slot i sw e1
        exact ⟨o, e2⟩
      · cases hsl
    obtain ⟨o, e0⟩ := ex
    refine ⟨o, e0, F1, ρ1, ok1, (PostS.sbF h1).imp ?_⟩
    rintro y H2 ⟨sk, F2, ρ2, ok2, st2, r2, h2⟩
    obtain ⟨a, d, d', e3, eg, ow, nf, q⟩ := modS_ok ok2 h2
    rw [e0] at e3
    cases e3
    have r' := Rep.stays (st2.stays ok1) r
    cases ow with
    | lst hq rl =>
      rename_i xs ds
      unfold putAt at eg
      dsimp only at eg
      split at eg
      · rename_i n ek
        rw [ek] at r2
        cases r2
        cases ej : ixN ds.length n with
        | none => rw [ej] at eg; cases eg
        | some j =>
          rw [ej] at eg
          cases eg
          refine .inl ⟨a, xs, n, j, rfl, rfl, hq, by rw [rl.length]; exact ej, q _ ?_⟩
          have sy : Stays H2 F2 (upd H2 a (.lst (xs.set j v))) F2 := stays_upd (.lst hq rl) nf
          exact .lst upd_same ((rl.set j r').stays sy)
      · cases eg
    | dK hq rl =>
      rename_i kvs kds
      unfold putAt at eg
      dsimp only at eg
      split at eg
      · rename_i hl
        cases ek : keyOf sk.d with
        | none => rw [ek] at eg; cases eg
        | some kk =>
          rw [ek] at eg
          cases eg
          obtain rfl := keyOf_ok r2 ek
          refine .inr ⟨a, _, rfl, DPut.k hq (by rw [rl.length, z24]; exact hl), q _ ?_⟩
          have sy : Stays H2 F2 (upd H2 a (.dK (putK kvs kk v))) F2 := stays_upd (.dK hq rl) nf
          exact .dK upd_same ((rl.put r').here sy)
      · cases eg
    | dT hq rl =>
      rename_i kvs kds
      unfold putAt at eg
      dsimp only at eg
      split at eg
      · rename_i hl
        split at eg
        · rename_i ks ek0
          rw [ek0] at r2
          cases ek : keysOf ks with
          | none => rw [ek] at eg; cases eg
          | some kk =>
            rw [ek] at eg
            cases eg
            cases r2 with
            | tup hb rb =>
              obtain rfl := keysOf_ok rb ek
              refine .inr ⟨a, _, rfl, DPut.t hq hb (by rw [rl.length, z24]; exact hl), q _ ?_⟩
              have sy : Stays H2 F2 (upd H2 a (.dT (putK kvs kk v))) F2 := stays_upd (.dT hq rl) nf
              exact .dT upd_same ((rl.put r').here sy)
        · cases eg
      · cases eg
  · exact h1.elim
theorem psd_app {f : Env' → Res SV} (hN : X.N[i]? = some x) (hvs : Vis X.env.scope x) (hd : (x == ("__debug__" : Str)) = false) (hcd : (x == ("__classdict__" : Str)) = false) (hv : PEd X Z e f)
    (hbase : attributeBase (.Name x p) "append" X.env (eval (.Name x p) X.env) = eval (.Name x p) X.env)
    (hfew : ((backTo p2 (starEach (e :: []) X.env)).all (fun x => !x.1) && (backToKw p2 (keywordEach [] X.env)).all (fun x => x.1.isSome)
      && decide ((e :: ([] : List Expr)).length + ([] : List Keyword).length + (if ([] : List Keyword).isEmpty then 0 else 1) < 30)) = true) {apos : Pos}
    (hline : (apos.endLine == p2.line) = true) (hs : starEach (e :: []) X.env = (false, eval e X.env) :: starEach [] X.env)
    (hsw : swapsWith (.Call (.Attribute (.Name x p) "append" apos) [e] [] p2) none pos.line X.env = pure false) :
    PSd X Z (.Expr (.Call (.Attribute (.Name x p) "append" apos) [e] [] p2) pos) (fun ρ => if hasLst ρ i = true then (f ρ).sb fun sv ρ1 => modS i (fun d => pushAt d sv.d) ρ1 else .stuck) := by
  refine PS.weak (ps_expr (pe_bm PySem.F.plainAttrs_list PySem.F.slot_list_append PySem.F.type_list_append mt_append (pe_var hN hvs hd hcd) (pa_cons hv pa_nil hs) hbase hfew hline hs rfl) hsw) ?_
  rintro De σ H ⟨F, ρ, ok, h⟩
  dsimp only at h
  split at h
  · rename_i hl
    have ex : ∃ a ds, σ[i]? = some (some (.ref a)) ∧ OwnAt X.K Z.fa H F a (.lst ds) := by
      unfold hasLst at hl
      split at hl
      · rename_i ds e1
        obtain ⟨o, e2, a, rfl, nf, ow⟩ := ok.slot i _ e1
        exact ⟨a, ds, e2, ow⟩
      · rename_i ds e1
        obtain ⟨o, e2, a, rfl, nf, ow⟩ := ok.slot i _ e1
        exact ⟨a, ds, e2, ow⟩
      · cases hl
    obtain ⟨a, ds, e0, ow⟩ := ex
    refine ⟨_, e0, ?_, F, ρ, ok, (PostS.sbF h).imp ?_⟩
    · cases ow with
      | lst hq rl => exact .inl ⟨rfl, _, .inl (.inl hq)⟩
    · rintro v H1 ⟨sv, F1, ρ1, ok1, st, r, h1⟩
      obtain ⟨a', d, d', e3, eg, ow', nf, q⟩ := modS_ok ok1 h1
      rw [e0] at e3
      cases e3
      cases ow' with
      | lst hq rl =>
        unfold pushAt at eg
        dsimp only at eg
        split at eg
        · rename_i hz
          cases eg
          refine ⟨a, _, v, rfl, rfl, hq, by rw [rl.length, z24]; exact hz, q _ ?_⟩
          exact .lst upd_same ((rl.snoc r).stays (stays_upd (.lst hq rl) nf))
        · cases eg
      | dK _ _ => cases eg
      | dT _ _ => cases eg
  · exact h.elim
end
end DL

namespace DL
open PySem PySem.Spec PyProof.Rows L2

section
variable {K : PySem.W.Frag} {fa : Nat → Option Addr} {EX : ExR} {H : Hp} {F : AP'}
theorem RepSs.length : ∀ {vs : List V} {svs : List SV}, RepSs K fa H F vs svs → vs.length = svs.length
  | _, _, .nil => rfl
  | _, _, .cons _ r => by rw [List.length_cons, List.length_cons, RepSs.length r]
theorem RepSs.get : ∀ {vs : List V} {svs : List SV} {i : Nat} {sv : SV}, RepSs K fa H F vs svs → svs[i]? = some sv → ∃ v, vs[i]? = some v ∧ RepS K fa H F v sv
  | _, _, _, _, .nil, h => by simp at h
  | _, _, 0, _, .cons h _, e => by simp at e; subst e; exact ⟨_, rfl, h⟩
  | _, _, i + 1, _, .cons _ r, e => by
    obtain ⟨v, h1, h2⟩ := RepSs.get (i := i) r (by simpa using e)
    exact ⟨v, by simpa using h1, h2⟩
def env0 (svs : List SV) (m : Nat) : Env' := svs.map some ++ List.replicate m none
theorem env0_get {svs : List SV} {m i : Nat} {sv : SV} (h : (env0 svs m)[i]? = some (some sv)) : svs[i]? = some sv := by
  unfold env0 at h
  by_cases hi : i < svs.length
  · rw [List.getElem?_append_left (by simpa using hi), List.getElem?_map] at h
    cases e : svs[i]? with
    | none => rw [e] at h; cases h
    | some a => rw [e] at h; cases h; rfl
  · rw [List.getElem?_append_right (by simpa using hi), List.getElem?_replicate] at h
    split at h <;> cases h
theorem start_get {N : List Str} {vs : List V} {i : Nat} {v : V} (h : vs[i]? = some v) : (start N vs)[i]? = some (some v) := by
  unfold L2.start
  rw [List.getElem?_append_left (by simpa using get_lt h), List.getElem?_map, h]; rfl
theorem start_get' {N : List Str} {vs : List V} {i : Nat} {v : V} (h : (start N vs)[i]? = some (some v)) : vs[i]? = some v := by
  unfold L2.start at h
  by_cases hi : i < vs.length
  · rw [List.getElem?_append_left (by simpa using hi), List.getElem?_map] at h
    cases e : vs[i]? with
    | none => rw [e] at h; cases h
    | some a => rw [e] at h; cases h; rfl
  · rw [List.getElem?_append_right (by simpa using hi), List.getElem?_replicate] at h
    split at h <;> cases h
theorem args_mine {svs : List SV} {i : Nat} {sv : SV} (a : ArgsOk svs) (h : svs[i]? = some sv) (m : sv.mine = true) : i = 0 ∧ sv.lent = true := by
  cases svs with
  | nil => simp at h
  | cons s ss =>
    obtain ⟨a1, a2⟩ := a
    cases i with
    | zero =>
      simp at h; subst h
      cases s with
      | dat _ => cases m
      | own d => exact absurd rfl (a1 d)
      | bor d => exact ⟨rfl, rfl⟩
    | succ i =>
      have := a2 sv (List.mem_of_getElem? (by simpa using h))
      obtain ⟨d, rfl⟩ := this
      cases m
theorem own_lent {N : List Str} {vs : List V} {svs : List SV} {m : Nat} (r : RepSs K fa H F vs svs) (a : ArgsOk svs) (x : Addr) : (Own (start N vs) (env0 svs m) x → lentA vs svs x) ∧ (lentA vs svs x → Bor (start N vs) (env0 svs m) x) := by
  refine ⟨fun ⟨i, sv, h1, h2, h3⟩ => ?_, fun h => ?_⟩
  · have e1 := env0_get h1
    have e3 := start_get' h3
    obtain ⟨rfl, l⟩ := args_mine a e1 h2
    cases r with
    | nil => simp at e1
    | @cons v vs0 s ss r0 rr =>
      have e1' : s = sv := by simpa using e1
      have e3' : v = .ref x := by simpa using e3
      rw [← e1'] at l
      cases s with
      | dat _ => cases l
      | own _ => cases l
      | bor _ => exact e3'
  · cases r with
    | nil => exact h.elim
    | cons r0 rr =>
      rename_i v vs sv svs
      cases sv with
      | dat _ => exact h.elim
      | own _ => exact h.elim
      | bor d =>
        cases (show v = .ref x from h)
        exact ⟨0, .bor d, rfl, rfl, rfl⟩
theorem bor_own {σ : L2.St} {ρ : Env'} {x : Addr} (h : Bor σ ρ x) : Own σ ρ x := by
  obtain ⟨i, sv, h1, h2, h3⟩ := h
  exact ⟨i, sv, h1, (by cases sv <;> first | rfl | cases h2), h3⟩
theorem env0_ok {N : List Str} {vs : List V} {svs : List SV} (r : RepSs K fa H F vs svs) (a : ArgsOk svs) (fd : ∀ a, F a → H a ≠ none) : EnvOk K fa H F (start N vs) (env0 svs (N.length - svs.length)) := by
  refine ⟨?_, fun i sv h => ?_, fun i j sv sw x h1 h2 m1 m2 _ _ => ?_, fd⟩
  · unfold L2.start env0
    simp [r.length]
  · obtain ⟨v, h1, h2⟩ := r.get (env0_get h)
    exact ⟨v, start_get h1, h2⟩
  · rw [(args_mine a (env0_get h1) m1).1, (args_mine a (env0_get h2) m2).1]
theorem isLent_iff {svs : List SV} : isLent svs = true ↔ ∃ d r, svs = .bor d :: r := by
  constructor
  · intro h
    unfold isLent at h
    split at h
    · exact ⟨_, _, rfl⟩
    · cases h
  · rintro ⟨d, r, rfl⟩; rfl
/-- a body's end as the def's -/
theorem fin_ok {Z : Fix} {E : XK} {Q : VK} {N : List Str} {vs : List V} {svs : List SV} {r : SRes} (hZ : Z = ⟨fa, EX, fun cls d _ H => E cls d H⟩) (rr : RepSs K fa H F vs svs) (a : ArgsOk svs)
    (h : PostF K fa EX H F vs svs (finF (isLent svs) r) Q E) : PostS K Z (start N vs) H F (env0 svs (N.length - svs.length)) r { nx := fun _ H' => Q .non H', rt := Q } := by
  subst hZ
  have toStep : ∀ {H' F' σ' ρ'}, StepE H F (start N vs) (env0 svs (N.length - svs.length)) H' F' σ' ρ' → Step H F (lentA vs svs) (lentA vs svs) H' F' (lentA vs svs) (lentA vs svs) := fun {H' F' σ' ρ'} s =>
    ⟨fun x o e no => s.keep x o e fun z => no ((own_lent rr a x).1 z), s.fmono, fun x f => by
      rcases s.fnew x f with z | z | ⟨z1, z2⟩
      · exact .inl z
      · exact .inr (.inl z)
      · exact absurd ((own_lent rr a x).2 ((own_lent rr a x).1 z1)) z2, fun x h => .inl h, fun x => Iff.rfl, s.dom⟩
  -- the end with what is handed back
  have fin : ∀ {ρ' : Env'} {g : Option D → FRes}, PostF K fa EX H F vs svs (endF (isLent svs) ρ' g) Q E → ∃ b, PostF K fa EX H F vs svs (g b) Q E ∧ ∀ H' F' σ', StepE H F (start N vs) (env0 svs (N.length - svs.length)) H' F' σ' ρ' → EnvOk K fa H' F' σ' ρ' → Back K fa vs svs b H' F' := fun {ρ' g} h => by
    unfold endF at h
    split at h
    · rename_i hl
      obtain ⟨d0, rest, rfl⟩ := isLent_iff.mp hl
      split at h
      · rename_i d hb
        refine ⟨some d, h, fun H' F' σ' s ok => ?_⟩
        unfold backOf at hb
        split at hb
        · rename_i d' ρr
          cases hb
          cases rr with
          | cons r0 rr' =>
            rename_i v vs'
            obtain ⟨w, e1, x, rfl, nf, ow⟩ := ok.slot 0 (.bor d) rfl
            have hbx : Bor σ' (some (.bor d) :: ρr) x := ⟨0, .bor d, rfl, rfl, e1⟩
            have := (own_lent (N := N) (m := N.length - (SV.bor d0 :: rest).length) (.cons r0 rr') a x).1 (bor_own ((s.bor x).mp hbx))
            exact ⟨x, this, nf, ow⟩
        · cases hb
      · exact h.elim
    · rename_i hl
      refine ⟨none, h, fun H' F' σ' s ok => ?_⟩
      cases svs with
      | nil => cases vs <;> trivial
      | cons sv svs =>
        cases sv with
        | dat _ => cases vs <;> trivial
        | own d => exact absurd rfl (a.1 d)
        | bor _ => exact absurd rfl hl
  cases r with
  | nx ρ' =>
    obtain ⟨b, h1, h2⟩ := fin h
    exact fun σ' H' F' s ok => h1 .non H' F' (toStep s) ok.fd .non (fun m => by cases m) (h2 H' F' σ' s ok)
  | rt sv ρ' =>
    obtain ⟨b, h1, h2⟩ := fin h
    refine fun v σ' H' F' s ok q => h1 v H' F' (toStep s) ok.fd q.1 (fun m => ?_) (h2 H' F' σ' s ok)
    cases sv with
    | dat _ => cases m
    | own d =>
      obtain ⟨x, e, nb, o⟩ := q.2
      refine ⟨d, x, rfl, e, ?_⟩
      rcases o with o | o
      · rcases s.onew x o with z | z
        · exact absurd ((s.bor x).mpr ((own_lent rr a x).2 ((own_lent rr a x).1 z))) nb
        · exact z
      · exact o
    | bor _ => exact q.2.elim
  | exc x ρ' =>
    obtain ⟨b, h1, h2⟩ := fin h
    exact fun cls d σ' H' F' s ok q => h1 cls d H' F' (toStep s) ok.fd (h2 H' F' σ' s ok) q
  | bk ρ' => exact h.elim
  | ct ρ' => exact h.elim
  | stuck => exact h.elim
end
section
variable {P : Program} {w : World} {K : PySem.W.Frag} {mg : Str → Option Value} {base : Heap} {fa : Nat → Option Addr} {EX : ExR}
theorem fn_ok {x qual : Str} {st : Stmt} {f : Addr} {fd : FuncData} {N ps : List Str} {k n j : Nat} {defs : Nat → Option Fd} {gv : Nat → Option D} {dj : Fd} (F : L2.FunD K x qual (defArgs st) (defBody st) (defScope st) [] [] f fd) (S : FnScope N ps (defScope st)) (hj : defs j = some dj) (hp : dj.np = ps.length) (hl : dj.nl = N.length)
    (hbody : ∀ (cdv : Value) (A : Around) (outer : List Env) (s : Shared) (H : Hp) (E : XK), Room k (A.deeper (envOfC qual (defScope st) s.heap.objs.size f cdv)) →
      PSsd (cxOf (L2.CX P w) P w K mg base N qual (defScope st) f cdv A outer s H E) ⟨fa, EX, fun cls d _ H => E cls d H⟩ (defBody st) (exSs ⟨semK defs gv n k, fun i => match defs i with
          | some g => g.lend
          | none => false, gv⟩ n dj.body)) : FnOk P w K mg base (L2.CX P w) (k + 1) f fd ps (spF K fa EX (semK defs gv n (k + 1) j)) := by
  have unf : ∀ {vs H Q E}, spF K fa EX (semK defs gv n (k + 1) j) vs H Q E → ∃ F svs, (∀ a, F a → H a ≠ none) ∧ RepSs K fa H F vs svs ∧ ArgsOk svs ∧ svs.length = ps.length ∧ PostF K fa EX H F vs svs (finF (isLent svs) (exSs ⟨semK defs gv n k, fun i => match defs i with
          | some g => g.lend
          | none => false, gv⟩ n dj.body (env0 svs (N.length - svs.length)))) Q E := by
    rintro vs H Q E ⟨F, svs, fd, rr, a, h⟩
    unfold semK at h
    rw [hj] at h
    dsimp only at h
    split at h
    · rename_i hc
      refine ⟨F, svs, fd, rr, a, hc.1.trans hp, ?_⟩
      rw [← hl, hc.2, hc.1]
      exact h
    · exact h.elim
  refine L2.FunD.ok F S (fun vs H Q E h => ?_) fun cdv A outer s H vs Q E hr h => ?_
  · obtain ⟨F, svs, fd, rr, a, e, _⟩ := unf h
    rw [rr.length, e]
  · obtain ⟨F, svs, fd, rr, a, e, h⟩ := unf h
    exact ⟨_, hbody cdv A outer s H E hr, F, _, env0_ok rr a fd, fin_ok rfl rr a h⟩
end
end DL

namespace DL
open PySem PySem.Spec PyProof.Rows L2

/-! ### slots of a comprehension's own -/
theorem wipeR_len {ρ : Env'} : ∀ {vs : List Nat}, (wipeR ρ vs).length = ρ.length
  | [] => rfl
  | v :: vs => by unfold wipeR; rw [List.length_set, wipeR_len]
theorem wipeR_out {ρ : Env'} {i : Nat} : ∀ {vs : List Nat}, i ∉ vs → (wipeR ρ vs)[i]? = ρ[i]?
  | [], _ => rfl
  | v :: vs, h => by
    have h1 : v ≠ i := fun e => h (by rw [e]; exact List.mem_cons_self)
    unfold wipeR
    rw [List.getElem?_set_ne h1]
    exact wipeR_out fun m => h (List.mem_cons_of_mem _ m)
theorem wipeR_some {ρ : Env'} {i : Nat} {x : SV} : ∀ {vs : List Nat}, (wipeR ρ vs)[i]? = some (some x) → ρ[i]? = some (some x) ∧ i ∉ vs
  | [], h => ⟨h, by simp⟩
  | v :: vs, h => by
    unfold wipeR at h
    rcases set_get h with ⟨_, z⟩ | ⟨ne, h⟩
    · cases z
    · obtain ⟨h1, h2⟩ := wipeR_some h
      exact ⟨h1, by simp only [List.mem_cons, not_or]; exact ⟨fun e => ne e.symm, h2⟩⟩
theorem wipe_in {σ : L2.St} {i : Nat} : ∀ {vs : List Nat}, i ∈ vs → i < σ.length → (wipe σ vs)[i]? = some none
  | v :: vs, h, hl => by
    unfold wipe
    by_cases e : v = i
    · subst e
      rw [List.getElem?_set_self (by rw [wipe_length]; exact hl)]
    · rw [List.getElem?_set_ne e]
      rcases List.mem_cons.mp h with z | z
      · exact absurd z.symm e
      · exact wipe_in z hl
theorem wipe_keep {σ σ' : L2.St} {ws vs : List Nat} (h : KeepT ws σ σ') (hs : ∀ i ∈ ws, i ∈ vs) : wipe σ' vs = wipe σ vs := by
  apply List.ext_getElem?
  intro i
  by_cases m : i ∈ vs
  · by_cases hl : i < σ.length
    · rw [wipe_in m hl, wipe_in m (by rw [h.1]; exact hl)]
    · rw [List.getElem?_eq_none (by rw [wipe_length, h.1]; omega), List.getElem?_eq_none (by rw [wipe_length]; omega)]
  · rw [wipe_out m, wipe_out m]
    exact h.2 i fun z => m (hs i z)
theorem wipe_wipe {σ : L2.St} {ws vs : List Nat} (hs : ∀ i ∈ ws, i ∈ vs) : wipe (wipe σ ws) vs = wipe σ vs :=
  wipe_keep ⟨wipe_length _ _, fun i h => wipe_out h⟩ hs
theorem backR_len {ρ0 ρ : Env'} : ∀ {vs : List Nat}, (backR ρ0 ρ vs).length = ρ.length
  | [] => rfl
  | v :: vs => by unfold backR; rw [List.length_set, backR_len]
theorem backR_out {ρ0 ρ : Env'} {i : Nat} : ∀ {vs : List Nat}, i ∉ vs → (backR ρ0 ρ vs)[i]? = ρ[i]?
  | [], _ => rfl
  | v :: vs, h => by
    have h1 : v ≠ i := fun e => h (by rw [e]; exact List.mem_cons_self)
    unfold backR
    rw [List.getElem?_set_ne h1]
    exact backR_out fun m => h (List.mem_cons_of_mem _ m)
theorem backR_in {ρ0 ρ : Env'} {i : Nat} : ∀ {vs : List Nat}, i ∈ vs → i < ρ.length → (backR ρ0 ρ vs)[i]? = some ((ρ0[i]?).getD none)
  | v :: vs, h, hl => by
    unfold backR
    by_cases e : v = i
    · subst e
      rw [List.getElem?_set_self (by rw [backR_len]; exact hl)]
    · rw [List.getElem?_set_ne e]
      rcases List.mem_cons.mp h with z | z
      · exact absurd z.symm e
      · exact backR_in z hl
theorem tame_at {ρ : Env'} {vs : List Nat} (t : tame ρ vs = true) {i : Nat} (hi : i ∈ vs) {sv : SV} (e : ρ[i]? = some (some sv)) : sv.mine = false ∧ sv.lent = false := by
  unfold tame at t
  have h := List.all_eq_true.mp t i hi
  rw [e] at h
  cases sv with
  | dat _ => exact ⟨rfl, rfl⟩
  | own _ => cases h
  | bor _ => cases h
section
variable {K : PySem.W.Frag} {fa : Nat → Option Addr} {H H' H1 Hs : Hp} {F F' F1 Fs O B O' B' O1 B1 O2 B2 : AP'} {σ σ' : L2.St} {ρ ρ' ρ1 : Env'} {vs : List Nat} {a : Addr}
theorem EnvOk.wiped (ok : EnvOk K fa H F σ ρ) (vs : List Nat) : EnvOk K fa H F (wipe σ vs) (wipeR ρ vs) := by
  refine ⟨by rw [wipe_length, wipeR_len]; exact ok.len, fun i sv e => ?_, fun i j sv sw a h1 h2 m1 m2 s1 s2 => ?_, ok.fd⟩
  · obtain ⟨e1, ni⟩ := wipeR_some e
    obtain ⟨v, q1, q2⟩ := ok.slot i sv e1
    exact ⟨v, by rw [wipe_out ni]; exact q1, q2⟩
  · exact ok.apart i j sv sw a (wipeR_some h1).1 (wipeR_some h2).1 m1 m2 (wipe_some s1).1 (wipe_some s2).1
theorem own_wipe (h : Own (wipe σ vs) (wipeR ρ vs) a) : Own σ ρ a := by
  obtain ⟨i, sv, h1, h2, h3⟩ := h
  exact ⟨i, sv, (wipeR_some h1).1, h2, (wipe_some h3).1⟩
theorem bor_wipe (h : Bor (wipe σ vs) (wipeR ρ vs) a) : Bor σ ρ a := by
  obtain ⟨i, sv, h1, h2, h3⟩ := h
  exact ⟨i, sv, (wipeR_some h1).1, h2, (wipe_some h3).1⟩
theorem own_unwipe (t : tame ρ vs = true) (h : Own σ ρ a) : Own (wipe σ vs) (wipeR ρ vs) a := by
  obtain ⟨i, sv, h1, h2, h3⟩ := h
  have ni : i ∉ vs := fun z => by rw [(tame_at t z h1).1] at h2; cases h2
  exact ⟨i, sv, by rw [wipeR_out ni]; exact h1, h2, by rw [wipe_out ni]; exact h3⟩
theorem bor_unwipe (t : tame ρ vs = true) (h : Bor σ ρ a) : Bor (wipe σ vs) (wipeR ρ vs) a := by
  obtain ⟨i, sv, h1, h2, h3⟩ := h
  have ni : i ∉ vs := fun z => by rw [(tame_at t z h1).2] at h2; cases h2
  exact ⟨i, sv, by rw [wipeR_out ni]; exact h1, h2, by rw [wipe_out ni]; exact h3⟩
theorem Step.congr (s : Step H F O B H' F' O' B') (a : ∀ x, O x ↔ O1 x) (b : ∀ x, B x ↔ B1 x) (c : ∀ x, O' x ↔ O2 x) (d : ∀ x, B' x ↔ B2 x) : Step H F O1 B1 H' F' O2 B2 := by
  obtain rfl : O = O1 := funext fun x => propext (a x)
  obtain rfl : B = B1 := funext fun x => propext (b x)
  obtain rfl : O' = O2 := funext fun x => propext (c x)
  obtain rfl : B' = B2 := funext fun x => propext (d x)
  exact s
theorem EnvOk.back (ok1 : EnvOk K fa H1 F1 σ ρ1) (t : tame ρ1 vs = true) (st : Stays H1 F1 H F) (ok : EnvOk K fa H F (wipe σ vs) ρ) : EnvOk K fa H F σ (backR ρ1 ρ vs) := by
  have ln : σ.length = ρ.length := by rw [← ok.len, wipe_length]
  have get : ∀ {i : Nat} {sv : SV}, (backR ρ1 ρ vs)[i]? = some (some sv) → (i ∈ vs ∧ ρ1[i]? = some (some sv)) ∨ (i ∉ vs ∧ ρ[i]? = some (some sv)) := fun {i sv} e => by
    by_cases m : i ∈ vs
    · refine .inl ⟨m, ?_⟩
      have hl := get_lt e
      rw [backR_len] at hl
      rw [backR_in m hl] at e
      cases h : ρ1[i]? with
      | none => rw [h] at e; cases e
      | some x => rw [h] at e; cases x <;> cases e; rfl
    · rw [backR_out m] at e
      exact .inr ⟨m, e⟩
  refine ⟨by rw [backR_len]; exact ln, fun i sv e => ?_, fun i j sv sw a h1 h2 m1 m2 s1 s2 => ?_, ok.fd⟩
  · rcases get e with ⟨m, e1⟩ | ⟨m, e1⟩
    · obtain ⟨v, q1, q2⟩ := ok1.slot i sv e1
      refine ⟨v, q1, ?_⟩
      have := (tame_at t m e1).1
      cases sv with
      | dat d => exact Rep.stays st q2
      | own _ => cases this
      | bor _ => cases this
    · obtain ⟨v, q1, q2⟩ := ok.slot i sv e1
      exact ⟨v, by rw [wipe_out m] at q1; exact q1, q2⟩
  · rcases get h1 with ⟨m, e1⟩ | ⟨n1, e1⟩
    · rw [(tame_at t m e1).1] at m1; cases m1
    · rcases get h2 with ⟨m, e2⟩ | ⟨n2, e2⟩
      · rw [(tame_at t m e2).1] at m2; cases m2
      · exact ok.apart i j sv sw a e1 e2 m1 m2 (by rw [wipe_out n1]; exact s1) (by rw [wipe_out n2]; exact s2)
theorem slot_back (t : tame ρ1 vs = true) {P : SV → Bool} (hP : ∀ d, P (.dat d) = false) : (∃ (i : Nat) (sv : SV), (backR ρ1 ρ vs)[i]? = some (some sv) ∧ P sv = true ∧ σ[i]? = some (some (.ref a))) ↔ ∃ (i : Nat) (sv : SV), ρ[i]? = some (some sv) ∧ P sv = true ∧ (wipe σ vs)[i]? = some (some (.ref a)) := by
  constructor
  · rintro ⟨i, sv, h1, h2, h3⟩
    by_cases m : i ∈ vs
    · have hl := get_lt h1
      rw [backR_len] at hl
      rw [backR_in m hl] at h1
      cases h : ρ1[i]? with
      | none => rw [h] at h1; cases h1
      | some x =>
        rw [h] at h1
        cases x with
        | none => cases h1
        | some sw =>
          cases h1
          have := (tame_at t m h).1
          cases sv with
          | dat d => rw [hP] at h2; cases h2
          | own _ => cases this
          | bor _ => cases this
    · rw [backR_out m] at h1
      exact ⟨i, sv, h1, h2, by rw [wipe_out m]; exact h3⟩
  · rintro ⟨i, sv, h1, h2, h3⟩
    obtain ⟨q, m⟩ := wipe_some h3
    exact ⟨i, sv, by rw [backR_out m]; exact h1, h2, q⟩
theorem own_back (t : tame ρ1 vs = true) : Own σ (backR ρ1 ρ vs) a ↔ Own (wipe σ vs) ρ a := slot_back (P := SV.mine) t fun _ => rfl
theorem bor_back (t : tame ρ1 vs = true) : Bor σ (backR ρ1 ρ vs) a ↔ Bor (wipe σ vs) ρ a := slot_back (P := SV.lent) t fun _ => rfl

/-- within a comprehension: its new list at A holds acc -/
structure CAt (K : PySem.W.Frag) (fa : Nat → Option Addr) (A : Addr) (H1 : Hp) (F1 O1 B1 : AP') (Hs : Hp) (Fs : AP') (H : Hp) (F : AP') (σ : L2.St) (ρ : Env') (acc : List D) : Prop where
  ok : EnvOk K fa H F σ ρ
  st : Step H1 F1 O1 B1 H F (Own σ ρ) (Bor σ ρ)
  sy : Stays Hs Fs H F
  new : H1 A = none
  lst : ∃ xs, H A = some (.lst xs) ∧ RepL K fa H F xs acc
  nF : ¬ F A
  nO : ¬ Own σ ρ A
variable {A : Addr} {acc : List D}
theorem CAt.step (c : CAt K fa A H1 F1 O1 B1 Hs Fs H F σ ρ acc) (s : Step H F (Own σ ρ) (Bor σ ρ) H' F' (Own σ' ρ') (Bor σ' ρ')) (ok' : EnvOk K fa H' F' σ' ρ') : CAt K fa A H1 F1 O1 B1 Hs Fs H' F' σ' ρ' acc := by
  obtain ⟨xs, e, r⟩ := c.lst
  refine ⟨ok', c.st.trans s, c.sy.trans (s.stays c.ok), c.new, ⟨xs, (s.keep A _ e c.nO).resolve_right fun z => z.2.1, r.stays (s.stays c.ok)⟩, fun z => ?_, fun z => ?_⟩
  · rcases s.fnew A z with z | z | ⟨z, _⟩
    · exact c.nF z
    · rw [e] at z; cases z
    · exact c.nO z
  · rcases s.onew A z with z | z
    · exact c.nO z
    · rw [e] at z; cases z
theorem CAt.wiped (c : CAt K fa A H1 F1 O1 B1 Hs Fs H F σ ρ acc) (t : tame ρ vs = true) : CAt K fa A H1 F1 O1 B1 Hs Fs H F (wipe σ vs) (wipeR ρ vs) acc :=
  c.step ((Step.refl (H := H) (F := F) (O := Own σ ρ) (B := Bor σ ρ)).congr (fun _ => Iff.rfl) (fun _ => Iff.rfl) (fun _ => ⟨own_unwipe t, own_wipe⟩) fun _ => ⟨bor_unwipe t, bor_wipe⟩) (c.ok.wiped vs)
theorem CAt.grow (c : CAt K fa A H1 F1 O1 B1 Hs Fs H F σ ρ acc) (g : Grow H F H' F') : CAt K fa A H1 F1 O1 B1 Hs Fs H' F' σ ρ acc := c.step g.step (c.ok.grow g)
theorem CAt.push (c : CAt K fa A H1 F1 O1 B1 Hs Fs H F σ ρ acc) {xs : List V} (e : H A = some (.lst xs)) {y : V} {d : D} (r : Rep K fa H F y d) : CAt K fa A H1 F1 O1 B1 Hs Fs (upd H A (.lst (xs ++ [y]))) F σ ρ (acc ++ [d]) := by
  obtain ⟨xs', e', rl⟩ := c.lst
  rw [e] at e'; cases e'
  have sta : Stays H F (upd H A (.lst (xs ++ [y]))) F := stays_upd (OwnAt.lst (K := K) (fa := fa) e rl) c.nF
  refine ⟨⟨c.ok.len, fun i sv e2 => ?_, c.ok.apart, fun b f => ?_⟩, ⟨fun b o hb no => ?_, c.st.fmono, c.st.fnew, c.st.onew, c.st.bor, fun b hb => ?_⟩, c.sy.trans sta, c.new, ⟨_, upd_same, (rl.snoc r).stays sta⟩, c.nF, c.nO⟩
  · obtain ⟨v, q1, q2⟩ := c.ok.slot i sv e2
    refine ⟨v, q1, ?_⟩
    have far : ∀ b d', v = .ref b → sv.mine = true → OwnAt K fa H F b d' → OwnAt K fa (upd H A (.lst (xs ++ [y]))) F b d' := fun b d' ev m q =>
      q.stays (upd_ne fun z => c.nO ⟨i, sv, e2, m, by rw [q1, ev, z]⟩) sta
    cases sv with
    | dat d' => exact Rep.stays sta q2
    | own d' => obtain ⟨b, ev, nf, q⟩ := q2; exact ⟨b, ev, nf, far b d' ev rfl q⟩
    | bor d' => obtain ⟨b, ev, nf, q⟩ := q2; exact ⟨b, ev, nf, far b d' ev rfl q⟩
  · by_cases z : b = A
    · subst z; rw [upd_same]; exact fun q => nomatch q
    · rw [upd_ne z]; exact c.ok.fd b f
  · have ne : b ≠ A := by intro z; subst z; rw [c.new] at hb; cases hb
    rw [upd_ne ne]; exact c.st.keep b o hb no
  · by_cases z : b = A
    · subst z; rw [upd_same] at hb; cases hb
    · rw [upd_ne z] at hb; exact c.st.dom b hb
theorem CAt.rebase (c : CAt K fa A H1 F1 O1 B1 Hs Fs H F σ ρ acc) {Hr : Hp} {Fr : AP'} (s : Stays Hr Fr H F) : CAt K fa A H1 F1 O1 B1 Hr Fr H F σ ρ acc := ⟨c.ok, c.st, s, c.new, c.lst, c.nF, c.nO⟩

/-- a walk's turns, by what is left -/
theorem walk_lc {J : L2.It} {items : List D} {H0 : Hp} {F0 : AP'} (w : WalkD K fa J items Hs Fs) (P : List D → Hp → AP' → Prop) (hP : ∀ ds H F, P ds H F → Stays Hs Fs H F ∧ ∀ a, F a → H a ≠ none) (h0 : P items H0 F0) (Stop : Hp → Prop) (Turn : V → Hp → (Hp → Prop) → Prop)
    (hstop : ∀ H F, P [] H F → Stop H) (hturn : ∀ d ds H F x H', P (d :: ds) H F → Made K fa H F (.dat d) x H' → Turn x H' fun H2 => ∃ F2, P ds H2 F2) :
    ∃ W : Nat → Nat → Hp → Prop, (∃ m, W 0 m H0) ∧ ∀ i m H, W i m H → (J.stop i H ∧ Stop H) ∨ (J.go i H ∧ ∃ Nx : Hp → Prop, (∀ H', Nx H' → ∃ m', m' < m ∧ W (i + 1) m' H') ∧ ∀ x H', J.yld i H x H' → Turn x H' Nx) := by
  refine ⟨fun i m H => m = items.length - i ∧ i ≤ items.length ∧ ∃ F, P (items.drop i) H F, ⟨_, rfl, Nat.zero_le _, F0, by rw [List.drop_zero]; exact h0⟩, ?_⟩
  rintro i m H ⟨rfl, hi, F, p⟩
  obtain ⟨sy, fd⟩ := hP _ _ _ p
  by_cases hlt : i < items.length
  · refine .inr ⟨w.goes i H F sy hlt, fun H2 => ∃ F2, P (items.drop (i + 1)) H2 F2, fun H' q => ⟨items.length - (i + 1), by omega, rfl, hlt, q⟩, fun x H' y => ?_⟩
    obtain ⟨d, e1, m⟩ := w.yields i H F x H' sy fd hlt y
    have e2 : items.drop i = d :: items.drop (i + 1) := by
      obtain ⟨hh, e3⟩ := List.getElem?_eq_some_iff.mp e1
      rw [List.drop_eq_getElem_cons hh, e3]
    rw [e2] at p
    exact hturn d _ H F x H' p m
  · have e : items.drop i = [] := List.drop_eq_nil_iff.mpr (by omega)
    rw [e] at p
    exact .inl ⟨w.stops i H F sy (by omega), hstop H F p⟩
end

/-- the same, no exception wished -/
def Fix.quiet (Z : Fix) : Fix := { Z with W := fun _ _ _ _ => False }
section
variable {X : Cx} {Z : Fix} {fe : Env' → Res SV} {ft : Env' → Res Bool} {fi fi1 : Env' → Res (List D)} {T T1 : Tg} {vs vs1 : List Nat} {σ : L2.St} {A : Addr} {H1 Hs : Hp} {F1 Fs O1 B1 : AP'} {Fin : Res (List D) → Prop}
theorem lc_turn (hT : ∀ i ∈ T.sl, i ∈ vs) (hF : ¬ Fin .stuck) {d : D} {ds : List D} {H H' : Hp} {F : AP'} {x : V} (p : ∃ ρ acc, CAt X.K Z.fa A H1 F1 O1 B1 Hs Fs H F (wipe σ vs) ρ acc ∧ Fin (lcGo fe ft vs T (d :: ds) acc ρ)) (m : Made X.K Z.fa H F (.dat d) x H') :
    tG X Z.quiet T x (wipe σ vs) H' fun σ2 H2 => wipe σ2 vs = wipe σ vs ∧ tD X Z.quiet RB ft σ2 H2 fun b H3 => if b = true then tD X Z.quiet (RSV X.K Z.quiet) fe σ2 H3 fun y H4 => ∃ xs, H4 A = some (.lst xs) ∧ xs.length < sizeLine ∧ ∃ F2 ρ acc, CAt X.K Z.fa A H1 F1 O1 B1 Hs Fs (upd H4 A (.lst (xs ++ [y]))) F2 (wipe σ vs) ρ acc ∧ Fin (lcGo fe ft vs T ds acc ρ)
      else ∃ F2 ρ acc, CAt X.K Z.fa A H1 F1 O1 B1 Hs Fs H3 F2 (wipe σ vs) ρ acc ∧ Fin (lcGo fe ft vs T ds acc ρ) := by
  obtain ⟨ρ, acc, c, h⟩ := p
  obtain ⟨F2, gr, rx, _⟩ := m
  unfold lcGo at h
  split at h
  · exact (hF h).elim
  · rename_i ρa e
    have c2 := c.grow gr
    refine ⟨F2, ρ, d, ρa, c2.ok, rx, e, fun σ2 ok2 st2 kp => ?_⟩
    have weq : wipe σ2 vs = wipe σ vs := (wipe_keep kp hT).trans (wipe_wipe fun _ z => z)
    have c3 := c2.step st2 ok2
    refine ⟨weq, F2, ρa, ok2, ?_⟩
    cases hf : ft ρa with
    | stuck => rw [hf] at h; exact (hF h).elim
    | exc x ρx => rw [hf] at h; exact (hF h).elim
    | ok b ρb =>
      rw [hf] at h
      dsimp only [Res.bindN] at h
      intro b' H3 F3 st3 ok3 rb
      obtain rfl : b = b' := rb
      have c4 := c3.step st3 ok3
      cases b with
      | false =>
        rw [if_neg Bool.false_ne_true] at h ⊢
        split at h
        · rename_i t
          have c5 := c4.wiped t
          rw [weq] at c5
          exact ⟨F3, _, _, c5, h⟩
        · exact (hF h).elim
      | true =>
        rw [if_pos rfl] at h ⊢
        refine ⟨F3, ρb, ok3, ?_⟩
        cases hg : fe ρb with
        | stuck => rw [hg] at h; exact (hF h).elim
        | exc x ρx => rw [hg] at h; exact (hF h).elim
        | ok sv ρc =>
          rw [hg] at h
          dsimp only [Res.bindN] at h
          intro y H4 F4 st4 ok4 r4
          obtain ⟨F5, ok5, rep, m1, m2⟩ := ResOk.freeze ok4 r4
          have c5 := c4.step (st4.more m1 m2) ok5
          split at h
          · rename_i t
            obtain ⟨xs, e2, rl⟩ := c5.lst
            have c6 := (c5.push e2 rep).wiped t.2
            rw [weq] at c6
            exact ⟨xs, e2, by rw [rl.length, z24]; exact t.1, F5, _, _, c6, h⟩
          · exact (hF h).elim

theorem lc_weak (hT : ∀ i ∈ T.sl, i ∈ vs) {H : Hp} {Q : VK} (h : tD X Z (RSV X.K Z) (lcFin vs fi (lcGo fe ft vs T)) σ H Q) : tLc (tD X Z (RW X.K Z) fi) (tG X Z.quiet T) (tD X Z.quiet RB ft) (tD X Z.quiet (RSV X.K Z.quiet) fe) vs σ H Q := by
  obtain ⟨F, ρ, ok, h⟩ := h
  unfold lcFin at h
  refine ⟨F, ρ, ok, (PostG.bind late_RSV h).imp ?_⟩
  rintro J H1 ⟨items, F1, ρ1, ok1, st1, w, h1⟩
  intro A hA
  split at h1
  · rename_i t
    have gr : Grow H1 F1 (upd H1 A (.lst [])) F1 := Grow.new ok1.fd hA
    have c0 : CAt X.K Z.fa A H1 F1 (Own σ ρ1) (Bor σ ρ1) H1 F1 (upd H1 A (.lst [])) F1 σ ρ1 [] := ⟨ok1.grow gr, gr.step, gr.stays, hA, ⟨[], upd_same, .nil⟩, fun z => ok1.fd A z hA, fun z => by
      obtain ⟨o, e, _⟩ := ok1.own_at z
      rw [hA] at e; cases e⟩
    refine walk_lc w (fun ds H F => ∃ ρ acc, CAt X.K Z.fa A H1 F1 (Own σ ρ1) (Bor σ ρ1) H1 F1 H F (wipe σ vs) ρ acc ∧ (fun r => PostG X.K Z (RSV X.K Z) σ H1 F1 ρ1 (Res.bind (β := SV) r fun acc ρ2 => .ok (.own (.lst acc)) (backR ρ1 ρ2 vs)) Q) (lcGo fe ft vs T ds acc ρ)) (fun ds H F ⟨_, _, c, _⟩ => ⟨c.sy, c.ok.fd⟩) ⟨_, _, c0.wiped t, h1⟩ _ _ (fun H F ⟨ρ, acc, c, h⟩ => ?_) (fun d ds H F x H' p m => lc_turn (X := X) (Z := Z) (Fin := fun r => PostG X.K Z (RSV X.K Z) σ H1 F1 ρ1 (Res.bind (β := SV) r fun acc ρ2 => .ok (.own (.lst acc)) (backR ρ1 ρ2 vs)) Q) hT (fun z => z) p m)
    unfold lcGo at h
    obtain ⟨xs, e, rl⟩ := c.lst
    exact h (.ref A) H F (c.st.congr (fun _ => Iff.rfl) (fun _ => Iff.rfl) (fun _ => (own_back t).symm) fun _ => (bor_back t).symm) (EnvOk.back ok1 t c.sy c.ok) ⟨⟨A, rfl, c.nF, .lst e rl⟩, A, rfl, hA, fun z => c.nO ((own_back t).mp z)⟩
  · exact h1.elim
theorem lc2_weak (hT : ∀ i ∈ T.sl, i ∈ vs) (hT1 : ∀ i ∈ T1.sl, i ∈ vs1) (hv : ∀ i ∈ vs1, i ∈ vs) {H : Hp} {Q : VK} (h : tD X Z (RSV X.K Z) (lcFin vs fi (lcOut vs vs1 T fi1 (lcGo fe ft vs1 T1))) σ H Q) :
    tLc2 (tD X Z (RW X.K Z) fi) (tG X Z.quiet T) tYes (tD X Z.quiet (RW X.K Z.quiet) fi1) (tG X Z.quiet T1) (tD X Z.quiet RB ft) (tD X Z.quiet (RSV X.K Z.quiet) fe) vs vs1 σ H Q := by
  obtain ⟨F, ρ, ok, h⟩ := h
  unfold lcFin at h
  refine ⟨F, ρ, ok, (PostG.bind late_RSV h).imp ?_⟩
  rintro J H1 ⟨items, F1, ρ1, ok1, st1, w, h1⟩
  intro A hA
  split at h1
  · rename_i t
    have gr : Grow H1 F1 (upd H1 A (.lst [])) F1 := Grow.new ok1.fd hA
    have c0 : CAt X.K Z.fa A H1 F1 (Own σ ρ1) (Bor σ ρ1) H1 F1 (upd H1 A (.lst [])) F1 σ ρ1 [] := ⟨ok1.grow gr, gr.step, gr.stays, hA, ⟨[], upd_same, .nil⟩, fun z => ok1.fd A z hA, fun z => by
      obtain ⟨o, e, _⟩ := ok1.own_at z
      rw [hA] at e; cases e⟩
    refine walk_lc w (fun ds H F => ∃ ρ acc, CAt X.K Z.fa A H1 F1 (Own σ ρ1) (Bor σ ρ1) H1 F1 H F (wipe σ vs) ρ acc ∧ (fun r => PostG X.K Z (RSV X.K Z) σ H1 F1 ρ1 (Res.bind (β := SV) r fun acc ρ2 => .ok (.own (.lst acc)) (backR ρ1 ρ2 vs)) Q) (lcOut vs vs1 T fi1 (lcGo fe ft vs1 T1) ds acc ρ)) (fun ds H F ⟨_, _, c, _⟩ => ⟨c.sy, c.ok.fd⟩) ⟨_, _, c0.wiped t, h1⟩ _ _ (fun H F ⟨ρ, acc, c, h⟩ => ?_) (fun d ds H F x H' p m => ?_)
    · unfold lcOut at h
      obtain ⟨xs, e, rl⟩ := c.lst
      exact h (.ref A) H F (c.st.congr (fun _ => Iff.rfl) (fun _ => Iff.rfl) (fun _ => (own_back t).symm) fun _ => (bor_back t).symm) (EnvOk.back ok1 t c.sy c.ok) ⟨⟨A, rfl, c.nF, .lst e rl⟩, A, rfl, hA, fun z => c.nO ((own_back t).mp z)⟩
    · obtain ⟨ρ, acc, c, h⟩ := p
      obtain ⟨F2, gr, rx, _⟩ := m
      unfold lcOut at h
      split at h
      · exact h.elim
      · rename_i ρa e
        have c2 := c.grow gr
        refine ⟨F2, ρ, d, ρa, c2.ok, rx, e, fun σ2 ok2 st2 kp => ?_⟩
        have weq : wipe σ2 vs = wipe σ vs := (wipe_keep kp hT).trans (wipe_wipe fun _ z => z)
        have c3 := c2.step st2 ok2
        refine ⟨weq, ?_⟩
        unfold tYes
        refine cast (if_pos (rfl : true = true)).symm ?_
        refine ⟨F2, ρa, ok2, ?_⟩
        cases hf : fi1 ρa with
        | stuck => rw [hf] at h; exact h.elim
        | exc x ρx => rw [hf] at h; exact h.elim
        | ok items1 ρb =>
          rw [hf] at h
          dsimp only [Res.bindN] at h
          intro J1 H4 F4 st4 ok4 w1
          split at h
          · rename_i t1
            have c5 := ((c3.step st4 ok4).wiped t1).rebase (Stays.refl (H := H4) (F := F4))
            refine walk_lc w1 (fun ds1 H F => ∃ ρ acc, CAt X.K Z.fa A H1 F1 (Own σ ρ1) (Bor σ ρ1) H4 F4 H F (wipe σ2 vs1) ρ acc ∧ (fun r => PostG X.K Z (RSV X.K Z) σ H1 F1 ρ1 (Res.bind (β := SV) (Res.bindN (β := List D) r fun acc' ρ3 => if tame ρ3 vs = true then lcOut vs vs1 T fi1 (lcGo fe ft vs1 T1) ds acc' (wipeR ρ3 vs) else .stuck) fun acc ρ2 => .ok (.own (.lst acc)) (backR ρ1 ρ2 vs)) Q) (lcGo fe ft vs1 T1 ds1 acc ρ)) (fun ds H F ⟨_, _, c, _⟩ => ⟨c.sy, c.ok.fd⟩) ⟨_, _, c5, h⟩ _ _ (fun H F ⟨ρ, acc, c, h⟩ => ?_) (fun _ _ _ _ _ _ p m => lc_turn (X := X) (Z := Z) (Fin := fun r => PostG X.K Z (RSV X.K Z) σ H1 F1 ρ1 (Res.bind (β := SV) (Res.bindN (β := List D) r fun acc' ρ3 => if tame ρ3 vs = true then lcOut vs vs1 T fi1 (lcGo fe ft vs1 T1) ds acc' (wipeR ρ3 vs) else .stuck) fun acc ρ2 => .ok (.own (.lst acc)) (backR ρ1 ρ2 vs)) Q) hT1 (fun z => z) p m)
            unfold lcGo at h
            dsimp only [Res.bindN] at h
            split at h
            · rename_i t3
              have c6 := (c.wiped t3).rebase (c.st.stays ok1)
              rw [wipe_wipe hv, weq] at c6
              exact ⟨F, _, _, c6, h⟩
            · exact h.elim
          · exact h.elim
  · exact h1.elim
end
end DL

namespace DL
open PySem PySem.Spec PyProof.Rows L2

section
variable {X : Cx} {Z : Fix} {fe : Env' → Res SV} {ft : Env' → Res Bool} {fi fi1 : Env' → Res (List D)} {T T1 : Tg} {vs vs1 : List Nat} {elt tg iter tg1 iter1 e : Expr} {ifs : List Expr} {scope : Scope} {own : List (Str × Nat)} {pos p : Pos}
/-! ### comprehensions -/
theorem pd_lc (hc : X.calm = true) (hN : X.N.Nodup) (hi : PId X Z tg iter fi) (ok : BlkOk X.N X.env.scope scope own) (hv : own.map (·.2) = vs) (hT : ∀ i ∈ T.sl, i ∈ vs)
    (hg : ∀ (s : Shared) (H : Hp) (C : Addr) (cl : List (Str × Addr)) (fp : List Addr), PGd (X.blk s H scope (compEnvC scope cl C X.env) fp) Z.quiet tg T)
    (ht : ∀ (s : Shared) (H : Hp) (C : Addr) (cl : List (Str × Addr)) (fp : List Addr), PTs (X.blk s H scope (compEnvC scope cl C X.env) fp) ifs (tD (X.blk s H scope (compEnvC scope cl C X.env) fp) Z.quiet RB ft))
    (he : ∀ (s : Shared) (H : Hp) (C : Addr) (cl : List (Str × Addr)) (fp : List Addr), PEd (X.blk s H scope (compEnvC scope cl C X.env) fp) Z.quiet elt fe) (hs : ∀ x, foldedSetIterable iter X.env x = pure x) :
    PEd X Z (.ListComp elt [⟨tg, iter, ifs, 0⟩] scope pos) (lcFin vs fi (lcGo fe ft vs T)) := by
  subst hv
  exact PE.weak (pe_lc (g := tG X Z.quiet T) (tt := tD X Z.quiet RB ft) (te := tD X Z.quiet (RSV X.K Z.quiet) fe) hc hN hi ok hg ht he hs) fun σ H Q h => lc_weak hT h
theorem pd_lc2 (hc : X.calm = true) (hN : X.N.Nodup) (hi : PId X Z tg iter fi) (ok : BlkOk X.N X.env.scope scope own) (hv : own.map (·.2) = vs) (hT : ∀ i ∈ T.sl, i ∈ vs) (hT1 : ∀ i ∈ T1.sl, i ∈ vs1) (hv1 : ∀ i ∈ vs1, i ∈ vs)
    (hg : ∀ (s : Shared) (H : Hp) (C : Addr) (cl : List (Str × Addr)) (fp : List Addr), PGd (X.blk s H scope (compEnvC scope cl C X.env) fp) Z.quiet tg T)
    (hi1 : ∀ (s : Shared) (H : Hp) (C : Addr) (cl : List (Str × Addr)) (fp : List Addr), PId (X.blk s H scope (compEnvC scope cl C X.env) fp) Z.quiet tg1 iter1 fi1)
    (hg1 : ∀ (s : Shared) (H : Hp) (C : Addr) (cl : List (Str × Addr)) (fp : List Addr), PGd (X.blk s H scope (compEnvC scope cl C X.env) fp) Z.quiet tg1 T1)
    (ht : ∀ (s : Shared) (H : Hp) (C : Addr) (cl : List (Str × Addr)) (fp : List Addr), PTs (X.blk s H scope (compEnvC scope cl C X.env) fp) ifs (tD (X.blk s H scope (compEnvC scope cl C X.env) fp) Z.quiet RB ft))
    (he : ∀ (s : Shared) (H : Hp) (C : Addr) (cl : List (Str × Addr)) (fp : List Addr), PEd (X.blk s H scope (compEnvC scope cl C X.env) fp) Z.quiet elt fe) (hs : ∀ x, foldedSetIterable iter X.env x = pure x) (hs1 : ∀ env x, foldedSetIterable iter1 env x = pure x) :
    PEd X Z (.ListComp elt [⟨tg, iter, [], 0⟩, ⟨tg1, iter1, ifs, 0⟩] scope pos) (lcFin vs fi (lcOut vs vs1 T fi1 (lcGo fe ft vs1 T1))) := by
  subst hv
  exact PE.weak (pe_lc2 (g := tG X Z.quiet T) (tt := tYes) (wi1 := tD X Z.quiet (RW X.K Z.quiet) fi1) (g1 := tG X Z.quiet T1) (tt1 := tD X Z.quiet RB ft) (te := tD X Z.quiet (RSV X.K Z.quiet) fe) hc hN hi ok hv1 hg (fun _ _ _ _ _ => pts_nil) hi1 hg1 ht he hs hs1) fun σ H Q h => lc2_weak hT hT1 hv1 h
theorem set_weak {f : Env' → Res SV} {i : Nat} {σ : L2.St} {H : Hp} {De : Ends} (h : tSd X Z (fun ρ => (f ρ).sb fun sv ρ1 => setS i sv ρ1) De σ H) : tD X Z (RSV X.K Z) f σ H fun x H1 => gName i x σ H1 De.nx := by
  obtain ⟨F, ρ, ok, h⟩ := h
  refine ⟨F, ρ, ok, ?_⟩
  cases hf : f ρ with
  | ok sv ρ' =>
    dsimp only at h
    rw [hf] at h
    exact fun v H' F' s ok r => set_step ok r h s
  | exc x ρ' => dsimp only at h; rw [hf] at h; exact fun cls d H' F' s ok q => h cls d σ H' F' s ok q
  | stuck => dsimp only at h; rw [hf] at h; exact h
theorem psd_lc {i : Nat} {y : Str} {py spos : Pos} (hc : X.calm = true) (hN : X.N.Nodup) (hy : X.N[i]? = some y) (hyl : X.env.scope.names.lookup y = some .local) (hsw : swapsWith (.ListComp elt [⟨tg, iter, ifs, 0⟩] scope pos) (some (.Name y py)) spos.line X.env = pure true) (hi : PId X Z tg iter fi) (ok : BlkOk X.N X.env.scope scope own) (hv : own.map (·.2) = vs) (hT : ∀ i ∈ T.sl, i ∈ vs)
    (hg : ∀ (s : Shared) (H : Hp) (C : Addr) (cl : List (Str × Addr)) (fp : List Addr), PGd (X.blk s H scope (compEnvC scope cl C X.env) fp) Z.quiet tg T)
    (ht : ∀ (s : Shared) (H : Hp) (C : Addr) (cl : List (Str × Addr)) (fp : List Addr), PTs (X.blk s H scope (compEnvC scope cl C X.env) fp) ifs (tD (X.blk s H scope (compEnvC scope cl C X.env) fp) Z.quiet RB ft))
    (he : ∀ (s : Shared) (H : Hp) (C : Addr) (cl : List (Str × Addr)) (fp : List Addr), PEd (X.blk s H scope (compEnvC scope cl C X.env) fp) Z.quiet elt fe) (hs : ∀ x, foldedSetIterable iter X.env x = pure x) :
    PSd X Z (.Assign [.Name y py] (.ListComp elt [⟨tg, iter, ifs, 0⟩] scope pos) spos) (fun ρ => (lcFin vs fi (lcGo fe ft vs T) ρ).sb fun sv ρ1 => setS i sv ρ1) := by
  subst hv
  exact PS.weak (ps_setLc (g := tG X Z.quiet T) (tt := tD X Z.quiet RB ft) (te := tD X Z.quiet (RSV X.K Z.quiet) fe) hc hN hy hyl hsw hi ok hg ht he hs) fun De σ H h => lc_weak hT (set_weak h)
theorem psd_lc2 {i : Nat} {y : Str} {py spos : Pos} (hc : X.calm = true) (hN : X.N.Nodup) (hy : X.N[i]? = some y) (hyl : X.env.scope.names.lookup y = some .local) (hsw : swapsWith (.ListComp elt [⟨tg, iter, [], 0⟩, ⟨tg1, iter1, ifs, 0⟩] scope pos) (some (.Name y py)) spos.line X.env = pure true) (hi : PId X Z tg iter fi) (ok : BlkOk X.N X.env.scope scope own) (hv : own.map (·.2) = vs) (hT : ∀ i ∈ T.sl, i ∈ vs) (hT1 : ∀ i ∈ T1.sl, i ∈ vs1) (hv1 : ∀ i ∈ vs1, i ∈ vs)
    (hg : ∀ (s : Shared) (H : Hp) (C : Addr) (cl : List (Str × Addr)) (fp : List Addr), PGd (X.blk s H scope (compEnvC scope cl C X.env) fp) Z.quiet tg T)
    (hi1 : ∀ (s : Shared) (H : Hp) (C : Addr) (cl : List (Str × Addr)) (fp : List Addr), PId (X.blk s H scope (compEnvC scope cl C X.env) fp) Z.quiet tg1 iter1 fi1)
    (hg1 : ∀ (s : Shared) (H : Hp) (C : Addr) (cl : List (Str × Addr)) (fp : List Addr), PGd (X.blk s H scope (compEnvC scope cl C X.env) fp) Z.quiet tg1 T1)
    (ht : ∀ (s : Shared) (H : Hp) (C : Addr) (cl : List (Str × Addr)) (fp : List Addr), PTs (X.blk s H scope (compEnvC scope cl C X.env) fp) ifs (tD (X.blk s H scope (compEnvC scope cl C X.env) fp) Z.quiet RB ft))
    (he : ∀ (s : Shared) (H : Hp) (C : Addr) (cl : List (Str × Addr)) (fp : List Addr), PEd (X.blk s H scope (compEnvC scope cl C X.env) fp) Z.quiet elt fe) (hs : ∀ x, foldedSetIterable iter X.env x = pure x) (hs1 : ∀ env x, foldedSetIterable iter1 env x = pure x) :
    PSd X Z (.Assign [.Name y py] (.ListComp elt [⟨tg, iter, [], 0⟩, ⟨tg1, iter1, ifs, 0⟩] scope pos) spos) (fun ρ => (lcFin vs fi (lcOut vs vs1 T fi1 (lcGo fe ft vs1 T1)) ρ).sb fun sv ρ1 => setS i sv ρ1) := by
  subst hv
  exact PS.weak (ps_setLc2 (g := tG X Z.quiet T) (tt := tYes) (wi1 := tD X Z.quiet (RW X.K Z.quiet) fi1) (g1 := tG X Z.quiet T1) (tt1 := tD X Z.quiet RB ft) (te := tD X Z.quiet (RSV X.K Z.quiet) fe) hc hN hy hyl hsw hi ok hv1 hg (fun _ _ _ _ _ => pts_nil) hi1 hg1 ht he hs hs1) fun De σ H h => lc2_weak hT hT1 hv1 (set_weak h)
theorem ptsd_nil : PTs X [] (tD X Z RB fun ρ => .ok true ρ) := ⟨fun pins s σ H Q I hw => (pts_nil (X := X)).run pins s σ H Q I (by
  obtain ⟨F, ρ, ok, h⟩ := hw
  exact PostG.test ok h)⟩

/-! ### d.get(k, x) -/
theorem Rep.dicAt {K : PySem.W.Frag} {fa : Nat → Option Addr} {H : Hp} {F : AP'} {v : V} {d : D} (r : RdF K fa H F v d) (e : isDic (some d) = true) : ∃ a, v = .ref a ∧ IsD H a := by
  cases d with
  | dK kds => obtain ⟨a, kvs, rfl, h, _⟩ := r.dK; exact ⟨a, rfl, .inl ⟨_, h⟩⟩
  | dT kds => obtain ⟨a, kvs, rfl, h, _⟩ := r.dT; exact ⟨a, rfl, .inr ⟨_, h⟩⟩
  | _ => cases e
theorem pd_get {a k d : Expr} {apos : Pos} {fa : Env' → Res PV} {fk fd : Env' → Res SV} (hu : X.A.units + 1 < cLine) (ha : POd X Z a fa) (hk : PEd X Z k fk) (hd : PEd X Z d fd) (m : M2 X a "get" apos k d pos) :
    PEd X Z (.Call (.Attribute a "get" apos) [k, d] [] pos) (fun ρ => (fa ρ).bind fun p ρ1 => if isDic (cont ρ1 p) = true then (fk ρ1).bind fun sk ρ2 => (fd ρ2).bind fun sd ρ3 => (match cont ρ3 p with
      | some (.dK kds) => (match keyOf sk.d with
        | some kk => .ok (.dat ((lookD kds kk).getD sd.d)) ρ3
        | none => .stuck)
      | some (.dT kds) => (match sk.d with
        | .tup ks => (match keysOf ks with
          | some kk => .ok (.dat ((lookD kds kk).getD sd.d)) ρ3
          | none => .stuck)
        | _ => .stuck)
      | _ => .stuck) else .stuck) := by
  refine PE.weak (pe_dget2 hu ha hk hd m) ?_
  rintro σ H Q ⟨F, ρ, ok, h⟩
  refine ⟨F, ρ, ok, (PostG.bind late_RSV h).imp ?_⟩
  rintro v H1 ⟨p, F1, ρ1, ok1, st1, r1, h1⟩
  split at h1
  · rename_i ed
    cases e1 : cont ρ1 p with
    | none => rw [e1] at ed; cases ed
    | some d1 =>
      rw [e1] at ed
      obtain ⟨b, rfl, isd⟩ := Rep.dicAt (PVok.read r1 ok1 e1) ed
      refine ⟨b, rfl, isd, F1, ρ1, ok1, (PostG.bindF late_RSV h1).imp ?_⟩
      rintro y H2 ⟨sk, F2, ρ2, ok2, st2, r2, h2⟩
      refine ⟨F2, ρ2, ok2, (PostG.bindF late_RSV h2).imp ?_⟩
      rintro z H3 ⟨sd, F3, ρ3, ok3, st3, r3, h3⟩
      have r2' := Rep.stays (st3.stays ok2) r2
      have r1' := PVok.stays (PVok.stays r1 (st2.stays ok1)) (st3.stays ok2)
      split at h3
      · rename_i kds e3
        split at h3
        · rename_i kk e4
          obtain ⟨a', o, ea, g, q⟩ := dget_K (X := X) (fa := Z.fa) (F := F3) (PVok.read r1' ok3 e3) (.inl r2') e4
          cases ea
          refine ⟨o, g, ?_⟩
          rcases q with ⟨w, zz, q1, q2, q3⟩ | ⟨q1, q2⟩
          · rw [q1]; rw [q2] at h3; exact h3.rep ok3 q3
          · rw [q1]; rw [q2] at h3; exact h3.rep ok3 r3
        · exact h3.elim
      · rename_i kds e3
        split at h3
        · rename_i ks e5
          split at h3
          · rename_i kk e4
            rw [e5] at r2'
            obtain ⟨a', o, ea, g, q⟩ := dget_T (X := X) (fa := Z.fa) (F := F3) (PVok.read r1' ok3 e3) (.inl r2') e4
            cases ea
            refine ⟨o, g, ?_⟩
            rcases q with ⟨w, zz, q1, q2, q3⟩ | ⟨q1, q2⟩
            · rw [q1]; rw [q2] at h3; exact h3.rep ok3 q3
            · rw [q1]; rw [q2] at h3; exact h3.rep ok3 r3
          · exact h3.elim
        · exact h3.elim
      · exact h3.elim
  · exact h1.elim

/-! ### items of a dict: from then on it is locked -/
def tLk (td : TE) : TE := fun σ H Q => td σ H fun x H1 => ∃ d kvs, x = .ref d ∧ ((H1 d = some (.dK kvs) ∧ ∀ o, Q x (upd H1 d (.frz o (.dK kvs)))) ∨ ∃ o, H1 d = some (.frz o (.dK kvs)) ∧ Q x H1)
theorem pe_lk {td : TE} (he : PE X e td) : PE X e (tLk td) := ⟨fun pins s σ H Q I h => thn (he.run pins s σ H _ I h) fun u s1 ⟨x, H1, I1, r, d, kvs, ex, q⟩ => by
  rcases q with ⟨e1, q⟩ | ⟨o, e1, q⟩
  · obtain ⟨od, I2⟩ := I1.lock e1 trivial
    exact ⟨x, _, I2, r, q od⟩
  · exact ⟨x, H1, I1, r, q⟩⟩
theorem lock_env {K : PySem.W.Frag} {fa : Nat → Option Addr} {H : Hp} {F : AP'} {σ : L2.St} {ρ : Env'} {d : Addr} {u : HO} {o : Obj} (ok : EnvOk K fa H F σ ρ) (hd : H d = some u) (du : dicO u) (f : F d) : EnvOk K fa (upd H d (.frz o u)) F σ ρ ∧ StepE H F σ ρ (upd H d (.frz o u)) F σ ρ := by
  have st : StepE H F σ ρ (upd H d (.frz o u)) F σ ρ := by
    refine ⟨fun b o' h no => ?_, fun _ h => h, fun _ h => .inl h, fun _ h => .inl h, fun _ => Iff.rfl, fun b h => ?_⟩
    · by_cases e : b = d
      · subst e
        rw [hd] at h; cases h
        exact .inr ⟨f, du, o, upd_same⟩
      · rw [upd_ne e]; exact .inl h
    · by_cases e : b = d
      · subst e; rw [upd_same] at h; cases h
      · rw [upd_ne e] at h; exact h
  have sy := st.stays ok
  refine ⟨⟨ok.len, fun i sv e => ?_, ok.apart, fun b fb => ?_⟩, st⟩
  · obtain ⟨v, e2, r⟩ := ok.slot i sv e
    refine ⟨v, e2, ?_⟩
    have far : ∀ c d', ¬ F c → OwnAt K fa H F c d' → OwnAt K fa (upd H d (.frz o u)) F c d' := fun c d' nf q => q.stays (upd_ne fun z => nf (by rw [z]; exact f)) sy
    cases sv with
    | dat d' => exact Rep.stays sy r
    | own d' => obtain ⟨c, e3, nf, q⟩ := r; exact ⟨c, e3, nf, far c d' nf q⟩
    | bor d' => obtain ⟨c, e3, nf, q⟩ := r; exact ⟨c, e3, nf, far c d' nf q⟩
  · by_cases e : b = d
    · subst e; rw [upd_same]; exact fun z => nomatch z
    · rw [upd_ne e]; exact ok.fd b fb
theorem itemsK_get : ∀ {kds : List (Key × D)} {i : Nat} {k : Key} {d : D}, kds[i]? = some (k, d) → (kds.map fun kv => D.tup [keyD kv.1, kv.2])[i]? = some (.tup [keyD k, d]) := fun h => by
  rw [List.getElem?_map, h]; rfl
theorem rep_keyD {K : PySem.W.Frag} {fa : Nat → Option Addr} {H : Hp} {F : AP'} (k : Key) : Rep K fa H F (kV k) (keyD k) := by
  cases k with
  | inl i => exact .int i
  | inr x => exact .str x
theorem drep_get {K : PySem.W.Frag} {fa : Nat → Option Addr} {H : Hp} {F : AP'} {kvs : List (Key × V)} {kds : List (Key × D)} (r : DRep K fa H F kvs kds) {i : Nat} {k : Key} {v : V} (e : kvs[i]? = some (k, v)) : ∃ d, kds[i]? = some (k, d) ∧ Rep K fa H F v d := by
  obtain ⟨r1, r2⟩ := r
  have e2 : (kvs.map Prod.snd)[i]? = some v := by rw [List.getElem?_map, e]; rfl
  have e1 : (kvs.map Prod.fst)[i]? = some k := by rw [List.getElem?_map, e]; rfl
  obtain ⟨d, h1, h2⟩ := r2.get' e2
  rw [r1] at e1
  rw [List.getElem?_map] at h1 e1
  cases h : kds[i]? with
  | none => rw [h] at h1; cases h1
  | some q =>
    rw [h] at h1 e1
    obtain ⟨q1, q2⟩ := q
    cases h1; cases e1
    exact ⟨_, rfl, h2⟩
theorem walkD_items {K : PySem.W.Frag} {fa : Nat → Option Addr} {H : Hp} {F : AP'} {d : Addr} {o : Obj} {kvs : List (Key × V)} {kds : List (Key × D)} (h : H d = some (.frz o (.dK kvs))) (r : DRep K fa H F kvs kds) : WalkD K fa (Iti d o kvs) (kds.map fun kv => .tup [keyD kv.1, kv.2]) H F where
  goes := fun i H' F' s hi => ⟨s.fz _ _ _ h, by rw [List.length_map] at hi; rw [r.length]; exact hi⟩
  stops := fun i H' F' s hi => ⟨s.fz _ _ _ h, by rw [List.length_map] at hi; rw [r.length]; exact hi⟩
  yields := fun i H' F' x H2 s fd hi y => by
    obtain ⟨T, k, v, e1, rfl, hT, rfl⟩ := y
    obtain ⟨d1, e2, rv⟩ := drep_get r e1
    exact ⟨_, itemsK_get e2, made_pair fd hT (rep_keyD k) (Rep.stays s rv)⟩
theorem pid_items {elts : List Expr} {kk : Nat} {tpos apos : Pos} {f : Env' → Res SV} (he : PEd X Z e f) (hbase : attributeBase e "items" X.env (eval e X.env) = eval e X.env) (hline : (apos.endLine == pos.line) = true) :
    PId X Z (.Tuple elts kk tpos) (.Call (.Attribute e "items" apos) [] [] pos) (fun ρ => (f ρ).bind fun sv ρ1 => lift (itemsOf sv.d) ρ1) := by
  refine PI.weak (pi_items (pe_lk he) hbase hline) ?_
  rintro σ H R ⟨F, ρ, ok, h⟩
  refine ⟨F, ρ, ok, (PostG.bindF' late_RW h).imp ?_⟩
  rintro v H1 ⟨sv, F1, ρ1, _, ok1, st1, r, h1⟩
  cases hd : sv.d with
  | dK kds =>
    rw [hd] at r h1
    cases r with
    | dK f1 rd e1 e2 =>
      rename_i a kvs
      have dr : DRep X.K Z.fa H1 F1 kvs kds := ⟨e1, e2⟩
      refine ⟨a, kvs, rfl, ?_⟩
      rcases rd with q | ⟨o, q⟩
      · refine .inl ⟨q, fun o => ⟨a, o, kvs, rfl, upd_same, ?_⟩⟩
        obtain ⟨ok2, st2⟩ := lock_env (o := o) ok1 q trivial f1
        exact h1 _ _ F1 st2 ok2 (walkD_items upd_same (dr.here (st2.stays ok1)))
      · exact .inr ⟨o, q, a, o, kvs, rfl, q, h1 _ _ F1 Step.refl ok1 (walkD_items q dr)⟩
  | _ => rw [hd] at h1; exact h1.elim
end
end DL

/-! enumerate of a tuple, zip of three lists -/
namespace PySem
open Sem (wp)
theorem meets_enumerate_one {v : Value} {o : Obj} {H : Heap → Prop} (B : Begins v o H) :
    Meets (Builtin.«enumerate.__new__» ⟨[.type "enumerate", v], []⟩) (fun _ R s => H s.heap ∧
      R (.ok (.ret (.ref (s.heap.push o).objs.size))) { s with heap := (s.heap.push o).push { cls := .type "enumerate", data := .fields #[.none, .bool false, .ref s.heap.objs.size, rawInt 0, .none, .none] } }) :=
  .of_wp fun prog w A R s h => by
    obtain ⟨hp, g, d, tk, os⟩ := s; obtain ⟨h1, h⟩ := h
    have hsub := sub_enumerate
    have q1 : ∀ {A' : Around} {E : Value → Shared → Prop} {Q : Value → Shared → Prop}, Q (.ref hp.objs.size) ⟨hp.push o, g, d, tk, os⟩ → wpAny (model prog w) A' (pyIter v) Q E ⟨hp, g, d, tk, os⟩ :=
      fun q => B.iter prog w _ _ ⟨hp, g, d, tk, os⟩ _ h1 q
    wp_walk using q1
    refine wpAny_stack_any fun st => wpAny_pure ?_
    split
    · rename_i c _ _ _ _ _
      cases (c == Value.type "enumerate")
      · wp_walk using q1
        exact ⟨_, rfl, h⟩
      · wp_walk using q1
        exact ⟨_, rfl, h⟩
    · wp_walk using q1
      exact ⟨_, rfl, h⟩
theorem enum_one {prog : Program} {w : World} {A : Around} {E : Value → Shared → Prop} {s : Shared} {v : Value} {o : Obj} {H : Heap → Prop} {Q : Value → Shared → Prop} (B : Begins v o H) (h1 : H s.heap)
    (h : ∀ h', IsEnum h' (s.heap.objs.size + 1) s.heap.objs.size 0 .none → h'.get? s.heap.objs.size = some o → h'.objs.size = s.heap.objs.size + 2 →
      (∀ b o, s.heap.get? b = some o → h'.get? b = some o) → Q (.ref (s.heap.objs.size + 1)) { s with heap := h' }) :
    wpAny (model prog w) A (call (.type "enumerate") [v]) Q E s := by
  refine callType_new F.called_enumerate (by decide) (F.typeCall_enumerate_1 _) (F.newCall_enumerate_1 _) (fun obj => F.args_object_init_2 obj _) F.entry_enumerate_new
    (meets_enumerate_one B) ⟨h1, ?_⟩
  have hz : (s.heap.push o).objs.size = s.heap.objs.size + 1 := Heap.size_push ..
  show _ ∧ _
  rw [hz]
  have he : IsEnum ((s.heap.push o).push { cls := .type "enumerate", data := .fields #[.none, .bool false, .ref s.heap.objs.size, rawInt 0, .none, .none] }) (s.heap.objs.size + 1) s.heap.objs.size 0 .none := by
    have := Heap.get?_push_size (s.heap.push o) (o := { cls := .type "enumerate", data := .fields #[.none, .bool false, .ref s.heap.objs.size, rawInt 0, .none, .none] }) rfl
    rw [hz] at this; exact this
  refine ⟨⟨_, he, rfl⟩, h _ he (Heap.get?_push_of_some _ (Heap.get?_push_size _ B.free)) (by rw [Heap.size_push, hz]) fun b o x => Heap.get?_push_of_some _ (Heap.get?_push_of_some _ x)⟩
theorem enumT_end {prog : Program} {w : World} {A : Around} {E : Value → Shared → Prop} {s : Shared} {e it l : Addr} {i : Nat} {items : Array Value} {old : Value} {Q : Option Value → Shared → Prop} (hh : A.handled = none)
    (he : IsEnum s.heap e it i old) (hit : s.heap.IsTupleIter it l i) (hl : s.heap.IsTuple l items) (hx : items[i]? = none)
    (hQ : ∀ h', Heap.ExtBut it s.heap h' → Q none { s with heap := h' }) : wpAny (model prog w) A (pyNext (.ref e)) Q E s := by
  have hT : s.TypeIs (.ref e) "enumerate" := ⟨_, he, rfl⟩
  unfold pyNext
  refine wpAny_bind (wpAny_attempt (wpAny_callSpecial?_slot (name := Str.ofString "__next__") hT F.slot_enumerate_next
    (wpAny_call_entry F.slot_enumerate_next hT F.entry_enumerate_next ?_ (F.args_enumerate_next_1 _))))
  show wpAny _ _ (field (.ref e) 2 >>= _) _ _ _
  refine wpAny_bind (wpAny_field he rfl (x := .ref it) rfl ?_)
  refine wpAny_bind (wpAny_nextOf_tuple_end hh hit hl hx fun h' x he' hx' => ?_)
  obtain ⟨o, ho, hc⟩ := hx'
  refine wpAny_bind (wpAny_isInstance (T := "StopIteration") (b := true) ⟨o, ho, hc⟩ isSubtype_stop ?_)
  exact wpAny_pure (hQ _ he')
theorem notTuple {h : Heap} {a : Addr} {o : Obj} {items : Array Value} (he : h.get? a = some o) (p : h.IsTuple a items) : o.cls = .type "tuple" := by
  obtain ⟨o', ho, ht, _⟩ := p
  rw [he] at ho; cases ho
  exact ht
end PySem
namespace DL
open PySem PySem.Spec PyProof.Rows L2

/-! ### enumerate(tuple) -/
def Itet (K : PySem.W.Frag) (a : Addr) : L2.It :=
  ⟨fun i H => ∃ (xs : List V) (x : V), SqT K H a xs ∧ xs[i]? = some x, fun i H v H' => ∃ T x, v = .ref T ∧ H T = none ∧ H' = upd H T (.tup [.int (i : Nat), x]) ∧ ∀ xs, SqT K H a xs → xs[i]? = some x, fun i H => ∃ xs : List V, SqT K H a xs ∧ xs.length ≤ i⟩
theorem turn_enumT {P : Program} {w : World} {K : PySem.W.Frag} {elts : List Expr} {kk : Nat} {tpos : Pos} (a e it : Addr) :
    Turn P w K (.Tuple elts kk tpos) (Itet K a) [e, it] e (fun i h => (∃ old, IsEnum h e it ((i : Nat) : Int) old) ∧ h.IsTupleIter it a i ∧ e ≠ it) where
  mem := by simp
  obj := fun i h st b hb => by
    obtain ⟨⟨old, he⟩, ⟨o, ho, hc, hd⟩, _⟩ := st
    have e' : b = e ∨ b = it := by simpa using hb
    rcases e' with z | z
    · rw [z]; exact ⟨_, he, fun v q => nomatch q⟩
    · rw [z]; exact ⟨o, ho, fun v q => by rw [hd] at q; cases q⟩
  keep := fun i h h' st k => let ⟨⟨old, he⟩, hi, hne⟩ := st; ⟨⟨old, k e (by simp) _ he⟩, hi.at fun o q => k it (by simp) o q, hne⟩
  item := by
    intro X hP hw hK hc i pins s σ H E I hf st hg
    subst hP hw hK
    obtain ⟨⟨old, he⟩, hit, hne⟩ := st
    obtain ⟨xs, x, hq, hx⟩ := hg
    obtain ⟨its, rv, p, _⟩ := I.tuple hq
    have hel : e < s.heap.objs.size := Heap.lt_size he
    have hil : it < s.heap.objs.size := by obtain ⟨_, q, _⟩ := hit; exact Heap.lt_size q
    have nea : e ≠ a := fun z => by
      have := notTuple he (z ▸ p)
      simp at this
    have nia : a ≠ it := fun z => by
      obtain ⟨o', ho', hc', _⟩ := hit
      have := notTuple ho' (z ▸ p)
      rw [hc'] at this
      simp at this
    have hlt : i < its.toArray.size := by
      have := rv.length
      have h2 := (List.getElem?_eq_some_iff.mp hx).1
      rw [List.size_toArray]; omega
    refine wpAny_pyNext_enum_itemD (Draws.tuple (show (X.A.in1).handled = none from I.ok.hd hc) it a nia its.toArray) he ⟨hit, p⟩ hlt hne (by simp [hne, nea]) fun u h' tk hu ho hit' hT hsz hk => ?_
    obtain ⟨u', hu', ru⟩ := rv.get hx
    have eu : u' = u := by
      have h1 : its[i]? = some u := by simpa using hu
      rw [h1] at hu'
      exact (Option.some.inj hu').symm
    subst eu
    refine ⟨_, rfl, wpAny_letOwnedTupleGo_enum (s := { s with heap := h', toks := tk + 1 }) ho fun h'' he' sb => ?_⟩
    have hT2 : h''.get? s.heap.objs.size = some { cls := .type "tuple", data := .seq #[.int i tk, u'] } := (sb.2 _ (Nat.ne_of_gt hel)).trans hT
    have new : ObjOk X.prog X.w (upd H s.heap.objs.size (.tup [.int (i : Nat), x])) h'' s.heap.objs.size (.tup [.int (i : Nat), x]) :=
      ⟨by show 2 ≤ sizeLine; decide, [.int i tk, u'], .cons ⟨_, rfl⟩ (.cons ru .nil), ⟨_, hT2, rfl, _, rfl⟩⟩
    have I1 : Inv X pins σ (upd H s.heap.objs.size (.tup [.int (i : Nat), x])) { s with heap := h'', toks := tk + 1 } :=
      I.turnedNew (ch := [e, it]) (fun b ob hb q => (sb.2 b (fun z => hb (by simp [z]))).trans (hk b ob (fun z => hb (by simp [z])) (fun z => hb (by simp [z])) q)) hf (Nat.le_refl _) new
    refine ⟨.ref s.heap.objs.size, _, I1, rfl, ⟨_, x, rfl, I.hok.fresh (Nat.le_refl _), rfl, fun ys hy => by rw [I.tuple_inj hy hq]; exact hx⟩, ⟨⟨u', ?_⟩, hit'.1.at fun o q => (sb.2 it (Ne.symm hne)).trans q, hne⟩, fun b hb => ?_⟩
    · have e1 : ((i + 1 : Nat) : Int) = (i : Int) + 1 := by omega
      rw [e1]; exact he'
    · have hb' : b < s.heap.objs.size := by
        have e' : b = e ∨ b = it := by simpa using hb
        rcases e' with z | z
        · rw [z]; exact hel
        · rw [z]; exact hil
      rw [upd_ne (Nat.ne_of_lt hb')]
      exact (hf b hb).1
  done := by
    intro X hP hw hK hc i pins s σ H E I hf st hg
    subst hP hw hK
    obtain ⟨⟨old, he⟩, hit, hne⟩ := st
    obtain ⟨xs, hq, hx⟩ := hg
    obtain ⟨its, rv, p, _⟩ := I.tuple hq
    obtain ⟨f0, f1, f2, f3, f4, f5⟩ := hf it (by simp)
    have hl := rv.length
    exact enumT_end (I.ok.hd hc) he hit p (by simp; omega) fun h' eb => ⟨rfl, I.turned (t' := s.toks) (fun b o hb q => eb b o hb q) f0 f1 f3 f4 f5⟩
  self := fun A i s Q E st h => let ⟨⟨_, he⟩, _⟩ := st; wpAny_pyIter_enum he h
def iEnumA (K : PySem.W.Frag) (ta : TA) : TI := fun σ H R => ta σ H fun vs H1 => ∃ a xs, vs = [.ref a] ∧ ((SqL K H1 a xs ∧ R (Ite K a) H1) ∨ (SqT K H1 a xs ∧ R (Itet K a) H1))
theorem pi_enumA {X : Cx} {e : Expr} {ta : TA} {p pos tpos : Pos} {elts : List Expr} {kk : Nat} (hg : Gl X "enumerate") (hm : X.mg "enumerate" = none) (ha : PA X [e] ta) (hs : starEach [e] X.env = [(false, eval e X.env)] := by rfl) :
    PI X (.Tuple elts kk tpos) (.Call (.Name "enumerate" p) [e] [] pos) (iEnumA X.K ta) := by
  refine ⟨fun pins s σ H R I h => ?_⟩
  refine Call_ (ld_blt I hg hm boot_enumerate (PyProof.Rows.callWith_type1 (thn (ha.run pos pins s σ H _ I h) fun us s1 ⟨vs, H1, I1, r1, q1⟩ => ?_) hs rfl))
  obtain ⟨a, xs, ex, q1⟩ := q1
  subst ex
  cases r1 with
  | cons r rr =>
    cases rr
    cases r
    have fresh2 : ∀ b ∈ [s1.heap.objs.size + 1, s1.heap.objs.size], FpOk X pins H1 b := fun b hb => by
      have e' : b = s1.heap.objs.size + 1 ∨ b = s1.heap.objs.size := by simpa using hb
      have hle : s1.heap.objs.size ≤ b := by
        rcases e' with z | z
        · rw [z]; exact Nat.le_add_right _ _
        · rw [z]; exact Nat.le_refl _
      exact I1.fpOk hle (I1.hok.fresh hle)
    rcases q1 with ⟨hq, q⟩ | ⟨hq, q⟩
    · obtain ⟨its, rv, p', hz⟩ := I1.list hq
      refine call_enumerate_list p'.isList fun h' he hit hsz hk => wpAny_pyIter_enum he ?_
      have I2 : Inv X pins σ H1 { s1 with heap := h' } := I1.kept (t' := s1.toks) hk
      exact ⟨s1.heap.objs.size + 1, [s1.heap.objs.size + 1, s1.heap.objs.size], _, _, H1, rfl, I2, turn_enum a (s1.heap.objs.size + 1) s1.heap.objs.size, ⟨⟨.none, he⟩, hit, Nat.succ_ne_self _⟩, fresh2, q⟩
    · obtain ⟨its, rv, p', _⟩ := I1.tuple hq
      refine enum_one (begins_tuple a its.toArray) p' fun h' he hit hsz hk => wpAny_pyIter_enum he ?_
      have I2 : Inv X pins σ H1 { s1 with heap := h' } := I1.kept (t' := s1.toks) hk
      exact ⟨s1.heap.objs.size + 1, [s1.heap.objs.size + 1, s1.heap.objs.size], _, _, H1, rfl, I2, turn_enumT a (s1.heap.objs.size + 1) s1.heap.objs.size, ⟨⟨.none, he⟩, ⟨_, hit, rfl, rfl⟩, Nat.succ_ne_self _⟩, fresh2, q⟩
theorem walkD_enumT {K : PySem.W.Frag} {fa : Nat → Option Addr} {H : Hp} {F : AP'} {a : Addr} {xs : List V} {ds : List D} (h : ∀ H' F', Stays H F H' F' → SqT K H' a xs) (r : RepL K fa H F xs ds) : WalkD K fa (Itet K a) (enumD 0 ds) H F where
  goes := fun i H' F' s hi => by rw [enumD_len] at hi; exact ⟨xs, xs[i]'(by rw [r.length]; exact hi), h _ _ s, get_of _⟩
  stops := fun i H' F' s hi => by
    rw [enumD_len] at hi
    exact ⟨xs, h _ _ s, by rw [r.length]; exact hi⟩
  yields := fun i H' F' x H2 s fd hi y => by
    obtain ⟨T, v, rfl, hT, rfl, y⟩ := y
    obtain ⟨d, h1, h2⟩ := (RepL.stays s r).get' (y xs (h _ _ s))
    have := enumD_get (n := 0) h1
    rw [Nat.zero_add] at this
    exact ⟨_, this, made_pair fd hT (.int _) h2⟩
theorem pid_enumA {X : Cx} {Z : Fix} {a : Expr} {p pos tpos : Pos} {elts : List Expr} {kk : Nat} {f : Env' → Res SV} (hg : Gl X "enumerate") (hm : X.mg "enumerate" = none) (ha : PEd X Z a f) (hs : starEach [a] X.env = (false, eval a X.env) :: starEach [] X.env) :
    PId X Z (.Tuple elts kk tpos) (.Call (.Name "enumerate" p) [a] [] pos) (fun ρ => (f ρ).bind fun sv ρ1 => (match sv.d with
    | .lst ds => .ok (enumD 0 ds) ρ1
    | .tup ds => .ok (enumD 0 ds) ρ1
    | _ => .stuck)) := by
  refine PI.weak (pi_enumA hg hm (pa_cons ha pa_nil hs) hs) ?_
  rintro σ H R ⟨F, ρ, ok, h⟩
  refine ⟨F, ρ, ok, (PostG.bindF late_RW h).imp ?_⟩
  rintro v H1 ⟨sv, F1, ρ1, ok1, st1, r, h1⟩
  split at h1
  · rename_i ds e
    rw [e] at r
    obtain ⟨a, xs, rfl, fa, rd, rl⟩ := r.lstAt
    exact ⟨a, xs, rfl, .inl ⟨.inl rd, h1 _ H1 F1 Step.refl ok1 (walkD_enum fa rd rl)⟩⟩
  · rename_i ds e
    rw [e] at r
    obtain ⟨a, xs, rfl, sq, rl⟩ := r.tupAt (.inl rfl)
    exact ⟨a, xs, rfl, .inr ⟨sq _ _ Stays.refl, h1 _ H1 F1 Step.refl ok1 (walkD_enumT sq rl)⟩⟩
  · exact h1.elim

/-! ### zip of three lists -/
def Itz3 (K : PySem.W.Frag) (a b c : Addr) (N : Nat) : L2.It :=
  ⟨fun i H => i < N ∧ ∃ xs ys zs : List V, SqL K H a xs ∧ SqL K H b ys ∧ SqL K H c zs ∧ N = min (min xs.length ys.length) zs.length,
    fun i H v H' => ∃ T x y z, v = .ref T ∧ H T = none ∧ H' = upd H T (.tup [x, y, z]) ∧ (∀ xs, SqL K H a xs → xs[i]? = some x) ∧ (∀ ys, SqL K H b ys → ys[i]? = some y) ∧ ∀ zs, SqL K H c zs → zs[i]? = some z,
    fun i H => N ≤ i ∧ ∃ xs ys zs : List V, SqL K H a xs ∧ SqL K H b ys ∧ SqL K H c zs ∧ N = min (min xs.length ys.length) zs.length⟩
theorem turn_zip3 {P : Program} {w : World} {K : PySem.W.Frag} {elts : List Expr} {kk : Nat} {tpos : Pos} {a b c n : Addr} {N : Nat} (ha : a < n) (hb : b < n) (hc : c < n) :
    Turn P w K (.Tuple elts kk tpos) (Itz3 K a b c N) [n + 5, n + 3, n + 4, n, n + 1, n + 2] (n + 5) (fun i h => IsZip h (n + 5) (n + 3) (n + 4) .none ∧ IsTupOf3 h (n + 3) (.ref n) (.ref (n + 1)) (.ref (n + 2)) ∧ (∃ x y z, IsTupOf3 h (n + 4) x y z) ∧ h.IsListIter n a i ∧ h.IsListIter (n + 1) b i ∧ h.IsListIter (n + 2) c i ∧ i ≤ N) where
  mem := by simp
  obj := fun i h st d hd => by
    obtain ⟨hz, hTI, ⟨x, y, z, hTO⟩, ⟨o1, e1, _, d1⟩, ⟨o2, e2, _, d2⟩, ⟨o3, e3, _, d3⟩, _⟩ := st
    have e' : d = n + 5 ∨ d = n + 3 ∨ d = n + 4 ∨ d = n ∨ d = n + 1 ∨ d = n + 2 := by simpa using hd
    rcases e' with q | q | q | q | q | q
    · rw [q]; exact ⟨_, hz, fun v q => nomatch q⟩
    · rw [q]; exact ⟨_, hTI, fun v q => nomatch q⟩
    · rw [q]; exact ⟨_, hTO, fun v q => nomatch q⟩
    · rw [q]; exact ⟨o1, e1, fun v q => by rw [d1] at q; cases q⟩
    · rw [q]; exact ⟨o2, e2, fun v q => by rw [d2] at q; cases q⟩
    · rw [q]; exact ⟨o3, e3, fun v q => by rw [d3] at q; cases q⟩
  keep := fun i h h' st k => by
    obtain ⟨hz, hTI, ⟨x, y, z, hTO⟩, h1, h2, h3, hi⟩ := st
    exact ⟨k _ (by simp) _ hz, k _ (by simp) _ hTI, ⟨x, y, z, k _ (by simp) _ hTO⟩, h1.at fun o q => k _ (by simp) o q, h2.at fun o q => k _ (by simp) o q, h3.at fun o q => k _ (by simp) o q, hi⟩
  item := by
    intro X hP hw hK hcm i pins s σ H E I hf st hg
    subst hP hw hK
    obtain ⟨hz, hTI, ⟨x0, y0, z0, hTO⟩, h1, h2, h3, hi⟩ := st
    obtain ⟨hlt, xs, ys, zs, hqx, hqy, hqz, hN⟩ := hg
    obtain ⟨its, rv, p, _⟩ := I.list hqx
    obtain ⟨its2, rv2, p2, _⟩ := I.list hqy
    obtain ⟨its3, rv3, p3, _⟩ := I.list hqz
    have l1 := rv.length
    have l2 := rv2.length
    have l3 := rv3.length
    have hh : (X.A.in1).handled = none := I.ok.hd hcm
    have m1 : N ≤ xs.length := by rw [hN]; exact Nat.le_trans (Nat.min_le_left _ _) (Nat.min_le_left _ _)
    have m2 : N ≤ ys.length := by rw [hN]; exact Nat.le_trans (Nat.min_le_left _ _) (Nat.min_le_right _ _)
    have m3 : N ≤ zs.length := by rw [hN]; exact Nat.min_le_right _ _
    have m4 : N = xs.length ∨ N = ys.length ∨ N = zs.length := by rw [hN, Nat.min_def, Nat.min_def]; split <;> split <;> simp
    clear hN
    have hzl : n + 5 < s.heap.objs.size := Heap.lt_size hz
    have S := zip_sep3 (N := n) (fp1 := [a]) (fp2 := [b]) (fp3 := [c]) (by simpa using ha) (by simpa using hb) (by simpa using hc)
    refine wpAny_pyNext_zipD3_item (zip_sep3 (N := n) (fp1 := [a]) (fp2 := [b]) (fp3 := [c]) (by simpa using ha) (by simpa using hb) (by simpa using hc)) (Draws.list hh n a (Nat.ne_of_lt ha) its.toArray) (Draws.list hh (n + 1) b (Nat.ne_of_lt (Nat.lt_succ_of_lt hb)) its2.toArray) (Draws.list hh (n + 2) c (Nat.ne_of_lt (Nat.lt_succ_of_lt (Nat.lt_succ_of_lt hc))) its3.toArray) hz hTI hTO
      ⟨h1, p.isList⟩ ⟨h2, p2.isList⟩ ⟨h3, p3.isList⟩ (by rw [List.size_toArray]; omega) (by rw [List.size_toArray]; omega) (by rw [List.size_toArray]; omega) fun u1 u2 u3 h' tk hu1 hu2 hu3 z' TO' g1 g2 g3 hT hsz hk => ?_
    obtain ⟨x, hx⟩ : ∃ x, xs[i]? = some x := ⟨xs[i]'(by omega), List.getElem?_eq_getElem _⟩
    obtain ⟨y, hy⟩ : ∃ y, ys[i]? = some y := ⟨ys[i]'(by omega), List.getElem?_eq_getElem _⟩
    obtain ⟨z, hzz⟩ : ∃ z, zs[i]? = some z := ⟨zs[i]'(by omega), List.getElem?_eq_getElem _⟩
    obtain ⟨v1, w1, r1⟩ := rv.get hx
    obtain ⟨v2, w2, r2⟩ := rv2.get hy
    obtain ⟨v3, w3, r3⟩ := rv3.get hzz
    have q1 : its[i]? = some u1 := by simpa using hu1
    have q2 : its2[i]? = some u2 := by simpa using hu2
    have q3 : its3[i]? = some u3 := by simpa using hu3
    rw [q1] at w1; cases w1
    rw [q2] at w2; cases w2
    rw [q3] at w3; cases w3
    refine ⟨_, rfl, wpAny_letOwnedTupleGo_zip (s := { s with heap := h', toks := tk }) z' fun h'' z'' sb => ?_⟩
    have hT2 : h''.get? s.heap.objs.size = some { cls := .type "tuple", data := .seq #[u1, u2, u3] } := (sb.2 _ (Nat.ne_of_gt hzl)).trans hT
    have new : ObjOk X.prog X.w (upd H s.heap.objs.size (.tup [x, y, z])) h'' s.heap.objs.size (.tup [x, y, z]) :=
      ⟨by show 3 ≤ sizeLine; decide, [u1, u2, u3], .cons r1 (.cons r2 (.cons r3 .nil)), ⟨_, hT2, rfl, _, rfl⟩⟩
    have I1 : Inv X pins σ (upd H s.heap.objs.size (.tup [x, y, z])) { s with heap := h'', toks := tk } :=
      I.turnedNew (ch := [n + 5, n + 3, n + 4, n, n + 1, n + 2]) (fun d o hb q => (sb.2 d (fun q' => hb (by simp [q']))).trans (hk d o (fun q' => hb (by simp [q'])) (fun q' => hb (by simp [q'])) (fun q' => hb (by simp [q'])) (fun q' => hb (by simp [q'])) (fun q' => hb (by simp [q'])) q)) hf (Nat.le_refl _) new
    refine ⟨.ref s.heap.objs.size, _, I1, rfl, ⟨_, x, y, z, rfl, I.hok.fresh (Nat.le_refl _), rfl, fun l hl => by rw [I.list_inj hl hqx]; exact hx, fun l hl => by rw [I.list_inj hl hqy]; exact hy, fun l hl => by rw [I.list_inj hl hqz]; exact hzz⟩, ⟨z'', ?_, ⟨u1, u2, u3, ?_⟩, ?_, ?_, ?_, hlt⟩, fun d hdm => ?_⟩
    · exact (sb.2 _ S.TIz).trans (hk _ _ S.TIz S.TITO S.TIi1 S.TIi2 S.TIi3 hTI)
    · exact (sb.2 _ S.TOz).trans TO'
    · exact g1.1.at fun o q => (sb.2 _ (Ne.symm S.zi1)).trans q
    · exact g2.1.at fun o q => (sb.2 _ (Ne.symm S.zi2)).trans q
    · exact g3.1.at fun o q => (sb.2 _ (Ne.symm S.zi3)).trans q
    · have hlt2 : d < s.heap.objs.size := by
        have e' : d = n + 5 ∨ d = n + 3 ∨ d = n + 4 ∨ d = n ∨ d = n + 1 ∨ d = n + 2 := by simpa using hdm
        rcases e' with q | q | q | q | q | q
        · rw [q]; exact hzl
        · rw [q]; exact Heap.lt_size hTI
        · rw [q]; exact Heap.lt_size hTO
        · rw [q]; obtain ⟨_, e1, _⟩ := h1; exact Heap.lt_size e1
        · rw [q]; obtain ⟨_, e1, _⟩ := h2; exact Heap.lt_size e1
        · rw [q]; obtain ⟨_, e1, _⟩ := h3; exact Heap.lt_size e1
      rw [upd_ne (Nat.ne_of_lt hlt2)]
      exact (hf d hdm).1
  done := by
    intro X hP hw hK hcm i pins s σ H E I hf st hg
    subst hP hw hK
    obtain ⟨hz, hTI, ⟨x0, y0, z0, hTO⟩, h1, h2, h3, hi⟩ := st
    obtain ⟨hlt, xs, ys, zs, hqx, hqy, hqz, hN⟩ := hg
    obtain ⟨its, rv, p, _⟩ := I.list hqx
    obtain ⟨its2, rv2, p2, _⟩ := I.list hqy
    obtain ⟨its3, rv3, p3, _⟩ := I.list hqz
    have l1 := rv.length
    have l2 := rv2.length
    have l3 := rv3.length
    have hh : (X.A.in1).handled = none := I.ok.hd hcm
    have m1 : N ≤ xs.length := by rw [hN]; exact Nat.le_trans (Nat.min_le_left _ _) (Nat.min_le_left _ _)
    have m2 : N ≤ ys.length := by rw [hN]; exact Nat.le_trans (Nat.min_le_left _ _) (Nat.min_le_right _ _)
    have m3 : N ≤ zs.length := by rw [hN]; exact Nat.min_le_right _ _
    have m4 : N = xs.length ∨ N = ys.length ∨ N = zs.length := by rw [hN, Nat.min_def, Nat.min_def]; split <;> split <;> simp
    clear hN
    exact wpAny_pyNext_zipD3_end (zip_sep3 (N := n) (fp1 := [a]) (fp2 := [b]) (fp3 := [c]) (by simpa using ha) (by simpa using hb) (by simpa using hc)) (Draws.list hh n a (Nat.ne_of_lt ha) its.toArray) (Draws.list hh (n + 1) b (Nat.ne_of_lt (Nat.lt_succ_of_lt hb)) its2.toArray) (Draws.list hh (n + 2) c (Nat.ne_of_lt (Nat.lt_succ_of_lt (Nat.lt_succ_of_lt hc))) its3.toArray) hz hTI hTO
      ⟨h1, p.isList⟩ ⟨h2, p2.isList⟩ ⟨h3, p3.isList⟩ (by rw [List.size_toArray]; omega) (by rw [List.size_toArray]; omega) (by rw [List.size_toArray]; omega) (by rw [List.size_toArray, List.size_toArray, List.size_toArray]; omega)
      fun h' tk hk => ⟨rfl, I.turnedL (t' := tk) (ch := [n + 5, n + 3, n + 4, n, n + 1, n + 2]) (fun d o hb q => hk d o (fun q' => hb (by simp [q'])) (fun q' => hb (by simp [q'])) (fun q' => hb (by simp [q'])) (fun q' => hb (by simp [q'])) (fun q' => hb (by simp [q'])) q) hf⟩
  self := fun A i s Q E st h => wpAny_pyIter_zip st.1 h
def iZip3 (K : PySem.W.Frag) (ta : TA) : TI := fun σ H R => ta σ H fun vs H1 => ∃ a b c xs ys zs, vs = [.ref a, .ref b, .ref c] ∧ SqL K H1 a xs ∧ SqL K H1 b ys ∧ SqL K H1 c zs ∧ R (Itz3 K a b c (min (min xs.length ys.length) zs.length)) H1
theorem pi_zip3 {X : Cx} {e e2 e3 : Expr} {ta : TA} {p pos tpos : Pos} {elts : List Expr} {kk : Nat} (hg : Gl X "zip") (hm : X.mg "zip" = none) (ha : PA X [e, e2, e3] ta)
    (hs : starEach [e, e2, e3] X.env = (false, eval e X.env) :: starEach [e2, e3] X.env) (hpl : (backTo pos (starEach [e2, e3] X.env)).any (·.1) = false) :
    PI X (.Tuple elts kk tpos) (.Call (.Name "zip" p) [e, e2, e3] [] pos) (iZip3 X.K ta) := by
  refine ⟨fun pins s σ H R I h => ?_⟩
  refine Call_ (ld_blt I hg hm PyProof.Rows.boot_zip (PyProof.Rows.callWith_type1 (thn (ha.run pos pins s σ H _ I h) fun us s1 ⟨vs, H1, I1, r1, q1⟩ => ?_) hs hpl))
  obtain ⟨a, b, c, xs, ys, zs, ex, hqx, hqy, hqz, q⟩ := q1
  subst ex
  cases r1 with
  | cons r rr =>
    cases rr with
    | cons r' rr =>
      cases rr with
      | cons r'' rr =>
        cases rr
        cases r
        cases r'
        cases r''
        obtain ⟨its, rv, p1, _⟩ := I1.list hqx
        obtain ⟨its2, rv2, p2, _⟩ := I1.list hqy
        obtain ⟨its3, rv3, p3, _⟩ := I1.list hqz
        refine zip_begins3 (begins_list a its.toArray) (begins_list b its2.toArray) (begins_list c its3.toArray) p1.isList p2.isList p3.isList fun h' hz hTI hTO g1 g2 g3 hsz hk => wpAny_pyIter_zip hz ?_
        have I2 : Inv X pins σ H1 { s1 with heap := h' } := I1.kept (t' := s1.toks) hk
        refine ⟨s1.heap.objs.size + 5, [s1.heap.objs.size + 5, s1.heap.objs.size + 3, s1.heap.objs.size + 4, s1.heap.objs.size, s1.heap.objs.size + 1, s1.heap.objs.size + 2], _, _, H1, rfl, I2, turn_zip3 p1.lt p2.lt p3.lt, ⟨hz, hTI, ⟨_, _, _, hTO⟩, ⟨_, g1, rfl, rfl⟩, ⟨_, g2, rfl, rfl⟩, ⟨_, g3, rfl, rfl⟩, Nat.zero_le _⟩, fun d hd => ?_, q⟩
        have e' : d = s1.heap.objs.size + 5 ∨ d = s1.heap.objs.size + 3 ∨ d = s1.heap.objs.size + 4 ∨ d = s1.heap.objs.size ∨ d = s1.heap.objs.size + 1 ∨ d = s1.heap.objs.size + 2 := by simpa using hd
        have hle : s1.heap.objs.size ≤ d := by
          rcases e' with z | z | z | z | z | z
          · rw [z]; exact Nat.le_add_right _ _
          · rw [z]; exact Nat.le_add_right _ _
          · rw [z]; exact Nat.le_add_right _ _
          · rw [z]; exact Nat.le_refl _
          · rw [z]; exact Nat.le_add_right _ _
          · rw [z]; exact Nat.le_add_right _ _
        exact I1.fpOk hle (I1.hok.fresh hle)
theorem zip3D_get : ∀ {ds es gs : List D} {i : Nat} {d e g : D}, ds[i]? = some d → es[i]? = some e → gs[i]? = some g → (zip3D ds es gs)[i]? = some (.tup [d, e, g])
  | [], _, _, _, _, _, _, h, _, _ => by simp at h
  | _ :: _, [], _, _, _, _, _, _, h, _ => by simp at h
  | _ :: _, _ :: _, [], _, _, _, _, _, _, h => by simp at h
  | a :: as, b :: bs, c :: cs, 0, _, _, _, h1, h2, h3 => by simp at h1 h2 h3; subst h1 h2 h3; rfl
  | a :: as, b :: bs, c :: cs, i + 1, _, _, _, h1, h2, h3 => by
    rw [zip3D, List.getElem?_cons_succ]
    exact zip3D_get (by simpa using h1) (by simpa using h2) (by simpa using h3)
theorem zip3D_len : ∀ {ds es gs : List D}, (zip3D ds es gs).length = min (min ds.length es.length) gs.length
  | [], _, _ => by simp [zip3D]
  | _ :: _, [], _ => by simp [zip3D]
  | _ :: _, _ :: _, [] => by simp [zip3D]
  | _ :: as, _ :: bs, _ :: cs => by rw [zip3D, List.length_cons, zip3D_len, List.length_cons, List.length_cons, List.length_cons]; omega
theorem walkD_zip3 {K : PySem.W.Frag} {fa : Nat → Option Addr} {H : Hp} {F : AP'} {a b c : Addr} {xs ys zs : List V} {ds es gs : List D} (h : ∀ H' F', Stays H F H' F' → SqL K H' a xs) (g : ∀ H' F', Stays H F H' F' → SqL K H' b ys) (k : ∀ H' F', Stays H F H' F' → SqL K H' c zs)
    (r : RepL K fa H F xs ds) (q : RepL K fa H F ys es) (t : RepL K fa H F zs gs) : WalkD K fa (Itz3 K a b c (min (min xs.length ys.length) zs.length)) (zip3D ds es gs) H F where
  goes := fun i H' F' s hi => by
    rw [zip3D_len, ← r.length, ← q.length, ← t.length] at hi
    exact ⟨hi, xs, ys, zs, h _ _ s, g _ _ s, k _ _ s, rfl⟩
  stops := fun i H' F' s hi => by
    rw [zip3D_len, ← r.length, ← q.length, ← t.length] at hi
    exact ⟨hi, xs, ys, zs, h _ _ s, g _ _ s, k _ _ s, rfl⟩
  yields := fun i H' F' x H2 s fd hi y => by
    obtain ⟨T, v1, v2, v3, rfl, hT, rfl, y1, y2, y3⟩ := y
    obtain ⟨d, e1, r1⟩ := (RepL.stays s r).get' (y1 xs (h _ _ s))
    obtain ⟨e, e2, r2⟩ := (RepL.stays s q).get' (y2 ys (g _ _ s))
    obtain ⟨f, e3, r3⟩ := (RepL.stays s t).get' (y3 zs (k _ _ s))
    exact ⟨_, zip3D_get e1 e2 e3, made_tup fd hT (.cons r1 (.cons r2 (.cons r3 .nil)))⟩
theorem pid_zip3 {X : Cx} {Z : Fix} {a b c : Expr} {p pos tpos : Pos} {elts : List Expr} {kk : Nat} {f g k : Env' → Res SV} (hg : Gl X "zip") (hm : X.mg "zip" = none) (ha : PEd X Z a f) (hb : PEd X Z b g) (hc : PEd X Z c k)
    (h1 : plainE a = true) (h2 : plainE b = true) (h3 : plainE c = true) :
    PId X Z (.Tuple elts kk tpos) (.Call (.Name "zip" p) [a, b, c] [] pos) (fun ρ => (f ρ).bind fun sv ρ1 => (g ρ1).bind fun sw ρ2 => (k ρ2).bind fun sz ρ3 => (match sv.d, sw.d, sz.d with
    | .lst xs, .lst ys, .lst zs => .ok (zip3D xs ys zs) ρ3
    | _, _, _ => .stuck)) := by
  refine PI.weak (pi_zip3 hg hm (pa_cons ha (pa_cons hb (pa_cons hc pa_nil (star_plain h3)) (star_plain h2)) (star_plain h1)) (star_plain h1) (back_plain (es := [b, c]) (by simp [h2, h3]))) ?_
  rintro σ H R ⟨F, ρ, ok, h⟩
  refine ⟨F, ρ, ok, (PostG.bindF late_RW h).imp ?_⟩
  rintro v H1 ⟨sv, F1, ρ1, ok1, st1, r1, h1⟩
  refine ⟨F1, ρ1, ok1, (PostG.bindF late_RW h1).imp ?_⟩
  rintro v2 H2 ⟨sw, F2, ρ2, ok2, st2, r2, h2⟩
  refine ⟨F2, ρ2, ok2, (PostG.bindF late_RW h2).imp ?_⟩
  rintro v3 H3 ⟨sz, F3, ρ3, ok3, st3, r3, h3⟩
  split at h3
  · rename_i xs ys zs e1 e2 e3
    have r1' := Rep.stays (st3.stays ok2) (Rep.stays (st2.stays ok1) r1)
    have r2' := Rep.stays (st3.stays ok2) r2
    rw [e1] at r1'
    rw [e2] at r2'
    rw [e3] at r3
    obtain ⟨a, us, rfl, fa, rd, rl⟩ := r1'.lstAt
    obtain ⟨b, vs, rfl, fb, rd2, rl2⟩ := r2'.lstAt
    obtain ⟨c, ws, rfl, fc, rd3, rl3⟩ := r3.lstAt
    exact ⟨a, b, c, us, vs, ws, rfl, .inl rd, .inl rd2, .inl rd3, h3 _ H3 F3 Step.refl ok3 (walkD_zip3 (fun H' F' s => .inl (s.rd _ _ fa rd)) (fun H' F' s => .inl (s.rd _ _ fb rd2)) (fun H' F' s => .inl (s.rd _ _ fc rd3)) rl rl2 rl3)⟩
  · exact h3.elim
end DL

namespace L2
open PySem PySem.Spec PyProof.Rows

/-! ### the clauses of a comprehension, one lemma for each clause's loop -/
section
variable {cx t i : Expr} {fs : List Expr} {k : Nat} {acc : Value} {fin : Value → Sem Fin} {mo : Model} {ar : Around} {env : Env}
/-- the turn of clause k, fin being what stands behind its tests -/
def TurnIs (cx : Expr) (k : Nat) (t i : Expr) (fs : List Expr) (acc : Value) (env : Env) (fin : Value → Sem Fin) : Prop := ∀ it, compTurn cx k it acc env = (standAt i.pos >>= fun _ => pyNext it >>= fun r => match r with
  | none => pure (.done .next)
  | some v => letOwnedTupleGo t it v >>= fun _ => assign t env v >>= fun _ => (forIn fs true fun c r => if r = true then do let b ← isTrue c env (eval c env); pure (ForInStep.yield b) else pure (ForInStep.yield r)) >>= fun b => if b = true then fin it else again (.compLoop cx k it acc env))
/-- slots that know at least what others know -/
def Knows (σ0 σ' : St) : Prop := σ0.length = σ'.length ∧ ∀ (j : Nat) v, σ0[j]? = some (some v) → σ'[j]? = some (some v)
theorem Knows.wiped {σ σ' : St} {vs : List Nat} (e : wipe σ' vs = σ) : Knows σ σ' := by
  subst e
  exact ⟨wipe_length _ _, fun j v z => (wipe_some z).1⟩
theorem Knows.sub {σ σ' : St} {vs ws : List Nat} (e : wipe σ' vs = σ) (h : ∀ i ∈ ws, i ∈ vs) : Knows σ (wipe σ' ws) := by
  subst e
  refine ⟨by rw [wipe_length, wipe_length], fun j v z => ?_⟩
  obtain ⟨z1, z2⟩ := wipe_some z
  rw [wipe_out fun m => z2 (h j m)]; exact z1
/-- what the loop of a clause keeps: the state of the block, its iterator at some turn -/
def Rest (Y : Cx) (pins : List (Addr × Obj)) (σ0 : St) (fp : List Addr) (tn : Nat → Heap → Prop) (W : Nat → Nat → Hp → Prop) (m : Nat) (s : Shared) : Prop :=
  ∃ j H, Inv Y pins σ0 H s ∧ tn j s.heap ∧ (∀ b ∈ fp, H b = none) ∧ W j m H
def clauseT (J : It) (g : TG) (tt : TT) (σ0 : St) (vs : List Nat) (Sp : Hp → Prop) (Bd : St → Hp → (Hp → Prop) → Prop) (W : Nat → Nat → Hp → Prop) : Prop := ∀ j m H, W j m H →
  (J.stop j H ∧ Sp H) ∨ (J.go j H ∧ ∃ Nx : Hp → Prop, (∀ H', Nx H' → ∃ m', m' < m ∧ W (j + 1) m' H') ∧ ∀ x H', J.yld j H x H' → g x σ0 H' fun σ2 H2 => wipe σ2 vs = σ0 ∧ tt σ2 H2 fun b H3 => if b = true then Bd σ2 H3 Nx else Nx H3)
theorem clause {Y : Cx} {el : Expr} {gs : List Comprehension} {sc : Scope} {ps' : Pos} {pins : List (Addr × Obj)} {σ0 : St} {J : It} {fp : List Addr} {it : Addr} {tn : Nat → Heap → Prop} {g : TG} {tt : TT} {vs : List Nat} {Sp : Hp → Prop} {Bd : St → Hp → (Hp → Prop) → Prop} {W : Nat → Nat → Hp → Prop} {R : Result → Shared → Prop}
    (hT : TurnIs (.ListComp el gs sc ps') k t i fs acc Y.env fin) (hc : Y.calm = true) (hx : Y.xe = fun _ _ => False) (T : Turn Y.prog Y.w Y.K t J fp it tn) (pg : PG Y t g) (pt : PTs Y fs tt)
    (own : ∀ {σ' H' s'}, Inv Y pins σ' H' s' → (∀ b ∈ fp, H' b = none) → ∀ b ∈ fp, FpOk Y pins H' b) (tu : clauseT J g tt σ0 vs Sp Bd W)
    (bd : ∀ ps σ2 H2 s2 Nx, Inv Y ps σ2 H2 s2 → wipe σ2 vs = σ0 → Bd σ2 H2 Nx → wpAny (model Y.prog Y.w) Y.A (fin (.ref it)) (fun r s' => r = .again (.compLoop (.ListComp el gs sc ps') k (.ref it) acc Y.env) ∧ ∃ σ' H', Inv Y ps σ' H' s' ∧ Knows σ0 σ' ∧ Nx H') (fun _ _ => False) s2)
    (done : ∀ H' s', Inv Y pins σ0 H' s' → Sp H' → R (.ok .next) s') (m : Nat) (s : Shared) (start : Rest Y pins σ0 fp tn W m s) : codeAny (model Y.prog Y.w) Y.A (.compLoop (.ListComp el gs sc ps') k (.ref it) acc Y.env) R s := by
  refine codeAny_loop rfl (Rest Y pins σ0 fp tn W) (fun m s0 ⟨j, H, J0, t0, n0, w0⟩ => ?_) m start
  show wpAny _ Y.A ((compTurn (.ListComp el gs sc ps') k (.ref it) acc Y.env).onRaise fun x => do noteFrame x Y.env; theTreesLotGoes x) _ _ s0
  refine wpAny_noted ?_
  rw [hT]
  refine wpAny_bind (wpAny_standAt (wpAny_bind ?_))
  rcases tu j m H w0 with ⟨stop, sp⟩ | ⟨go, Nx, low, nxt⟩
  · refine thnF (T.done Y rfl rfl rfl hc j pins s0 σ0 H (fun _ _ => False) J0 (own J0 n0) t0 stop) fun r s1 ⟨er, J1⟩ => ?_
    subst er
    exact wpAny_pure (done H s1 J1 sp)
  · refine thnF (T.item Y rfl rfl rfl hc j pins s0 σ0 H (fun _ _ => False) J0 (own J0 n0) t0 go) fun r s1 ⟨u, er, q1⟩ => ?_
    subst er
    refine wpAny_bind (thnF q1 fun _ s2 ⟨x, H2, J2, rx, yx, t2, n2⟩ => ?_)
    have J3 := J2.pinned (own J2 n2) (T.obj _ _ t2)
    have q3 := pg.run _ s2 σ0 H2 x u _ J3 rx (nxt x H2 yx)
    rw [hx] at q3
    refine wpAny_bind (thnF q3 fun _ s3 ⟨σ4, H4, J4, ew, q4⟩ => ?_)
    have q5 := pt.run _ s3 σ4 H4 _ J4 q4
    rw [hx] at q5
    have back : ∀ {σ' H' s'}, Inv Y (pins ++ pinsAt fp s2.heap) σ' H' s' → Knows σ0 σ' → Nx H' → ∃ m', m' < m ∧ Rest Y pins σ0 fp tn W m' s' := fun {σ' H' s'} Jn kn nx => by
      obtain ⟨m', lt, w'⟩ := low H' nx
      have held : ∀ b ∈ fp, ∀ o, s2.heap.get? b = some o → s'.heap.get? b = some o ∧ H' b = none := fun b hb o e =>
        ⟨(Jn.pin (b, o) (List.mem_append_right _ (List.mem_append_right _ (mem_pinsAt hb e)))).1, (Jn.pin (b, o) (List.mem_append_right _ (List.mem_append_right _ (mem_pinsAt hb e)))).2.1⟩
      exact ⟨m', lt, j + 1, H', (Jn.unpinned (pins := pins)).weak kn.1 kn.2, T.keep _ _ _ t2 fun b hb o e => (held b hb o e).1, fun b hb => (T.obj _ _ t2 b hb).elim fun o e => (held b hb o e.1).2, w'⟩
    refine wpAny_bind (thnF q5 fun b s5 ⟨H5, J5, q6⟩ => ?_)
    cases b with
    | false => exact wpAny_pure ⟨rfl, back J5 (Knows.wiped ew) q6⟩
    | true =>
      refine thnF (bd _ _ _ _ _ J5 ew q6) fun r s6 ⟨er, σ6, H6, J6, kn, nx⟩ => ?_
      subst er
      exact ⟨rfl, back J6 kn nx⟩
end

section
variable {prog : Program} {w : World} {ar : Around} {R : Result → Shared → Prop} {s : Shared} {el : Expr} {gs : List Comprehension} {sc : Scope} {ps' : Pos} {k : Nat} {it : Addr} {acc : Value} {env : Env}
theorem start_at {c0 : Comprehension} (hg : gs[k]? = some c0) (ha : (c0.is_async != 0) = false) (h0 : codeAny (model prog w) ar (.compLoop (.ListComp el gs sc ps') k (.ref it) acc env) R s)
    (self : ∀ (Q : Value → Shared → Prop) (E : Value → Shared → Prop), Q (.ref it) s → wpAny (model prog w) ar (pyIter (.ref it)) Q E s) : codeAny (model prog w) ar (.compStart (.ListComp el gs sc ps') k (.ref it) acc env) R s := by
  refine codeAny_of_tree ?_
  show wpAny _ _ ((compStart (.ListComp el gs sc ps') k (.ref it) acc env).onRaise fun x => do noteFrame x env; standAt theWindowsPlace) _ _ s
  refine wpAny_notedAt ?_
  unfold compStart
  have e1 : (clausesOf (.ListComp el gs sc ps'))[k]? = some c0 := hg
  rw [e1]
  simp only [Option.elim, ha]
  refine wpAny_bind (wpAny_askSetting (wpAny_ite ?_))
  split
  · exact wpAny_bind (wpAny_pure (wpAny_pure ⟨rfl, h0⟩))
  · refine wpAny_bind (wpAny_rule ?_)
    exact wpAny_bind (wpAny_standAt (wpAny_bind (self _ _ (wpAny_pure ⟨rfl, h0⟩))))
end

def finSub (cx : Expr) (k : Nat) (i1 : Expr) (it acc : Value) (env : Env) : Sem Fin := (eval i1 env >>= fun x => standAt i1.pos >>= fun _ => foldedSetIterable i1 env x >>= fun x => holding [x] (pyIter x) >>= fun it1 => runOwn (.compStart cx (k + 1) it1 acc env) env >>= fun _ => again (.compLoop cx k it acc env))
def finApp (cx : Expr) (k : Nat) (elt : Expr) (it acc : Value) (env : Env) : Sem Fin := ((eval elt env >>= fun x => call (.builtin "list.append") [acc, x] >>= fun _ => pure PUnit.unit) >>= fun _ => again (.compLoop cx k it acc env))
section
variable {Y : Cx} {tg1 iter1 elt : Expr} {wi1 : TI} {te : TE} {el : Expr} {gs : List Comprehension} {sc : Scope} {ps' : Pos} {k : Nat} {it acc : Value} {c0 : Comprehension} {ps : List (Addr × Obj)} {σ2 : St} {H2 : Hp} {s2 : Shared}
theorem fin_sub {R1 : It → Hp → Prop} {Post : Shared → Prop} (hg : gs[k + 1]? = some c0) (ha : (c0.is_async != 0) = false) (hx : Y.xe = fun _ _ => False) (pi : PI Y tg1 iter1 wi1) (hs1 : ∀ env x, foldedSetIterable iter1 env x = pure x) (J2 : Inv Y ps σ2 H2 s2) (q : wi1 σ2 H2 R1)
    (h : ∀ it1 fp1 tn1 J1 H4 s4, Inv Y ps σ2 H4 s4 → Turn Y.prog Y.w Y.K tg1 J1 fp1 it1 tn1 → tn1 0 s4.heap → (∀ b ∈ fp1, FpOk Y ps H4 b) → R1 J1 H4 → codeAny (model Y.prog Y.w) Y.A (.compLoop (.ListComp el gs sc ps') (k + 1) (.ref it1) acc Y.env) (fun r s' => match r with | .ok _ => Post s' | .error _ => False) s4) :
    wpAny (model Y.prog Y.w) Y.A (finSub (.ListComp el gs sc ps') k iter1 it acc Y.env) (fun r s' => r = .again (.compLoop (.ListComp el gs sc ps') k it acc Y.env) ∧ Post s') (fun _ _ => False) s2 := by
  have q1 := pi.run ps s2 σ2 H2 R1 J2 q
  rw [hx] at q1
  refine wpAny_bind (thnF q1 fun v s3 q3 => wpAny_bind (wpAny_standAt (wpAny_bind (wpAny_of_eq (hs1 _ v) (wpAny_bind (wpAny_holding (thnF q3 fun itv s4 q4 => ?_)))))))
  obtain ⟨it1, fp1, tn1, J1, H4, rfl, J4, T1, t4, f4, r4⟩ := q4
  refine wpAny_bind (wpAny_runOwn ?_)
  rw [Around.mark_none]
  refine codeAny_mono (start_at hg ha (h it1 fp1 tn1 J1 H4 s4 J4 T1 t4 f4 r4) fun Q E z => T1.self _ 0 _ _ _ t4 z) fun r s' hr => ?_
  cases r with
  | ok f => exact wpAny_pure ⟨rfl, hr⟩
  | error e => exact hr.elim
theorem fin_app {D : Addr} {Nx : Hp → Prop} (hx : Y.xe = fun _ _ => False) (pe : PE Y elt te) (J2 : Inv Y ps σ2 H2 s2) (q : te σ2 H2 fun y H7 => ∃ xs, H7 D = some (.lst xs) ∧ xs.length < sizeLine ∧ Nx (upd H7 D (.lst (xs ++ [y])))) :
    wpAny (model Y.prog Y.w) Y.A (finApp (.ListComp el gs sc ps') k elt it (.ref D) Y.env) (fun r s' => r = .again (.compLoop (.ListComp el gs sc ps') k it (.ref D) Y.env) ∧ ∃ H', Inv Y ps σ2 H' s' ∧ Nx H') (fun _ _ => False) s2 := by
  have q1 := pe.run ps s2 σ2 H2 _ J2 q
  rw [hx] at q1
  refine wpAny_bind (wpAny_bind (thnF q1 fun v s3 ⟨y, H7, J7, r7, xs, e7, l7, nx⟩ => wpAny_bind (app_ok (X := Y) J7 e7 l7 r7 fun s4 J8 => ?_)))
  exact wpAny_pure (wpAny_pure ⟨rfl, _, J8, nx⟩)
end

/-! ### the block is opened -/
section
variable {X : Cx} {elt tg iter : Expr} {gs : List Comprehension} {scope : Scope} {own : List (Str × Nat)} {pos : Pos} {wi : TI}
theorem pe_comp (Kt : St → It → Hp → Addr → VK → Prop) (hc : X.calm = true) (hN : X.N.Nodup) (hi : PI X tg iter wi) (ok : BlkOk X.N X.env.scope scope own) (hs : ∀ x, foldedSetIterable iter X.env x = pure x)
    (loop : ∀ s H C cl fp σ J H1 D Q it tn s4 R, Inv (X.blk s H scope (compEnvC scope cl C X.env) fp) [] (wipe σ (own.map (·.2))) (upd H1 D (.lst [])) s4 → Turn X.prog X.w X.K tg J fp it tn → tn 0 s4.heap → (∀ b ∈ fp, (upd H1 D (.lst [])) b = none) →
      (∀ {σ' H' s'}, Inv (X.blk s H scope (compEnvC scope cl C X.env) fp) [] σ' H' s' → (∀ b ∈ fp, H' b = none) → ∀ b ∈ fp, FpOk (X.blk s H scope (compEnvC scope cl C X.env) fp) [] H' b) → Kt σ J H1 D Q →
      (∀ H' s', Inv (X.blk s H scope (compEnvC scope cl C X.env) fp) [] (wipe σ (own.map (·.2))) H' s' → Q (.ref D) H' → R (.ok .next) s') → codeAny (model X.prog X.w) X.A (.compLoop (.ListComp elt (⟨tg, iter, [], 0⟩ :: gs) scope pos) 0 (.ref it) (.ref D) (compEnvC scope cl C X.env)) R s4) :
    PE X (.ListComp elt (⟨tg, iter, [], 0⟩ :: gs) scope pos) (fun σ H Q => wi σ H fun J H1 => ∀ D, H1 D = none → Kt σ J H1 D Q) := by
  refine ⟨fun pins s σ H Q I h => ?_⟩
  rw [eval_ListComp]
  have fr : ∀ y ∈ scope.names, y.2 = .free → ∃ c, X.env.cells.lookup y.1 = some c := fun y m e => I.ok.has _ (ok.free y m e)
  refine wpAny_comprehension_free (use := none) rfl hs (closure_ok fr) ok.kind (fun y m e => (ok.uniq y m).trans (by rw [e])) (thn (hi.run pins s σ H _ I h) fun v s1 q1 => thn q1 fun itv s2 q2 => ?_)
  obtain ⟨it, fp, tn, J, H1, rfl, I2, T, t2, f2, q3⟩ := q2
  refine wpAny_newObj_type (newEnv_comp ?_) (Nat.zero_le _)
  have free2 : H1 s2.heap.objs.size = none := I2.hok.fresh (Nat.le_refl _)
  have I3 : Inv X pins σ (upd H1 s2.heap.objs.size (.lst [])) { s2 with heap := s2.heap.push { cls := .type "list", data := .seq ([] : List Value).toArray } } :=
    I2.laid (t' := s2.toks) (fun b o e => Heap.get?_push_of_some _ e) (Nat.le_refl _) ⟨Nat.zero_le _, [], 0, .nil, Heap.get?_push_size _ rfl⟩
  have f3 : ∀ b ∈ fp, FpOk X pins (upd H1 s2.heap.objs.size (.lst [])) b ∧ b < (s2.heap.push { cls := .type "list", data := .seq ([] : List Value).toArray }).objs.size := fun b hb => by
    obtain ⟨o, e, _⟩ := T.obj _ _ t2 b hb
    have lt := Heap.lt_size e
    exact ⟨⟨by rw [upd_ne (Nat.ne_of_lt lt)]; exact (f2 b hb).1, (f2 b hb).2⟩, by rw [Heap.size_push]; exact Nat.lt_succ_of_lt lt⟩
  have t3 := T.keep _ _ (s2.heap.push { cls := .type "list", data := .seq ([] : List Value).toArray }) t2 fun b _ o e => Heap.get?_push_of_some _ e
  have I4 := block_start I3 ok hN f3
  have t4 : tn 0 (pushCells ((s2.heap.push { cls := .type "list", data := .seq ([] : List Value).toArray }).push { cls := .type "dict", data := .dict #[] }) scope.names) := T.keep _ _ _ t3 fun b _ o e => pushCells_keeps _ _ _ _ (Heap.get?_push_of_some _ e)
  refine start_at (k := 0) (c0 := ⟨tg, iter, [], 0⟩) (env := compEnvC scope (cellsFrom ((s2.heap.push { cls := .type "list", data := .seq ([] : List Value).toArray }).objs.size + 1) scope.names (cloFrom X.env.cells scope.names [])) (s2.heap.push { cls := .type "list", data := .seq ([] : List Value).toArray }).objs.size X.env) rfl rfl ?_ fun P E z => T.self _ 0 _ _ _ t4 z
  refine loop _ _ _ _ _ σ J H1 _ Q it tn _ _ I4 T t4 (fun b m => (f3 b m).1.1) (fun {σ' H' s'} I' n b m => ⟨n b m, (I'.ok.exf b m).1, I'.ok.exfs b m, .inl m, fun x c e => (I'.ok.exf b m).2 x c e, fun p z => by simp at z⟩) (q3 _ free2) fun H' s' I' z => ?_
  have Jx : Inv X pins σ H' s' := I3.call' (ch := fp) I'.os I'.base I'.hok I'.bare fun b m => ⟨(f3 b m).1.2.2.2.1, (f3 b m).1.2.1, (f3 b m).1.2.2.2.2.1, (f3 b m).1.2.2.2.2.2⟩
  obtain ⟨m, ns, _⟩ := I'.loc
  obtain ⟨g0, g1, g2, g3, g4, g5⟩ := I3.fpOk (H' := H') (Nat.le_refl _) I'.free
  exact ⟨m, ns, fun h' sb => ⟨.ref s2.heap.objs.size, H', Jx.turned (t' := s'.toks) (fun b o n e => (sb.2 b n).trans e) g0 g1 g3 g4 g5, rfl, z⟩⟩
end

/-! ### three fors -/
section
variable {X : Cx} {elt tg iter tg1 iter1 tg2 iter2 : Expr} {ifs2 : List Expr} {scope : Scope} {own : List (Str × Nat)} {vs vs1 vs2 : List Nat} {pos pos' : Pos} {wi wi1 wi2 : TI} {g g1 g2 : TG} {tt2 : TT} {te : TE}
abbrev lcE3 (elt tg iter tg1 iter1 tg2 iter2 : Expr) (ifs2 : List Expr) (scope : Scope) (pos : Pos) : Expr := .ListComp elt [⟨tg, iter, [], 0⟩, ⟨tg1, iter1, [], 0⟩, ⟨tg2, iter2, ifs2, 0⟩] scope pos
section
variable {acc : Value} {env : Env}
theorem turn3_0 : TurnIs (lcE3 elt tg iter tg1 iter1 tg2 iter2 ifs2 scope pos) 0 tg iter [] acc env (fun it => finSub (lcE3 elt tg iter tg1 iter1 tg2 iter2 ifs2 scope pos) 0 iter1 it acc env) := fun it => rfl
theorem turn3_1 : TurnIs (lcE3 elt tg iter tg1 iter1 tg2 iter2 ifs2 scope pos) 1 tg1 iter1 [] acc env (fun it => finSub (lcE3 elt tg iter tg1 iter1 tg2 iter2 ifs2 scope pos) 1 iter2 it acc env) := fun it => rfl
theorem turn3_2 : TurnIs (lcE3 elt tg iter tg1 iter1 tg2 iter2 ifs2 scope pos) 2 tg2 iter2 ifs2 acc env (fun it => finApp (lcE3 elt tg iter tg1 iter1 tg2 iter2 ifs2 scope pos) 2 elt it acc env) := fun it => rfl
end
def tLc3 (wi : TI) (g : TG) (wi1 : TI) (g1 : TG) (wi2 : TI) (g2 : TG) (tt2 : TT) (te : TE) (vs vs1 vs2 : List Nat) : TE := fun σ H Q => wi σ H fun J H1 => ∀ D, H1 D = none → ∃ W : Nat → Nat → Hp → Prop, (∃ m, W 0 m (upd H1 D (.lst []))) ∧
  clauseT J g tYes (wipe σ vs) vs (fun H => Q (.ref D) H) (fun σ2 H2 Nx => wi1 σ2 H2 fun J1 H4 => ∃ W1 : Nat → Nat → Hp → Prop, (∃ m, W1 0 m H4) ∧
    clauseT J1 g1 tYes (wipe σ2 vs1) vs1 Nx (fun σ3 H5 Nx1 => wi2 σ3 H5 fun J2 H6 => ∃ W2 : Nat → Nat → Hp → Prop, (∃ m, W2 0 m H6) ∧
      clauseT J2 g2 tt2 (wipe σ3 vs2) vs2 Nx1 (fun σ4 H8 Nx2 => te σ4 H8 fun y H9 => ∃ acc, H9 D = some (.lst acc) ∧ acc.length < sizeLine ∧ Nx2 (upd H9 D (.lst (acc ++ [y])))) W2) W1) W
theorem pe_lc3 (hc : X.calm = true) (hN : X.N.Nodup) (hi : PI X tg iter wi) (ok : BlkOk X.N X.env.scope scope own) (hv : ∀ i ∈ vs1, i ∈ own.map (·.2)) (hw : ∀ i ∈ vs2, i ∈ vs1)
    (hg : ∀ (s : Shared) (H : Hp) (C : Addr) (cl : List (Str × Addr)) (fp : List Addr), PG (X.blk s H scope (compEnvC scope cl C X.env) fp) tg g)
    (hi1 : ∀ (s : Shared) (H : Hp) (C : Addr) (cl : List (Str × Addr)) (fp : List Addr), PI (X.blk s H scope (compEnvC scope cl C X.env) fp) tg1 iter1 wi1) (hg1 : ∀ (s : Shared) (H : Hp) (C : Addr) (cl : List (Str × Addr)) (fp : List Addr), PG (X.blk s H scope (compEnvC scope cl C X.env) fp) tg1 g1)
    (hi2 : ∀ (s : Shared) (H : Hp) (C : Addr) (cl : List (Str × Addr)) (fp : List Addr), PI (X.blk s H scope (compEnvC scope cl C X.env) fp) tg2 iter2 wi2) (hg2 : ∀ (s : Shared) (H : Hp) (C : Addr) (cl : List (Str × Addr)) (fp : List Addr), PG (X.blk s H scope (compEnvC scope cl C X.env) fp) tg2 g2)
    (ht2 : ∀ (s : Shared) (H : Hp) (C : Addr) (cl : List (Str × Addr)) (fp : List Addr), PTs (X.blk s H scope (compEnvC scope cl C X.env) fp) ifs2 tt2) (he : ∀ (s : Shared) (H : Hp) (C : Addr) (cl : List (Str × Addr)) (fp : List Addr), PE (X.blk s H scope (compEnvC scope cl C X.env) fp) elt te)
    (hs : ∀ x, foldedSetIterable iter X.env x = pure x) (hs1 : ∀ env x, foldedSetIterable iter1 env x = pure x) (hs2 : ∀ env x, foldedSetIterable iter2 env x = pure x) :
    PE X (lcE3 elt tg iter tg1 iter1 tg2 iter2 ifs2 scope pos) (tLc3 wi g wi1 g1 wi2 g2 tt2 te (own.map (·.2)) vs1 vs2) := by
  refine pe_comp (fun σ J H1 D Q => ∃ W : Nat → Nat → Hp → Prop, (∃ m, W 0 m (upd H1 D (.lst []))) ∧ clauseT J g tYes (wipe σ (own.map (·.2))) (own.map (·.2)) (fun H => Q (.ref D) H) _ W) hc hN hi ok hs ?_
  rintro s H C cl fp σ J H1 D Q it tn s4 R I4 T t4 n4 own4 ⟨W, ⟨m, w⟩, tu⟩ fin
  refine clause (Y := X.blk s H scope (compEnvC scope cl C X.env) fp) turn3_0 hc rfl T (hg s H C cl fp) pts_nil own4 tu (fun ps σ2 H2 s2 Nx J2 e2 q2 => ?_) fin m s4 ⟨0, _, I4, t4, n4, w⟩
  refine wpAny_mono (fin_sub (Post := fun s' => ∃ σ' H', Inv (X.blk s H scope (compEnvC scope cl C X.env) fp) ps σ' H' s' ∧ Knows (wipe σ (own.map (·.2))) σ' ∧ Nx H') (k := 0) (c0 := ⟨tg1, iter1, [], 0⟩) rfl rfl rfl (hi1 s H C cl fp) hs1 J2 q2 ?_) (fun r s' h => h) (fun _ _ h => h)
  rintro it1 fp1 tn1 J1 H4 s5 J5 T1 t5 f5 ⟨W1, ⟨m1, w1⟩, tu1⟩
  refine clause (Y := X.blk s H scope (compEnvC scope cl C X.env) fp) turn3_1 hc rfl T1 (hg1 s H C cl fp) pts_nil (fun _ n b m => ⟨n b m, (f5 b m).2⟩) tu1 (fun ps3 σ3 H5 s6 Nx1 J6 e6 q6 => ?_) (fun H' s' J' z => ⟨_, H', J', Knows.sub e2 hv, z⟩) m1 s5 ⟨0, _, J5.weak (wipe_length _ _) (fun j v e => (wipe_some e).1), t5, fun b m => (f5 b m).1, w1⟩
  refine wpAny_mono (fin_sub (Post := fun s' => ∃ σ' H', Inv (X.blk s H scope (compEnvC scope cl C X.env) fp) ps3 σ' H' s' ∧ Knows (wipe σ2 vs1) σ' ∧ Nx1 H') (k := 1) (c0 := ⟨tg2, iter2, ifs2, 0⟩) rfl rfl rfl (hi2 s H C cl fp) hs2 J6 q6 ?_) (fun r s' h => h) (fun _ _ h => h)
  rintro it2 fp2 tn2 J2' H6 s7 J7 T2 t7 f7 ⟨W2, ⟨m2, w2⟩, tu2⟩
  refine clause (Y := X.blk s H scope (compEnvC scope cl C X.env) fp) turn3_2 hc rfl T2 (hg2 s H C cl fp) (ht2 s H C cl fp) (fun _ n b m => ⟨n b m, (f7 b m).2⟩) tu2 (fun ps4 σ4 H8 s8 Nx2 J8 e8 q8 => ?_) (fun H' s' J' z => ⟨_, H', J', Knows.sub e6 hw, z⟩) m2 s7 ⟨0, _, J7.weak (wipe_length _ _) (fun j v e => (wipe_some e).1), t7, fun b m => (f7 b m).1, w2⟩
  exact wpAny_mono (fin_app rfl (he s H C cl fp) J8 q8) (fun r s' ⟨er, H', J', z⟩ => ⟨er, σ4, H', J', Knows.wiped e8, z⟩) (fun _ _ h => h)
end
end L2

namespace DL
open PySem PySem.Spec PyProof.Rows L2

section
variable {X : Cx} {Z : Fix} {fe : Env' → Res SV} {ft : Env' → Res Bool} {fi fi1 fi2 : Env' → Res (List D)} {T T1 T2 : Tg} {vs vs1 vs2 : List Nat} {σ : L2.St} {A : Addr} {H1 Hs : Hp} {F1 Fs O1 B1 : AP'} {Fin : Res (List D) → Prop}
/-- a clause's walk of what its source yields, the loop's own end left to Stop -/
def Inner (X : Cx) (Z : Fix) (A : Addr) (H1 : Hp) (F1 O1 B1 : AP') (g1 : TG) (tt1 : TT) (vs1 : List Nat) (Bd1 : L2.St → Hp → (Hp → Prop) → Prop) (inner : List D → List D → Env' → Res (List D)) : Prop :=
  ∀ (σ2 : L2.St) (J1 : L2.It) (H4 : Hp) (F4 : AP') (ρ : Env') (acc items : List D) (Fin1 : Res (List D) → Prop) (Stop : Hp → Prop), WalkD X.K Z.fa J1 items H4 F4 → CAt X.K Z.fa A H1 F1 O1 B1 H4 F4 H4 F4 (wipe σ2 vs1) ρ acc → Fin1 (inner items acc ρ) → ¬ Fin1 .stuck →
    (∀ {H F ρ acc}, CAt X.K Z.fa A H1 F1 O1 B1 H4 F4 H F (wipe σ2 vs1) ρ acc → Fin1 (.ok acc ρ) → Stop H) → ∃ W1 : Nat → Nat → Hp → Prop, (∃ m, W1 0 m H4) ∧ clauseT J1 g1 tt1 (wipe σ2 vs1) vs1 Stop Bd1 W1
theorem inner_go (hT : ∀ i ∈ T.sl, i ∈ vs) : Inner X Z A H1 F1 O1 B1 (tG X Z.quiet T) (tD X Z.quiet RB ft) vs (fun σ4 H8 Nx2 => tD X Z.quiet (RSV X.K Z.quiet) fe σ4 H8 fun y H9 => ∃ acc, H9 A = some (.lst acc) ∧ acc.length < sizeLine ∧ Nx2 (upd H9 A (.lst (acc ++ [y])))) (lcGo fe ft vs T) := by
  intro σ2 J1 H4 F4 ρ acc items Fin1 Stop w c h hF stop
  refine walk_lc w (fun ds H F => ∃ ρ acc, CAt X.K Z.fa A H1 F1 O1 B1 H4 F4 H F (wipe σ2 vs) ρ acc ∧ Fin1 (lcGo fe ft vs T ds acc ρ)) (fun ds H F ⟨_, _, c, _⟩ => ⟨c.sy, c.ok.fd⟩) ⟨_, _, c, h⟩ _ _ (fun H F ⟨ρ, acc, c, h⟩ => ?_) (fun d ds H F x H' p m => lc_turn (X := X) (Z := Z) (Fin := Fin1) hT hF p m)
  unfold lcGo at h
  exact stop c h
theorem inner_out {g1 : TG} {tt1 : TT} {Bd1 : L2.St → Hp → (Hp → Prop) → Prop} {inner : List D → List D → Env' → Res (List D)} (hT : ∀ i ∈ T.sl, i ∈ vs) (hv : ∀ i ∈ vs1, i ∈ vs) (hin : Inner X Z A H1 F1 O1 B1 g1 tt1 vs1 Bd1 inner) :
    Inner X Z A H1 F1 O1 B1 (tG X Z.quiet T) tYes vs (fun σ2 H2 Nx => tD X Z.quiet (RW X.K Z.quiet) fi1 σ2 H2 fun J1 H4 => ∃ W1 : Nat → Nat → Hp → Prop, (∃ m, W1 0 m H4) ∧ clauseT J1 g1 tt1 (wipe σ2 vs1) vs1 Nx Bd1 W1) (lcOut vs vs1 T fi1 inner) := by
  intro σ J0 H3 F3 ρ acc items Fin Stop w c h hF stop
  refine walk_lc w (fun ds H F => ∃ ρ acc, CAt X.K Z.fa A H1 F1 O1 B1 H3 F3 H F (wipe σ vs) ρ acc ∧ Fin (lcOut vs vs1 T fi1 inner ds acc ρ)) (fun ds H F ⟨_, _, c, _⟩ => ⟨c.sy, c.ok.fd⟩) ⟨_, _, c, h⟩ _ _ (fun H F ⟨ρ, acc, c, h⟩ => ?_) (fun d ds H F x H' p m => ?_)
  · unfold lcOut at h
    exact stop c h
  · obtain ⟨ρ, acc, c, h⟩ := p
    obtain ⟨F2, gr, rx, _⟩ := m
    unfold lcOut at h
    split at h
    · exact (hF h).elim
    · rename_i ρa e
      refine ⟨F2, ρ, d, ρa, (c.grow gr).ok, rx, e, fun σ2 ok2 st2 kp => ?_⟩
      have weq : wipe σ2 vs = wipe σ vs := (wipe_keep kp hT).trans (wipe_wipe fun _ z => z)
      have c3 := (c.grow gr).step st2 ok2
      refine ⟨weq, ?_⟩
      unfold tYes
      refine cast (if_pos (rfl : true = true)).symm ⟨F2, ρa, ok2, ?_⟩
      cases hf : fi1 ρa with
      | stuck => rw [hf] at h; exact (hF h).elim
      | exc x ρx => rw [hf] at h; exact (hF h).elim
      | ok items1 ρb =>
        rw [hf] at h
        dsimp only [Res.bindN] at h
        intro J1 H4 F4 st4 ok4 w1
        split at h
        · rename_i t1
          have c4 := c3.step st4 ok4
          refine hin σ2 J1 H4 F4 _ _ _ (fun r => Fin (Res.bindN (β := List D) r fun acc' ρ3 => if tame ρ3 vs = true then lcOut vs vs1 T fi1 inner ds acc' (wipeR ρ3 vs) else .stuck)) _ w1 ((c4.wiped t1).rebase Stays.refl) h (fun z => hF z) fun {H F ρ acc} c5 h5 => ?_
          dsimp only [Res.bindN] at h5
          split at h5
          · rename_i t3
            have c6 := (c5.wiped t3).rebase (c4.sy.trans c5.sy)
            rw [wipe_wipe hv, weq] at c6
            exact ⟨F, _, _, c6, h5⟩
          · exact (hF h5).elim
        · exact (hF h).elim
theorem lc3_weak (hT : ∀ i ∈ T.sl, i ∈ vs) (hT1 : ∀ i ∈ T1.sl, i ∈ vs1) (hT2 : ∀ i ∈ T2.sl, i ∈ vs2) (hv : ∀ i ∈ vs1, i ∈ vs) (hw : ∀ i ∈ vs2, i ∈ vs1) {H : Hp} {Q : VK} (h : tD X Z (RSV X.K Z) (lcFin vs fi (lcOut vs vs1 T fi1 (lcOut vs1 vs2 T1 fi2 (lcGo fe ft vs2 T2)))) σ H Q) :
    tLc3 (tD X Z (RW X.K Z) fi) (tG X Z.quiet T) (tD X Z.quiet (RW X.K Z.quiet) fi1) (tG X Z.quiet T1) (tD X Z.quiet (RW X.K Z.quiet) fi2) (tG X Z.quiet T2) (tD X Z.quiet RB ft) (tD X Z.quiet (RSV X.K Z.quiet) fe) vs vs1 vs2 σ H Q := by
  obtain ⟨F, ρ, ok, h⟩ := h
  unfold lcFin at h
  refine ⟨F, ρ, ok, (PostG.bind late_RSV h).imp ?_⟩
  rintro J H1 ⟨items, F1, ρ1, ok1, st1, w, h1⟩
  intro A hA
  split at h1
  · rename_i t
    have gr : Grow H1 F1 (upd H1 A (.lst [])) F1 := Grow.new ok1.fd hA
    have c0 : CAt X.K Z.fa A H1 F1 (Own σ ρ1) (Bor σ ρ1) H1 F1 (upd H1 A (.lst [])) F1 σ ρ1 [] := ⟨ok1.grow gr, gr.step, gr.stays, hA, ⟨[], upd_same, .nil⟩, fun z => ok1.fd A z hA, fun z => by
      obtain ⟨o, e, _⟩ := ok1.own_at z
      rw [hA] at e; cases e⟩
    refine inner_out hT hv (inner_out hT1 hw (inner_go hT2)) σ J (upd H1 A (.lst [])) F1 _ _ _ (fun r => PostG X.K Z (RSV X.K Z) σ H1 F1 ρ1 (Res.bind (β := SV) r fun acc ρ2 => .ok (.own (.lst acc)) (backR ρ1 ρ2 vs)) Q) _ ⟨fun i H F s => w.goes i H F (c0.sy.trans s), fun i H F s => w.stops i H F (c0.sy.trans s), fun i H F x H' s => w.yields i H F x H' (c0.sy.trans s)⟩ ((c0.wiped t).rebase Stays.refl) h1 (fun z => z) fun {H F ρ acc} c h => ?_
    obtain ⟨xs, e, rl⟩ := c.lst
    exact h (.ref A) H F (c.st.congr (fun _ => Iff.rfl) (fun _ => Iff.rfl) (fun _ => (own_back t).symm) fun _ => (bor_back t).symm) (EnvOk.back ok1 t (c.st.stays ok1) c.ok) ⟨⟨A, rfl, c.nF, .lst e rl⟩, A, rfl, hA, fun z => c.nO ((own_back t).mp z)⟩
  · exact h1.elim
theorem pd_lc3 {elt tg iter tg1 iter1 tg2 iter2 : Expr} {ifs : List Expr} {scope : Scope} {own : List (Str × Nat)} {pos : Pos} (hc : X.calm = true) (hN : X.N.Nodup) (hi : PId X Z tg iter fi) (ok : BlkOk X.N X.env.scope scope own) (ho : own.map (·.2) = vs) (hT : ∀ i ∈ T.sl, i ∈ vs) (hT1 : ∀ i ∈ T1.sl, i ∈ vs1) (hT2 : ∀ i ∈ T2.sl, i ∈ vs2) (hv : ∀ i ∈ vs1, i ∈ vs) (hw : ∀ i ∈ vs2, i ∈ vs1)
    (hg : ∀ (s : Shared) (H : Hp) (C : Addr) (cl : List (Str × Addr)) (fp : List Addr), PGd (X.blk s H scope (compEnvC scope cl C X.env) fp) Z.quiet tg T)
    (hi1 : ∀ (s : Shared) (H : Hp) (C : Addr) (cl : List (Str × Addr)) (fp : List Addr), PId (X.blk s H scope (compEnvC scope cl C X.env) fp) Z.quiet tg1 iter1 fi1)
    (hg1 : ∀ (s : Shared) (H : Hp) (C : Addr) (cl : List (Str × Addr)) (fp : List Addr), PGd (X.blk s H scope (compEnvC scope cl C X.env) fp) Z.quiet tg1 T1)
    (hi2 : ∀ (s : Shared) (H : Hp) (C : Addr) (cl : List (Str × Addr)) (fp : List Addr), PId (X.blk s H scope (compEnvC scope cl C X.env) fp) Z.quiet tg2 iter2 fi2)
    (hg2 : ∀ (s : Shared) (H : Hp) (C : Addr) (cl : List (Str × Addr)) (fp : List Addr), PGd (X.blk s H scope (compEnvC scope cl C X.env) fp) Z.quiet tg2 T2)
    (ht : ∀ (s : Shared) (H : Hp) (C : Addr) (cl : List (Str × Addr)) (fp : List Addr), PTs (X.blk s H scope (compEnvC scope cl C X.env) fp) ifs (tD (X.blk s H scope (compEnvC scope cl C X.env) fp) Z.quiet RB ft))
    (he : ∀ (s : Shared) (H : Hp) (C : Addr) (cl : List (Str × Addr)) (fp : List Addr), PEd (X.blk s H scope (compEnvC scope cl C X.env) fp) Z.quiet elt fe) (hs : ∀ x, foldedSetIterable iter X.env x = pure x) (hs1 : ∀ env x, foldedSetIterable iter1 env x = pure x) (hs2 : ∀ env x, foldedSetIterable iter2 env x = pure x) :
    PEd X Z (.ListComp elt [⟨tg, iter, [], 0⟩, ⟨tg1, iter1, [], 0⟩, ⟨tg2, iter2, ifs, 0⟩] scope pos) (lcFin vs fi (lcOut vs vs1 T fi1 (lcOut vs1 vs2 T1 fi2 (lcGo fe ft vs2 T2)))) := by
  subst ho
  exact PE.weak (pe_lc3 (g := tG X Z.quiet T) (wi1 := tD X Z.quiet (RW X.K Z.quiet) fi1) (g1 := tG X Z.quiet T1) (wi2 := tD X Z.quiet (RW X.K Z.quiet) fi2) (g2 := tG X Z.quiet T2) (tt2 := tD X Z.quiet RB ft) (te := tD X Z.quiet (RSV X.K Z.quiet) fe) hc hN hi ok hv hw hg hi1 hg1 hi2 hg2 ht he hs hs1 hs2) fun σ H Q h => lc3_weak hT hT1 hT2 hv hw h
end
end DL

namespace DL
open PySem PySem.Spec PyProof.Rows L2

/-! ### what is seen of a def ahead of its run -/
structure Ck where
  N : List Str
  nm : List (Str × NameKind)
  fn : List (Str × Nat)
  gd : List (Str × Nat)
  bl : List Str
  st : List Str
def Ck.loc (C : Ck) (x : Str) (i : Nat) : Bool := (C.N[i]? == some x) && (C.nm.lookup x == some .local || (C.nm.lookup x == some .cell && C.st.contains x))
/-- a local, no cell -/
def Ck.locS (C : Ck) (x : Str) (i : Nat) : Bool := (C.N[i]? == some x) && (C.nm.lookup x == some .local)
def Ck.vis (C : Ck) (x : Str) (i : Nat) : Bool := (C.N[i]? == some x) && (C.nm.lookup x == some .local || C.nm.lookup x == some .free || C.nm.lookup x == some .cell) && !(x == ("__debug__" : Str)) && !(x == ("__classdict__" : Str))
def Ck.glob (C : Ck) (x : Str) : Bool := C.nm.lookup x == some .globalImplicit
structure CtxOk (X : Cx) (Z : Fix) (C : Ck) (cf : Cf) : Prop where
  N : X.N = C.N
  nd : X.N.Nodup
  nm : X.env.scope.names = C.nm
  kind : X.env.scope.kind = .function
  calm : X.calm = true
  tk : Takes X Z.W
  po : PassesOwn (model X.prog X.w) X.A X.env X.xe
  room : X.A.units + 65 < cLine
  fn : ∀ x j, C.fn.lookup x = some j → (x == ("__debug__" : Str)) = false ∧ ∃ k f fd ps, FnOk X.prog X.w X.K X.mg X.base (CX X.prog X.w) k f fd ps (spF X.K Z.fa Z.EX (cf.run j)) ∧ Room k X.A ∧ X.mg x = some (.ref f) ∧ PySem.W.keepIn X.K (.ref f) = true ∧ Binds X.K fd ps [] ∧ Z.fa j = some f
  fv : ∀ j f, Z.fa j = some f → ∃ k fd ps, FnOk X.prog X.w X.K X.mg X.base (CX X.prog X.w) k f fd ps (spF X.K Z.fa Z.EX (cf.run j)) ∧ Room k X.A ∧ PySem.W.keepIn X.K (.ref f) = true ∧ Binds X.K fd ps []
  gd : ∀ x j, C.gd.lookup x = some j → (x == ("__debug__" : Str)) = false ∧ ∃ u v d, X.mg x = some u ∧ RelV v u ∧ cf.gv j = some d ∧ ∀ H F, Rep X.K Z.fa H F v d
  bl : ∀ x, x ∈ C.bl → X.mg x = none
  st : ∀ x, x ∈ C.st → X.fn x = true
section
variable {X : Cx} {Z : Fix} {C : Ck} {cf : Cf} {x : Str} {i : Nat}
theorem CtxOk.hloc (c : CtxOk X Z C cf) (h : C.loc x i = true) : X.N[i]? = some x ∧ L2.Loc X.env.scope x ∧ (X.fn x = true ∨ X.env.scope.names.lookup x = some .local) := by
  unfold Ck.loc at h
  obtain ⟨h1, h2⟩ := Bool.and_eq_true_iff.mp h
  unfold L2.Loc
  rw [c.N, c.nm]
  refine ⟨by simpa using h1, ?_⟩
  rcases Bool.or_eq_true_iff.mp h2 with h2 | h2
  · have h3 : C.nm.lookup x = some .local := by simpa using h2
    exact ⟨.inl h3, .inr h3⟩
  · obtain ⟨h3, h4⟩ := Bool.and_eq_true_iff.mp h2
    exact ⟨.inr (by simpa using h3), .inl (c.st x (by simpa using h4))⟩
theorem CtxOk.hlocS (c : CtxOk X Z C cf) (h : C.locS x i = true) : X.N[i]? = some x ∧ X.env.scope.names.lookup x = some .local := by
  unfold Ck.locS at h
  obtain ⟨h1, h2⟩ := Bool.and_eq_true_iff.mp h
  rw [c.N, c.nm]
  exact ⟨by simpa using h1, by simpa using h2⟩
theorem CtxOk.hvis (c : CtxOk X Z C cf) (h : C.vis x i = true) : X.N[i]? = some x ∧ Vis X.env.scope x ∧ (x == ("__debug__" : Str)) = false ∧ (x == ("__classdict__" : Str)) = false := by
  unfold Ck.vis at h
  simp only [Bool.and_eq_true, Bool.or_eq_true, beq_iff_eq, Bool.not_eq_true'] at h
  obtain ⟨⟨⟨h1, h2⟩, h3⟩, h4⟩ := h
  refine ⟨by rw [c.N]; exact h1, ?_, h3, h4⟩
  unfold Vis
  rw [c.nm]
  rcases h2 with (h | h) | h
  · exact .inl h
  · exact .inr (.inr h)
  · exact .inr (.inl h)
theorem CtxOk.hgl (c : CtxOk X Z C cf) (h : C.glob x = true) : Gl X x := by
  unfold Ck.glob at h
  show X.env.scope.names.lookup x = _
  rw [c.nm]
  simpa using h
end

/-! ### shapes -/
def plainT : Expr → Bool
  | .UnaryOp .Not _ _ => false
  | .BoolOp _ _ _ => false
  | .IfExp _ _ _ _ => false
  | .Compare _ _ _ _ => false
  | _ => true
theorem plainT_ok {e : Expr} (h : plainT e = true) {env : Env} : ∀ whole, isTrue e env whole = (do let v ← whole; standAt e.pos; holding [v] (truthy v)) := by
  intro whole
  cases e with
  | UnaryOp o a p => cases o <;> first | rfl | cases h
  | _ => first | rfl | cases h
def plainI : Expr → Bool
  | .Slice _ _ _ _ => false
  | _ => true
theorem plainI_ok {e : Expr} (h : plainI e = true) : PlainIx e := by
  intro o i
  cases e <;> first | rfl | cases h
/-- not a comprehension -/
def plainC : Expr → Bool
  | .ListComp _ _ _ _ => false
  | .SetComp _ _ _ _ => false
  | .DictComp _ _ _ _ _ => false
  | _ => true
theorem plainC_ok {e : Expr} (h : plainC e = true) {t : Option Expr} {l : Nat} {env : Env} : swapsWith e t l env = pure false := by
  cases e <;> first | rfl | cases h
theorem plainC_sole {e tg : Expr} (h : plainC e = true) {l : Nat} {env : Env} : swapsWithSole [tg] e l env = pure false := plainC_ok h
theorem tup_sole {es : List Expr} {k : Nat} {p : Pos} {e : Expr} {l : Nat} {env : Env} : swapsWithSole [.Tuple es k p] e l env = pure false := by
  cases e <;> rfl
def plainF : Expr → Bool
  | .Set _ _ _ => false
  | _ => true
theorem plainF_ok {e : Expr} (h : plainF e = true) {env : Env} : ∀ x, foldedSetIterable e env x = pure x := by
  intro x
  cases e <;> first | rfl | cases h
theorem assign_plain {e : Expr} {es : List Expr} {env : Env} (h : plainE e = true) : assignEach (e :: es) env = (false, assign e env) :: assignEach es env := by
  cases e <;> first | rfl | cases h
theorem assign_all {env : Env} : ∀ {es : List Expr}, es.all plainE = true → (assignEach es env).length = es.length ∧ (assignEach es env).findIdx? (·.1) = none
  | [], _ => ⟨rfl, rfl⟩
  | e :: es, h => by
    rw [List.all_cons, Bool.and_eq_true] at h
    obtain ⟨h1, h2⟩ := assign_all (env := env) h.2
    rw [assign_plain h.1]
    refine ⟨by rw [List.length_cons, List.length_cons, h1], ?_⟩
    rw [List.findIdx?_cons, h2]
    rfl
/-- the swapped stores of a, b = x, y -/
def swapP (nm : List (Str × NameKind)) (ts vs : List Expr) : Option (Option (List Str)) :=
  if (!(ts.length == 2 || ts.length == 3) || vs.length != ts.length) = true then some none
  else if (vs.any fun | .Starred .. => true | _ => false) = true then some none
  else
    let line := (ts.head?.map (·.pos.line)).getD 0
    let names := ts.filterMap fun
      | .Name id pos => if nm.lookup id == some .local && pos.line == line then some id else none
      | _ => none
    if (names.length != ts.length || names.eraseDups.length != names.length) = true then some none
    else if vs.all (foldedForSure 8) = true then some none
    else if vs.all (constantsAlone 8) = true then none
    else some (some names)
theorem swapP_ok {nm : List (Str × NameKind)} {ts vs : List Expr} {env : Env} {r : Option (List Str)} {k k2 : Nat} {p p2 : Pos} (hn : env.scope.names = nm) (hk : env.scope.kind = .function) (h : swapP nm ts vs = some r) : swappedStores [.Tuple ts k p] (.Tuple vs k2 p2) env = pure r := by
  subst hn
  have hb : env.blockKind = .function := by unfold Env.blockKind; rw [hk]; rfl
  unfold swapP at h
  unfold swappedStores
  rw [hb]
  have e0 : (ScopeKind.function != ScopeKind.function) = false := rfl
  rw [e0]
  dsimp only at h ⊢
  rw [Bool.or_false]
  split at h
  · rename_i h1
    cases h
    rw [if_pos h1]
  · rename_i h1
    rw [if_neg h1]
    split at h
    · rename_i h2
      cases h
      exact if_pos h2
    · rename_i h2
      refine (if_neg h2).trans ?_
      split at h
      · rename_i h3
        cases h
        exact if_pos h3
      · rename_i h3
        refine (if_neg h3).trans ?_
        split at h
        · rename_i h4
          cases h
          exact if_pos h4
        · rename_i h4
          refine (if_neg h4).trans ?_
          split at h
          · cases h
          · rename_i h5
            cases h
            exact if_neg h5
theorem swap_value {ts : List Expr} {e : Expr} {env : Env} {k : Nat} {p : Pos} (h : ∀ vs k2 p2, e ≠ .Tuple vs k2 p2) : swappedStores [.Tuple ts k p] e env = pure none := by
  cases e <;> first | rfl | exact absurd rfl (h _ _ _)
/-! ### a comprehension's block -/
def Ck.blk (C : Ck) (scope : Scope) : Ck := { C with nm := scope.names.map fun (n, k) => if (k == .free && C.nm.lookup n == some .cell) = true then (n, .cell) else (n, k), st := (scope.names.filter fun p => scope.names.lookup p.1 == some .cell).map (·.1) }
def Ck.own (C : Ck) (vs : List Nat) : List (Str × Nat) := vs.map fun i => (C.N.getD i "", i)
def Ck.blkB (C : Ck) (vs : List Nat) (scope : Scope) : Bool := blkC C.N { scope with names := C.nm } scope (C.own vs)
theorem own_map (C : Ck) (vs : List Nat) : (C.own vs).map (·.2) = vs := by
  unfold Ck.own
  rw [List.map_map]
  exact List.map_id'' (fun _ => rfl) vs
section
variable {X : Cx} {Z : Fix} {C : Ck} {cf : Cf} {vs : List Nat} {scope : Scope}
theorem CtxOk.blkOk (c : CtxOk X Z C cf) (h : C.blkB vs scope = true) : BlkOk X.N X.env.scope scope (C.own vs) := by
  refine blkOk_by ?_
  unfold Ck.blkB blkC at h
  unfold blkC
  rw [c.N, c.nm]
  exact h
theorem takesQ {X : Cx} : Takes X (fun _ _ _ _ => False) := fun _ _ x => by
  obtain ⟨_, _, _, _, _, _, _, _, _, _, _, _, _, _, _, _, z⟩ := x
  exact z.elim
theorem CtxOk.blk (c : CtxOk X Z C cf) (h : C.blkB vs scope = true) (s : Shared) (H : Hp) (A : Addr) (cl : List (Str × Addr)) (fp : List Addr) : CtxOk (X.blk s H scope (compEnvC scope cl A X.env) fp) Z.quiet (C.blk scope) cf := by
  refine ⟨c.N, c.nd, ?_, (c.blkOk h).kind, c.calm, takesQ, PassesOwn.never, c.room, c.fn, c.fv, c.gd, c.bl, fun x hx => ?_⟩
  rotate_left
  · obtain ⟨p, hp, e⟩ := List.mem_map.mp hx
    have := (List.mem_filter.mp hp).2
    rw [e] at this
    exact this
  show (relabel scope X.env).names = _
  unfold relabel Ck.blk
  have e : ∀ n, X.env.kindOf n = C.nm.lookup n := fun n => by unfold Env.kindOf; rw [c.nm]
  have k : (X.env.scope.kind == ScopeKind.function) = true := by rw [c.kind]; rfl
  simp only [e, k, Bool.and_true]
end
end DL

namespace DL
open PySem PySem.Spec PyProof.Rows L2

/-! ### the check of an expression -/
def ckC : D → Expr → Bool
  | .non, .Constant .none _ _ => true
  | .bl b, .Constant (.bool c) _ _ => b == c
  | .int i, .Constant (.int j) _ _ => i == j
  | .str x, .Constant (.str y) _ _ => x == y
  | _, _ => false
def tyOk (z : Str) (T : String) : Bool :=
  (z == ("int" : Str) && T == "int") || (z == ("str" : Str) && T == "str") || (z == ("tuple" : Str) && T == "tuple") || (z == ("list" : Str) && T == "list") || (z == ("bool" : Str) && T == "bool") || (z == ("dict" : Str) && T == "dict")
theorem tyOk_ok {z : Str} {T : String} (h : tyOk z T = true) : bootBuiltins z = some (.type T) ∧ z ≠ "__name__" ∧ (z == ("__debug__" : Str)) = false := by
  unfold tyOk at h
  simp only [Bool.or_eq_true, Bool.and_eq_true, beq_iff_eq] at h
  rcases h with ((((⟨rfl, rfl⟩ | ⟨rfl, rfl⟩) | ⟨rfl, rfl⟩) | ⟨rfl, rfl⟩) | ⟨rfl, rfl⟩) | ⟨rfl, rfl⟩ <;> exact ⟨by decide +kernel, by decide, by decide⟩
/-- a builtin's name -/
def Ck.blt (C : Ck) (x : Str) : Bool := C.glob x && C.bl.contains x
def isTup : Expr → Bool
  | .Tuple _ _ _ => true
  | _ => false
mutual
def ckG (C : Ck) : Nat → Tg → Expr → Bool
  | 0, _, _ => false
  | n + 1, T, e => match T with
    | .nm i => (match e with
      | .Name x _ => C.loc x i
      | _ => false)
    | .tup ts => (match e with
      | .Tuple es _ _ => ckGs C n ts es
      | _ => false)
def ckGs (C : Ck) : Nat → List Tg → List Expr → Bool
  | 0, _, _ => false
  | _ + 1, [], [] => true
  | n + 1, T :: ts, e :: es => plainE e && ckG C n T e && ckGs C n ts es
  | _, _, _ => false
end

def slIn (ts vs : List Nat) : Bool := ts.all fun i => vs.contains i
theorem slIn_ok {ts vs : List Nat} (h : slIn ts vs = true) : ∀ i ∈ ts, i ∈ vs := fun i hi => by
  have := List.all_eq_true.mp h i hi
  simpa using this
def abOk : Expr → Bool
  | .Name _ _ => true
  | .Call (.Name _ _) (_ :: _) _ _ => true
  | _ => false
theorem abOk_ok {e : Expr} (h : abOk e = true) {m : Str} {env : Env} {whole : Sem Value} : attributeBase e m env whole = whole := by
  unfold abOk at h
  split at h <;> first | rfl | cases h
mutual
def ckE (C : Ck) : Nat → Q → Expr → Bool
  | 0, _, _ => false
  | n + 1, q, e => match q with
    | .cst d => ckC d e
    | .var i => (match e with
      | .Name x _ => C.vis x i
      | _ => false)
    | .glb j => (match e with
      | .Name x _ => C.glob x && C.gd.lookup x == some j
      | _ => false)
    | .fnv j => (match e with
      | .Name x _ => C.glob x && C.fn.lookup x == some j
      | _ => false)
    | .callv i args => (match e with
      | .Call (.Name x _) (e :: es) [] _ => C.vis x i && ckL C n args (e :: es)
      | _ => false)
    | .tup qs => (match e with
      | .Tuple es _ _ => ckL C n qs es
      | _ => false)
    | .lst qs => (match e with
      | .List es _ => ckL C n qs es
      | _ => false)
    | .lmul qs b => (match e with
      | .BinOp (.List es _) .Mult e _ => ckL C n qs es && ckE C n b e
      | _ => false)
    | .dic _ => (match e with
      | .Dict [] [] _ => true
      | _ => false)
    | .dic1 k v => (match e with
      | .Dict [some a] [b] _ => ckE C n k a && ckE C n v b
      | _ => false)
    | .bin o a b => (match e with
      | .BinOp x o' y _ => o == o' && ckE C n a x && ckE C n b y
      | _ => false)
    | .neg a => (match e with
      | .UnaryOp .USub x _ => ckE C n a x
      | _ => false)
    | .cmp o a b => (match e with
      | .Compare x [o'] [y] _ => o == o' && !(behindInMarks o y) && ckE C n a x && ckE C n b y
      | _ => false)
    | .chain o o' a b c => (match e with
      | .Compare x [p, p'] [y, z] _ => o == p && o' == p' && !(lastMarks [o, o'] [y, z]) && ckE C n a x && ckE C n b y && ckE C n c z
      | _ => false)
    | .and a b => (match e with
      | .BoolOp .And (x :: y :: r) pos => ckE C n a x && (match r with
        | [] => ckE C n b y
        | _ => ckE C n b (.BoolOp .And (y :: r) pos))
      | _ => false)
    | .or a b => (match e with
      | .BoolOp .Or (x :: y :: r) pos => ckE C n a x && (match r with
        | [] => ckE C n b y
        | _ => ckE C n b (.BoolOp .Or (y :: r) pos))
      | _ => false)
    | .not a => (match e with
      | .UnaryOp .Not x _ => ckE C n a x
      | _ => false)
    | .ite c a b => (match e with
      | .IfExp x y z _ => ckT C n c x && ckE C n a y && ckE C n b z
      | _ => false)
    | .idx a b => (match e with
      | .Subscript x y _ => plainI y && ckE C n a x && ckE C n b y
      | _ => false)
    | .slc a lo hi => (match e with
      | .Subscript x (.Slice l h none _) _ => ckE C n a x && ckO C n lo l && ckO C n hi h
      | _ => false)
    | .rev a => (match e with
      | .Subscript x (.Slice none none (some (.UnaryOp .USub (.Constant (.int i) _ _) _)) _) _ => i == 1 && ckE C n a x
      | _ => false)
    | .call j args => (match e with
      | .Call (.Name x _) es [] _ => C.glob x && C.fn.lookup x == some j && ckL C n args es
      | _ => false)
    | .bi b args => (match e with
      | .Call (.Name x _) (e :: es) [] _ => x == b.name && C.blt x && ckL C n args (e :: es)
      | _ => false)
    | .inst a T => (match e with
      | .Call (.Name x _) [y, .Name z _] [] _ => x == ("isinstance" : Str) && C.blt x && C.blt z && tyOk z T && plainE y && ckE C n a y
      | _ => false)
    | .lrng a => (match e with
      | .Call (.Name x _) [.Call (.Name y _) [z] [] _] [] _ => x == ("list" : Str) && y == ("range" : Str) && C.blt x && C.blt y && plainE z && ckE C n a z
      | _ => false)
    | .dcp a => (match e with
      | .Call (.Name x _) [y] [] _ => x == ("dict" : Str) && C.blt x && plainE y && ckE C n a y
      | _ => false)
    | .dprs a => (match e with
      | .Call (.Name x _) [y] [] _ => x == ("dict" : Str) && C.blt x && plainE y && ckE C n a y
      | _ => false)
    | .get a k d => (match e with
      | .Call (.Attribute o m apos) [y, z] [] cpos => m == ("get" : Str) && abOk o && plainE y && plainE z && (apos.endLine == cpos.line) && ckE C n a o && ckE C n k y && ckE C n d z
      | _ => false)
    | .lc vs T it c q => (match e with
      | .ListComp elt [⟨g, iter, ifs, k⟩] scope _ => k == 0 && C.blkB vs scope && slIn T.sl vs && plainF iter && ckI C n it g iter && ckG (C.blk scope) n T g && ckTs (C.blk scope) n c ifs && ckE (C.blk scope) n q elt
      | _ => false)
    | .lc2 vs vs1 T it T1 it1 c q => (match e with
      | .ListComp elt [⟨g, iter, [], k⟩, ⟨g1, iter1, ifs, k1⟩] scope _ => k == 0 && k1 == 0 && C.blkB vs scope && slIn T.sl vs && slIn T1.sl vs1 && slIn vs1 vs && plainF iter && plainF iter1 && ckI C n it g iter && ckG (C.blk scope) n T g && ckI (C.blk scope) n it1 g1 iter1 && ckG (C.blk scope) n T1 g1 && ckTs (C.blk scope) n c ifs && ckE (C.blk scope) n q elt
      | _ => false)
    | .lc3 vs vs1 vs2 T it T1 it1 T2 it2 c q => (match e with
      | .ListComp elt [⟨g, iter, [], k⟩, ⟨g1, iter1, [], k1⟩, ⟨g2, iter2, ifs, k2⟩] scope _ => k == 0 && k1 == 0 && k2 == 0 && C.blkB vs scope && slIn T.sl vs && slIn T1.sl vs1 && slIn T2.sl vs2 && slIn vs1 vs && slIn vs2 vs1 && plainF iter && plainF iter1 && plainF iter2 && ckI C n it g iter && ckG (C.blk scope) n T g && ckI (C.blk scope) n it1 g1 iter1 && ckG (C.blk scope) n T1 g1 && ckI (C.blk scope) n it2 g2 iter2 && ckG (C.blk scope) n T2 g2 && ckTs (C.blk scope) n c ifs && ckE (C.blk scope) n q elt
      | _ => false)
def ckTs (C : Ck) : Nat → Option Q → List Expr → Bool
  | 0, _, _ => false
  | _ + 1, none, [] => true
  | n + 1, some q, [e] => ckT C n q e
  | _, _, _ => false
def ckI (C : Ck) : Nat → It → Expr → Expr → Bool
  | 0, _, _, _ => false
  | n + 1, it, tg, e => match it with
    | .seq q => ckE C n q e
    | .rng a => (match e with
      | .Call (.Name x _) [y] [] _ => x == ("range" : Str) && C.blt x && plainE y && ckE C n a y
      | _ => false)
    | .rng2 a b => (match e with
      | .Call (.Name x _) [y, z] [] _ => x == ("range" : Str) && C.blt x && plainE y && plainE z && ckE C n a y && ckE C n b z
      | _ => false)
    | .enum a => (match e with
      | .Call (.Name x _) [y] [] _ => x == ("enumerate" : Str) && C.blt x && plainE y && isTup tg && ckE C n a y
      | _ => false)
    | .zip a b => (match e with
      | .Call (.Name x _) [y, z] [] _ => x == ("zip" : Str) && C.blt x && plainE y && plainE z && isTup tg && ckE C n a y && ckE C n b z
      | _ => false)
    | .zip3 a b c => (match e with
      | .Call (.Name x _) [y, z, u] [] _ => x == ("zip" : Str) && C.blt x && plainE y && plainE z && plainE u && isTup tg && ckE C n a y && ckE C n b z && ckE C n c u
      | _ => false)
    | .items a => (match e with
      | .Call (.Attribute y m apos) [] [] cpos => m == ("items" : Str) && isTup tg && abOk y && (apos.endLine == cpos.line) && ckE C n a y
      | _ => false)
def ckL (C : Ck) : Nat → List Q → List Expr → Bool
  | 0, _, _ => false
  | _ + 1, [], [] => true
  | n + 1, q :: qs, e :: es => plainE e && ckE C n q e && ckL C n qs es
  | _, _, _ => false
def ckO (C : Ck) : Nat → Option Q → Option Expr → Bool
  | 0, _, _ => false
  | _ + 1, none, none => true
  | n + 1, some q, some e => ckE C n q e
  | _, _, _ => false
def ckT (C : Ck) : Nat → Q → Expr → Bool
  | 0, _, _ => false
  | n + 1, q, e => match q with
    | .and a b => (match e with
      | .BoolOp .And (x :: y :: r) pos => ckT C n a x && (match r with
        | [] => ckT C n b y
        | _ => ckT C n b (.BoolOp .And (y :: r) pos))
      | _ => false)
    | .or a b => (match e with
      | .BoolOp .Or (x :: y :: r) pos => ckT C n a x && (match r with
        | [] => ckT C n b y
        | _ => ckT C n b (.BoolOp .Or (y :: r) pos))
      | _ => false)
    | .not a => (match e with
      | .UnaryOp .Not x _ => ckT C n a x
      | _ => false)
    | .cmp o a b => (match e with
      | .Compare x [o'] [y] _ => o == o' && !(behindInMarks o y) && ckE C n a x && ckE C n b y
      | _ => false)
    | .chain o o' a b c => (match e with
      | .Compare x [p, p'] [y, z] _ => o == p && o' == p' && !(lastMarks [o, o'] [y, z]) && ckE C n a x && ckE C n b y && ckE C n c z
      | _ => false)
    | q => plainT e && ckE C n q e
end

/-! ### it tells the truth -/
section
variable {X : Cx} {Z : Fix} {cf : Cf} {e : Expr}
theorem pd_stuck : PEd X Z e (fun _ => .stuck) := ⟨fun _ _ _ _ _ _ ⟨_, _, _, h⟩ => h.elim⟩
theorem ptd_stuck : PTd X Z e (fun _ => .stuck) := ⟨fun _ _ _ _ _ _ ⟨_, _, _, h⟩ => h.elim⟩
theorem pwd_stuck : PWd X Z e (fun _ => .stuck) := ⟨fun _ _ _ _ _ _ _ ⟨_, _, _, h⟩ => h.elim⟩
theorem po_stuck {o : Option Expr} : POpt X Z o (fun _ => .stuck) := ⟨fun _ _ _ _ _ _ ⟨_, _, _, h⟩ => h.elim⟩
theorem pd_bool1 {f : Env' → Res SV} {op : BoolOp} {pos : Pos} (h : PEd X Z e f) : PEd X Z (.BoolOp op [e] pos) f := ⟨fun pins s σ H Q I q => h.run pins s σ H Q I q⟩
theorem PEd.congr {f g : Env' → Res SV} (h : PEd X Z e f) (e2 : ∀ ρ, f ρ = g ρ) : PEd X Z e g := by
  have : f = g := funext e2
  rw [← this]; exact h
theorem PTd.congr {f g : Env' → Res Bool} (h : PTd X Z e f) (e2 : ∀ ρ, f ρ = g ρ) : PTd X Z e g := by
  have : f = g := funext e2
  rw [← this]; exact h
structure Snd (cf : Cf) (n : Nat) : Prop where
  e : ∀ (Z : Fix) (C : Ck) (X : Cx) q e, CtxOk X Z C cf → ckE C n q e = true → ∀ m, PEd X Z e (ev cf m q)
  l : ∀ (Z : Fix) (C : Ck) (X : Cx) qs es, CtxOk X Z C cf → ckL C n qs es = true → es.all plainE = true ∧ ∀ m, PVd X Z es (vals (ev cf m) qs) ∧ PAd X Z es (opds (ev cf m) qs)
  o : ∀ (Z : Fix) (C : Ck) (X : Cx) q o, CtxOk X Z C cf → ckO C n q o = true → ∀ m, POpt X Z o (part cf m q)
  t : ∀ (Z : Fix) (C : Ck) (X : Cx) q e, CtxOk X Z C cf → ckT C n q e = true → ∀ m, PTd X Z e (evT cf m q) ∧ ((∃ op es pos, e = .BoolOp op es pos) → PWd X Z e (evT cf m q))
  ts : ∀ (Z : Fix) (C : Ck) (X : Cx) q es, CtxOk X Z C cf → ckTs C n q es = true → ∀ m, PTs X es (tD X Z RB (testO (evT cf m) q))
  i : ∀ (Z : Fix) (C : Ck) (X : Cx) it tg e, CtxOk X Z C cf → ckI C n it tg e = true → ∀ m, PId X Z tg e (evIt (ev cf m) it)
theorem snd_zero : Snd cf 0 := ⟨fun _ _ _ _ _ _ h => (by cases h), fun _ _ _ _ _ _ h => (by cases h), fun _ _ _ _ _ _ h => (by cases h), fun _ _ _ _ _ _ h => (by cases h), fun _ _ _ _ _ _ h => (by cases h), fun _ _ _ _ _ _ _ h => (by cases h)⟩
/-- an operand -/
theorem pod_of {C : Ck} {q : Q} (c : CtxOk X Z C cf) {n : Nat} (h : ckE C n q e = true) (hp : ∀ m, PEd X Z e (ev cf m q)) (m : Nat) : POd X Z e (opd (ev cf m) q) := by
  by_cases hq : ∃ i, q = .var i
  · obtain ⟨i, rfl⟩ := hq
    cases n with
    | zero => cases h
    | succ n =>
      unfold ckE at h
      dsimp only at h
      split at h
      · obtain ⟨h1, h2, h3, h4⟩ := c.hvis h
        exact po_var h1 h2 h3 h4
      · cases h
  · have : opd (ev cf m) q = fun ρ => (ev cf m q ρ).bind fun sv ρ' => .ok (.dd sv.d) ρ' := by
      funext ρ
      cases q <;> first | rfl | exact absurd ⟨_, rfl⟩ hq
    rw [this]
    exact po_val (hp m)

theorem pvad {C : Ck} {n : Nat} {q : Q} {qs : List Q} {es : List Expr} (c : CtxOk X Z C cf) (hq : ckE C n q e = true) (hp : ∀ m, PEd X Z e (ev cf m q)) (pl : plainE e = true) (r : ∀ m, PVd X Z es (vals (ev cf m) qs) ∧ PAd X Z es (opds (ev cf m) qs)) (m : Nat) :
    PVd X Z (e :: es) (vals (ev cf m) (q :: qs)) ∧ PAd X Z (e :: es) (opds (ev cf m) (q :: qs)) := ⟨pvd_cons (hp m) (r m).1 pl, pad_cons (pod_of c hq hp m) (r m).2 pl⟩
theorem ckC_ok {d : D} (h : ckC d e = true) : PEd X Z e (fun ρ => .ok (.dat d) ρ) := by
  unfold ckC at h
  split at h
  · exact pd_con pe_non fun _ _ => .non
  · obtain rfl := eq_of_beq h; exact pd_con pe_bl fun _ _ => .bl _
  · obtain rfl := eq_of_beq h; exact pd_con pe_int fun _ _ => .int _
  · obtain rfl := eq_of_beq h; exact pd_con pe_str fun _ _ => .str _
  · cases h
theorem blt_ok {C : Ck} {x : Str} (c : CtxOk X Z C cf) (h : C.blt x = true) : Gl X x ∧ X.mg x = none := by
  unfold Ck.blt at h
  obtain ⟨h1, h2⟩ := Bool.and_eq_true_iff.mp h
  exact ⟨c.hgl h1, c.bl x (by simpa using h2)⟩
theorem call_any {C : Ck} {x : Str} {p pos : Pos} {es : List Expr} {args : List Q} {j k : Nat} {f : Addr} {fd : FuncData} {ps : List Str} {m : Nat} (c : CtxOk X Z C cf) (F : FnOk X.prog X.w X.K X.mg X.base (CX X.prog X.w) k f fd ps (spF X.K Z.fa Z.EX (cf.run j))) (hr : Room k X.A) (hg : Gl X x) (hm : X.mg x = some (.ref f)) (hk : PySem.W.keepIn X.K (.ref f) = true) (hb : Binds X.K fd ps [])
    (hd : (x == ("__debug__" : Str)) = false) (pl : es.all plainE = true) (hn : es = [] → args = []) (ha : ∀ m, PAd X Z es (opds (ev cf m) args)) : PEd X Z (.Call (.Name x p) es [] pos) (ev cf (m + 1) (.call j args)) := by
  cases es with
  | nil =>
    obtain rfl := hn rfl
    exact pd_call0 F c.tk hr hg hm hk hb hd
  | cons e0 es =>
    have pl' := pl
    rw [List.all_cons, Bool.and_eq_true] at pl'
    exact pd_call F c.tk hr hg hm hk hb (ha m) hd (star_plain pl'.1) (back_plain pl'.2)
theorem band {a b : Bool} (h : (a && b) = true) : a = true ∧ b = true := Bool.and_eq_true_iff.mp h
theorem bnot {a : Bool} (h : (!a) = true) : a = false := by cases a <;> first | rfl | cases h
structure SndG (cf : Cf) (n : Nat) : Prop where
  g : ∀ (Z : Fix) (C : Ck) (X : Cx) T e, CtxOk X Z C cf → ckG C n T e = true → PGd X Z e T
  gs : ∀ (Z : Fix) (C : Ck) (X : Cx) ts es, CtxOk X Z C cf → ckGs C n ts es = true → PGsd X Z es ts ∧ es.all plainE = true ∧ es.length = ts.length
theorem sndG : ∀ n, SndG cf n
  | 0 => ⟨fun _ _ _ _ _ _ h => (by cases h), fun _ _ _ _ _ _ h => (by cases h)⟩
  | n + 1 => by
    have S := sndG n
    refine ⟨fun Z C X T e c h => ?_, fun Z C X ts es c h => ?_⟩
    · unfold ckG at h
      cases T with
      | nm i =>
        dsimp only at h
        split at h
        · obtain ⟨h1, h2, h3⟩ := c.hloc h
          exact pgd_name c.nd h1 h2 h3
        · cases h
      | tup ts =>
        dsimp only at h
        split at h
        · obtain ⟨h1, h2, h3⟩ := S.gs Z C X _ _ c h
          exact pgd_tup c.calm h1 h3 (assign_all h2).1 (assign_all h2).2
        · cases h
    · unfold ckGs at h
      split at h
      · rename_i hh; cases hh
      · exact ⟨pgsd_nil, rfl, rfl⟩
      · rename_i n' T ts e es hn
        cases hn
        obtain ⟨h1, h3⟩ := band h
        obtain ⟨h1, h2⟩ := band h1
        obtain ⟨r1, r2, r3⟩ := S.gs Z C X _ _ c h3
        refine ⟨pgsd_cons (S.g Z C X _ _ c h2) r1 (by rw [assign_plain h1]; rfl), by rw [List.all_cons, h1, r2]; rfl, by rw [List.length_cons, List.length_cons, r3]⟩
      · cases h
theorem snd_e {n : Nat} (S : Snd cf n) (Z : Fix) (C : Ck) (X : Cx) (q : Q) (e : Expr) (c : CtxOk X Z C cf) (h : ckE C (n + 1) q e = true) : ∀ m, PEd X Z e (ev cf m q) := by
  intro m
  cases m with
  | zero => exact pd_stuck
  | succ m =>
    have hu1 : X.A.units + 1 < cLine := by have := c.room; omega
    unfold ckE at h
    cases q with
    | var i =>
      dsimp only at h
      split at h
      · obtain ⟨h1, h2, h3, h4⟩ := c.hvis h
        exact pd_var h1 h2 h3 h4
      · cases h
    | cst d => exact ckC_ok h
    | glb j =>
      dsimp only at h
      split at h
      · obtain ⟨h1, h2⟩ := band h
        obtain ⟨hd, u, v, d, k1, k2, k3, k4⟩ := c.gd _ _ (eq_of_beq h2)
        refine (pd_con (pe_glob (c.hgl h1) k1 k2 hd) k4).congr fun ρ => ?_
        show (Res.ok (SV.dat d) ρ : Res SV) = (match cf.gv j with
          | some d => (Res.ok (SV.dat d) ρ : Res SV)
          | none => Res.stuck)
        rw [k3]
      · cases h
    | fnv j =>
      dsimp only at h
      split at h
      · obtain ⟨h1, h2⟩ := band h
        obtain ⟨hd, k, f, fd, ps, k1, k2, k3, k4, k5, k6⟩ := c.fn _ _ (eq_of_beq h2)
        exact pd_con (v := .ref f) (pe_glob (c.hgl h1) k3 rfl hd) fun _ _ => .fn k6
      · cases h
    | callv i args =>
      dsimp only at h
      split at h
      · obtain ⟨h1, h2⟩ := band h
        obtain ⟨g1, g2, g3, g4⟩ := c.hvis h1
        obtain ⟨pl, ha⟩ := S.l Z C X _ _ c h2
        have pl' := pl
        rw [List.all_cons, Bool.and_eq_true] at pl'
        exact pd_callv g1 g2 g4 c.tk c.fv (ha m).2 g3 (star_plain pl'.1) (back_plain pl'.2)
      · cases h
    | tup qs =>
      dsimp only at h
      split at h
      · exact pd_tup ((S.l Z C X _ _ c h).2 m).1
      · cases h
    | lst qs =>
      dsimp only at h
      split at h
      · exact pd_lst ((S.l Z C X _ _ c h).2 m).1
      · cases h
    | lmul qs b =>
      dsimp only at h
      split at h
      · obtain ⟨h1, h2⟩ := band h
        exact pd_lmul ((S.l Z C X _ _ c h1).2 m).1 (S.e Z C X _ _ c h2 m)
      · cases h
    | dic t =>
      dsimp only at h
      split at h
      · cases t
        · exact pd_dicK
        · exact pd_dicT
      · cases h
    | dic1 k v =>
      dsimp only at h
      split at h
      · obtain ⟨h1, h2⟩ := band h
        exact pd_dic1 (S.e Z C X _ _ c h1 m) (S.e Z C X _ _ c h2 m)
      · cases h
    | bin o a b =>
      dsimp only at h
      split at h
      · obtain ⟨h1, h3⟩ := band h
        obtain ⟨h1, h2⟩ := band h1
        obtain rfl := eq_of_beq h1
        exact pd_bin (pod_of c h2 (S.e Z C X _ _ c h2) m) (pod_of c h3 (S.e Z C X _ _ c h3) m)
      · cases h
    | neg a =>
      dsimp only at h
      split at h
      · exact pd_neg (S.e Z C X _ _ c h m)
      · cases h
    | cmp o a b =>
      dsimp only at h
      split at h
      · obtain ⟨h1, h4⟩ := band h
        obtain ⟨h1, h3⟩ := band h1
        obtain ⟨h1, h2⟩ := band h1
        obtain rfl := eq_of_beq h1
        exact pd_cmp c.room (pod_of c h3 (S.e Z C X _ _ c h3) m) (pod_of c h4 (S.e Z C X _ _ c h4) m) (bnot h2)
      · cases h
    | chain o o' a b d =>
      dsimp only at h
      split at h
      · obtain ⟨h1, h6⟩ := band h
        obtain ⟨h1, h5⟩ := band h1
        obtain ⟨h1, h4⟩ := band h1
        obtain ⟨h1, h3⟩ := band h1
        obtain ⟨h1, h2⟩ := band h1
        obtain rfl := eq_of_beq h1
        obtain rfl := eq_of_beq h2
        exact pd_chain c.room (S.e Z C X _ _ c h4 m) (S.e Z C X _ _ c h5 m) (S.e Z C X _ _ c h6 m) (bnot h3)
      · cases h
    | and a b =>
      dsimp only at h
      split at h
      · obtain ⟨h1, h2⟩ := band h
        split at h2
        · exact pd_and (S.e Z C X _ _ c h1 m) (pd_bool1 (S.e Z C X _ _ c h2 m))
        · exact pd_and (S.e Z C X _ _ c h1 m) (S.e Z C X _ _ c h2 m)
      · cases h
    | or a b =>
      dsimp only at h
      split at h
      · obtain ⟨h1, h2⟩ := band h
        split at h2
        · exact pd_or (S.e Z C X _ _ c h1 m) (pd_bool1 (S.e Z C X _ _ c h2 m))
        · exact pd_or (S.e Z C X _ _ c h1 m) (S.e Z C X _ _ c h2 m)
      · cases h
    | not a =>
      dsimp only at h
      split at h
      · exact pd_not (S.e Z C X _ _ c h m)
      · cases h
    | ite t a b =>
      dsimp only at h
      split at h
      · obtain ⟨h1, h3⟩ := band h
        obtain ⟨h1, h2⟩ := band h1
        exact pd_ite (S.t Z C X _ _ c h1 m).1 (S.e Z C X _ _ c h2 m) (S.e Z C X _ _ c h3 m)
      · cases h
    | idx a b =>
      dsimp only at h
      split at h
      · obtain ⟨h1, h3⟩ := band h
        obtain ⟨h1, h2⟩ := band h1
        exact pd_idx hu1 (pod_of c h2 (S.e Z C X _ _ c h2) m) (pod_of c h3 (S.e Z C X _ _ c h3) m) (plainI_ok h1)
      · cases h
    | slc a lo hi =>
      dsimp only at h
      split at h
      · obtain ⟨h1, h3⟩ := band h
        obtain ⟨h1, h2⟩ := band h1
        exact pd_slc (pod_of c h1 (S.e Z C X _ _ c h1) m) (S.o Z C X _ _ c h2 m) (S.o Z C X _ _ c h3 m)
      · cases h
    | rev a =>
      dsimp only at h
      split at h
      · obtain ⟨h1, h2⟩ := band h
        obtain rfl := eq_of_beq h1
        exact pd_rev (pod_of c h2 (S.e Z C X _ _ c h2) m)
      · cases h
    | call j args =>
      dsimp only at h
      split at h
      · obtain ⟨h1, h3⟩ := band h
        obtain ⟨h1, h2⟩ := band h1
        obtain ⟨hd, k, f, fd, ps, k1, k2, k3, k4, k5, _⟩ := c.fn _ _ (eq_of_beq h2)
        obtain ⟨pl, ha⟩ := S.l Z C X _ _ c h3
        refine call_any c k1 k2 (c.hgl h1) k3 k4 k5 hd pl (fun z => ?_) (fun m => (ha m).2)
        rw [z] at h3
        cases n with
        | zero => cases h3
        | succ n => cases args <;> first | rfl | cases h3
      · cases h
    | bi b args =>
      dsimp only at h
      split at h
      · obtain ⟨h1, h3⟩ := band h
        obtain ⟨h1, h2⟩ := band h1
        obtain rfl := eq_of_beq h1
        obtain ⟨g1, g2⟩ := blt_ok c h2
        obtain ⟨pl, ha⟩ := S.l Z C X _ _ c h3
        exact pd_bi c.calm g1 g2 (ha m).2 pl
      · cases h
    | inst a T =>
      dsimp only at h
      split at h
      · obtain ⟨h1, h6⟩ := band h
        obtain ⟨h1, h5⟩ := band h1
        obtain ⟨h1, h4⟩ := band h1
        obtain ⟨h1, h3⟩ := band h1
        obtain ⟨h1, h2⟩ := band h1
        obtain rfl := eq_of_beq h1
        obtain ⟨g1, g2⟩ := blt_ok c h2
        obtain ⟨g3, g4⟩ := blt_ok c h3
        obtain ⟨t1, t2, t3⟩ := tyOk_ok h4
        exact pd_inst g1 g2 g3 g4 t1 t2 t3 (pod_of c h6 (S.e Z C X _ _ c h6) m) h5
      · cases h
    | lrng a =>
      dsimp only at h
      split at h
      · obtain ⟨h1, h6⟩ := band h
        obtain ⟨h1, h5⟩ := band h1
        obtain ⟨h1, h4⟩ := band h1
        obtain ⟨h1, h3⟩ := band h1
        obtain ⟨h1, h2⟩ := band h1
        obtain rfl := eq_of_beq h1
        obtain rfl := eq_of_beq h2
        obtain ⟨g1, g2⟩ := blt_ok c h3
        obtain ⟨g3, g4⟩ := blt_ok c h4
        exact pd_lrng c.calm g1 g2 g3 g4 (S.e Z C X _ _ c h6 m) h5
      · cases h
    | dcp a =>
      dsimp only at h
      split at h
      · obtain ⟨h1, h4⟩ := band h
        obtain ⟨h1, h3⟩ := band h1
        obtain ⟨h1, h2⟩ := band h1
        obtain rfl := eq_of_beq h1
        obtain ⟨g1, g2⟩ := blt_ok c h2
        exact pd_dcp g1 g2 (pod_of c h4 (S.e Z C X _ _ c h4) m) h3
      · cases h
    | dprs a =>
      dsimp only at h
      split at h
      · obtain ⟨h1, h4⟩ := band h
        obtain ⟨h1, h3⟩ := band h1
        obtain ⟨h1, h2⟩ := band h1
        obtain rfl := eq_of_beq h1
        obtain ⟨g1, g2⟩ := blt_ok c h2
        exact pd_dprs c.calm g1 g2 (pod_of c h4 (S.e Z C X _ _ c h4) m) h3
      · cases h
    | get a k d =>
      dsimp only at h
      split at h
      · obtain ⟨h1, h8⟩ := band h
        obtain ⟨h1, h7⟩ := band h1
        obtain ⟨h1, h6⟩ := band h1
        obtain ⟨h1, h5⟩ := band h1
        obtain ⟨h1, h4⟩ := band h1
        obtain ⟨h1, h3⟩ := band h1
        obtain ⟨h1, h2⟩ := band h1
        obtain rfl := eq_of_beq h1
        refine pd_get hu1 (pod_of c h6 (S.e Z C X _ _ c h6) m) (S.e Z C X _ _ c h7 m) (S.e Z C X _ _ c h8 m) ⟨abOk_ok h2, ?_, h5, ?_⟩
        · rw [star_plain h3, star_plain h4]; rfl
        · rw [star_plain h3, star_plain h4]; rfl
      · cases h
    | lc vs T it t q =>
      dsimp only at h
      split at h
      · obtain ⟨h1, h8⟩ := band h
        obtain ⟨h1, h7⟩ := band h1
        obtain ⟨h1, h6⟩ := band h1
        obtain ⟨h1, h5⟩ := band h1
        obtain ⟨h1, h4⟩ := band h1
        obtain ⟨h1, h3⟩ := band h1
        obtain ⟨h1, h2⟩ := band h1
        obtain rfl := eq_of_beq h1
        exact pd_lc c.calm c.nd (S.i Z C X _ _ _ c h5 m) (c.blkOk h2) (own_map C vs) (slIn_ok h3) (fun s H A cl fp => (sndG n).g Z.quiet _ _ _ _ (c.blk h2 s H A cl fp) h6) (fun s H A cl fp => S.ts Z.quiet _ _ _ _ (c.blk h2 s H A cl fp) h7 m) (fun s H A cl fp => S.e Z.quiet _ _ _ _ (c.blk h2 s H A cl fp) h8 m) (plainF_ok h4)
      · cases h
    | lc2 vs vs1 T it T1 it1 t q =>
      dsimp only at h
      split at h
      · obtain ⟨h1, h14⟩ := band h
        obtain ⟨h1, h13⟩ := band h1
        obtain ⟨h1, h12⟩ := band h1
        obtain ⟨h1, h11⟩ := band h1
        obtain ⟨h1, h10⟩ := band h1
        obtain ⟨h1, h9⟩ := band h1
        obtain ⟨h1, h8⟩ := band h1
        obtain ⟨h1, h7⟩ := band h1
        obtain ⟨h1, h6⟩ := band h1
        obtain ⟨h1, h5⟩ := band h1
        obtain ⟨h1, h4⟩ := band h1
        obtain ⟨h1, h3⟩ := band h1
        obtain ⟨h1, h2⟩ := band h1
        obtain rfl := eq_of_beq h1
        obtain rfl := eq_of_beq h2
        exact pd_lc2 c.calm c.nd (S.i Z C X _ _ _ c h9 m) (c.blkOk h3) (own_map C vs) (slIn_ok h4) (slIn_ok h5) (slIn_ok h6) (fun s H A cl fp => (sndG n).g Z.quiet _ _ _ _ (c.blk h3 s H A cl fp) h10) (fun s H A cl fp => S.i Z.quiet _ _ _ _ _ (c.blk h3 s H A cl fp) h11 m) (fun s H A cl fp => (sndG n).g Z.quiet _ _ _ _ (c.blk h3 s H A cl fp) h12) (fun s H A cl fp => S.ts Z.quiet _ _ _ _ (c.blk h3 s H A cl fp) h13 m) (fun s H A cl fp => S.e Z.quiet _ _ _ _ (c.blk h3 s H A cl fp) h14 m) (plainF_ok h7) (fun env => plainF_ok h8)
      · cases h
    | lc3 vs vs1 vs2 T it T1 it1 T2 it2 t q =>
      dsimp only at h
      split at h
      · obtain ⟨h1, h20⟩ := band h
        obtain ⟨h1, h19⟩ := band h1
        obtain ⟨h1, h18⟩ := band h1
        obtain ⟨h1, h17⟩ := band h1
        obtain ⟨h1, h16⟩ := band h1
        obtain ⟨h1, h15⟩ := band h1
        obtain ⟨h1, h14⟩ := band h1
        obtain ⟨h1, h13⟩ := band h1
        obtain ⟨h1, h12⟩ := band h1
        obtain ⟨h1, h11⟩ := band h1
        obtain ⟨h1, h10⟩ := band h1
        obtain ⟨h1, h9⟩ := band h1
        obtain ⟨h1, h8⟩ := band h1
        obtain ⟨h1, h7⟩ := band h1
        obtain ⟨h1, h6⟩ := band h1
        obtain ⟨h1, h5⟩ := band h1
        obtain ⟨h1, h4⟩ := band h1
        obtain ⟨h1, h3⟩ := band h1
        obtain ⟨h1, h2⟩ := band h1
        obtain rfl := eq_of_beq h1
        obtain rfl := eq_of_beq h2
        obtain rfl := eq_of_beq h3
        exact pd_lc3 c.calm c.nd (S.i Z C X _ _ _ c h13 m) (c.blkOk h4) (own_map C vs) (slIn_ok h5) (slIn_ok h6) (slIn_ok h7) (slIn_ok h8) (slIn_ok h9) (fun s H A cl fp => (sndG n).g Z.quiet _ _ _ _ (c.blk h4 s H A cl fp) h14) (fun s H A cl fp => S.i Z.quiet _ _ _ _ _ (c.blk h4 s H A cl fp) h15 m) (fun s H A cl fp => (sndG n).g Z.quiet _ _ _ _ (c.blk h4 s H A cl fp) h16) (fun s H A cl fp => S.i Z.quiet _ _ _ _ _ (c.blk h4 s H A cl fp) h17 m) (fun s H A cl fp => (sndG n).g Z.quiet _ _ _ _ (c.blk h4 s H A cl fp) h18) (fun s H A cl fp => S.ts Z.quiet _ _ _ _ (c.blk h4 s H A cl fp) h19 m) (fun s H A cl fp => S.e Z.quiet _ _ _ _ (c.blk h4 s H A cl fp) h20 m) (plainF_ok h10) (fun env => plainF_ok h11) (fun env => plainF_ok h12)
      · cases h
theorem snd_l {n : Nat} (S : Snd cf n) (Z : Fix) (C : Ck) (X : Cx) (qs : List Q) (es : List Expr) (c : CtxOk X Z C cf) (h : ckL C (n + 1) qs es = true) : es.all plainE = true ∧ ∀ m, PVd X Z es (vals (ev cf m) qs) ∧ PAd X Z es (opds (ev cf m) qs) := by
  unfold ckL at h
  split at h
  · rename_i hh; cases hh
  · exact ⟨rfl, fun m => ⟨pvd_nil, pad_nil⟩⟩
  · rename_i n' q qs e es hn
    cases hn
    obtain ⟨h1, h3⟩ := band h
    obtain ⟨h1, h2⟩ := band h1
    obtain ⟨pl, r⟩ := S.l Z C X _ _ c h3
    exact ⟨by rw [List.all_cons, h1, pl]; rfl, pvad c h2 (S.e Z C X _ _ c h2) h1 r⟩
  · cases h
theorem snd_o {n : Nat} (S : Snd cf n) (Z : Fix) (C : Ck) (X : Cx) (q : Option Q) (o : Option Expr) (c : CtxOk X Z C cf) (h : ckO C (n + 1) q o = true) : ∀ m, POpt X Z o (part cf m q) := by
  intro m
  cases m with
  | zero => exact po_stuck
  | succ m =>
    unfold ckO at h
    split at h
    · rename_i hh; cases hh
    · exact pod_none
    · rename_i n' q e hn
      cases hn
      exact pod_some (S.e Z C X _ _ c h m)
    · cases h
theorem notBool {P : Prop} (h : plainT e = true) (op : BoolOp) (es : List Expr) (pos : Pos) : e = .BoolOp op es pos → P := by
  rintro rfl; cases h
theorem ptd_val' {f : Env' → Res SV} (pl : plainT e = true) (h : PEd X Z e f) : PTd X Z e (fun ρ => (f ρ).bind fun sv ρ1 => lift (tru sv.d) ρ1) ∧ ((∃ op es pos, e = .BoolOp op es pos) → PWd X Z e (fun ρ => (f ρ).bind fun sv ρ1 => lift (tru sv.d) ρ1)) :=
  ⟨ptd_val h (plainT_ok pl), fun ⟨_, _, _, e1⟩ => notBool pl _ _ _ e1⟩
theorem snd_t {n : Nat} (S : Snd cf n) (Z : Fix) (C : Ck) (X : Cx) (q : Q) (e : Expr) (c : CtxOk X Z C cf) (h : ckT C (n + 1) q e = true) : ∀ m, PTd X Z e (evT cf m q) ∧ ((∃ op es pos, e = .BoolOp op es pos) → PWd X Z e (evT cf m q)) := by
  intro m
  cases m with
  | zero => exact ⟨ptd_stuck, fun _ => pwd_stuck⟩
  | succ m =>
    unfold ckT at h
    cases q with
    | and a b =>
      dsimp only at h
      split at h
      · obtain ⟨h1, h2⟩ := band h
        split at h2
        · exact ⟨(pwd_and (S.t Z C X _ _ c h1 m).1 (pwd_and1 (S.t Z C X _ _ c h2 m).1)).pt, fun _ => pwd_and (S.t Z C X _ _ c h1 m).1 (pwd_and1 (S.t Z C X _ _ c h2 m).1)⟩
        · have w := pwd_and (S.t Z C X _ _ c h1 m).1 ((S.t Z C X _ _ c h2 m).2 ⟨_, _, _, rfl⟩)
          exact ⟨w.pt, fun _ => w⟩
      · cases h
    | or a b =>
      dsimp only at h
      split at h
      · obtain ⟨h1, h2⟩ := band h
        split at h2
        · exact ⟨(pwd_or (S.t Z C X _ _ c h1 m).1 (pwd_or1 (S.t Z C X _ _ c h2 m).1)).pt, fun _ => pwd_or (S.t Z C X _ _ c h1 m).1 (pwd_or1 (S.t Z C X _ _ c h2 m).1)⟩
        · have w := pwd_or (S.t Z C X _ _ c h1 m).1 ((S.t Z C X _ _ c h2 m).2 ⟨_, _, _, rfl⟩)
          exact ⟨w.pt, fun _ => w⟩
      · cases h
    | not a =>
      dsimp only at h
      split at h
      · exact ⟨ptd_not (S.t Z C X _ _ c h m).1, fun ⟨_, _, _, z⟩ => by cases z⟩
      · cases h
    | cmp o a b =>
      dsimp only at h
      split at h
      · obtain ⟨h1, h4⟩ := band h
        obtain ⟨h1, h3⟩ := band h1
        obtain ⟨h1, h2⟩ := band h1
        obtain rfl := eq_of_beq h1
        refine ⟨?_, fun ⟨_, _, _, z⟩ => by cases z⟩
        cases m with
        | zero => exact ptd_stuck
        | succ m =>
          refine (ptd_cmp c.room (pod_of c h3 (S.e Z C X _ _ c h3) m) (pod_of c h4 (S.e Z C X _ _ c h4) m) (bnot h2)).congr fun ρ => ?_
          show op2 (ev cf m) (cmpP o) a b ρ = Res.bind (α := SV) ((op2 (ev cf m) (cmpP o) a b ρ).bind fun c ρ1 => .ok (.dat (.bl c)) ρ1) fun sv ρ1 => lift (tru sv.d) ρ1
          cases op2 (ev cf m) (cmpP o) a b ρ <;> rfl
      · cases h
    | chain o o' a b d =>
      dsimp only at h
      split at h
      · obtain ⟨h1, h6⟩ := band h
        obtain ⟨h1, h5⟩ := band h1
        obtain ⟨h1, h4⟩ := band h1
        obtain ⟨h1, h3⟩ := band h1
        obtain ⟨h1, h2⟩ := band h1
        obtain rfl := eq_of_beq h1
        obtain rfl := eq_of_beq h2
        refine ⟨?_, fun ⟨_, _, _, z⟩ => by cases z⟩
        cases m with
        | zero => exact ptd_stuck
        | succ m => exact ptd_chain c.room (S.e Z C X _ _ c h4 m) (S.e Z C X _ _ c h5 m) (S.e Z C X _ _ c h6 m) (bnot h3)
      · cases h
    | _ =>
      dsimp only at h
      obtain ⟨h1, h2⟩ := band h
      exact ptd_val' h1 (S.e Z C X _ _ c h2 m)
theorem snd_ts {n : Nat} (S : Snd cf n) (Z : Fix) (C : Ck) (X : Cx) (q : Option Q) (es : List Expr) (c : CtxOk X Z C cf) (h : ckTs C (n + 1) q es = true) (m : Nat) : PTs X es (tD X Z RB (testO (evT cf m) q)) := by
  unfold ckTs at h
  split at h
  · rename_i hh; cases hh
  · exact ptsd_nil
  · rename_i n' q e hn
    cases hn
    exact pts_one (S.t Z C X _ _ c h m).1
  · cases h
theorem snd_i {n : Nat} (S : Snd cf n) (Z : Fix) (C : Ck) (X : Cx) (it : It) (tg e : Expr) (c : CtxOk X Z C cf) (h : ckI C (n + 1) it tg e = true) (m : Nat) : PId X Z tg e (evIt (ev cf m) it) := by
  unfold ckI at h
  cases it with
  | seq q => exact pid_seq (S.e Z C X _ _ c h m)
  | rng a =>
    dsimp only at h
    split at h
    · obtain ⟨h1, h4⟩ := band h
      obtain ⟨h1, h3⟩ := band h1
      obtain ⟨h1, h2⟩ := band h1
      obtain rfl := eq_of_beq h1
      obtain ⟨g1, g2⟩ := blt_ok c h2
      exact pid_rng g1 g2 (S.e Z C X _ _ c h4 m) (star_plain h3)
    · cases h
  | rng2 a b =>
    dsimp only at h
    split at h
    · obtain ⟨h1, h6⟩ := band h
      obtain ⟨h1, h5⟩ := band h1
      obtain ⟨h1, h4⟩ := band h1
      obtain ⟨h1, h3⟩ := band h1
      obtain ⟨h1, h2⟩ := band h1
      obtain rfl := eq_of_beq h1
      obtain ⟨g1, g2⟩ := blt_ok c h2
      exact pid_rng2 g1 g2 (S.e Z C X _ _ c h5 m) (S.e Z C X _ _ c h6 m) (star_plain h3) (star_plain h4)
    · cases h
  | enum a =>
    dsimp only at h
    split at h
    · obtain ⟨h1, h5⟩ := band h
      obtain ⟨h1, h4⟩ := band h1
      obtain ⟨h1, h3⟩ := band h1
      obtain ⟨h1, h2⟩ := band h1
      obtain rfl := eq_of_beq h1
      obtain ⟨g1, g2⟩ := blt_ok c h2
      cases tg <;> first | exact pid_enumA g1 g2 (S.e Z C X _ _ c h5 m) (star_plain h3) | cases h4
    · cases h
  | zip a b =>
    dsimp only at h
    split at h
    · obtain ⟨h1, h7⟩ := band h
      obtain ⟨h1, h6⟩ := band h1
      obtain ⟨h1, h5⟩ := band h1
      obtain ⟨h1, h4⟩ := band h1
      obtain ⟨h1, h3⟩ := band h1
      obtain ⟨h1, h2⟩ := band h1
      obtain rfl := eq_of_beq h1
      obtain ⟨g1, g2⟩ := blt_ok c h2
      cases tg <;> first | exact pid_zip g1 g2 (S.e Z C X _ _ c h6 m) (S.e Z C X _ _ c h7 m) (star_plain h3) (star_plain h4) | cases h5
    · cases h
  | zip3 a b d =>
    dsimp only at h
    split at h
    · obtain ⟨h1, h9⟩ := band h
      obtain ⟨h1, h8⟩ := band h1
      obtain ⟨h1, h7⟩ := band h1
      obtain ⟨h1, h6⟩ := band h1
      obtain ⟨h1, h5⟩ := band h1
      obtain ⟨h1, h4⟩ := band h1
      obtain ⟨h1, h3⟩ := band h1
      obtain ⟨h1, h2⟩ := band h1
      obtain rfl := eq_of_beq h1
      obtain ⟨g1, g2⟩ := blt_ok c h2
      cases tg <;> first | exact pid_zip3 g1 g2 (S.e Z C X _ _ c h7 m) (S.e Z C X _ _ c h8 m) (S.e Z C X _ _ c h9 m) h3 h4 h5 | cases h6
    · cases h
  | items a =>
    dsimp only at h
    split at h
    · obtain ⟨h1, h5⟩ := band h
      obtain ⟨h1, h4⟩ := band h1
      obtain ⟨h1, h3⟩ := band h1
      obtain ⟨h1, h2⟩ := band h1
      obtain rfl := eq_of_beq h1
      cases tg <;> first | exact pid_items (S.e Z C X _ _ c h5 m) (abOk_ok h3) h4 | cases h2
    · cases h
theorem snd_all : ∀ n, Snd cf n
  | 0 => snd_zero
  | n + 1 => ⟨snd_e (snd_all n), snd_l (snd_all n), snd_o (snd_all n), snd_t (snd_all n), snd_ts (snd_all n), snd_i (snd_all n)⟩
end
end DL

namespace DL
open PySem PySem.Spec PyProof.Rows L2

/-- name = [..] -/
def lcSet (C : Ck) (x : Str) (px : Pos) : Expr → Bool
  | .ListComp _ gs scope pos => decide (gs.length < 3) && (C.nm.lookup x == some .local) && (px.line == pos.line) && !(scope.names.any fun (n, k) => n == x && (k == .local || k == .cell))
  | _ => false
def swapNone (nm : List (Str × NameKind)) (ts : List Expr) (e : Expr) : Bool := match e with
  | .Tuple vs _ _ => swapP nm ts vs == some none
  | _ => true
mutual
def ckS (C : Ck) : Nat → S → Stmt → Bool
  | 0, _, _ => false
  | n + 1, s, st => match s with
    | .set i q => (match st with
      | .Assign [.Name x px] e _ => C.loc x i && (plainC e || lcSet C x px e || C.nm.lookup x == some .cell) && ckE C n q e
      | _ => false)
    | .unp ts q => (match st with
      | .Assign [.Tuple es k p] e _ => ckG C n (.tup ts) (.Tuple es k p) && swapNone C.nm es e && ckE C n q e
      | _ => false)
    | .par i j a b => (match st with
      | .Assign [.Tuple [.Name x px, .Name y py] _ _] (.Tuple [c, d] _ _) _ => i != j && C.locS x i && C.locS y j && (swapP C.nm [.Name x px, .Name y py] [c, d] == some (some [x, y])) && plainE c && plainE d && ckE C n a c && ckE C n b d
      | _ => false)
    | .parO _ i j a b => (match st with
      | .Assign [.Tuple [.Name x px, .Name y py] _ _] (.Tuple [c, d] _ _) _ => i != j && C.loc x i && C.loc y j && ((C.locS x i && C.locS y j && swapP C.nm [.Name x px, .Name y py] [c, d] == some (some [x, y])) || swapP C.nm [.Name x px, .Name y py] [c, d] == some none) && plainE c && plainE d && ckE C n a c && ckE C n b d
      | _ => false)
    | .store i k v => (match st with
      | .Assign [.Subscript (.Name x _) y _] e _ => plainI y && C.vis x i && plainC e && ckE C n v e && ckE C n k y
      | _ => false)
    | .app i q => (match st with
      | .Expr (.Call (.Attribute (.Name x _) a apos) [e] [] p2) _ => a == ("append" : Str) && C.vis x i && plainE e && (apos.endLine == p2.line) && ckE C n q e
      | _ => false)
    | .expr q => (match st with
      | .Expr e _ => plainC e && ckE C n q e
      | _ => false)
    | .ifs c a b => (match st with
      | .If c' a' b' _ => ckT C n c c' && ckSs C n a a' && ckSs C n b b'
      | _ => false)
    | .for_ T it body => (match st with
      | .For tg iter body' [] _ => ckG C n T tg && ckI C n it tg iter && plainF iter && ckSs C n body body'
      | _ => false)
    | .whil _ c body => (match st with
      | .While c' body' [] _ => ckT C n c c' && ckSs C n body body'
      | _ => false)
    | .ret q => (match st with
      | .Return (some e) _ => ckE C n q e
      | _ => false)
    | .retv i => (match st with
      | .Return (some (.Name x _)) _ => C.vis x i
      | _ => false)
    | .retN => (match st with
      | .Return none _ => true
      | _ => false)
    | .brk => (match st with
      | .Break _ => true
      | _ => false)
    | .cont => (match st with
      | .Continue _ => true
      | _ => false)
    | .pass => (match st with
      | .Pass _ => true
      | _ => false)
    | .never => true
def ckSs (C : Ck) : Nat → List S → List Stmt → Bool
  | 0, _, _ => false
  | _ + 1, [], [] => true
  | n + 1, s :: ss, st :: sts => ckS C n s st && ckSs C n ss sts
  | _, _, _ => false
end
section
variable {X : Cx} {Z : Fix} {cf : Cf} {e : Expr}
structure SndS (Z : Fix) (cf : Cf) (n : Nat) : Prop where
  s : ∀ (C : Ck) (X : Cx) s st, CtxOk X Z C cf → ckS C n s st = true → ∀ m, PSd X Z st (exS cf m s)
  ss : ∀ (C : Ck) (X : Cx) s st, CtxOk X Z C cf → ckSs C n s st = true → ∀ m, PSsd X Z st (exSs cf m s)
theorem psd_stuck {st : Stmt} : PSd X Z st (fun _ => .stuck) := psd_never
theorem pssd_stuck {st : List Stmt} : PSsd X Z st (fun _ => .stuck) := by
  refine PSs.weak pss_never ?_
  rintro D σ H ⟨F, ρ, ok, h⟩
  exact h
theorem few_ok {x : Expr} {p2 : Pos} {env : Env} (h : plainE x = true) : ((backTo p2 (starEach (x :: []) env)).all (fun x => !x.1) && (backToKw p2 (keywordEach [] env)).all (fun x => x.1.isSome)
      && decide ((x :: ([] : List Expr)).length + ([] : List Keyword).length + (if ([] : List Keyword).isEmpty then 0 else 1) < 30)) = true := by
  rw [star_plain h]; rfl
theorem assign_sub {o y : Expr} {p2 : Pos} {env : Env} {v : Value} (h : plainI y = true) : assign (.Subscript o y p2) env v = (do
      let ov ← holding [v] (eval o env)
      let iv ← holding [v, ov] (eval y env)
      standAt p2
      holding [v, ov, iv] (setItem ov iv v)
      release [v, ov, iv] []) := by
  cases y <;> first | rfl | cases h
theorem sw_cell {e : Expr} {x : Str} {p : Pos} {l : Nat} {env : Env} (h : env.kindOf x = some .cell) : swapsWith e (some (.Name x p)) l env = pure false := by
  have e0 : (env.kindOf x == some NameKind.local) = false := by rw [h]; rfl
  unfold swapsWith
  cases e <;> first | rfl | (simp only [e0, Bool.and_false, Bool.false_and])
theorem psd_setC {n i : Nat} {C : Ck} {q : Q} {x : Str} {px pos : Pos} (c : CtxOk X Z C cf) (g1 : X.N[i]? = some x) (h2 : lcSet C x px e = true) (h : ckE C n q e = true) (m : Nat) : PSd X Z (.Assign [.Name x px] e pos) (fun ρ => (ev cf m q ρ).sb fun sv ρ1 => setS i sv ρ1) := by
  cases n with
  | zero => cases h
  | succ n =>
    have S : Snd cf n := snd_all n
    unfold lcSet at h2
    split at h2
    · obtain ⟨a1, l2⟩ := band h2
      obtain ⟨a2, l1⟩ := band a1
      obtain ⟨l3, l0⟩ := band a2
      clear h2 a1 a2
      have g2 : X.env.scope.names.lookup x = some .local := by rw [c.nm]; simpa using l0
      cases m with
      | zero =>
        have : (fun ρ => (ev cf 0 q ρ).sb fun sv ρ1 => setS i sv ρ1) = fun _ => SRes.stuck := rfl
        rw [this]; exact psd_never
      | succ m =>
        have sw : ∀ {elt gs scope lpos}, (px.line == lpos.line) = true → (!(scope.names.any fun (n, k) => n == x && (k == .local || k == .cell))) = true → swapsWith (.ListComp elt gs scope lpos) (some (.Name x px)) pos.line X.env = pure true := fun h1 h2 => sw_true c.kind g2 h1 (bnot h2)
        unfold ckE at h
        cases q with
        | lc vs T it t q =>
          dsimp only at h
          split at h
          · rename_i heq
            cases heq
            obtain ⟨h1, h8⟩ := band h
            obtain ⟨h1, h7⟩ := band h1
            obtain ⟨h1, h6⟩ := band h1
            obtain ⟨h1, h5⟩ := band h1
            obtain ⟨h1, h4⟩ := band h1
            obtain ⟨h1, h3⟩ := band h1
            obtain ⟨h1, h2⟩ := band h1
            obtain rfl := eq_of_beq h1
            exact psd_lc c.calm c.nd g1 g2 (sw l1 l2) (S.i Z C X _ _ _ c h5 m) (c.blkOk h2) (own_map C vs) (slIn_ok h3) (fun s H A cl fp => (sndG n).g Z.quiet _ _ _ _ (c.blk h2 s H A cl fp) h6) (fun s H A cl fp => S.ts Z.quiet _ _ _ _ (c.blk h2 s H A cl fp) h7 m) (fun s H A cl fp => S.e Z.quiet _ _ _ _ (c.blk h2 s H A cl fp) h8 m) (plainF_ok h4)
          · cases h
        | lc2 vs vs1 T it T1 it1 t q =>
          dsimp only at h
          split at h
          · rename_i heq
            cases heq
            obtain ⟨h1, h14⟩ := band h
            obtain ⟨h1, h13⟩ := band h1
            obtain ⟨h1, h12⟩ := band h1
            obtain ⟨h1, h11⟩ := band h1
            obtain ⟨h1, h10⟩ := band h1
            obtain ⟨h1, h9⟩ := band h1
            obtain ⟨h1, h8⟩ := band h1
            obtain ⟨h1, h7⟩ := band h1
            obtain ⟨h1, h6⟩ := band h1
            obtain ⟨h1, h5⟩ := band h1
            obtain ⟨h1, h4⟩ := band h1
            obtain ⟨h1, h3⟩ := band h1
            obtain ⟨h1, h2⟩ := band h1
            obtain rfl := eq_of_beq h1
            obtain rfl := eq_of_beq h2
            exact psd_lc2 c.calm c.nd g1 g2 (sw l1 l2) (S.i Z C X _ _ _ c h9 m) (c.blkOk h3) (own_map C vs) (slIn_ok h4) (slIn_ok h5) (slIn_ok h6) (fun s H A cl fp => (sndG n).g Z.quiet _ _ _ _ (c.blk h3 s H A cl fp) h10) (fun s H A cl fp => S.i Z.quiet _ _ _ _ _ (c.blk h3 s H A cl fp) h11 m) (fun s H A cl fp => (sndG n).g Z.quiet _ _ _ _ (c.blk h3 s H A cl fp) h12) (fun s H A cl fp => S.ts Z.quiet _ _ _ _ (c.blk h3 s H A cl fp) h13 m) (fun s H A cl fp => S.e Z.quiet _ _ _ _ (c.blk h3 s H A cl fp) h14 m) (plainF_ok h7) (fun env => plainF_ok h8)
          · cases h
        | cst d => dsimp only at h; cases d <;> cases h
        | lc3 a0 a1 a2 a3 a4 a5 a6 a7 a8 a9 a10 =>
          dsimp only at h
          split at h
          · rename_i heq
            cases heq
            simp at l3
          · cases h
        | _ => dsimp only at h; cases h
    · cases h2
theorem snd_s {n : Nat} (S : SndS Z cf n) (C : Ck) (X : Cx) (s : DL.S) (st : Stmt) (c : CtxOk X Z C cf) (h : ckS C (n + 1) s st = true) : ∀ m, PSd X Z st (exS cf m s) := by
  intro m
  have E : Snd cf n := snd_all n
  have G : SndG cf n := sndG n
  have hu1 : X.A.units + 1 < cLine := by have := c.room; omega
  cases m with
  | zero => exact psd_stuck
  | succ m =>
    unfold ckS at h
    cases s with
    | set i q =>
      dsimp only at h
      split at h
      · obtain ⟨h1, h3⟩ := band h
        obtain ⟨h1, h2⟩ := band h1
        obtain ⟨g1, g2, g3⟩ := c.hloc h1
        rcases Bool.or_eq_true_iff.mp h2 with h2 | h2
        · rcases Bool.or_eq_true_iff.mp h2 with h2 | h2
          · exact psd_set c.nd g1 g2 g3 (E.e Z C X _ _ c h3 m) (plainC_ok h2)
          · exact psd_setC c g1 h2 h3 m
        · exact psd_set c.nd g1 g2 g3 (E.e Z C X _ _ c h3 m) (sw_cell (by unfold Env.kindOf; rw [c.nm]; simpa using h2))
      · cases h
    | unp ts q =>
      dsimp only at h
      split at h
      · obtain ⟨h1, h4⟩ := band h
        obtain ⟨h1, h3⟩ := band h1
        refine psd_unp (E.e Z C X _ _ c h4 m) (G.g Z C X _ _ c h1) tup_sole ?_ rfl
        unfold swapNone at h3
        split at h3
        · exact swapP_ok c.nm c.kind (by simpa using h3)
        · rename_i hx
          exact swap_value fun vs k2 p2 z => hx vs k2 p2 z
      · cases h
    | par i j a b =>
      dsimp only at h
      split at h
      · obtain ⟨h1, h8⟩ := band h
        obtain ⟨h1, h7⟩ := band h1
        obtain ⟨h1, h6⟩ := band h1
        obtain ⟨h1, h5⟩ := band h1
        obtain ⟨h1, h4⟩ := band h1
        obtain ⟨h1, h3⟩ := band h1
        obtain ⟨h1, h2⟩ := band h1
        obtain ⟨g1, g2⟩ := c.hlocS h2
        obtain ⟨g3, g4⟩ := c.hlocS h3
        exact psd_par c.calm c.nd g1 g3 (by simpa using h1) g2 g4 (E.e Z C X _ _ c h7 m) (E.e Z C X _ _ c h8 m) (star_plain h5) (star_plain h6) (swapP_ok c.nm c.kind (by simpa using h4)) rfl
      · cases h
    | parO ka i j a b =>
      dsimp only at h
      split at h
      · obtain ⟨h1, h8⟩ := band h
        obtain ⟨h1, h7⟩ := band h1
        obtain ⟨h1, h6⟩ := band h1
        obtain ⟨h1, h5⟩ := band h1
        obtain ⟨h1, h4⟩ := band h1
        obtain ⟨h1, h3⟩ := band h1
        obtain ⟨h1, h2⟩ := band h1
        obtain ⟨g1, g2, g3⟩ := c.hloc h2
        obtain ⟨g4, g5, g6⟩ := c.hloc h3
        rcases Bool.or_eq_true_iff.mp h4 with h4 | h4
        · obtain ⟨h4, k3⟩ := band h4
          obtain ⟨k1, k2⟩ := band h4
          obtain ⟨_, j2⟩ := c.hlocS k1
          obtain ⟨_, j4⟩ := c.hlocS k2
          exact psd_parO c.calm c.nd g1 g4 (by simpa using h1) j2 j4 (E.e Z C X _ _ c h7 m) (E.e Z C X _ _ c h8 m) (star_plain h5) (star_plain h6) (swapP_ok c.nm c.kind (by simpa using k3)) rfl
        · exact psd_parP c.calm c.nd g1 g4 (by simpa using h1) g2 g5 g3 g6 (E.e Z C X _ _ c h7 m) (E.e Z C X _ _ c h8 m) (star_plain h5) (star_plain h6) (swapP_ok c.nm c.kind (by simpa using h4)) rfl
      · cases h
    | store i k v =>
      dsimp only at h
      split at h
      · obtain ⟨h1, h4⟩ := band h
        obtain ⟨h1, h3⟩ := band h1
        obtain ⟨h1, h2⟩ := band h1
        obtain ⟨h0, h1⟩ := band h1
        obtain ⟨g1, g2, g3, g4⟩ := c.hvis h1
        refine psd_store hu1 g1 g2 g3 g4 (E.e Z C X _ _ c h3 m) (E.e Z C X _ _ c h4 m) (plainC_sole h2) rfl (fun _ => ?_) rfl
        exact assign_sub h0
      · cases h
    | app i q =>
      dsimp only at h
      split at h
      · obtain ⟨h1, h5⟩ := band h
        obtain ⟨h1, h4⟩ := band h1
        obtain ⟨h1, h3⟩ := band h1
        obtain ⟨h1, h2⟩ := band h1
        obtain rfl := eq_of_beq h1
        obtain ⟨g1, g2, g3, g4⟩ := c.hvis h2
        exact psd_app g1 g2 g3 g4 (E.e Z C X _ _ c h5 m) rfl (few_ok h3) h4 (star_plain h3) rfl
      · cases h
    | expr q =>
      dsimp only at h
      split at h
      · obtain ⟨h1, h2⟩ := band h
        exact psd_expr (E.e Z C X _ _ c h2 m) (plainC_ok h1)
      · cases h
    | ifs t a b =>
      dsimp only at h
      split at h
      · obtain ⟨h1, h3⟩ := band h
        obtain ⟨h1, h2⟩ := band h1
        exact psd_if (E.t Z C X _ _ c h1 m).1 (S.ss C X _ _ c h2 m) (S.ss C X _ _ c h3 m)
      · cases h
    | for_ T it body =>
      dsimp only at h
      split at h
      · obtain ⟨h1, h4⟩ := band h
        obtain ⟨h1, h3⟩ := band h1
        obtain ⟨h1, h2⟩ := band h1
        exact psd_for c.po c.calm (E.i Z C X _ _ _ c h2 m) (G.g Z C X _ _ c h1) (S.ss C X _ _ c h4 m) (plainF_ok h3)
      · cases h
    | whil k t body =>
      dsimp only at h
      split at h
      · obtain ⟨h1, h2⟩ := band h
        exact psd_while c.po (E.t Z C X _ _ c h1 m).1 (S.ss C X _ _ c h2 m)
      · cases h
    | ret q =>
      dsimp only at h
      split at h
      · exact psd_ret (E.e Z C X _ _ c h m)
      · cases h
    | retv i =>
      dsimp only at h
      split at h
      · obtain ⟨g1, g2, g3, g4⟩ := c.hvis h
        exact psd_retv g1 g2 g3 g4
      · cases h
    | retN =>
      dsimp only at h
      split at h
      · exact psd_retN
      · cases h
    | brk =>
      dsimp only at h
      split at h
      · exact psd_brk
      · cases h
    | cont =>
      dsimp only at h
      split at h
      · exact psd_cont
      · cases h
    | pass =>
      dsimp only at h
      split at h
      · exact psd_pass
      · cases h
    | never => exact psd_never
theorem snd_ss {n : Nat} (S : SndS Z cf n) (C : Ck) (X : Cx) (s : List DL.S) (st : List Stmt) (c : CtxOk X Z C cf) (h : ckSs C (n + 1) s st = true) : ∀ m, PSsd X Z st (exSs cf m s) := by
  intro m
  unfold ckSs at h
  split at h
  · rename_i hh; cases hh
  · cases m with
    | zero => exact pssd_stuck
    | succ m => exact pssd_nil
  · rename_i n' s ss st sts hn
    cases hn
    obtain ⟨h1, h2⟩ := band h
    cases m with
    | zero => exact pssd_stuck
    | succ m => exact pssd_cons (S.s C X _ _ c h1 m) (S.ss C X _ _ c h2 m)
  · cases h
theorem sndS : ∀ n, SndS Z cf n
  | 0 => ⟨fun _ _ _ _ _ h => (by cases h), fun _ _ _ _ _ h => (by cases h)⟩
  | n + 1 => ⟨snd_s (sndS n), snd_ss (sndS n)⟩
end
end DL

namespace DL
open PySem PySem.Spec PyProof.Rows L2

/-! ### a law as data -/
structure DefI where
  id : Nat
  x : Str
  st : Stmt
  N : List Str
  ps : List Str
  fd : Fd
inductive Cst where
  | int (i : Int) | tup (vs : List He.Dv)
def dvD : He.Dv → D
  | .bl b => .bl b
  | .int i => .int i
  | .str x => .str x
  | _ => .non
def dvOk : He.Dv → Bool
  | .non => true
  | .bl _ => true
  | .int _ => true
  | .str _ => true
  | _ => false
def Cst.d : Cst → D
  | .int i => .int i
  | .tup vs => .ktup (vs.map dvD)
structure CstI where
  id : Nat
  x : Str
  c : Cst
structure LawI where
  ds : List DefI
  cs : List CstI
  bl : List Str
def LawI.fn (L : LawI) : List He.DefD := L.ds.map fun d => ⟨(d.x, none), d.x, d.x, defArgs d.st, defBody d.st, defScope d.st, [], []⟩
def cstFa (c : CstI) : He.Fa := match c.c with
  | .int i => .int c.x i
  | .tup _ => .glo c.x
def LawI.fa (L : LawI) : List He.Fa := (L.ds.map fun d => He.Fa.glo d.x) ++ (L.cs.map cstFa ++ L.bl.map He.Fa.free)
def noLst (o : Obj) : Bool := match o.cls with
  | .type c => !(decide (c = "list"))
  | _ => true
def cstEx (K : PySem.W.Frag) (c : CstI) : Bool := match c.c with
  | .int _ => true
  | .tup vs => He.tupB K c.x vs && vs.all dvOk
def LawI.ex (L : LawI) (K : PySem.W.Frag) : Bool := (K.all fun p => noLst p.2) && L.cs.all (cstEx K)
def LawI.ck (L : LawI) (d : DefI) : Ck := ⟨d.N, (defScope d.st).names, L.ds.map fun d => (d.x, d.id), L.cs.map fun c => (c.x, c.id), L.bl, ((defScope d.st).names.filter fun p => (defScope d.st).names.lookup p.1 == some .cell).map (·.1)⟩
/-- where a def stands -/
def LawI.at (L : LawI) (K : PySem.W.Frag) (j : Nat) : Option Addr := (L.ds.find? fun d => d.id == j).map fun d => He.fAd K (d.x, none)
structure DefOk (G : Nat → Option Fd) (L : LawI) (m : Nat) (d : DefI) : Prop where
  gl : G d.id = some d.fd
  sc : FnScope d.N d.ps (defScope d.st)
  np : d.fd.np = d.ps.length
  nl : d.fd.nl = d.N.length
  bd : ∀ (kV doc pm : Value) (an : Option Addr) (cdv ct : Value) (us : List Value), us.length = d.ps.length → bindArgs (PySem.W.fnOf d.x d.x (defArgs d.st) (defBody d.st) (defScope d.st) .none kV doc pm an cdv ct) ⟨us, []⟩ = pure (d.ps.zip us)
  ck : ckSs (L.ck d) m d.fd.body (defBody d.st) = true
structure LawOk (G : Nat → Option Fd) (gv : Nat → Option D) (L : LawI) (m : Nat) : Prop where
  defs : ∀ d ∈ L.ds, DefOk G L m d
  ids : (L.ds.map (·.id)).Nodup
  cst : ∀ c ∈ L.cs, gv c.id = some c.c.d
  dbg : ((L.ds.map (·.x) ++ L.cs.map (·.x)).all fun x => !(x == ("__debug__" : Str))) = true
/-- the promise of the j-th def -/
abbrev LawI.sp (G : Nat → Option Fd) (gv : Nat → Option D) (L : LawI) (K : PySem.W.Frag) (n k j : Nat) : Sp := spF K (L.at K) (fun _ _ _ _ => False) (semK G gv n k j)

theorem lk_mem {a : Addr} {o : Obj} : ∀ {K : PySem.W.Frag}, K.lookup a = some o → (a, o) ∈ K
  | [], h => by cases h
  | (b, u) :: K, h => by
    rw [List.lookup_cons] at h
    split at h
    · rename_i e
      obtain rfl : a = b := by simpa using e
      cases h
      exact List.mem_cons_self
    · exact List.mem_cons_of_mem _ (lk_mem h)
theorem ids_find : ∀ {ds : List DefI} {d : DefI}, (ds.map (·.id)).Nodup → d ∈ ds → ds.find? (fun e => e.id == d.id) = some d
  | e :: ds, d, nd, h => by
    rw [List.map_cons, List.nodup_cons] at nd
    rw [List.find?_cons]
    rcases List.mem_cons.mp h with rfl | h
    · rw [beq_self_eq_true]
    · have ne : (e.id == d.id) = false := by
        refine beq_eq_false_iff_ne.mpr fun z => nd.1 ?_
        rw [z]; exact List.mem_map_of_mem h
      rw [ne]
      exact ids_find nd.2 h
section
variable {P : Program} {w : World} {K : PySem.W.Frag} {mg : Str → Option Value} {base h : Heap} {L : LawI} {m n : Nat} {Gd : Nat → Option Fd} {gv : Nat → Option D}
theorem stuck_ok {CX : CXT} {f : Addr} {fd : FuncData} {ps : List Str} {fa : Nat → Option Addr} {EX : ExR} : FnOk P w K mg base CX 0 f fd ps (spF K fa EX fun _ => .stuck) :=
  ⟨fun vs H Q E ⟨_, _, _, _, _, z⟩ => z.elim, fun A outer s H args us vs Q E _ _ _ _ ⟨_, _, _, _, _, z⟩ => z.elim⟩
theorem relAll_rep {H : Hp} {F : AP'} {fa : Nat → Option Addr} : ∀ {vs : List He.Dv}, vs.all dvOk = true → RepL K fa H F (vs.map (He.Dv.v K)) (vs.map dvD)
  | [], _ => .nil
  | v :: vs, h => by
    rw [List.all_cons, Bool.and_eq_true] at h
    refine .cons ?_ (relAll_rep h.2)
    cases v <;> first | exact .non | exact .bl _ | exact .int _ | exact .str _ | exact absurd h.1 Bool.false_ne_true
theorem gd_ok (X : K.In h) (G : h.Ns mainGlobals mg) (c : He.SaysD L.fa L.fn K) (ex : L.ex K = true) {cc : CstI} (hm : cc ∈ L.cs) :
    ∃ u v, mg cc.x = some u ∧ RelV v u ∧ ∀ fa H F, Rep K fa H F v cc.c.d := by
  have hf : cstFa cc ∈ L.fa := List.mem_append_right _ (List.mem_append_left _ (List.mem_map_of_mem (f := cstFa) hm))
  have c1 := c.facts hf
  obtain ⟨id, x, cst⟩ := cc
  cases cst with
  | int i =>
    obtain ⟨t, e⟩ := He.int_ok X G (x := x) (i := i) c1
    exact ⟨_, .int i, e, ⟨t, rfl⟩, fun _ _ _ => .int i⟩
  | tup vs =>
    have e := He.glo_ok X G (x := x) c1
    have ex2 := List.all_eq_true.mp (Bool.and_eq_true_iff.mp ex).2 _ hm
    obtain ⟨t1, t2⟩ := Bool.and_eq_true_iff.mp (show (He.tupB K x vs && vs.all dvOk) = true from ex2)
    refine ⟨_, .ref (He.ga K x), e, rfl, fun fa H F => ?_⟩
    rcases He.tupB_ok t1 (fun _ => none) with q | ⟨o, its, k, q1, q2, q3, q4, q5⟩
    · rcases q with q | ⟨_, q⟩ <;> cases q
    · exact .ktup ⟨o, its, k, q1, q2, q3, q4, q5⟩ (relAll_rep t2)
theorem fns_ok (LO : LawOk Gd gv L m) (X : K.In h) (G : h.Ns mainGlobals mg) (c : He.SaysD L.fa L.fn K) (ex : L.ex K = true) : ∀ (k : Nat) (d : DefI) (fd : FuncData), d ∈ L.ds → FunD K d.x d.x (defArgs d.st) (defBody d.st) (defScope d.st) [] [] (He.fAd K (d.x, none)) fd →
    FnOk P w K mg base (L2.CX P w) k (He.fAd K (d.x, none)) fd d.ps (L.sp Gd gv K n k d.id) := by
  intro k
  induction k with
  | zero => intro d fd hj F; exact stuck_ok
  | succ k ih =>
    intro d fd hj F
    have D := LO.defs d hj
    have all : ∀ d' ∈ L.ds, ∃ fd', FnOk P w K mg base (L2.CX P w) k (He.fAd K (d'.x, none)) fd' d'.ps (L.sp Gd gv K n k d'.id) ∧ mg d'.x = some (.ref (He.fAd K (d'.x, none))) ∧ PySem.W.keepIn K (.ref (He.fAd K (d'.x, none))) = true ∧ Binds K fd' d'.ps [] ∧ L.at K d'.id = some (He.fAd K (d'.x, none)) := fun d' dm => by
      obtain ⟨fd', F'⟩ := c.defs (d := ⟨(d'.x, none), d'.x, d'.x, defArgs d'.st, defBody d'.st, defScope d'.st, [], []⟩) (List.mem_map_of_mem (f := fun d : DefI => (⟨(d.x, none), d.x, d.x, defArgs d.st, defBody d.st, defScope d.st, [], []⟩ : He.DefD)) dm)
      have g := He.glo_ok X G (x := d'.x) (c.facts (f := .glo d'.x) (List.mem_append_left _ (List.mem_map_of_mem (f := fun d : DefI => He.Fa.glo d.x) dm)))
      refine ⟨fd', ih d' fd' dm F', g, F'.kp, F'.bindsN (LO.defs d' dm).bd, ?_⟩
      unfold LawI.at
      rw [ids_find LO.ids dm]
      rfl
    refine fn_ok F D.sc D.gl D.np D.nl fun cdv A outer s H E hr => ?_
    refine (sndS m).ss (L.ck d) _ _ _ ?_ D.ck n
    have dbg : ∀ x ∈ L.ds.map (·.x) ++ L.cs.map (·.x), (x == ("__debug__" : Str)) = false := fun x hx => by
      have := List.all_eq_true.mp LO.dbg x hx
      simpa using this
    refine ⟨rfl, D.sc.nd, rfl, D.sc.kind, rfl, takes_of rfl rfl rfl rfl, passes_of rfl, ?_, fun x j' hx => ?_, fun j' f hf => ?_, fun x j' hx => ?_, fun x hx => ?_, fun _ _ => rfl⟩
    · have := hr.un
      show (A.deeper (envOfC d.x (defScope d.st) s.heap.objs.size (He.fAd K (d.x, none)) cdv)).units + 65 < cLine
      omega
    · obtain ⟨d', dm, e⟩ := List.mem_map.mp (PySem.mem_of_lookup hx)
      cases e
      obtain ⟨fd', a1, a2, a3, a4, a5⟩ := all d' dm
      exact ⟨dbg d'.x (List.mem_append_left _ (List.mem_map_of_mem dm)), k, _, fd', d'.ps, a1, hr, a2, a3, a4, a5⟩
    · have hf : L.at K j' = some f := hf
      unfold LawI.at at hf
      obtain ⟨d', e1, e2⟩ := Option.map_eq_some_iff.mp hf
      have dm := List.mem_of_find?_eq_some e1
      have ej : d'.id = j' := by have := List.find?_some e1; simpa using this
      obtain ⟨fd', a1, a2, a3, a4, a5⟩ := all d' dm
      rw [← ej, ← e2]
      exact ⟨k, fd', d'.ps, a1, hr, a3, a4⟩
    · obtain ⟨cc, cm, e⟩ := List.mem_map.mp (PySem.mem_of_lookup hx)
      cases e
      obtain ⟨u, v, g1, g2, g3⟩ := gd_ok X G c ex cm
      exact ⟨dbg cc.x (List.mem_append_right _ (List.mem_map_of_mem cm)), u, v, cc.c.d, g1, g2, LO.cst cc cm, g3 _⟩
    · exact He.free_ok X G (x := x) (c.facts (f := .free x) (List.mem_append_right _ (List.mem_append_right _ (List.mem_map_of_mem (f := He.Fa.free) hx))))
/-- no exception leaves -/
theorem FnOk.calm0 {k : Nat} {f : Addr} {fd : FuncData} {ps : List Str} {sp : Sp} (F : FnOk P w K mg base (L2.CX P w) k f fd ps sp) : FnOk P w K mg base CX0 k f fd ps (fun vs H Q _ => sp vs H Q fun _ _ _ => False) := by
  refine ⟨fun vs H Q E h => F.len vs H Q _ h, fun A outer s H args us vs Q E hr he hb hv h => codeAny_mono (F.run A outer s H args us vs Q _ hr he hb hv h) fun r s' q => ?_⟩
  cases r with
  | error e =>
    obtain ⟨_, _, _, _, _, _, _, _, _, _, _, _, z⟩ := q
    exact z.elim
  | ok fl => cases fl <;> exact q
end

/-! ### the head's hook: the part of the heap without its lists -/
def frL (n : Nat) (g : Addr → Option Obj) : PySem.W.Frag := He.frG g ((He.asD g n).filter fun a => match g a with
  | some o => noLst o
  | none => false)
def obsL (n : Nat) (L : LawI) (g : Addr → Option Obj) : He.AlD × Bool := (He.obsD L.fa L.fn (frL n g), L.ex (frL n g))
def hookL (n : Nat) (L : LawI) : PySem.W.Hook where
  α := He.AlD × Bool
  obs := fun s => obsL n L s.heap.get?
  val := fun _ => (He.valD L.fn, true)
  says := fun _ h => ∃ K : PySem.W.Frag, K.In h ∧ He.SaysD L.fa L.fn K ∧ L.ex K = true
  of := fun _ _ e => ⟨_, He.frG_in, congrArg Prod.fst e, congrArg Prod.snd e⟩
  keeps := fun _ _ _ ⟨K, hK, c⟩ k => ⟨K, PySem.W.Frag.In.keeps hK k, c⟩
theorem obsL_eq {n : Nat} {L : LawI} {g : Addr → Option Obj} {s : Shared} (h : ∀ a, g a = s.heap.get? a) : obsL n L g = (hookL n L).obs s := by
  have e : g = s.heap.get? := funext h
  rw [e] <;> rfl
/-- the law: its last def, its promise -/
theorem law_facts {Gd : Nat → Option Fd} {gv : Nat → Option D} {P : Program} {w : World} {K : PySem.W.Frag} {h : Heap} {mg : Str → Option Value} {f : Addr} {L : LawI} {m n k : Nat} {d : DefI} {N : Nat} {x : Str} (LO : LawOk Gd gv L m) (X : K.In h) (G : h.Ns mainGlobals mg) (c : He.SaysD L.fa L.fn K) (ex : L.ex K = true)
    (dm : d ∈ L.ds) (hx : d.ps = [x]) (hfa : mg d.x = some (.ref f)) (hlaw : ∀ ns : List Int, ns.length ≤ N → semK Gd gv n k d.id [.dat (.lst (ns.map D.int))] = .ok (.dat (.bl true)) none) :
    ∃ (fd : FuncData) (sp : Sp), (∀ (s : Shared) (u : Value), BindsTo s fd ⟨[u], []⟩ [(x, u)]) ∧ (∀ (H : Hp) (a : Addr) (ns : List Int), ns.length ≤ N → Only H → SqL K H a (ns.map V.int) → sp [.ref a] H (fun v _ => v = .bl true) fun _ _ _ => False) ∧
      ∀ base : Heap, K.In base → base.Ns mainGlobals mg → FnOk P w K mg base CX0 k f fd [x] sp := by
  obtain ⟨fd, F⟩ := c.defs (d := ⟨(d.x, none), d.x, d.x, defArgs d.st, defBody d.st, defScope d.st, [], []⟩) (List.mem_map_of_mem (f := fun d : DefI => (⟨(d.x, none), d.x, d.x, defArgs d.st, defBody d.st, defScope d.st, [], []⟩ : He.DefD)) dm)
  have g := He.glo_ok X G (x := d.x) (c.facts (f := .glo d.x) (List.mem_append_left _ (List.mem_map_of_mem (f := fun d : DefI => He.Fa.glo d.x) dm)))
  rw [hfa] at g
  have ef : f = He.fAd K (d.x, none) := by have := Option.some.inj g; cases this; rfl
  subst ef
  have DO := LO.defs d dm
  refine ⟨fd, fun vs H Q _ => L.sp Gd gv K n k d.id vs H Q fun _ _ _ => False, fun s u => ?_, fun H a ns hl hO hS => ?_, fun base KB GB => ?_⟩
  · have := F.bindsA (ps := [x]) (by rw [← hx]; exact DO.bd) s [u] rfl
    exact this
  · have rd : Rd H a (.lst (ns.map V.int)) := by
      rcases hS with h | ⟨o, its, k', q1, q2, _⟩
      · exact h
      · have := List.all_eq_true.mp (Bool.and_eq_true_iff.mp ex).1 (a, o) (lk_mem q1)
        dsimp only at this
        unfold noLst at this
        rw [q2] at this
        simp at this
    have rl : RepL K (L.at K) H (fun b => b = a) (ns.map V.int) (ns.map D.int) := by
      clear hl hS rd hlaw
      induction ns with
      | nil => exact .nil
      | cons i ns ih => exact .cons (.int i) ih
    refine ⟨fun b => b = a, [.dat (.lst (ns.map D.int))], fun b hb => ?_, .cons (.lst rfl rd rl) .nil, ⟨fun _ z => (by cases z), fun _ z => (by cases z)⟩, ?_⟩
    · subst hb
      rcases rd with e | ⟨_, e⟩ <;> (rw [e]; exact fun z => nomatch z)
    · rw [hlaw ns hl]
      intro v H' F' st fd' rep mine back
      cases (show Rep K _ H' F' v (.bl true) from rep)
      rfl
  · have := FnOk.calm0 (fns_ok (P := P) (w := w) (base := base) (n := n) LO X G c ex k d fd dm F)
    rw [hx] at this
    exact this
end DL

namespace DL
/-! the defs of the program and of the laws, with numbers of their own -/
def F_is_from : Fd := ⟨3, 3, false, [.ret (.and (.inst (.var 0) "int") (.and (.not (.inst (.var 0) "bool")) (.chain .LtE .LtE (.var 1) (.var 0) (.var 2))))]⟩
def F_is_rounding_of : Fd := ⟨1, 4, false, [.ifs (.or (.not (.inst (.var 0) "tuple")) (.cmp .NotEq (.bi .len [.var 0]) (.cst (.int 3)))) [.ret (.cst (.bl false))] [],
    .unp [.nm 1, .nm 2, .nm 3] (.var 0),
    .ifs (.or (.not (.call 0 [.var 1, .cst (.int 1), .cst (.int 12)])) (.or (.cmp .NotIn (.var 1) (.glb 0)) (.or (.not (.inst (.var 2) "str")) (.cmp .NotIn (.var 2) (.glb 1))))) [.ret (.cst (.bl false))] [],
    .ret (.call 0 [.var 3, .cst (.int 0), .bin .Sub (.var 1) (.cst (.int 1))])]⟩
def F_are_breaks_of : Fd := ⟨1, 2, false, [.ifs (.or (.not (.inst (.var 0) "tuple")) (.cmp .Gt (.bi .len [.var 0]) (.cst (.int 2)))) [.ret (.cst (.bl false))] [],
    .for_ (.nm 1) (.seq (.var 0)) [.ifs (.or (.not (.inst (.var 1) "tuple")) (.cmp .NotEq (.bi .len [.var 1]) (.cst (.int 2)))) [.ret (.cst (.bl false))] [],
    .ifs (.or (.not (.call 0 [.idx (.var 1) (.cst (.int 0)), .cst (.int 1), .glb 2])) (.not (.call 0 [.idx (.var 1) (.cst (.int 1)), .cst (.int 1), .glb 3]))) [.ret (.cst (.bl false))] []],
    .ret (.or (.cmp .Lt (.bi .len [.var 0]) (.cst (.int 2))) (.cmp .Lt (.idx (.idx (.var 0) (.cst (.int 0))) (.cst (.int 0))) (.idx (.idx (.var 0) (.cst (.int 1))) (.cst (.int 0)))))]⟩
def F_is_manner_of : Fd := ⟨1, 6, false, [.ifs (.or (.not (.inst (.var 0) "tuple")) (.cmp .NotEq (.bi .len [.var 0]) (.cst (.int 5)))) [.ret (.cst (.bl false))] [],
    .unp [.nm 1, .nm 2, .nm 3, .nm 4, .nm 5] (.var 0),
    .ifs (.or (.not (.call 1 [.var 1])) (.or (.not (.call 1 [.var 2])) (.not (.call 2 [.var 3])))) [.ret (.cst (.bl false))] [],
    .ret (.and (.or (.cmp .Is (.var 4) (.cst .non)) (.call 0 [.var 4, .cst (.int 1), .glb 2])) (.or (.cmp .Is (.var 5) (.cst .non)) (.call 0 [.var 5, .cst (.int 1), .bin .Mult (.glb 4) (.glb 2)])))]⟩
def F_is_manner : Fd := ⟨1, 1, false, [.ret (.call 3 [.var 0])]⟩
def F__law_deck : Fd := ⟨2, 2, false, [.ifs (.cmp .GtE (.var 0) (.bin .Pow (.cst (.int 10)) (.cst (.int 18)))) [.ret (.lst [.bin .Sub (.var 0) (.bin .Pow (.cst (.int 10)) (.cst (.int 18))), .bin .Mod (.bi .int [.var 0]) (.cst (.int 2147483579)), .var 1])] [],
    .ret (.lst [.cst (.int 0), .bin .Mod (.bi .int [.var 0]) (.cst (.int 2147483579)), .var 1])]⟩
def F__law_pick : Fd := ⟨2, 4, true, [.ifs (.cmp .Gt (.idx (.var 0) (.cst (.int 0))) (.cst (.int 1))) [.set 2 (.bin .Mod (.bi .int [.idx (.var 0) (.cst (.int 0))]) (.var 1)),
    .store 0 (.cst (.int 0)) (.bin .FloorDiv (.idx (.var 0) (.cst (.int 0))) (.var 1)),
    .retv 2] [],
    .store 0 (.cst (.int 2)) (.bin .Add (.idx (.var 0) (.cst (.int 2))) (.cst (.int 1))),
    .set 3 (.bin .Mod (.bi .int [.bin .Pow (.bi .int [.bin .Add (.idx (.var 0) (.cst (.int 1))) (.bin .Mult (.cst (.int 15485867)) (.idx (.var 0) (.cst (.int 2))))]) (.cst (.int 5))]) (.cst (.int 2147483647))),
    .set 2 (.bin .FloorDiv (.bin .Mod (.bi .int [.bin .Pow (.bi .int [.bin .Add (.var 3) (.bin .Mult (.cst (.int 7919)) (.idx (.var 0) (.cst (.int 2))))]) (.cst (.int 3))]) (.cst (.int 2147483629))) (.cst (.int 32))),
    .ret (.bin .Mod (.bi .int [.var 2]) (.var 1))]⟩
def F__law_one : Fd := ⟨2, 2, true, [.ret (.idx (.var 1) (.call 6 [.var 0, .bi .len [.var 1]]))]⟩
def F__law_whole : Fd := ⟨1, 1, false, [.ret (.and (.inst (.var 0) "int") (.not (.inst (.var 0) "bool")))]⟩
def F__law_rounding : Fd := ⟨1, 2, true, [.set 1 (.idx (.lst [.cst (.int 1), .cst (.int 2), .cst (.int 3), .cst (.int 4), .cst (.int 6), .cst (.int 8), .cst (.int 12)]) (.call 6 [.var 0, .cst (.int 7)])),
    .ret (.tup [.var 1, .idx (.lst [.cst (.str "down"), .cst (.str "near"), .cst (.str "up")]) (.call 6 [.var 0, .cst (.int 3)]), .call 6 [.var 0, .var 1]])]⟩
def F__law_manner : Fd := ⟨1, 6, true, [.unp [.nm 1, .nm 2] (.tup [.tup [], .cst (.int 0)]),
    .for_ (.nm 3) (.rng (.call 6 [.var 0, .cst (.int 3)])) [.set 2 (.bin .Add (.bin .Add (.var 2) (.cst (.int 1))) (.call 6 [.var 0, .cst (.int 40)])),
    .set 1 (.bin .Add (.var 1) (.tup [.tup [.var 2, .bin .Add (.cst (.int 1)) (.call 6 [.var 0, .cst (.int 8)])]]))],
    .set 4 (.ite (.cmp .Eq (.call 6 [.var 0, .cst (.int 2)]) (.cst (.int 0))) (.cst .non) (.bin .Add (.cst (.int 1)) (.call 6 [.var 0, .cst (.int 60)]))),
    .set 5 (.ite (.cmp .Eq (.call 6 [.var 0, .cst (.int 2)]) (.cst (.int 0))) (.cst .non) (.bin .Add (.cst (.int 1)) (.call 6 [.var 0, .cst (.int 300)]))),
    .ret (.tup [.call 9 [.var 0], .call 9 [.var 0], .var 1, .var 4, .var 5])]⟩
def F__law_is_from : Fd := ⟨3, 3, false, [.ret (.and (.call 8 [.var 0]) (.chain .LtE .LtE (.var 1) (.var 0) (.var 2)))]⟩
def F__law_is_rounding : Fd := ⟨1, 1, false, [.ifs (.or (.not (.inst (.var 0) "tuple")) (.or (.cmp .NotEq (.bi .len [.var 0]) (.cst (.int 3))) (.not (.call 8 [.idx (.var 0) (.cst (.int 0))])))) [.ret (.cst (.bl false))] [],
    .ifs (.or (.cmp .NotIn (.idx (.var 0) (.cst (.int 0))) (.tup [.cst (.int 1), .cst (.int 2), .cst (.int 3), .cst (.int 4), .cst (.int 6), .cst (.int 8), .cst (.int 12)])) (.not (.inst (.idx (.var 0) (.cst (.int 1))) "str"))) [.ret (.cst (.bl false))] [],
    .ret (.and (.cmp .In (.idx (.var 0) (.cst (.int 1))) (.tup [.cst (.str "up"), .cst (.str "down"), .cst (.str "near")])) (.call 11 [.idx (.var 0) (.cst (.int 2)), .cst (.int 0), .bin .Sub (.idx (.var 0) (.cst (.int 0))) (.cst (.int 1))]))]⟩
def F__law_is : Fd := ⟨1, 3, false, [.ifs (.or (.not (.inst (.var 0) "tuple")) (.cmp .NotEq (.bi .len [.var 0]) (.cst (.int 5)))) [.ret (.cst (.bl false))] [],
    .ifs (.or (.not (.call 12 [.idx (.var 0) (.cst (.int 0))])) (.not (.call 12 [.idx (.var 0) (.cst (.int 1))]))) [.ret (.cst (.bl false))] [],
    .ifs (.or (.not (.inst (.idx (.var 0) (.cst (.int 2))) "tuple")) (.cmp .Gt (.bi .len [.idx (.var 0) (.cst (.int 2))]) (.cst (.int 2)))) [.ret (.cst (.bl false))] [],
    .set 1 (.cst (.int 0)),
    .for_ (.nm 2) (.seq (.idx (.var 0) (.cst (.int 2)))) [.ifs (.or (.not (.inst (.var 2) "tuple")) (.or (.cmp .NotEq (.bi .len [.var 2]) (.cst (.int 2))) (.not (.call 11 [.idx (.var 2) (.cst (.int 0)), .bin .Add (.var 1) (.cst (.int 1)), .cst (.int 96)])))) [.ret (.cst (.bl false))] [],
    .ifs (.not (.call 11 [.idx (.var 2) (.cst (.int 1)), .cst (.int 1), .cst (.int 8)])) [.ret (.cst (.bl false))] [],
    .set 1 (.idx (.var 2) (.cst (.int 0)))],
    .ifs (.and (.cmp .IsNot (.idx (.var 0) (.cst (.int 3))) (.cst .non)) (.not (.call 11 [.idx (.var 0) (.cst (.int 3)), .cst (.int 1), .cst (.int 96)]))) [.ret (.cst (.bl false))] [],
    .ret (.or (.cmp .Is (.idx (.var 0) (.cst (.int 4))) (.cst .non)) (.call 11 [.idx (.var 0) (.cst (.int 4)), .cst (.int 1), .cst (.int 480)]))]⟩
def F__law_changed : Fd := ⟨2, 5, true, [.ifs (.and (.inst (.var 1) "tuple") (.and (.cmp .NotEq (.var 1) (.tup [])) (.cmp .Gt (.call 6 [.var 0, .cst (.int 6)]) (.cst (.int 0))))) [.par 2 3 (.call 6 [.var 0, .bi .len [.var 1]]) (.call 6 [.var 0, .cst (.int 9)]),
    .ifs (.cmp .Eq (.var 3) (.cst (.int 0))) [.ret (.bin .Add (.slc (.var 1) none (some (.var 2))) (.slc (.var 1) (some (.bin .Add (.var 2) (.cst (.int 1)))) none))] [],
    .ifs (.cmp .Eq (.var 3) (.cst (.int 1))) [.ret (.bin .Add (.slc (.var 1) none (some (.bin .Add (.var 2) (.cst (.int 1))))) (.slc (.var 1) (some (.var 2)) none))] [],
    .ret (.bin .Add (.bin .Add (.slc (.var 1) none (some (.var 2))) (.tup [.call 14 [.var 0, .idx (.var 1) (.var 2)]])) (.slc (.var 1) (some (.bin .Add (.var 2) (.cst (.int 1)))) none))] [],
    .set 4 (.lst [.cst .non, .cst (.bl true), .cst (.bl false), .cst (.int 0), .cst (.int 1), .cst (.int 5), .cst (.int 12), .cst (.int 8), .cst (.int 96), .cst (.int 97), .cst (.int 480), .cst (.int 481), .cst (.str "near"), .cst (.str "Up"), .cst (.str ""), .tup [], .lst [], .bin .Pow (.cst (.int 10)) (.cst (.int 30)), .tup [.cst (.int 1), .cst (.int 1)], .tup [.tup [.cst (.int 1), .cst (.int 1)]]]),
    .ifs (.and (.inst (.var 1) "int") (.cmp .Eq (.call 6 [.var 0, .cst (.int 2)]) (.cst (.int 0)))) [.ret (.bin .Add (.var 1) (.call 7 [.var 0, .lst [.cst (.int 1), .neg (.cst (.int 1))]]))] [],
    .ret (.ite (.and (.inst (.var 1) "tuple") (.cmp .Eq (.call 6 [.var 0, .cst (.int 3)]) (.cst (.int 0)))) (.bi .list [.var 1]) (.call 7 [.var 0, .var 4]))]⟩
def F_law_k01 : Fd := ⟨1, 8, false, [.for_ (.nm 1) (.rng (.cst (.int 8))) [.set 2 (.call 5 [.idx (.bin .Add (.var 0) (.lmul [.cst (.int 0)] (.cst (.int 8)))) (.var 1), .var 1]),
    .for_ (.nm 3) (.rng (.cst (.int 12))) [.set 4 (.call 10 [.var 2]),
    .ifs (.cmp .IsNot (.call 4 [.var 4]) (.cst (.bl true))) [.ret (.cst (.bl false))] [],
    .set 5 (.call 14 [.var 2, .var 4]),
    .ifs (.cmp .Eq (.call 6 [.var 2, .cst (.int 3)]) (.cst (.int 0))) [.set 5 (.call 14 [.var 2, .var 5])] [],
    .set 6 (.call 4 [.var 5]),
    .ifs (.or (.not (.inst (.var 6) "bool")) (.cmp .NotEq (.var 6) (.call 13 [.var 5]))) [.ret (.cst (.bl false))] []]],
    .set 7 (.tup [.tup [.cst (.int 12), .cst (.str "up"), .cst (.int 11)], .tup [.cst (.int 12), .cst (.str "down"), .cst (.int 0)], .tup [.tup [.cst (.int 1), .cst (.int 8)], .tup [.cst (.int 96), .cst (.int 1)]], .cst (.int 96), .cst (.int 480)]),
    .ifs (.or (.cmp .IsNot (.call 4 [.var 7]) (.cst (.bl true))) (.cmp .IsNot (.call 4 [.bin .Add (.bin .Add (.slc (.var 7) none (some (.cst (.int 2)))) (.tup [.tup [.tup [.cst (.int 5), .cst (.int 1)], .tup [.cst (.int 5), .cst (.int 2)]]])) (.slc (.var 7) (some (.cst (.int 3))) none)]) (.cst (.bl false)))) [.ret (.cst (.bl false))] [],
    .ret (.and (.cmp .Is (.call 4 [.bin .Add (.tup [.tup [.cst (.int 5), .cst (.str "up"), .cst (.int 0)]]) (.slc (.var 7) (some (.cst (.int 1))) none)]) (.cst (.bl false))) (.cmp .Is (.call 4 [.bin .Add (.tup [.tup [.cst (.int 1), .cst (.str "up"), .cst (.int 1)]]) (.slc (.var 7) (some (.cst (.int 1))) none)]) (.cst (.bl false))))]⟩
def F_need_manner : Fd := ⟨1, 1, false, [.ifs (.not (.call 3 [.var 0])) [.never] []]⟩
def F_need_time : Fd := ⟨1, 1, false, [.ifs (.not (.call 0 [.var 0, .cst (.int 0), .glb 2])) [.never] []]⟩
def F_came : Fd := ⟨2, 6, false, [.unp [.nm 2, .nm 3, .nm 4] (.var 0),
    .set 5 (.bin .Mod (.var 1) (.var 2)),
    .ifs (.or (.cmp .LtE (.var 5) (.var 4)) (.or (.cmp .Eq (.var 3) (.cst (.str "down"))) (.and (.cmp .Eq (.var 3) (.cst (.str "near"))) (.cmp .Lt (.bin .Mult (.cst (.int 2)) (.var 5)) (.var 2))))) [.ret (.bin .Sub (.var 1) (.var 5))] [],
    .ret (.bin .Add (.bin .Sub (.var 1) (.var 5)) (.var 2))]⟩
def F_went : Fd := ⟨2, 6, false, [.unp [.nm 2, .nm 3, .nm 4] (.var 0),
    .set 5 (.bin .Mod (.bin .Sub (.cst (.int 0)) (.var 1)) (.var 2)),
    .ifs (.or (.cmp .LtE (.var 5) (.var 4)) (.or (.cmp .Eq (.var 3) (.cst (.str "up"))) (.and (.cmp .Eq (.var 3) (.cst (.str "near"))) (.cmp .LtE (.bin .Mult (.cst (.int 2)) (.var 5)) (.var 2))))) [.ret (.bin .Add (.var 1) (.var 5))] [],
    .ret (.bin .Sub (.bin .Add (.var 1) (.var 5)) (.var 2))]⟩
def F_time_in : Fd := ⟨2, 2, false, [.expr (.call 16 [.var 0]),
    .expr (.call 17 [.var 1]),
    .ret (.call 18 [.idx (.var 0) (.cst (.int 0)), .var 1])]⟩
def F_time_out : Fd := ⟨2, 2, false, [.expr (.call 16 [.var 0]),
    .expr (.call 17 [.var 1]),
    .ret (.call 19 [.idx (.var 0) (.cst (.int 1)), .var 1])]⟩
def F__law_sort : Fd := ⟨1, 1, false, [.ifs (.inst (.var 0) "bool") [.ret (.cst (.int 1))] [],
    .ifs (.inst (.var 0) "int") [.ret (.cst (.int 2))] [],
    .ifs (.inst (.var 0) "str") [.ret (.cst (.int 3))] [],
    .ifs (.inst (.var 0) "list") [.ret (.cst (.int 4))] [],
    .ret (.ite (.inst (.var 0) "tuple") (.cst (.int 5)) (.cst (.int 6)))]⟩
def F__law_same : Fd := ⟨2, 4, false, [.ifs (.cmp .NotEq (.call 24 [.var 0]) (.call 24 [.var 1])) [.ret (.cst (.bl false))] [],
    .ifs (.and (.cmp .Gt (.call 24 [.var 0]) (.cst (.int 3))) (.cmp .Lt (.call 24 [.var 0]) (.cst (.int 6)))) [.ifs (.cmp .NotEq (.bi .len [.var 0]) (.bi .len [.var 1])) [.ret (.cst (.bl false))] [],
    .ret (.cmp .Eq (.lc [2, 3] (.tup [.nm 2, .nm 3]) (.enum (.var 0)) (some (.not (.call 25 [.var 3, .idx (.var 1) (.var 2)]))) (.var 2)) (.lst []))] [],
    .ret (.cmp .Eq (.var 0) (.var 1))]⟩
def F__law_punch : Fd := ⟨3, 8, false, [.unp [.nm 3, .nm 4, .nm 5] (.var 0),
    .set 6 (.bin .Sub (.var 1) (.bin .Mod (.bi .int [.var 1]) (.var 3))),
    .set 7 (.ite (.cmp .Eq (.var 6) (.var 1)) (.var 6) (.bin .Add (.var 6) (.var 3))),
    .ifs (.or (.and (.var 2) (.cmp .LtE (.bin .Sub (.var 1) (.var 6)) (.var 5))) (.and (.not (.var 2)) (.cmp .LtE (.bin .Sub (.var 7) (.var 1)) (.var 5)))) [.ret (.ite (.var 2) (.var 6) (.var 7))] [],
    .ifs (.cmp .Eq (.var 4) (.cst (.str "near"))) [.ret (.ite (.cmp .Lt (.bin .Sub (.var 1) (.var 6)) (.bin .Sub (.var 7) (.var 1))) (.var 6) (.var 7))] [],
    .ret (.ite (.cmp .Eq (.var 4) (.cst (.str "down"))) (.var 6) (.var 7))]⟩
def F_is_day_of : Fd := ⟨1, 2, false, [.ifs (.or (.not (.inst (.var 0) "tuple")) (.cmp .NotEq (.bi .len [.var 0]) (.cst (.int 2)))) [.ret (.cst (.bl false))] [],
    .ret (.and (.bi .all [.lc [1] (.nm 1) (.seq (.var 0)) none (.call 0 [.var 1, .cst (.int 0), .glb 2])]) (.cmp .Lt (.idx (.var 0) (.cst (.int 0))) (.idx (.var 0) (.cst (.int 1)))))]⟩
def F_is_week_of : Fd := ⟨1, 2, false, [.ret (.and (.inst (.var 0) "tuple") (.and (.cmp .LtE (.bi .len [.var 0]) (.glb 4)) (.bi .all [.lc [1] (.nm 1) (.seq (.var 0)) none (.call 28 [.var 1])])))]⟩
def F_need_day : Fd := ⟨1, 1, false, [.ifs (.not (.call 28 [.var 0])) [.never] []]⟩
def F_need_week : Fd := ⟨1, 1, false, [.ifs (.not (.call 29 [.var 0])) [.never] []]⟩
def F_counted_of : Fd := ⟨2, 2, false, [.ret (.bi .max [.cst (.int 0), .bin .Sub (.call 19 [.idx (.var 0) (.cst (.int 1)), .idx (.var 1) (.cst (.int 1))]) (.call 18 [.idx (.var 0) (.cst (.int 0)), .idx (.var 1) (.cst (.int 0))])])]⟩
def F_left_of : Fd := ⟨2, 5, false, [.set 2 (.lc [3, 4] (.tup [.nm 3, .nm 4]) (.seq (.idx (.var 0) (.cst (.int 2)))) (some (.cmp .LtE (.var 3) (.var 1))) (.var 4)),
    .ret (.ite (.cmp .NotEq (.var 2) (.lst [])) (.bi .max [.cst (.int 0), .bin .Sub (.var 1) (.idx (.var 2) (.neg (.cst (.int 1))))]) (.var 1))]⟩
def F_split_of : Fd := ⟨2, 4, false, [.set 2 (.call 33 [.var 0, .var 1]),
    .set 3 (.ite (.cmp .Is (.idx (.var 0) (.cst (.int 3))) (.cst .non)) (.var 2) (.bi .min [.var 2, .idx (.var 0) (.cst (.int 3))])),
    .ret (.tup [.var 3, .bin .Sub (.var 2) (.var 3)])]⟩
def F_parts_of : Fd := ⟨2, 2, false, [.ret (.call 34 [.var 0, .call 32 [.var 0, .var 1]])]⟩
def F_paid_of : Fd := ⟨2, 9, false, [.set 2 (.lc [3] (.nm 3) (.seq (.var 1)) none (.call 35 [.var 0, .var 3])),
    .par 4 5 (.bi .sum [.lc [6, 7] (.tup [.nm 6, .nm 7]) (.seq (.var 2)) none (.var 6)]) (.bi .sum [.lc [6, 7] (.tup [.nm 6, .nm 7]) (.seq (.var 2)) none (.var 7)]),
    .set 8 (.ite (.cmp .Is (.idx (.var 0) (.cst (.int 4))) (.cst .non)) (.cst (.int 0)) (.bi .max [.cst (.int 0), .bin .Sub (.var 4) (.idx (.var 0) (.cst (.int 4)))])),
    .ret (.bin .Add (.bin .Add (.bin .Mult (.cst (.int 2)) (.var 4)) (.bin .Mult (.cst (.int 3)) (.var 5))) (.var 8))]⟩
def F_counted : Fd := ⟨2, 2, false, [.expr (.call 16 [.var 0]),
    .expr (.call 30 [.var 1]),
    .ret (.call 32 [.var 0, .var 1])]⟩
def F_parts : Fd := ⟨2, 2, false, [.expr (.call 16 [.var 0]),
    .expr (.call 30 [.var 1]),
    .ret (.call 35 [.var 0, .var 1])]⟩
def F_paid : Fd := ⟨2, 2, false, [.expr (.call 16 [.var 0]),
    .expr (.call 31 [.var 1]),
    .ret (.call 36 [.var 0, .var 1])]⟩
def F__law_split : Fd := ⟨2, 4, false, [.for_ (.tup [.nm 2, .nm 3]) (.seq (.rev (.idx (.var 0) (.cst (.int 2))))) [.ifs (.cmp .LtE (.var 2) (.var 1)) [.set 1 (.ite (.cmp .Gt (.var 1) (.var 3)) (.bin .Sub (.var 1) (.var 3)) (.cst (.int 0))),
    .brk] []],
    .ifs (.or (.cmp .Is (.idx (.var 0) (.cst (.int 3))) (.cst .non)) (.cmp .LtE (.var 1) (.idx (.var 0) (.cst (.int 3))))) [.ret (.tup [.var 1, .cst (.int 0)])] [],
    .ret (.tup [.idx (.var 0) (.cst (.int 3)), .bin .Sub (.var 1) (.idx (.var 0) (.cst (.int 3)))])]⟩
def F__law_counts : Fd := ⟨2, 3, false, [.set 2 (.bin .Sub (.call 26 [.idx (.var 0) (.cst (.int 1)), .idx (.var 1) (.cst (.int 1)), .cst (.bl false)]) (.call 26 [.idx (.var 0) (.cst (.int 0)), .idx (.var 1) (.cst (.int 0)), .cst (.bl true)])),
    .ret (.ite (.cmp .Gt (.var 2) (.cst (.int 0))) (.var 2) (.cst (.int 0)))]⟩
def F__law_worth : Fd := ⟨2, 7, false, [.unp [.nm 2, .nm 3] (.tup [.cst (.int 0), .cst (.int 0)]),
    .for_ (.nm 4) (.seq (.var 1)) [.unp [.nm 5, .nm 6] (.call 40 [.var 0, .call 41 [.var 0, .var 4]]),
    .par 2 3 (.bin .Add (.bin .Add (.var 2) (.bin .Mult (.cst (.int 2)) (.var 5))) (.bin .Mult (.cst (.int 3)) (.var 6))) (.bin .Add (.var 3) (.var 5))],
    .ifs (.and (.cmp .IsNot (.idx (.var 0) (.cst (.int 4))) (.cst .non)) (.cmp .Gt (.var 3) (.idx (.var 0) (.cst (.int 4))))) [.set 2 (.bin .Sub (.bin .Add (.var 2) (.var 3)) (.idx (.var 0) (.cst (.int 4))))] [],
    .retv 2]⟩
def F__law_pair : Fd := ⟨1, 2, true, [.set 1 (.call 6 [.var 0, .cst (.int 96)]),
    .ret (.tup [.var 1, .bin .Add (.bin .Add (.var 1) (.cst (.int 1))) (.call 6 [.var 0, .bin .Sub (.cst (.int 96)) (.var 1)])])]⟩
def F__law_days : Fd := ⟨2, 3, true, [.ret (.bi .tuple [.lc [2] (.nm 2) (.rng (.call 6 [.var 0, .bin .Add (.var 1) (.cst (.int 1))])) none (.call 43 [.var 0])])]⟩
def F_need_manners : Fd := ⟨2, 2, false, [.expr (.call 16 [.var 0]),
    .expr (.call 16 [.var 1])]⟩
def F_lists_of : Fd := ⟨1, 5, false, [.set 1 (.lrng (.bin .Add (.glb 2) (.cst (.int 1)))),
    .set 2 (.lc [3] (.nm 3) (.seq (.var 1)) none (.call 34 [.var 0, .var 3])),
    .ret (.tup [.lc [4] (.nm 4) (.seq (.var 1)) none (.call 18 [.idx (.var 0) (.cst (.int 0)), .var 4]), .lc [4] (.nm 4) (.seq (.var 1)) none (.call 19 [.idx (.var 0) (.cst (.int 1)), .var 4]), .var 2])]⟩
def F_all_parts : Fd := ⟨1, 6, false, [.unp [.nm 1, .nm 2, .nm 3] (.call 47 [.var 0]),
    .ret (.lc2 [4, 5] [5] (.nm 4) (.rng (.glb 2)) (.nm 5) (.rng2 (.bin .Add (.var 4) (.cst (.int 1))) (.bin .Add (.glb 2) (.cst (.int 1)))) none (.idx (.var 3) (.bi .max [.cst (.int 0), .bin .Sub (.idx (.var 2) (.var 5)) (.idx (.var 1) (.var 4))])))]⟩
def F_every_day : Fd := ⟨0, 2, false, [.ret (.lc2 [0, 1] [1] (.nm 0) (.rng (.glb 2)) (.nm 1) (.rng2 (.bin .Add (.var 0) (.cst (.int 1))) (.bin .Add (.glb 2) (.cst (.int 1)))) none (.tup [.var 0, .var 1]))]⟩
def F_best_days : Fd := ⟨3, 8, false, [.set 3 (.dic false),
    .for_ (.tup [.nm 4, .nm 5, .nm 6]) (.zip3 (.call 49 []) (.call 48 [.var 0]) (.call 48 [.var 1])) [.set 7 (.bin .Add (.bin .Sub (.bin .Sub (.bin .Add (.bin .Mult (.cst (.int 2)) (.idx (.var 5) (.cst (.int 0)))) (.bin .Mult (.cst (.int 3)) (.idx (.var 5) (.cst (.int 1))))) (.bin .Mult (.cst (.int 2)) (.idx (.var 6) (.cst (.int 0))))) (.bin .Mult (.cst (.int 3)) (.idx (.var 6) (.cst (.int 1))))) (.bin .Mult (.var 2) (.idx (.var 5) (.cst (.int 0))))),
    .ifs (.or (.cmp .NotIn (.idx (.var 6) (.cst (.int 0))) (.var 3)) (.cmp .Lt (.idx (.idx (.var 3) (.idx (.var 6) (.cst (.int 0)))) (.cst (.int 0))) (.var 7))) [.store 3 (.idx (.var 6) (.cst (.int 0))) (.tup [.var 7, .var 4])] []],
    .retv 3]⟩
def F_best_weeks : Fd := ⟨2, 12, false, [.set 2 (.dic1 (.cst (.int 0)) (.tup [.cst (.int 0), .tup []])),
    .for_ (.nm 3) (.rng (.glb 4)) [.set 4 (.dcp (.var 2)),
    .for_ (.tup [.nm 5, .tup [.nm 6, .nm 7]]) (.items (.var 2)) [.for_ (.tup [.nm 8, .tup [.nm 9, .nm 10]]) (.items (.var 0)) [.set 11 (.ite (.var 1) (.bin .Add (.var 5) (.var 8)) (.cst (.int 0))),
    .ifs (.or (.cmp .NotIn (.var 11) (.var 4)) (.cmp .Lt (.idx (.idx (.var 4) (.var 11)) (.cst (.int 0))) (.bin .Add (.var 6) (.var 9)))) [.store 4 (.var 11) (.tup [.bin .Add (.var 6) (.var 9), .bin .Add (.var 7) (.tup [.var 10])])] []]],
    .set 2 (.var 4)],
    .retv 2]⟩
def F_lead_of : Fd := ⟨2, 9, false, [.set 2 (.tup [.cst (.int 0), .tup []]),
    .for_ (.nm 3) (.seq (.ite (.cmp .Is (.idx (.var 0) (.cst (.int 4))) (.cst .non)) (.tup [.cst (.int 0)]) (.tup [.cst (.int 0), .cst (.int 1)]))) [.set 4 (.call 51 [.call 50 [.var 0, .var 1, .var 3], .cmp .IsNot (.idx (.var 1) (.cst (.int 4))) (.cst .non)]),
    .for_ (.tup [.nm 5, .tup [.nm 6, .nm 7]]) (.items (.var 4)) [.set 8 (.bin .Sub (.call 36 [.var 0, .var 7]) (.call 36 [.var 1, .var 7])),
    .ifs (.cmp .Gt (.var 8) (.idx (.var 2) (.cst (.int 0)))) [.set 2 (.tup [.var 8, .var 7])] []]],
    .retv 2]⟩
def F_greatest_lead : Fd := ⟨2, 2, false, [.expr (.call 46 [.var 0, .var 1]),
    .ret (.idx (.call 52 [.var 0, .var 1]) (.cst (.int 0)))]⟩
def F_lead_week : Fd := ⟨2, 2, false, [.expr (.call 46 [.var 0, .var 1]),
    .ret (.idx (.call 52 [.var 0, .var 1]) (.cst (.int 1)))]⟩
def F_never_less : Fd := ⟨2, 2, false, [.expr (.call 46 [.var 0, .var 1]),
    .ret (.cmp .Eq (.idx (.call 52 [.var 1, .var 0]) (.cst (.int 0))) (.cst (.int 0)))]⟩
def F__law_bool : Fd := ⟨2, 2, false, [.ret (.and (.inst (.var 0) "bool") (.cmp .Eq (.var 0) (.var 1)))]⟩
def F__law_worth__k04 : Fd := ⟨2, 7, false, [.unp [.nm 2, .nm 3] (.tup [.cst (.int 0), .cst (.int 0)]),
    .for_ (.nm 4) (.seq (.var 1)) [.unp [.nm 5, .nm 6] (.call 40 [.var 0, .call 41 [.var 0, .var 4]]),
    .par 2 3 (.bin .Add (.bin .Add (.var 2) (.bin .Mult (.cst (.int 2)) (.var 5))) (.bin .Mult (.cst (.int 3)) (.var 6))) (.bin .Add (.var 3) (.var 5))],
    .ifs (.and (.cmp .IsNot (.idx (.var 0) (.cst (.int 4))) (.cst .non)) (.cmp .Gt (.var 3) (.idx (.var 0) (.cst (.int 4))))) [.set 2 (.bin .Sub (.bin .Add (.var 2) (.var 3)) (.idx (.var 0) (.cst (.int 4))))] [],
    .retv 2]⟩
def F__law_bent : Fd := ⟨2, 7, true, [.set 2 (.call 6 [.var 0, .cst (.int 6)]),
    .ifs (.cmp .Lt (.var 2) (.cst (.int 2))) [.unp [.nm 3, .nm 4, .nm 5] (.idx (.var 1) (.var 2)),
    .set 6 (.call 7 [.var 0, .lst [.tup [.var 3, .var 4, .call 6 [.var 0, .var 3]], .tup [.var 3, .cst (.str "near"), .var 5], .call 9 [.var 0]]]),
    .ret (.bin .Add (.bin .Add (.slc (.var 1) none (some (.var 2))) (.tup [.var 6])) (.slc (.var 1) (some (.bin .Add (.var 2) (.cst (.int 1)))) none))] [],
    .ifs (.cmp .Eq (.var 2) (.cst (.int 2))) [.ret (.bin .Add (.bin .Add (.slc (.var 1) none (some (.cst (.int 2)))) (.tup [.slc (.idx (.var 1) (.cst (.int 2))) (some (.cst (.int 1))) none])) (.slc (.var 1) (some (.cst (.int 3))) none))] [],
    .ifs (.cmp .Eq (.var 2) (.cst (.int 3))) [.ret (.bin .Add (.slc (.var 1) none (some (.cst (.int 3)))) (.tup [.call 7 [.var 0, .lst [.cst .non, .cst (.int 96), .bin .Add (.cst (.int 1)) (.call 6 [.var 0, .cst (.int 96)])]], .idx (.var 1) (.cst (.int 4))]))] [],
    .ret (.bin .Add (.slc (.var 1) none (some (.cst (.int 4)))) (.tup [.call 7 [.var 0, .lst [.cst .non, .cst (.int 480), .bin .Add (.cst (.int 1)) (.call 6 [.var 0, .cst (.int 480)])]]]))]⟩
def F__law_every : Fd := ⟨0, 3, false, [.set 0 (.lst []),
    .for_ (.nm 1) (.rng (.cst (.int 96))) [.set 0 (.bin .Add (.var 0) (.lc [2] (.nm 2) (.rng2 (.bin .Add (.var 1) (.cst (.int 1))) (.cst (.int 97))) none (.tup [.var 1, .var 2])))],
    .retv 0]⟩
def F__law_splits : Fd := ⟨1, 9, false, [.set 1 (.lc [2] (.nm 2) (.rng (.cst (.int 97))) none (.call 26 [.idx (.var 0) (.cst (.int 0)), .var 2, .cst (.bl true)])),
    .set 3 (.lc [2] (.nm 2) (.rng (.cst (.int 97))) none (.call 26 [.idx (.var 0) (.cst (.int 1)), .var 2, .cst (.bl false)])),
    .set 4 (.lc [5] (.nm 5) (.rng (.cst (.int 97))) none (.call 40 [.var 0, .var 5])),
    .set 6 (.lst []),
    .for_ (.nm 7) (.rng (.cst (.int 96))) [.set 6 (.bin .Add (.var 6) (.lc [8] (.nm 8) (.rng2 (.bin .Add (.var 7) (.cst (.int 1))) (.cst (.int 97))) none (.idx (.var 4) (.bi .max [.cst (.int 0), .bin .Sub (.idx (.var 3) (.var 8)) (.idx (.var 1) (.var 7))]))))],
    .retv 6]⟩
def F__law_lead : Fd := ⟨2, 16, false, [.set 2 (.dic false),
    .for_ (.tup [.nm 3, .nm 4]) (.zip (.call 60 [.var 0]) (.call 60 [.var 1])) [.store 2 (.tup [.var 3, .var 4]) (.cst (.bl true))],
    .set 5 (.cst (.int 0)),
    .for_ (.nm 6) (.seq (.ite (.cmp .Is (.idx (.var 0) (.cst (.int 4))) (.cst .non)) (.tup [.cst (.int 0)]) (.tup [.cst (.int 0), .cst (.int 1)]))) [.parO true 7 8 (.dic false) (.dic1 (.cst (.int 0)) (.cst (.int 0))),
    .for_ (.tup [.nm 3, .nm 4]) (.seq (.var 2)) [.set 9 (.bin .Sub (.bin .Sub (.bin .Add (.bin .Mult (.bin .Add (.cst (.int 2)) (.var 6)) (.idx (.var 3) (.cst (.int 0)))) (.bin .Mult (.cst (.int 3)) (.idx (.var 3) (.cst (.int 1))))) (.bin .Mult (.cst (.int 2)) (.idx (.var 4) (.cst (.int 0))))) (.bin .Mult (.cst (.int 3)) (.idx (.var 4) (.cst (.int 1))))),
    .set 10 (.ite (.cmp .IsNot (.idx (.var 1) (.cst (.int 4))) (.cst .non)) (.idx (.var 4) (.cst (.int 0))) (.cst (.int 0))),
    .ifs (.or (.cmp .NotIn (.var 10) (.var 7)) (.cmp .Lt (.idx (.var 7) (.var 10)) (.var 9))) [.store 7 (.var 10) (.var 9)] []],
    .for_ (.nm 11) (.rng (.cst (.int 5))) [.set 12 (.dcp (.lc [13] (.nm 13) (.seq (.var 8)) none (.tup [.var 13, .idx (.var 8) (.var 13)]))),
    .for_ (.nm 13) (.seq (.var 8)) [.for_ (.nm 10) (.seq (.var 7)) [.set 14 (.bin .Add (.idx (.var 8) (.var 13)) (.idx (.var 7) (.var 10))),
    .ifs (.or (.cmp .NotIn (.bin .Add (.var 13) (.var 10)) (.var 12)) (.cmp .Lt (.idx (.var 12) (.bin .Add (.var 13) (.var 10))) (.var 14))) [.store 12 (.bin .Add (.var 13) (.var 10)) (.var 14)] []]],
    .set 8 (.var 12)],
    .for_ (.nm 13) (.seq (.var 8)) [.set 15 (.bin .Sub (.idx (.var 8) (.var 13)) (.ite (.cmp .Is (.idx (.var 1) (.cst (.int 4))) (.cst .non)) (.cst (.int 0)) (.bi .max [.cst (.int 0), .bin .Sub (.var 13) (.idx (.var 1) (.cst (.int 4)))]))),
    .set 5 (.bi .max [.var 5, .bin .Sub (.var 15) (.ite (.or (.cmp .Eq (.var 6) (.cst (.int 0))) (.cmp .Is (.idx (.var 0) (.cst (.int 4))) (.cst .non))) (.cst (.int 0)) (.idx (.var 0) (.cst (.int 4))))])]],
    .retv 5]⟩
def F__law_is_week : Fd := ⟨1, 3, false, [.set 1 (.call 59 []),
    .ifs (.or (.not (.inst (.var 0) "tuple")) (.cmp .Gt (.bi .len [.var 0]) (.cst (.int 5)))) [.ret (.cst (.bl false))] [],
    .ret (.cmp .Eq (.lc [2] (.nm 2) (.seq (.var 0)) (some (.cmp .NotIn (.var 2) (.var 1))) (.cst (.int 1))) (.lst []))]⟩
def F_law_k04 : Fd := ⟨1, 14, false, [.for_ (.nm 1) (.rng (.cst (.int 1))) [.set 2 (.call 5 [.idx (.bin .Add (.var 0) (.lst [.cst (.int 0)])) (.var 1), .var 1]),
    .set 3 (.call 10 [.var 2]),
    .set 4 (.call 58 [.var 2, .var 3]),
    .for_ (.tup [.nm 5, .nm 6]) (.seq (.tup [.tup [.var 3, .var 4], .tup [.var 4, .var 3]])) [.par 7 8 (.call 61 [.var 5, .var 6]) (.call 54 [.var 5, .var 6]),
    .ifs (.or (.cmp .NotEq (.call 53 [.var 5, .var 6]) (.var 7)) (.not (.call 62 [.var 8]))) [.ret (.cst (.bl false))] [],
    .ifs (.or (.cmp .NotEq (.bin .Sub (.call 57 [.var 5, .var 8]) (.call 57 [.var 6, .var 8])) (.var 7)) (.and (.cmp .Eq (.var 7) (.cst (.int 0))) (.cmp .NotEq (.var 8) (.tup [])))) [.ret (.cst (.bl false))] [],
    .ifs (.not (.call 56 [.call 55 [.var 6, .var 5], .cmp .Eq (.var 7) (.cst (.int 0))])) [.ret (.cst (.bl false))] [],
    .for_ (.nm 9) (.rng (.cst (.int 5))) [.set 10 (.call 44 [.var 2, .cst (.int 5)]),
    .ifs (.cmp .Gt (.bin .Sub (.call 39 [.var 5, .var 10]) (.call 39 [.var 6, .var 10])) (.var 7)) [.ret (.cst (.bl false))] []]]],
    .unp [.nm 11, .nm 12] (.tup [.tup [.tup [.cst (.int 1), .cst (.str "down"), .cst (.int 0)], .tup [.cst (.int 1), .cst (.str "down"), .cst (.int 0)], .tup [], .cst .non, .cst .non], .tup [.tup [.cst (.int 1), .cst (.str "down"), .cst (.int 0)], .tup [.cst (.int 1), .cst (.str "down"), .cst (.int 0)], .tup [], .cst .non, .cst (.int 200)]]),
    .ifs (.or (.cmp .NotEq (.call 53 [.var 12, .var 11]) (.cst (.int 280))) (.cmp .NotEq (.call 53 [.var 11, .var 12]) (.cst (.int 0)))) [.ret (.cst (.bl false))] [],
    .set 13 (.tup [.tup [.cst (.int 4), .cst (.str "near"), .cst (.int 0)], .tup [.cst (.int 4), .cst (.str "near"), .cst (.int 0)], .tup [], .cst .non, .cst .non]),
    .ret (.and (.cmp .Eq (.call 53 [.var 13, .var 11]) (.cst (.int 30))) (.cmp .Eq (.call 53 [.var 11, .var 13]) (.cst (.int 30))))]⟩
def F_same_for_all : Fd := ⟨2, 2, false, [.ret (.and (.cmp .Eq (.idx (.call 52 [.var 0, .var 1]) (.cst (.int 0))) (.cst (.int 0))) (.cmp .Eq (.idx (.call 52 [.var 1, .var 0]) (.cst (.int 0))) (.cst (.int 0))))]⟩
def F_alike : Fd := ⟨2, 2, false, [.expr (.call 46 [.var 0, .var 1]),
    .ret (.call 64 [.var 0, .var 1])]⟩
def F_first_day : Fd := ⟨2, 3, false, [.for_ (.nm 2) (.seq (.call 49 [])) [.ifs (.cmp .NotEq (.call 36 [.var 0, .tup [.var 2]]) (.call 36 [.var 1, .tup [.var 2]])) [.retv 2] []],
    .ret (.cst .non)]⟩
def F_parting_day : Fd := ⟨2, 2, false, [.expr (.call 46 [.var 0, .var 1]),
    .ret (.call 66 [.var 0, .var 1])]⟩
def F_parting_week : Fd := ⟨2, 7, false, [.expr (.call 46 [.var 0, .var 1]),
    .set 2 (.call 66 [.var 0, .var 1]),
    .ifs (.cmp .IsNot (.var 2) (.cst .non)) [.ret (.tup [.var 2])] [],
    .for_ (.tup [.nm 3, .nm 4]) (.seq (.tup [.tup [.var 0, .var 1], .tup [.var 1, .var 0]])) [.unp [.nm 5, .nm 6] (.call 52 [.var 3, .var 4]),
    .ifs (.cmp .Gt (.var 5) (.cst (.int 0))) [.retv 6] []],
    .ret (.cst .non)]⟩
def F__law_alone : Fd := ⟨2, 2, false, [.ret (.bin .Add (.bin .Add (.bin .Mult (.cst (.int 2)) (.idx (.var 1) (.cst (.int 0)))) (.bin .Mult (.cst (.int 3)) (.idx (.var 1) (.cst (.int 1))))) (.ite (.cmp .IsNot (.idx (.var 0) (.cst (.int 4))) (.cst .non)) (.bi .max [.cst (.int 0), .bin .Sub (.idx (.var 1) (.cst (.int 0))) (.idx (.var 0) (.cst (.int 4)))]) (.cst (.int 0))))]⟩
def F__law_same_so : Fd := ⟨2, 4, true, [.par 2 3 (.idx (.var 1) (.cst (.int 0))) (.idx (.var 1) (.cst (.int 1))),
    .ifs (.cmp .Eq (.idx (.var 2) (.cst (.int 0))) (.cst (.int 1))) [.set 2 (.tup [.cst (.int 1), .idx (.lst [.cst (.str "down"), .cst (.str "near"), .cst (.str "up")]) (.call 6 [.var 0, .cst (.int 3)]), .cst (.int 0)])] [],
    .ifs (.cmp .Eq (.idx (.var 2) (.cst (.int 1))) (.cst (.str "down"))) [.set 2 (.tup [.idx (.var 2) (.cst (.int 0)), .cst (.str "down"), .call 6 [.var 0, .idx (.var 2) (.cst (.int 0))]])] [],
    .ifs (.cmp .Eq (.idx (.var 3) (.cst (.int 1))) (.cst (.str "up"))) [.set 3 (.tup [.idx (.var 3) (.cst (.int 0)), .cst (.str "up"), .call 6 [.var 0, .idx (.var 3) (.cst (.int 0))]])] [],
    .ret (.tup [.var 2, .var 3, .idx (.var 1) (.cst (.int 2)), .ite (.cmp .Is (.idx (.var 1) (.cst (.int 3))) (.cst .non)) (.cst (.int 96)) (.idx (.var 1) (.cst (.int 3))), .ite (.cmp .Is (.idx (.var 1) (.cst (.int 4))) (.cst .non)) (.cst (.int 480)) (.idx (.var 1) (.cst (.int 4)))])]⟩
def F_law_k05 : Fd := ⟨1, 13, false, [.for_ (.nm 1) (.rng (.cst (.int 1))) [.set 2 (.call 5 [.idx (.bin .Add (.var 0) (.lst [.cst (.int 0)])) (.var 1), .var 1]),
    .set 3 (.call 10 [.var 2]),
    .set 4 (.ite (.cmp .Eq (.call 6 [.var 2, .cst (.int 3)]) (.cst (.int 0))) (.call 70 [.var 2, .var 3]) (.call 58 [.var 2, .var 3])),
    .set 5 (.and (.cmp .Eq (.call 53 [.var 3, .var 4]) (.cst (.int 0))) (.cmp .Eq (.call 53 [.var 4, .var 3]) (.cst (.int 0)))),
    .ifs (.not (.call 56 [.call 65 [.var 3, .var 4], .var 5])) [.ret (.cst (.bl false))] [],
    .set 6 (.cst .non),
    .for_ (.tup [.nm 7, .nm 8, .nm 9]) (.zip3 (.call 59 []) (.call 60 [.var 3]) (.call 60 [.var 4])) [.ifs (.and (.cmp .Is (.var 6) (.cst .non)) (.cmp .NotEq (.call 69 [.var 3, .var 8]) (.call 69 [.var 4, .var 9]))) [.set 6 (.var 7)] []],
    .ifs (.or (.cmp .NotEq (.call 67 [.var 3, .var 4]) (.var 6)) (.cmp .NotEq (.call 67 [.var 4, .var 3]) (.var 6))) [.ret (.cst (.bl false))] [],
    .set 10 (.call 68 [.var 3, .var 4]),
    .ifs (.or (.cmp .NotEq (.cmp .Is (.var 10) (.cst .non)) (.var 5)) (.and (.cmp .IsNot (.var 6) (.cst .non)) (.var 5))) [.ret (.cst (.bl false))] [],
    .ifs (.and (.cmp .IsNot (.var 10) (.cst .non)) (.cmp .Eq (.call 39 [.var 3, .var 10]) (.call 39 [.var 4, .var 10]))) [.ret (.cst (.bl false))] [],
    .ifs (.cmp .IsNot (.call 65 [.var 3, .call 70 [.var 2, .var 3]]) (.cst (.bl true))) [.ret (.cst (.bl false))] []],
    .unp [.nm 11, .nm 12] (.tup [.tup [.tup [.cst (.int 1), .cst (.str "down"), .cst (.int 0)], .tup [.cst (.int 1), .cst (.str "down"), .cst (.int 0)], .tup [], .cst .non, .cst .non], .tup [.tup [.cst (.int 1), .cst (.str "up"), .cst (.int 0)], .tup [.cst (.int 1), .cst (.str "near"), .cst (.int 0)], .tup [], .cst .non, .cst (.int 200)]]),
    .ifs (.or (.cmp .IsNot (.call 65 [.var 11, .var 12]) (.cst (.bl false))) (.cmp .IsNot (.call 67 [.var 11, .var 12]) (.cst .non))) [.ret (.cst (.bl false))] [],
    .ret (.and (.cmp .Is (.call 65 [.var 11, .bin .Add (.slc (.var 12) none (some (.cst (.int 4)))) (.tup [.cst (.int 480)])]) (.cst (.bl true))) (.cmp .Is (.call 65 [.var 11, .bin .Add (.slc (.var 12) none (some (.cst (.int 3)))) (.tup [.cst (.int 96), .cst (.int 480)])]) (.cst (.bl true))))]⟩
def F_need_number : Fd := ⟨3, 3, false, [.ifs (.not (.call 0 [.var 0, .var 1, .var 2])) [.never] []]⟩
def F_lowest_terms : Fd := ⟨2, 4, false, [.par 2 3 (.bi .abs [.var 0]) (.var 1),
    .whil 1000 (.cmp .Gt (.var 3) (.cst (.int 0))) [.par 2 3 (.var 3) (.bin .Mod (.var 2) (.var 3))],
    .ret (.tup [.bin .FloorDiv (.var 0) (.var 2), .bin .FloorDiv (.var 1) (.var 2)])]⟩
def F_won : Fd := ⟨2, 2, false, [.expr (.call 16 [.var 0]),
    .expr (.call 30 [.var 1]),
    .ret (.bin .Sub (.call 32 [.var 0, .var 1]) (.bin .Sub (.idx (.var 1) (.cst (.int 1))) (.idx (.var 1) (.cst (.int 0)))))]⟩
def F_ends_of : Fd := ⟨2, 3, false, [.ifs (.var 1) [.ret (.lc [2] (.nm 2) (.rng (.idx (.var 0) (.cst (.int 0)))) none (.bin .Sub (.var 2) (.call 18 [.var 0, .var 2])))] [],
    .ret (.lc [2] (.nm 2) (.rng (.idx (.var 0) (.cst (.int 0)))) none (.bin .Sub (.call 19 [.var 0, .var 2]) (.var 2)))]⟩
def F_most_won : Fd := ⟨1, 1, false, [.expr (.call 16 [.var 0]),
    .ret (.bin .Add (.bi .max [.call 75 [.idx (.var 0) (.cst (.int 0)), .cst (.bl true)]]) (.bi .max [.call 75 [.idx (.var 0) (.cst (.int 1)), .cst (.bl false)]]))]⟩
def F_most_lost : Fd := ⟨1, 1, false, [.expr (.call 16 [.var 0]),
    .ret (.bin .Sub (.bin .Sub (.cst (.int 0)) (.bi .min [.call 75 [.idx (.var 0) (.cst (.int 0)), .cst (.bl true)]])) (.bi .min [.call 75 [.idx (.var 0) (.cst (.int 1)), .cst (.bl false)]]))]⟩
def F_mean_of : Fd := ⟨1, 3, false, [.par 1 2 (.call 75 [.idx (.var 0) (.cst (.int 0)), .cst (.bl true)]) (.call 75 [.idx (.var 0) (.cst (.int 1)), .cst (.bl false)]),
    .ret (.call 73 [.bin .Add (.bin .Mult (.bi .sum [.var 1]) (.bi .len [.var 2])) (.bin .Mult (.bi .sum [.var 2]) (.bi .len [.var 1])), .bin .Mult (.bi .len [.var 1]) (.bi .len [.var 2])])]⟩
def F_mean_won : Fd := ⟨1, 1, false, [.expr (.call 16 [.var 0]),
    .ret (.call 78 [.var 0])]⟩
def F_won_day : Fd := ⟨2, 3, false, [.expr (.call 16 [.var 0]),
    .expr (.call 72 [.var 1, .bin .Sub (.cst (.int 0)) (.glb 2), .glb 2]),
    .for_ (.nm 2) (.seq (.call 49 [])) [.ifs (.cmp .Eq (.bin .Sub (.call 32 [.var 0, .var 2]) (.bin .Sub (.idx (.var 2) (.cst (.int 1))) (.idx (.var 2) (.cst (.int 0))))) (.var 1)) [.retv 2] []],
    .ret (.cst .non)]⟩
def F__law_terms : Fd := ⟨2, 4, false, [.par 2 3 (.bi .abs [.var 0]) (.var 1),
    .whil 1000 (.cmp .Gt (.var 3) (.cst (.int 0))) [.par 2 3 (.var 3) (.bin .Mod (.bi .int [.var 2]) (.var 3))],
    .ret (.tup [.bin .FloorDiv (.var 0) (.var 2), .bin .FloorDiv (.var 1) (.var 2)])]⟩
def F__law_ends : Fd := ⟨2, 6, false, [.set 2 (.ite (.var 1) (.idx (.var 0) (.cst (.int 0))) (.idx (.var 0) (.cst (.int 1)))),
    .set 3 (.lst []),
    .for_ (.nm 4) (.rng (.idx (.var 2) (.cst (.int 0)))) [.set 5 (.bin .Sub (.call 26 [.var 2, .var 4, .var 1]) (.var 4)),
    .app 3 (.ite (.var 1) (.bin .Sub (.cst (.int 0)) (.var 5)) (.var 5))],
    .retv 3]⟩
def F_steps_of : Fd := ⟨1, 7, false, [.set 1 (.lst []),
    .for_ (.nm 2) (.rng (.glb 2)) [.for_ (.nm 3) (.rng2 (.bin .Add (.var 2) (.cst (.int 1))) (.glb 2)) [.unp [.nm 4, .nm 5] (.lc [6] (.nm 6) (.seq (.tup [.var 3, .bin .Add (.var 3) (.cst (.int 1))])) none (.call 36 [.var 0, .tup [.tup [.var 2, .var 6]]])),
    .app 1 (.tup [.bin .Sub (.var 5) (.var 4), .tup [.var 2, .var 3]])]],
    .retv 1]⟩
def F_best_quarter : Fd := ⟨1, 5, false, [.expr (.call 16 [.var 0]),
    .set 1 (.call 84 [.var 0]),
    .set 2 (.bi .max [.lc [3, 4] (.tup [.nm 3, .nm 4]) (.seq (.var 1)) none (.var 3)]),
    .ret (.tup [.var 2, .idx (.lc [3, 4] (.tup [.nm 3, .nm 4]) (.seq (.var 1)) (some (.cmp .Eq (.var 3) (.var 2))) (.var 4)) (.cst (.int 0))])]⟩
def F_worse_quarter : Fd := ⟨1, 4, false, [.expr (.call 16 [.var 0]),
    .set 1 (.lc [2, 3] (.tup [.nm 2, .nm 3]) (.seq (.call 84 [.var 0])) (some (.cmp .Lt (.var 2) (.cst (.int 0)))) (.var 3)),
    .ret (.ite (.cmp .NotEq (.var 1) (.lst [])) (.idx (.var 1) (.cst (.int 0))) (.cst .non))]⟩
def F__law_more : Fd := ⟨1, 7, false, [.parO true 1 2 (.dic true) (.lst []),
    .for_ (.tup [.nm 3, .nm 4]) (.zip (.call 59 []) (.call 60 [.var 0])) [.store 1 (.var 3) (.call 69 [.var 0, .var 4])],
    .for_ (.tup [.nm 5, .nm 6]) (.seq (.call 59 [])) [.ifs (.cmp .Lt (.var 6) (.cst (.int 96))) [.app 2 (.tup [.bin .Sub (.idx (.var 1) (.tup [.var 5, .bin .Add (.var 6) (.cst (.int 1))])) (.idx (.var 1) (.tup [.var 5, .var 6])), .tup [.var 5, .var 6]])] []],
    .retv 2]⟩
def F_law_k07 : Fd := ⟨1, 17, false, [.for_ (.nm 1) (.rng (.cst (.int 3))) [.set 2 (.call 5 [.idx (.bin .Add (.var 0) (.lmul [.cst (.int 0)] (.cst (.int 3)))) (.var 1), .var 1]),
    .set 3 (.call 10 [.var 2]),
    .set 4 (.call 87 [.var 3]),
    .set 5 (.bi .max [.lc [6, 7] (.tup [.nm 6, .nm 7]) (.seq (.var 4)) none (.var 6)]),
    .set 8 (.lc [6, 7] (.tup [.nm 6, .nm 7]) (.seq (.var 4)) (some (.cmp .Eq (.var 6) (.var 5))) (.var 7)),
    .ifs (.not (.call 25 [.call 85 [.var 3], .tup [.var 5, .idx (.var 8) (.cst (.int 0))]])) [.ret (.cst (.bl false))] [],
    .set 9 (.lc [6, 7] (.tup [.nm 6, .nm 7]) (.seq (.var 4)) (some (.cmp .Lt (.var 6) (.cst (.int 0)))) (.var 7)),
    .ifs (.cmp .NotEq (.call 86 [.var 3]) (.ite (.cmp .NotEq (.var 9) (.lst [])) (.idx (.var 9) (.cst (.int 0))) (.cst .non))) [.ret (.cst (.bl false))] [],
    .set 10 (.bin .Add (.bin .Add (.slc (.var 3) none (some (.cst (.int 2)))) (.tup [.tup []])) (.slc (.var 3) (some (.cst (.int 3))) none)),
    .ifs (.cmp .IsNot (.call 86 [.var 10]) (.cst .non)) [.ret (.cst (.bl false))] [],
    .unp [.nm 11, .nm 12, .nm 13] (.idx (.var 3) (.cst (.int 0))),
    .set 14 (.bin .Add (.var 13) (.call 6 [.var 2, .bin .Sub (.var 11) (.var 13)])),
    .set 15 (.bin .Add (.tup [.tup [.var 11, .var 12, .var 14]]) (.slc (.var 10) (some (.cst (.int 1))) none)),
    .ifs (.cmp .IsNot (.call 55 [.var 15, .var 10]) (.cst (.bl true))) [.ret (.cst (.bl false))] [],
    .unp [.nm 11, .nm 12, .nm 13] (.idx (.var 3) (.cst (.int 1))),
    .set 14 (.bin .Add (.var 13) (.call 6 [.var 2, .bin .Sub (.var 11) (.var 13)])),
    .set 15 (.bin .Add (.bin .Add (.slc (.var 10) none (some (.cst (.int 1)))) (.tup [.tup [.var 11, .var 12, .var 14]])) (.slc (.var 10) (some (.cst (.int 2))) none)),
    .ifs (.cmp .IsNot (.call 55 [.var 15, .var 10]) (.cst (.bl true))) [.ret (.cst (.bl false))] []],
    .set 16 (.tup [.tup [.cst (.int 4), .cst (.str "up"), .cst (.int 1)], .tup [.cst (.int 4), .cst (.str "down"), .cst (.int 1)], .tup [.tup [.cst (.int 24), .cst (.int 2)]], .cst (.int 32), .cst .non]),
    .ifs (.or (.cmp .NotEq (.call 85 [.var 16]) (.tup [.cst (.int 12), .tup [.cst (.int 0), .cst (.int 38)]])) (.cmp .IsNot (.call 86 [.var 16]) (.cst .non))) [.ret (.cst (.bl false))] [],
    .ret (.cmp .Eq (.call 86 [.tup [.tup [.cst (.int 1), .cst (.str "down"), .cst (.int 0)], .tup [.cst (.int 1), .cst (.str "down"), .cst (.int 0)], .tup [.tup [.cst (.int 24), .cst (.int 2)]], .cst .non, .cst .non]]) (.tup [.cst (.int 0), .cst (.int 23)]))]⟩
def F_same_punches : Fd := ⟨2, 8, false, [.expr (.call 16 [.var 0]),
    .expr (.call 30 [.var 1]),
    .unp [.nm 2, .nm 3, .nm 4] (.call 47 [.var 0]),
    .set 5 (.lc [6] (.nm 6) (.rng (.idx (.var 1) (.cst (.int 1)))) (some (.cmp .Eq (.idx (.var 2) (.var 6)) (.idx (.var 2) (.idx (.var 1) (.cst (.int 0)))))) (.var 6)),
    .set 7 (.lc [6] (.nm 6) (.rng2 (.bin .Add (.idx (.var 1) (.cst (.int 0))) (.cst (.int 1))) (.bin .Add (.glb 2) (.cst (.int 1)))) (some (.cmp .Eq (.idx (.var 3) (.var 6)) (.idx (.var 3) (.idx (.var 1) (.cst (.int 1)))))) (.var 6)),
    .ret (.tup [.tup [.idx (.var 5) (.cst (.int 0)), .idx (.var 5) (.neg (.cst (.int 1)))], .tup [.idx (.var 7) (.cst (.int 0)), .idx (.var 7) (.neg (.cst (.int 1)))]])]⟩
def F_law_k08 : Fd := ⟨1, 16, false, [.for_ (.nm 1) (.rng (.cst (.int 8))) [.set 2 (.call 5 [.idx (.bin .Add (.var 0) (.lmul [.cst (.int 0)] (.cst (.int 8)))) (.var 1), .var 1]),
    .for_ (.nm 3) (.rng (.cst (.int 4))) [.unp [.nm 4, .nm 5] (.tup [.call 10 [.var 2], .call 43 [.var 2]]),
    .set 6 (.call 26 [.idx (.var 4) (.cst (.int 0)), .idx (.var 5) (.cst (.int 0)), .cst (.bl true)]),
    .set 7 (.lc [8] (.nm 8) (.rng (.idx (.var 5) (.cst (.int 1)))) (some (.cmp .Eq (.call 26 [.idx (.var 4) (.cst (.int 0)), .var 8, .cst (.bl true)]) (.var 6))) (.var 8)),
    .set 6 (.call 26 [.idx (.var 4) (.cst (.int 1)), .idx (.var 5) (.cst (.int 1)), .cst (.bl false)]),
    .set 9 (.lc [8] (.nm 8) (.rng2 (.bin .Add (.idx (.var 5) (.cst (.int 0))) (.cst (.int 1))) (.cst (.int 97))) (some (.cmp .Eq (.call 26 [.idx (.var 4) (.cst (.int 1)), .var 8, .cst (.bl false)]) (.var 6))) (.var 8)),
    .set 10 (.call 89 [.var 4, .var 5]),
    .ifs (.not (.call 25 [.var 10, .tup [.tup [.idx (.var 7) (.cst (.int 0)), .idx (.var 7) (.neg (.cst (.int 1)))], .tup [.idx (.var 9) (.cst (.int 0)), .idx (.var 9) (.neg (.cst (.int 1)))]]])) [.ret (.cst (.bl false))] [],
    .unp [.nm 11, .nm 12] (.idx (.var 10) (.cst (.int 0))),
    .set 13 (.bin .Add (.var 11) (.call 6 [.var 2, .bin .Add (.bin .Sub (.var 12) (.var 11)) (.cst (.int 1))])),
    .ifs (.cmp .NotEq (.call 37 [.var 4, .tup [.var 13, .idx (.var 5) (.cst (.int 1))]]) (.call 37 [.var 4, .var 5])) [.ret (.cst (.bl false))] [],
    .unp [.nm 11, .nm 12] (.idx (.var 10) (.cst (.int 1))),
    .set 14 (.bin .Add (.var 11) (.call 6 [.var 2, .bin .Add (.bin .Sub (.var 12) (.var 11)) (.cst (.int 1))])),
    .ifs (.cmp .NotEq (.call 37 [.var 4, .tup [.idx (.var 5) (.cst (.int 0)), .var 14]]) (.call 37 [.var 4, .var 5])) [.ret (.cst (.bl false))] []]],
    .set 15 (.tup [.tup [.cst (.int 4), .cst (.str "up"), .cst (.int 1)], .tup [.cst (.int 4), .cst (.str "down"), .cst (.int 1)], .tup [.tup [.cst (.int 24), .cst (.int 2)]], .cst (.int 32), .cst .non]),
    .ifs (.cmp .NotEq (.call 89 [.var 15, .tup [.cst (.int 33), .cst (.int 71)]]) (.tup [.tup [.cst (.int 30), .cst (.int 33)], .tup [.cst (.int 71), .cst (.int 74)]])) [.ret (.cst (.bl false))] [],
    .ret (.and (.cmp .Eq (.call 89 [.var 15, .tup [.cst (.int 0), .cst (.int 1)]]) (.tup [.tup [.cst (.int 0), .cst (.int 0)], .tup [.cst (.int 1), .cst (.int 2)]])) (.cmp .Eq (.call 89 [.var 15, .tup [.cst (.int 30), .cst (.int 31)]]) (.tup [.tup [.cst (.int 30), .cst (.int 30)], .tup [.cst (.int 31), .cst (.int 34)]])))]⟩
def F_pay_of : Fd := ⟨3, 3, false, [.ret (.bin .Add (.bin .Add (.bin .Mult (.cst (.int 2)) (.var 1)) (.bin .Mult (.cst (.int 3)) (.var 2))) (.ite (.cmp .Is (.idx (.var 0) (.cst (.int 4))) (.cst .non)) (.cst (.int 0)) (.bi .max [.cst (.int 0), .bin .Sub (.var 1) (.idx (.var 0) (.cst (.int 4)))])))]⟩
def F_most_paid : Fd := ⟨3, 10, false, [.expr (.call 16 [.var 0]),
    .expr (.call 72 [.var 1, .cst (.int 1), .cst (.int 2)]),
    .expr (.call 72 [.var 2, .cst (.int 1), .bin .Mult (.cst (.int 2)) (.glb 2)]),
    .parO false 3 4 (.call 91 [.var 0]) (.lst []),
    .ifs (.cmp .Eq (.var 1) (.cst (.int 1))) [.set 4 (.ite (.cmp .LtE (.var 2) (.glb 2)) (.lc [5, 6] (.tup [.nm 5, .nm 6]) (.seq (.idx (.var 3) (.var 2))) none (.call 92 [.var 0, .var 5, .var 6])) (.lst []))] [.for_ (.nm 7) (.rng2 (.bi .max [.cst (.int 1), .bin .Sub (.var 2) (.glb 2)]) (.bin .Add (.bi .min [.glb 2, .bin .Sub (.var 2) (.cst (.int 1))]) (.cst (.int 1)))) [.for_ (.tup [.nm 5, .nm 6]) (.seq (.idx (.var 3) (.var 7))) [.for_ (.tup [.nm 8, .nm 9]) (.seq (.idx (.var 3) (.bin .Sub (.var 2) (.var 7)))) [.app 4 (.call 92 [.var 0, .bin .Add (.var 5) (.var 8), .bin .Add (.var 6) (.var 9)])]]]],
    .ret (.ite (.cmp .NotEq (.var 4) (.lst [])) (.bi .max [.var 4]) (.cst .non))]⟩
def F_least_time : Fd := ⟨2, 4, false, [.expr (.call 16 [.var 0]),
    .expr (.call 72 [.var 1, .cst (.int 1), .glb 5]),
    .set 2 (.cst .non),
    .for_ (.nm 3) (.seq (.call 49 [])) [.ifs (.and (.cmp .GtE (.call 36 [.var 0, .tup [.var 3]]) (.var 1)) (.or (.cmp .Is (.var 2) (.cst .non)) (.cmp .Lt (.bin .Sub (.idx (.var 3) (.cst (.int 1))) (.idx (.var 3) (.cst (.int 0)))) (.idx (.var 2) (.cst (.int 0)))))) [.set 2 (.tup [.bin .Sub (.idx (.var 3) (.cst (.int 1))) (.idx (.var 3) (.cst (.int 0))), .var 3])] []],
    .retv 2]⟩
def F__law_manner__k09 : Fd := ⟨1, 6, true, [.unp [.nm 1, .nm 2] (.tup [.tup [], .cst (.int 0)]),
    .for_ (.nm 3) (.rng (.call 6 [.var 0, .cst (.int 3)])) [.set 2 (.bin .Add (.bin .Add (.var 2) (.cst (.int 1))) (.call 6 [.var 0, .cst (.int 40)])),
    .set 1 (.bin .Add (.var 1) (.tup [.tup [.var 2, .bin .Add (.cst (.int 1)) (.call 6 [.var 0, .cst (.int 8)])]]))],
    .set 4 (.ite (.cmp .Eq (.call 6 [.var 0, .cst (.int 2)]) (.cst (.int 0))) (.cst .non) (.bin .Add (.cst (.int 1)) (.call 6 [.var 0, .cst (.int 60)]))),
    .set 5 (.ite (.cmp .Eq (.call 6 [.var 0, .cst (.int 2)]) (.cst (.int 0))) (.cst .non) (.bin .Add (.cst (.int 1)) (.call 6 [.var 0, .cst (.int 300)]))),
    .ret (.tup [.call 9 [.var 0], .call 9 [.var 0], .var 1, .var 4, .var 5])]⟩
def F__law_most : Fd := ⟨4, 8, false, [.set 4 (.lst []),
    .ifs (.cmp .Eq (.var 2) (.cst (.int 1))) [.set 4 (.ite (.cmp .Lt (.var 3) (.cst (.int 97))) (.idx (.var 1) (.var 3)) (.lst []))] [.for_ (.nm 5) (.rng2 (.cst (.int 1)) (.cst (.int 97))) [.ifs (.chain .LtE .LtE (.cst (.int 1)) (.bin .Sub (.var 3) (.var 5)) (.cst (.int 96))) [.for_ (.nm 6) (.seq (.idx (.var 1) (.var 5))) [.set 4 (.bin .Add (.var 4) (.lc [7] (.nm 7) (.seq (.idx (.var 1) (.bin .Sub (.var 3) (.var 5)))) none (.tup [.bin .Add (.idx (.var 6) (.cst (.int 0))) (.idx (.var 7) (.cst (.int 0))), .bin .Add (.idx (.var 6) (.cst (.int 1))) (.idx (.var 7) (.cst (.int 1)))])))]] []]],
    .ret (.ite (.cmp .NotEq (.var 4) (.lst [])) (.bi .max [.lc [5] (.nm 5) (.seq (.var 4)) none (.call 69 [.var 0, .var 5])]) (.cst .non))]⟩
def F_same_graces : Fd := ⟨1, 8, false, [.expr (.call 16 [.var 0]),
    .set 1 (.lst []),
    .for_ (.nm 2) (.rng (.cst (.int 2))) [.unp [.nm 3, .nm 4, .nm 5] (.idx (.var 0) (.var 2)),
    .set 6 (.lst []),
    .for_ (.nm 7) (.rng (.var 3)) [.ifs (.call 64 [.var 0, .bin .Add (.bin .Add (.slc (.var 0) none (some (.var 2))) (.tup [.tup [.var 3, .var 4, .var 7]])) (.slc (.var 0) (some (.bin .Add (.var 2) (.cst (.int 1)))) none)]) [.app 6 (.var 7)] []],
    .app 1 (.var 6)],
    .ret (.tup [.idx (.var 1) (.cst (.int 0)), .idx (.var 1) (.cst (.int 1))])]⟩
def F_same_sides : Fd := ⟨1, 8, false, [.expr (.call 16 [.var 0]),
    .set 1 (.lst []),
    .for_ (.nm 2) (.rng (.cst (.int 2))) [.unp [.nm 3, .nm 4, .nm 5] (.idx (.var 0) (.var 2)),
    .set 6 (.lst []),
    .for_ (.nm 7) (.seq (.glb 1)) [.ifs (.call 64 [.var 0, .bin .Add (.bin .Add (.slc (.var 0) none (some (.var 2))) (.tup [.tup [.var 3, .var 7, .var 5]])) (.slc (.var 0) (some (.bin .Add (.var 2) (.cst (.int 1)))) none)]) [.app 6 (.var 7)] []],
    .app 1 (.var 6)],
    .ret (.tup [.idx (.var 1) (.cst (.int 0)), .idx (.var 1) (.cst (.int 1))])]⟩
def F_needless_breaks : Fd := ⟨1, 4, false, [.expr (.call 16 [.var 0]),
    .set 1 (.lst []),
    .for_ (.nm 2) (.rng (.bi .len [.idx (.var 0) (.cst (.int 2))])) [.set 3 (.bin .Add (.slc (.idx (.var 0) (.cst (.int 2))) none (some (.var 2))) (.slc (.idx (.var 0) (.cst (.int 2))) (some (.bin .Add (.var 2) (.cst (.int 1)))) none)),
    .ifs (.call 64 [.var 0, .bin .Add (.bin .Add (.slc (.var 0) none (some (.cst (.int 2)))) (.tup [.var 3])) (.slc (.var 0) (some (.cst (.int 3))) none)]) [.app 1 (.var 2)] []],
    .retv 1]⟩
def F_is_needless : Fd := ⟨2, 3, false, [.expr (.call 16 [.var 0]),
    .ifs (.or (.not (.inst (.var 1) "str")) (.cmp .NotIn (.var 1) (.tup [.cst (.str "day"), .cst (.str "week")]))) [.never] [],
    .set 2 (.ite (.cmp .Eq (.var 1) (.cst (.str "day"))) (.cst (.int 3)) (.cst (.int 4))),
    .ret (.call 64 [.var 0, .bin .Add (.bin .Add (.slc (.var 0) none (some (.var 2))) (.tup [.cst .non])) (.slc (.var 0) (some (.bin .Add (.var 2) (.cst (.int 1)))) none)])]⟩
def F__law_alike : Fd := ⟨2, 5, false, [.par 2 3 (.call 60 [.var 0]) (.call 60 [.var 1]),
    .ifs (.and (.cmp .Eq (.var 2) (.var 3)) (.cmp .Eq (.idx (.var 0) (.cst (.int 4))) (.idx (.var 1) (.cst (.int 4))))) [.ret (.cst (.bl true))] [],
    .ifs (.cmp .NotEq (.lc [4] (.nm 4) (.seq (.var 2)) none (.call 69 [.var 0, .var 4])) (.lc [4] (.nm 4) (.seq (.var 3)) none (.call 69 [.var 1, .var 4]))) [.ret (.cst (.bl false))] [],
    .ret (.and (.cmp .Eq (.call 53 [.var 0, .var 1]) (.cst (.int 0))) (.cmp .Eq (.call 53 [.var 1, .var 0]) (.cst (.int 0))))]⟩
def F__law_right : Fd := ⟨1, 10, false, [.parO true 1 2 (.lst []) (.lst []),
    .for_ (.nm 3) (.rng (.cst (.int 2))) [.unp [.nm 4, .nm 5, .nm 6] (.idx (.var 0) (.var 3)),
    .set 7 (.lc [8] (.nm 8) (.rng (.var 4)) none (.tup [.var 4, .var 5, .var 8])),
    .app 1 (.lc [9] (.nm 9) (.seq (.var 7)) (some (.call 103 [.var 0, .bin .Add (.bin .Add (.slc (.var 0) none (some (.var 3))) (.tup [.var 9])) (.slc (.var 0) (some (.bin .Add (.var 3) (.cst (.int 1)))) none)])) (.idx (.var 9) (.cst (.int 2)))),
    .set 7 (.lc [8] (.nm 8) (.seq (.tup [.cst (.str "down"), .cst (.str "near"), .cst (.str "up")])) none (.tup [.var 4, .var 8, .var 6])),
    .app 2 (.lc [9] (.nm 9) (.seq (.var 7)) (some (.call 103 [.var 0, .bin .Add (.bin .Add (.slc (.var 0) none (some (.var 3))) (.tup [.var 9])) (.slc (.var 0) (some (.bin .Add (.var 3) (.cst (.int 1)))) none)])) (.idx (.var 9) (.cst (.int 1))))],
    .ret (.and (.call 25 [.call 99 [.var 0], .bi .tuple [.var 1]]) (.call 25 [.call 100 [.var 0], .bi .tuple [.var 2]]))]⟩
def F_numbers_of : Fd := ⟨1, 3, false, [.set 1 (.dic true),
    .for_ (.nm 2) (.seq (.call 48 [.var 0])) [.store 1 (.var 2) (.bin .Add (.get (.var 1) (.var 2) (.cst (.int 0))) (.cst (.int 1)))],
    .retv 1]⟩
def F_pays : Fd := ⟨1, 1, false, [.expr (.call 16 [.var 0]),
    .ret (.call 108 [.var 0])]⟩
def F_count_weeks : Fd := ⟨3, 14, false, [.expr (.call 16 [.var 0]),
    .expr (.call 72 [.var 1, .cst (.int 0), .cst (.int 2)]),
    .expr (.call 72 [.var 2, .cst (.int 0), .glb 6]),
    .par 3 4 (.dic1 (.tup [.cst (.int 0), .cst (.int 0)]) (.cst (.int 1))) (.call 106 [.var 0]),
    .for_ (.nm 5) (.rng (.var 1)) [.set 6 (.dic true),
    .for_ (.tup [.tup [.nm 7, .nm 8], .nm 9]) (.items (.var 3)) [.for_ (.tup [.tup [.nm 10, .nm 11], .nm 12]) (.items (.var 4)) [.set 13 (.tup [.bin .Add (.var 7) (.var 10), .bin .Add (.var 8) (.var 11)]),
    .store 6 (.var 13) (.bin .Add (.get (.var 6) (.var 13) (.cst (.int 0))) (.bin .Mult (.var 9) (.var 12)))]],
    .set 3 (.var 6)],
    .ret (.bi .sum [.lc [9, 7, 8] (.tup [.tup [.nm 7, .nm 8], .nm 9]) (.items (.var 3)) (some (.cmp .Eq (.call 92 [.var 0, .var 7, .var 8]) (.var 2))) (.var 9)])]⟩
def F_day_for : Fd := ⟨2, 3, false, [.expr (.call 16 [.var 0]),
    .expr (.call 72 [.var 1, .cst (.int 0), .glb 6]),
    .for_ (.nm 2) (.seq (.call 49 [])) [.ifs (.cmp .Eq (.call 36 [.var 0, .tup [.var 2]]) (.var 1)) [.retv 2] []],
    .ret (.cst .non)]⟩
def F_most_day : Fd := ⟨1, 3, false, [.expr (.call 16 [.var 0]),
    .set 1 (.idx (.call 108 [.var 0]) (.neg (.cst (.int 1)))),
    .ret (.tup [.var 1, .idx (.lc [2] (.nm 2) (.seq (.call 49 [])) (some (.cmp .Eq (.call 36 [.var 0, .tup [.var 2]]) (.var 1))) (.var 2)) (.cst (.int 0))])]⟩
def F__law_numbers : Fd := ⟨1, 3, false, [.set 1 (.dic false),
    .for_ (.nm 2) (.seq (.call 60 [.var 0])) [.store 1 (.var 2) (.bin .Add (.get (.var 1) (.var 2) (.cst (.int 0))) (.cst (.int 1)))],
    .retv 1]⟩
def F__law_twice : Fd := ⟨1, 6, false, [.parO false 1 2 (.call 112 [.var 0]) (.dic false),
    .for_ (.nm 3) (.seq (.var 1)) [.for_ (.nm 4) (.seq (.var 1)) [.set 5 (.call 69 [.var 0, .tup [.bin .Add (.idx (.var 3) (.cst (.int 0))) (.idx (.var 4) (.cst (.int 0))), .bin .Add (.idx (.var 3) (.cst (.int 1))) (.idx (.var 4) (.cst (.int 1)))]]),
    .store 2 (.var 5) (.bin .Add (.get (.var 2) (.var 5) (.cst (.int 0))) (.bin .Mult (.idx (.var 1) (.var 3)) (.idx (.var 1) (.var 4))))]],
    .retv 2]⟩
def F__law_written : Fd := ⟨0, 3, false, [.unp [.nm 0, .nm 1] (.tup [.tup [.tup [.cst (.int 1), .cst (.str "down"), .cst (.int 0)], .tup [.cst (.int 1), .cst (.str "down"), .cst (.int 0)], .tup [], .cst .non, .cst .non], .tup [.tup [.cst (.int 4), .cst (.str "near"), .cst (.int 0)], .tup [.cst (.int 4), .cst (.str "near"), .cst (.int 0)], .tup [], .cst .non, .cst .non]]),
    .ifs (.or (.cmp .NotEq (.call 109 [.var 0, .cst (.int 1), .cst (.int 2)]) (.cst (.int 96))) (.or (.cmp .NotEq (.call 109 [.var 0, .cst (.int 2), .cst (.int 4)]) (.cst (.int 9216))) (.cmp .NotEq (.bi .len [.call 107 [.var 1]]) (.cst (.int 25))))) [.ret (.cst (.bl false))] [],
    .set 2 (.tup [.tup [.cst (.int 4), .cst (.str "up"), .cst (.int 1)], .tup [.cst (.int 4), .cst (.str "down"), .cst (.int 1)], .tup [.tup [.cst (.int 24), .cst (.int 2)]], .cst (.int 32), .cst .non]),
    .ret (.and (.cmp .Eq (.call 111 [.var 2]) (.tup [.cst (.int 250), .tup [.cst (.int 0), .cst (.int 95)]])) (.and (.cmp .Eq (.call 110 [.var 0, .cst (.int 4)]) (.tup [.cst (.int 0), .cst (.int 2)])) (.cmp .Is (.call 110 [.var 1, .cst (.int 4)]) (.cst .non))))]⟩
def F_need_manners_of : Fd := ⟨1, 2, false, [.ifs (.or (.not (.inst (.var 0) "tuple")) (.not (.chain .LtE .LtE (.cst (.int 1)) (.bi .len [.var 0]) (.glb 7)))) [.never] [],
    .ifs (.not (.bi .all [.lc [1] (.nm 1) (.seq (.var 0)) none (.call 3 [.var 1])])) [.never] []]⟩
def F_need_seen : Fd := ⟨1, 4, false, [.ifs (.or (.not (.inst (.var 0) "tuple")) (.cmp .Gt (.bi .len [.var 0]) (.glb 8))) [.never] [],
    .ifs (.not (.bi .all [.lc [1] (.nm 1) (.seq (.var 0)) none (.and (.inst (.var 1) "tuple") (.cmp .Eq (.bi .len [.var 1]) (.cst (.int 2))))])) [.never] [],
    .ifs (.not (.bi .all [.lc [2, 3] (.tup [.nm 2, .nm 3]) (.seq (.var 0)) none (.and (.call 29 [.var 2]) (.call 0 [.var 3, .cst (.int 0), .glb 6]))])) [.never] []]⟩
def F_explains : Fd := ⟨2, 4, false, [.ret (.bi .all [.lc [2, 3] (.tup [.nm 2, .nm 3]) (.seq (.var 1)) none (.cmp .Eq (.call 36 [.var 0, .var 2]) (.var 3))])]⟩
def F_fitting : Fd := ⟨2, 4, false, [.expr (.call 116 [.var 0]),
    .expr (.call 117 [.var 1]),
    .ret (.lc [2, 3] (.tup [.nm 2, .nm 3]) (.enum (.var 0)) (some (.call 118 [.var 3, .var 1])) (.var 2))]⟩
def F_telling_day : Fd := ⟨1, 10, false, [.expr (.call 116 [.var 0]),
    .set 1 (.lc [3] (.nm 3) (.seq (.call 49 [])) none (.lc [2] (.nm 2) (.seq (.var 0)) none (.call 36 [.var 2, .tup [.var 3]]))),
    .set 4 (.lc2 [5, 6] [6] (.nm 5) (.rng (.bi .len [.var 0])) (.nm 6) (.rng (.var 5)) none (.tup [.var 5, .var 6])),
    .set 7 (.lc [8] (.nm 8) (.seq (.var 4)) (some (.bi .any [.lc [9] (.nm 9) (.seq (.var 1)) none (.cmp .NotEq (.idx (.var 9) (.idx (.var 8) (.cst (.int 0)))) (.idx (.var 9) (.idx (.var 8) (.cst (.int 1)))))])) (.var 8)),
    .for_ (.tup [.nm 3, .nm 9]) (.zip (.call 49 []) (.var 1)) [.ifs (.bi .all [.lc [5, 6] (.tup [.nm 5, .nm 6]) (.seq (.var 7)) none (.cmp .NotEq (.idx (.var 9) (.var 5)) (.idx (.var 9) (.var 6)))]) [.retv 3] []],
    .ret (.cst .non)]⟩
def F__law_telling : Fd := ⟨1, 9, false, [.set 1 (.lst []),
    .for_ (.nm 2) (.seq (.var 0)) [.app 1 (.lc [3] (.nm 3) (.seq (.call 60 [.var 2])) none (.call 69 [.var 2, .var 3]))],
    .set 4 (.lst []),
    .for_ (.nm 5) (.rng (.bi .len [.var 0])) [.set 4 (.bin .Add (.var 4) (.lc [6] (.nm 6) (.rng (.var 5)) (some (.cmp .NotEq (.idx (.var 1) (.var 5)) (.idx (.var 1) (.var 6)))) (.tup [.var 5, .var 6])))],
    .for_ (.tup [.nm 7, .nm 8]) (.enum (.call 59 [])) [.ifs (.cmp .Eq (.lc [5, 6] (.tup [.nm 5, .nm 6]) (.seq (.var 4)) (some (.cmp .Eq (.idx (.idx (.var 1) (.var 5)) (.var 7)) (.idx (.idx (.var 1) (.var 6)) (.var 7)))) (.cst (.int 1))) (.lst [])) [.retv 8] []],
    .ret (.cst .non)]⟩
def F_every_rounding : Fd := ⟨0, 3, false, [.ret (.lc3 [0, 1, 2] [1, 2] [2] (.nm 0) (.seq (.glb 0)) (.nm 1) (.seq (.glb 1)) (.nm 2) (.rng (.var 0)) none (.tup [.var 0, .var 1, .var 2]))]⟩
def F_roundings_for : Fd := ⟨3, 6, false, [.expr (.call 16 [.var 0]),
    .ifs (.or (.not (.inst (.var 1) "str")) (.cmp .NotIn (.var 1) (.tup [.cst (.str "ins"), .cst (.str "outs")]))) [.never] [],
    .expr (.call 117 [.var 2]),
    .set 3 (.ite (.cmp .Eq (.var 1) (.cst (.str "ins"))) (.cst (.int 0)) (.cst (.int 1))),
    .set 4 (.call 123 []),
    .ret (.lc [5] (.nm 5) (.seq (.var 4)) (some (.call 118 [.bin .Add (.bin .Add (.slc (.var 0) none (some (.var 3))) (.tup [.var 5])) (.slc (.var 0) (some (.bin .Add (.var 3) (.cst (.int 1)))) none), .var 2])) (.var 5))]⟩
def F__law_all : Fd := ⟨0, 4, false, [.set 0 (.lst []),
    .for_ (.nm 1) (.seq (.tup [.cst (.int 1), .cst (.int 2), .cst (.int 3), .cst (.int 4), .cst (.int 6), .cst (.int 8), .cst (.int 12)])) [.for_ (.nm 2) (.seq (.tup [.cst (.str "down"), .cst (.str "near"), .cst (.str "up")])) [.set 0 (.bin .Add (.var 0) (.lc [3] (.nm 3) (.rng (.var 1)) none (.tup [.var 1, .var 2, .var 3])))]],
    .retv 0]⟩
def F_number_in : Fd := ⟨1, 2, false, [.ifs (.or (.not (.chain .LtE .LtE (.cst (.int 1)) (.bi .len [.var 0]) (.cst (.int 3)))) (.not (.bi .all [.lc [1] (.nm 1) (.seq (.var 0)) none (.cmp .In (.var 1) (.glb 9))]))) [.ret (.cst .non)] [],
    .ret (.ite (.cmp .Eq (.bi .str [.bi .int [.var 0]]) (.var 0)) (.bi .int [.var 0]) (.cst .non))]⟩
def F__law_pick__k16 : Fd := ⟨2, 4, true, [.ifs (.cmp .Gt (.idx (.var 0) (.cst (.int 0))) (.cst (.int 1))) [.set 2 (.bin .Mod (.bi .int [.idx (.var 0) (.cst (.int 0))]) (.var 1)),
    .store 0 (.cst (.int 0)) (.bin .FloorDiv (.idx (.var 0) (.cst (.int 0))) (.var 1)),
    .retv 2] [],
    .store 0 (.cst (.int 2)) (.bin .Add (.idx (.var 0) (.cst (.int 2))) (.cst (.int 1))),
    .set 3 (.bin .Mod (.bi .int [.bin .Pow (.bi .int [.bin .Add (.idx (.var 0) (.cst (.int 1))) (.bin .Mult (.cst (.int 15485867)) (.idx (.var 0) (.cst (.int 2))))]) (.cst (.int 5))]) (.cst (.int 2147483647))),
    .set 2 (.bin .FloorDiv (.bin .Mod (.bi .int [.bin .Pow (.bi .int [.bin .Add (.var 3) (.bin .Mult (.cst (.int 7919)) (.idx (.var 0) (.cst (.int 2))))]) (.cst (.int 3))]) (.cst (.int 2147483629))) (.cst (.int 32))),
    .ret (.bin .Mod (.bi .int [.var 2]) (.var 1))]⟩
def F__law_one__k16 : Fd := ⟨2, 2, true, [.ret (.idx (.var 1) (.call 139 [.var 0, .bi .len [.var 1]]))]⟩
def F__law_same__k16 : Fd := ⟨2, 4, false, [.ifs (.cmp .NotEq (.call 24 [.var 0]) (.call 24 [.var 1])) [.ret (.cst (.bl false))] [],
    .ifs (.and (.cmp .Gt (.call 24 [.var 0]) (.cst (.int 3))) (.cmp .Lt (.call 24 [.var 0]) (.cst (.int 6)))) [.ifs (.cmp .NotEq (.bi .len [.var 0]) (.bi .len [.var 1])) [.ret (.cst (.bl false))] [],
    .ret (.cmp .Eq (.lc [2, 3] (.tup [.nm 2, .nm 3]) (.enum (.var 0)) (some (.not (.call 141 [.var 3, .idx (.var 1) (.var 2)]))) (.var 2)) (.lst []))] [],
    .ret (.cmp .Eq (.var 0) (.var 1))]⟩
def F__law_rounding__k16 : Fd := ⟨1, 2, true, [.set 1 (.idx (.lst [.cst (.int 1), .cst (.int 2), .cst (.int 3), .cst (.int 4), .cst (.int 6), .cst (.int 8), .cst (.int 12)]) (.call 139 [.var 0, .cst (.int 7)])),
    .ret (.tup [.var 1, .idx (.lst [.cst (.str "down"), .cst (.str "near"), .cst (.str "up")]) (.call 139 [.var 0, .cst (.int 3)]), .call 139 [.var 0, .var 1]])]⟩
def F__law_manner__k16 : Fd := ⟨1, 6, true, [.unp [.nm 1, .nm 2] (.tup [.tup [], .cst (.int 0)]),
    .for_ (.nm 3) (.rng (.call 139 [.var 0, .cst (.int 3)])) [.set 2 (.bin .Add (.bin .Add (.var 2) (.cst (.int 1))) (.call 139 [.var 0, .cst (.int 40)])),
    .set 1 (.bin .Add (.var 1) (.tup [.tup [.var 2, .bin .Add (.cst (.int 1)) (.call 139 [.var 0, .cst (.int 8)])]]))],
    .set 4 (.ite (.cmp .Eq (.call 139 [.var 0, .cst (.int 2)]) (.cst (.int 0))) (.cst .non) (.bin .Add (.cst (.int 1)) (.call 139 [.var 0, .cst (.int 60)]))),
    .set 5 (.ite (.cmp .Eq (.call 139 [.var 0, .cst (.int 2)]) (.cst (.int 0))) (.cst .non) (.bin .Add (.cst (.int 1)) (.call 139 [.var 0, .cst (.int 300)]))),
    .ret (.tup [.call 142 [.var 0], .call 142 [.var 0], .var 1, .var 4, .var 5])]⟩
def F__law_number : Fd := ⟨3, 5, false, [.set 3 (.lc [4] (.nm 4) (.rng2 (.var 1) (.bin .Add (.var 2) (.cst (.int 1)))) (some (.cmp .Eq (.bi .str [.var 4]) (.var 0))) (.var 4)),
    .ret (.ite (.cmp .NotEq (.var 3) (.lst [])) (.idx (.var 3) (.cst (.int 0))) (.cst .non))]⟩
def F__law_rounded : Fd := ⟨1, 3, false, [.set 1 (.call 145 [.idx (.var 0) (.cst (.int 0)), .cst (.int 1), .cst (.int 12)]),
    .ifs (.or (.cmp .Is (.var 1) (.cst .non)) (.or (.cmp .NotIn (.var 1) (.tup [.cst (.int 1), .cst (.int 2), .cst (.int 3), .cst (.int 4), .cst (.int 6), .cst (.int 8), .cst (.int 12)])) (.cmp .NotIn (.idx (.var 0) (.cst (.int 1))) (.tup [.cst (.str "up"), .cst (.str "down"), .cst (.str "near")])))) [.ret (.cst .non)] [],
    .set 2 (.call 145 [.idx (.var 0) (.cst (.int 2)), .cst (.int 0), .bin .Sub (.var 1) (.cst (.int 1))]),
    .ret (.ite (.cmp .Is (.var 2) (.cst .non)) (.cst .non) (.tup [.var 1, .idx (.var 0) (.cst (.int 1)), .var 2]))]⟩
def F_least_time__k17 : Fd := ⟨2, 4, false, [.expr (.call 16 [.var 0]),
    .expr (.call 72 [.var 1, .cst (.int 1), .glb 10]),
    .set 2 (.cst .non),
    .for_ (.nm 3) (.seq (.call 49 [])) [.ifs (.and (.cmp .GtE (.call 36 [.var 0, .tup [.var 3]]) (.var 1)) (.or (.cmp .Is (.var 2) (.cst .non)) (.cmp .Lt (.bin .Sub (.idx (.var 3) (.cst (.int 1))) (.idx (.var 3) (.cst (.int 0)))) (.idx (.var 2) (.cst (.int 0)))))) [.set 2 (.tup [.bin .Sub (.idx (.var 3) (.cst (.int 1))) (.idx (.var 3) (.cst (.int 0))), .var 3])] []],
    .retv 2]⟩
def F_count_weeks__k17 : Fd := ⟨3, 14, false, [.expr (.call 16 [.var 0]),
    .expr (.call 72 [.var 1, .cst (.int 0), .cst (.int 2)]),
    .expr (.call 72 [.var 2, .cst (.int 0), .glb 11]),
    .par 3 4 (.dic1 (.tup [.cst (.int 0), .cst (.int 0)]) (.cst (.int 1))) (.call 106 [.var 0]),
    .for_ (.nm 5) (.rng (.var 1)) [.set 6 (.dic true),
    .for_ (.tup [.tup [.nm 7, .nm 8], .nm 9]) (.items (.var 3)) [.for_ (.tup [.tup [.nm 10, .nm 11], .nm 12]) (.items (.var 4)) [.set 13 (.tup [.bin .Add (.var 7) (.var 10), .bin .Add (.var 8) (.var 11)]),
    .store 6 (.var 13) (.bin .Add (.get (.var 6) (.var 13) (.cst (.int 0))) (.bin .Mult (.var 9) (.var 12)))]],
    .set 3 (.var 6)],
    .ret (.bi .sum [.lc [9, 7, 8] (.tup [.tup [.nm 7, .nm 8], .nm 9]) (.items (.var 3)) (some (.cmp .Eq (.call 92 [.var 0, .var 7, .var 8]) (.var 2))) (.var 9)])]⟩
def F_day_for__k17 : Fd := ⟨2, 3, false, [.expr (.call 16 [.var 0]),
    .expr (.call 72 [.var 1, .cst (.int 0), .glb 11]),
    .for_ (.nm 2) (.seq (.call 49 [])) [.ifs (.cmp .Eq (.call 36 [.var 0, .tup [.var 2]]) (.var 1)) [.retv 2] []],
    .ret (.cst .non)]⟩
def F_need_seen__k17 : Fd := ⟨1, 4, false, [.ifs (.or (.not (.inst (.var 0) "tuple")) (.cmp .Gt (.bi .len [.var 0]) (.glb 8))) [.never] [],
    .ifs (.not (.bi .all [.lc [1] (.nm 1) (.seq (.var 0)) none (.and (.inst (.var 1) "tuple") (.cmp .Eq (.bi .len [.var 1]) (.cst (.int 2))))])) [.never] [],
    .ifs (.not (.bi .all [.lc [2, 3] (.tup [.nm 2, .nm 3]) (.seq (.var 0)) none (.and (.call 29 [.var 2]) (.call 0 [.var 3, .cst (.int 0), .glb 12]))])) [.never] []]⟩
def F_roundings_for__k17 : Fd := ⟨3, 6, false, [.expr (.call 16 [.var 0]),
    .ifs (.or (.not (.inst (.var 1) "str")) (.cmp .NotIn (.var 1) (.tup [.cst (.str "ins"), .cst (.str "outs")]))) [.never] [],
    .expr (.call 154 [.var 2]),
    .set 3 (.ite (.cmp .Eq (.var 1) (.cst (.str "ins"))) (.cst (.int 0)) (.cst (.int 1))),
    .set 4 (.call 123 []),
    .ret (.lc [5] (.nm 5) (.seq (.var 4)) (some (.call 118 [.bin .Add (.bin .Add (.slc (.var 0) none (some (.var 3))) (.tup [.var 5])) (.slc (.var 0) (some (.bin .Add (.var 3) (.cst (.int 1)))) none), .var 2])) (.var 5))]⟩
def F__law_odd : Fd := ⟨2, 3, true, [.set 2 (.lst [.cst .non, .slc (.var 1) none (some (.cst (.int 4))), .bi .list [.var 1], .bin .Add (.tup [.tup [.cst (.int 5), .cst (.str "up"), .cst (.int 0)]]) (.slc (.var 1) (some (.cst (.int 1))) none), .bin .Add (.bin .Add (.slc (.var 1) none (some (.cst (.int 2)))) (.tup [.tup [.tup [.cst (.int 0), .cst (.int 1)]]])) (.slc (.var 1) (some (.cst (.int 3))) none), .bin .Add (.slc (.var 1) none (some (.cst (.int 3)))) (.tup [.cst (.int 97), .cst .non])]),
    .ret (.idx (.bin .Add (.var 2) (.lst [.bin .Add (.var 1) (.tup [.cst (.int 1)])])) (.call 6 [.var 0, .bin .Add (.bi .len [.var 2]) (.cst (.int 1))]))]⟩
def F_law_k18 : Fd := ⟨1, 11, false, [.for_ (.nm 1) (.rng (.cst (.int 3))) [.set 2 (.call 5 [.idx (.bin .Add (.var 0) (.lmul [.cst (.int 0)] (.cst (.int 3)))) (.var 1), .var 1]),
    .set 3 (.bin .Add (.slc (.call 10 [.var 2]) none (some (.cst (.int 4)))) (.tup [.cst .non])),
    .set 4 (.bin .Add (.slc (.call 58 [.var 2, .var 3]) none (some (.cst (.int 4)))) (.tup [.cst .non])),
    .ifs (.cmp .NotEq (.call 65 [.var 3, .var 4]) (.cmp .Is (.call 67 [.var 3, .var 4]) (.cst .non))) [.ret (.cst (.bl false))] [],
    .ifs (.cmp .NotEq (.cmp .Is (.call 68 [.var 3, .var 4]) (.cst .non)) (.cmp .Is (.call 67 [.var 3, .var 4]) (.cst .non))) [.ret (.cst (.bl false))] [],
    .set 5 (.lst [.cst (.int 0)]),
    .for_ (.tup [.nm 6, .nm 7]) (.zip (.call 60 [.var 3]) (.call 60 [.var 4])) [.app 5 (.bin .Sub (.bin .Sub (.bin .Add (.bin .Mult (.cst (.int 2)) (.idx (.var 6) (.cst (.int 0)))) (.bin .Mult (.cst (.int 3)) (.idx (.var 6) (.cst (.int 1))))) (.bin .Mult (.cst (.int 2)) (.idx (.var 7) (.cst (.int 0))))) (.bin .Mult (.cst (.int 3)) (.idx (.var 7) (.cst (.int 1)))))],
    .ifs (.or (.cmp .NotEq (.call 53 [.var 3, .var 4]) (.bin .Mult (.cst (.int 5)) (.bi .max [.var 5]))) (.cmp .NotEq (.call 53 [.var 4, .var 3]) (.bin .Sub (.cst (.int 0)) (.bin .Mult (.cst (.int 5)) (.bi .min [.var 5]))))) [.ret (.cst (.bl false))] [],
    .set 8 (.call 54 [.var 3, .var 4]),
    .ifs (.cmp .NotEq (.bin .Sub (.call 39 [.var 3, .var 8]) (.call 39 [.var 4, .var 8])) (.bin .Mult (.cst (.int 5)) (.bi .max [.var 5]))) [.ret (.cst (.bl false))] [],
    .set 9 (.bin .Mult (.cst (.int 5)) (.bi .max [.lc [10] (.nm 10) (.seq (.call 60 [.var 3])) none (.idx (.var 10) (.cst (.int 0)))])),
    .ifs (.and (.cmp .Gt (.var 9) (.cst (.int 0))) (.cmp .IsNot (.call 65 [.var 3, .bin .Add (.slc (.var 3) none (some (.cst (.int 4)))) (.tup [.var 9])]) (.cst (.bl true)))) [.ret (.cst (.bl false))] [],
    .ifs (.and (.cmp .Gt (.var 9) (.cst (.int 5))) (.cmp .IsNot (.call 65 [.var 3, .bin .Add (.slc (.var 3) none (some (.cst (.int 4)))) (.tup [.bin .Sub (.var 9) (.cst (.int 1))])]) (.cst (.bl false)))) [.ret (.cst (.bl false))] [],
    .ifs (.cmp .Lt (.call 53 [.bin .Add (.slc (.var 3) none (some (.cst (.int 4)))) (.tup [.bin .Add (.cst (.int 1)) (.call 6 [.var 2, .cst (.int 480)])]), .var 3]) (.cst (.int 0))) [.ret (.cst (.bl false))] []],
    .ret (.cst (.bl true))]⟩
def F_by_time : Fd := ⟨2, 11, false, [.unp [.nm 2, .nm 3, .nm 4] (.call 47 [.var 0]),
    .set 5 (.dic false),
    .for_ (.nm 6) (.seq (.call 49 [])) [.unp [.nm 7, .nm 8] (.idx (.var 4) (.bi .max [.cst (.int 0), .bin .Sub (.idx (.var 3) (.idx (.var 6) (.cst (.int 1)))) (.idx (.var 2) (.idx (.var 6) (.cst (.int 0))))])),
    .par 9 10 (.bin .Add (.bin .Mult (.bin .Add (.cst (.int 2)) (.var 1)) (.var 7)) (.bin .Mult (.cst (.int 3)) (.var 8))) (.bin .Sub (.idx (.var 6) (.cst (.int 1))) (.idx (.var 6) (.cst (.int 0)))),
    .ifs (.or (.cmp .NotIn (.var 10) (.var 5)) (.cmp .Lt (.idx (.idx (.var 5) (.var 10)) (.cst (.int 0))) (.var 9))) [.store 5 (.var 10) (.tup [.var 9, .var 6])] []],
    .retv 5]⟩
def F_weeks_by_time : Fd := ⟨2, 12, false, [.par 2 3 (.call 160 [.var 0, .var 1]) (.dic1 (.cst (.int 0)) (.tup [.cst (.int 0), .tup []])),
    .for_ (.nm 4) (.rng (.glb 4)) [.set 5 (.dcp (.var 3)),
    .for_ (.tup [.nm 6, .tup [.nm 7, .nm 8]]) (.items (.var 3)) [.for_ (.tup [.nm 9, .tup [.nm 10, .nm 11]]) (.items (.var 2)) [.ifs (.or (.cmp .NotIn (.bin .Add (.var 6) (.var 9)) (.var 5)) (.cmp .Lt (.idx (.idx (.var 5) (.bin .Add (.var 6) (.var 9))) (.cst (.int 0))) (.bin .Add (.var 7) (.var 10)))) [.store 5 (.bin .Add (.var 6) (.var 9)) (.tup [.bin .Add (.var 7) (.var 10), .bin .Add (.var 8) (.tup [.var 11])])] []]],
    .set 3 (.var 5)],
    .retv 3]⟩
def F_best_weeks_of : Fd := ⟨1, 7, false, [.set 1 (.dic false),
    .for_ (.nm 2) (.seq (.ite (.cmp .Is (.idx (.var 0) (.cst (.int 4))) (.cst .non)) (.tup [.cst (.int 0)]) (.tup [.cst (.int 0), .cst (.int 1)]))) [.for_ (.tup [.nm 3, .tup [.nm 4, .nm 5]]) (.items (.call 161 [.var 0, .var 2])) [.set 6 (.call 36 [.var 0, .var 5]),
    .ifs (.or (.cmp .NotIn (.var 3) (.var 1)) (.cmp .Lt (.idx (.idx (.var 1) (.var 3)) (.cst (.int 0))) (.var 6))) [.store 1 (.var 3) (.tup [.var 6, .var 5])] []]],
    .retv 1]⟩
def F_most_in_week : Fd := ⟨2, 2, false, [.expr (.call 16 [.var 0]),
    .expr (.call 72 [.var 1, .cst (.int 1), .glb 13]),
    .ret (.idx (.idx (.call 162 [.var 0]) (.var 1)) (.cst (.int 0)))]⟩
def F_week_for : Fd := ⟨2, 2, false, [.expr (.call 16 [.var 0]),
    .expr (.call 72 [.var 1, .cst (.int 1), .glb 13]),
    .ret (.idx (.idx (.call 162 [.var 0]) (.var 1)) (.cst (.int 1)))]⟩
def F__law_best : Fd := ⟨2, 11, false, [.set 2 (.dic false),
    .for_ (.tup [.nm 3, .nm 4]) (.zip (.call 59 []) (.call 60 [.var 0])) [.set 5 (.bin .Sub (.idx (.var 3) (.cst (.int 1))) (.idx (.var 3) (.cst (.int 0)))),
    .store 2 (.var 5) (.bi .max [.get (.var 2) (.var 5) (.cst (.int 0)), .bin .Add (.bin .Mult (.bin .Add (.cst (.int 2)) (.var 1)) (.idx (.var 4) (.cst (.int 0)))) (.bin .Mult (.cst (.int 3)) (.idx (.var 4) (.cst (.int 1))))])],
    .set 6 (.bin .Add (.lst [.cst (.int 0)]) (.lmul [.neg (.cst (.int 1))] (.cst (.int 480)))),
    .for_ (.nm 7) (.rng (.cst (.int 5))) [.set 8 (.bi .list [.var 6]),
    .for_ (.nm 9) (.rng (.cst (.int 481))) [.ifs (.cmp .GtE (.idx (.var 6) (.var 9)) (.cst (.int 0))) [.for_ (.nm 5) (.rng2 (.cst (.int 1)) (.bin .Add (.bi .min [.cst (.int 96), .bin .Sub (.cst (.int 480)) (.var 9)]) (.cst (.int 1)))) [.set 10 (.bin .Add (.idx (.var 6) (.var 9)) (.idx (.var 2) (.var 5))),
    .store 8 (.bin .Add (.var 9) (.var 5)) (.bi .max [.idx (.var 8) (.bin .Add (.var 9) (.var 5)), .var 10])]] []],
    .set 6 (.var 8)],
    .retv 6]⟩
def F_least_week : Fd := ⟨2, 6, false, [.expr (.call 16 [.var 0]),
    .expr (.call 72 [.var 1, .cst (.int 1), .glb 6]),
    .set 2 (.lc [3, 4, 5] (.tup [.nm 3, .tup [.nm 4, .nm 5]]) (.items (.call 162 [.var 0])) (some (.cmp .GtE (.var 4) (.var 1))) (.var 3)),
    .ret (.ite (.cmp .NotEq (.var 2) (.lst [])) (.bi .min [.var 2]) (.cst .non))]⟩
def F_need_roundings : Fd := ⟨2, 2, false, [.ifs (.or (.not (.call 1 [.var 0])) (.not (.call 1 [.var 1]))) [.never] []]⟩
def F_need_end : Fd := ⟨1, 1, false, [.ifs (.or (.not (.inst (.var 0) "str")) (.cmp .NotIn (.var 0) (.tup [.cst (.str "in"), .cst (.str "out")]))) [.never] []]⟩
def F_rounded : Fd := ⟨3, 3, false, [.ret (.ite (.cmp .Eq (.var 2) (.cst (.str "in"))) (.call 18 [.var 0, .var 1]) (.call 19 [.var 0, .var 1]))]⟩
def F_counts_twice : Fd := ⟨4, 4, false, [.expr (.call 169 [.var 0, .var 1]),
    .expr (.call 17 [.var 2]),
    .expr (.call 170 [.var 3]),
    .ret (.call 171 [.var 1, .call 171 [.var 0, .var 2, .var 3], .var 3])]⟩
def F_once_for : Fd := ⟨3, 7, false, [.expr (.call 169 [.var 0, .var 1]),
    .expr (.call 170 [.var 2]),
    .set 3 (.lrng (.bin .Add (.glb 2) (.cst (.int 1)))),
    .set 4 (.lc [5] (.nm 5) (.seq (.var 3)) none (.call 171 [.var 1, .call 171 [.var 0, .var 5, .var 2], .var 2])),
    .for_ (.nm 6) (.seq (.call 123 [])) [.ifs (.cmp .Eq (.lc [5] (.nm 5) (.seq (.var 3)) none (.call 171 [.var 6, .var 5, .var 2])) (.var 4)) [.retv 6] []],
    .ret (.cst .non)]⟩
def F_fair_outs : Fd := ⟨1, 2, false, [.expr (.call 16 [.var 0]),
    .ret (.lc [1] (.nm 1) (.seq (.call 123 [])) (some (.cmp .Eq (.call 78 [.bin .Add (.bin .Add (.slc (.var 0) none (some (.cst (.int 1)))) (.tup [.var 1])) (.slc (.var 0) (some (.cst (.int 2))) none)]) (.tup [.cst (.int 0), .cst (.int 1)]))) (.var 1))]⟩
def F_never_wins : Fd := ⟨1, 1, false, [.expr (.call 16 [.var 0]),
    .ret (.cmp .Eq (.bin .Add (.bi .max [.call 75 [.idx (.var 0) (.cst (.int 0)), .cst (.bl true)]]) (.bi .max [.call 75 [.idx (.var 0) (.cst (.int 1)), .cst (.bl false)]])) (.cst (.int 0)))]⟩
def F_never_loses : Fd := ⟨1, 1, false, [.expr (.call 16 [.var 0]),
    .ret (.cmp .Eq (.bin .Add (.bi .min [.call 75 [.idx (.var 0) (.cst (.int 0)), .cst (.bl true)]]) (.bi .min [.call 75 [.idx (.var 0) (.cst (.int 1)), .cst (.bl false)]])) (.cst (.int 0)))]⟩
def F__law_mean : Fd := ⟨1, 6, false, [.par 1 2 (.idx (.var 0) (.cst (.int 0))) (.idx (.var 0) (.cst (.int 1))),
    .set 3 (.cst (.int 0)),
    .for_ (.nm 4) (.rng (.idx (.var 1) (.cst (.int 0)))) [.for_ (.nm 5) (.rng (.idx (.var 2) (.cst (.int 0)))) [.set 3 (.bin .Sub (.bin .Add (.bin .Sub (.bin .Add (.var 3) (.var 4)) (.call 26 [.var 1, .var 4, .cst (.bl true)])) (.call 26 [.var 2, .var 5, .cst (.bl false)])) (.var 5))]],
    .retv 3]⟩
def F_law_k22 : Fd := ⟨1, 19, false, [.for_ (.nm 1) (.rng (.cst (.int 3))) [.set 2 (.call 5 [.idx (.bin .Add (.var 0) (.lmul [.cst (.int 0)] (.cst (.int 3)))) (.var 1), .var 1]),
    .parO false 3 4 (.call 10 [.var 2]) (.lst []),
    .for_ (.nm 5) (.seq (.tup [.cst (.int 1), .cst (.int 2), .cst (.int 3), .cst (.int 4), .cst (.int 6), .cst (.int 8), .cst (.int 12)])) [.for_ (.nm 6) (.seq (.tup [.cst (.str "down"), .cst (.str "near"), .cst (.str "up")])) [.for_ (.nm 7) (.rng (.var 5)) [.ifs (.cmp .Eq (.call 178 [.tup [.idx (.var 3) (.cst (.int 0)), .tup [.var 5, .var 6, .var 7]]]) (.cst (.int 0))) [.app 4 (.tup [.var 5, .var 6, .var 7])] []]]],
    .set 8 (.call 175 [.var 3]),
    .ifs (.not (.call 25 [.var 8, .var 4])) [.ret (.cst (.bl false))] [],
    .app 8 (.cst .non),
    .ifs (.or (.cmp .NotEq (.bi .len [.call 175 [.var 3]]) (.bi .len [.var 4])) (.cmp .NotEq (.lc [9] (.nm 9) (.seq (.var 4)) (some (.cmp .NotEq (.call 79 [.bin .Add (.bin .Add (.slc (.var 3) none (some (.cst (.int 1)))) (.tup [.var 9])) (.slc (.var 3) (some (.cst (.int 2))) none)]) (.tup [.cst (.int 0), .cst (.int 1)]))) (.cst (.int 1))) (.lst []))) [.ret (.cst (.bl false))] [],
    .unp [.nm 10, .nm 11] (.tup [.lc [12] (.nm 12) (.rng (.cst (.int 97))) none (.call 26 [.idx (.var 3) (.cst (.int 0)), .var 12, .cst (.bl true)]), .lc [12] (.nm 12) (.rng (.cst (.int 97))) none (.call 26 [.idx (.var 3) (.cst (.int 1)), .var 12, .cst (.bl false)])]),
    .set 13 (.lc [14, 15] (.tup [.nm 14, .nm 15]) (.seq (.call 59 [])) none (.bin .Add (.bin .Sub (.bi .max [.cst (.int 0), .bin .Sub (.idx (.var 11) (.var 15)) (.idx (.var 10) (.var 14))]) (.var 15)) (.var 14))),
    .ifs (.or (.not (.call 56 [.call 176 [.var 3], .cmp .Eq (.bi .max [.var 13]) (.cst (.int 0))])) (.not (.call 56 [.call 177 [.var 3], .cmp .Eq (.bi .min [.var 13]) (.cst (.int 0))]))) [.ret (.cst (.bl false))] [],
    .set 5 (.idx (.idx (.var 3) (.cst (.int 0))) (.cst (.int 0))),
    .set 16 (.bin .Add (.tup [.tup [.var 5, .cst (.str "near"), .cst (.int 0)], .tup [.var 5, .cst (.str "near"), .cst (.int 0)]]) (.slc (.var 3) (some (.cst (.int 2))) none)),
    .ifs (.cmp .NotIn (.tup [.var 5, .cst (.str "near"), .cst (.int 0)]) (.call 175 [.var 16])) [.ret (.cst (.bl false))] []],
    .unp [.nm 17, .nm 18] (.tup [.tup [.tup [.cst (.int 1), .cst (.str "down"), .cst (.int 0)], .tup [.cst (.int 1), .cst (.str "down"), .cst (.int 0)], .tup [], .cst .non, .cst .non], .tup [.tup [.cst (.int 4), .cst (.str "near"), .cst (.int 0)], .tup [.cst (.int 4), .cst (.str "near"), .cst (.int 0)], .tup [], .cst .non, .cst .non]]),
    .set 4 (.lst [.tup [.cst (.int 1), .cst (.str "down"), .cst (.int 0)], .tup [.cst (.int 1), .cst (.str "near"), .cst (.int 0)], .tup [.cst (.int 1), .cst (.str "up"), .cst (.int 0)], .tup [.cst (.int 3), .cst (.str "down"), .cst (.int 1)], .tup [.cst (.int 3), .cst (.str "near"), .cst (.int 0)], .tup [.cst (.int 3), .cst (.str "near"), .cst (.int 1)]]),
    .ifs (.or (.cmp .NotEq (.call 175 [.var 17]) (.var 4)) (.cmp .NotEq (.bi .len [.call 175 [.var 18]]) (.cst (.int 28)))) [.ret (.cst (.bl false))] [],
    .ifs (.cmp .IsNot (.call 176 [.tup [.tup [.cst (.int 4), .cst (.str "up"), .cst (.int 0)], .tup [.cst (.int 4), .cst (.str "down"), .cst (.int 0)], .tup [], .cst .non, .cst .non]]) (.cst (.bl true))) [.ret (.cst (.bl false))] [],
    .ret (.and (.cmp .Is (.call 177 [.tup [.tup [.cst (.int 4), .cst (.str "down"), .cst (.int 0)], .tup [.cst (.int 4), .cst (.str "up"), .cst (.int 0)], .tup [], .cst .non, .cst .non]]) (.cst (.bl true))) (.cmp .Is (.call 176 [.var 18]) (.cst (.bl false))))]⟩
def F_least_day_limit : Fd := ⟨1, 4, false, [.expr (.call 16 [.var 0]),
    .set 1 (.bi .max [.lc [2, 3] (.tup [.nm 2, .nm 3]) (.seq (.call 48 [.bin .Add (.bin .Add (.slc (.var 0) none (some (.cst (.int 3)))) (.tup [.cst .non])) (.slc (.var 0) (some (.cst (.int 4))) none)])) none (.var 2)]),
    .ret (.bi .max [.cst (.int 1), .ite (.cmp .Is (.idx (.var 0) (.cst (.int 4))) (.cst .non)) (.var 1) (.bi .min [.var 1, .idx (.var 0) (.cst (.int 4))])])]⟩
def F_least_week_limit : Fd := ⟨1, 3, false, [.expr (.call 16 [.var 0]),
    .ret (.bi .max [.cst (.int 1), .bin .Mult (.glb 4) (.bi .max [.lc [1, 2] (.tup [.nm 1, .nm 2]) (.seq (.call 48 [.var 0])) none (.var 1)])])]⟩
def F__law_alike__k23 : Fd := ⟨2, 2, false, [.ret (.and (.cmp .Eq (.call 53 [.var 0, .var 1]) (.cst (.int 0))) (.cmp .Eq (.call 53 [.var 1, .var 0]) (.cst (.int 0))))]⟩
def F_law_k23 : Fd := ⟨1, 10, false, [.set 1 (.call 5 [.idx (.bin .Add (.var 0) (.lst [.cst (.int 0)])) (.cst (.int 0)), .cst (.int 0)]),
    .set 2 (.call 10 [.var 1]),
    .for_ (.tup [.nm 3, .nm 4, .nm 5]) (.seq (.tup [.tup [.cst (.int 3), .cst (.int 96), .fnv 180], .tup [.cst (.int 4), .cst (.int 480), .fnv 181]])) [.set 6 (.bin .Add (.bin .Add (.slc (.var 2) none (some (.var 3))) (.tup [.cst .non])) (.slc (.var 2) (some (.bin .Add (.var 3) (.cst (.int 1)))) none)),
    .set 7 (.callv 5 [.var 2]),
    .ifs (.or (.not (.call 8 [.var 7])) (.or (.not (.chain .LtE .LtE (.cst (.int 1)) (.var 7) (.var 4))) (.cmp .NotEq (.callv 5 [.var 6]) (.var 7)))) [.ret (.cst (.bl false))] [],
    .ifs (.not (.call 182 [.bin .Add (.bin .Add (.slc (.var 2) none (some (.var 3))) (.tup [.var 7])) (.slc (.var 2) (some (.bin .Add (.var 3) (.cst (.int 1)))) none), .var 6])) [.ret (.cst (.bl false))] [],
    .ifs (.and (.cmp .Gt (.var 7) (.cst (.int 1))) (.call 182 [.bin .Add (.bin .Add (.slc (.var 2) none (some (.var 3))) (.tup [.bin .Sub (.var 7) (.cst (.int 1))])) (.slc (.var 2) (some (.bin .Add (.var 3) (.cst (.int 1)))) none), .var 6])) [.ret (.cst (.bl false))] []],
    .unp [.nm 8, .nm 9] (.tup [.tup [.tup [.cst (.int 1), .cst (.str "down"), .cst (.int 0)], .tup [.cst (.int 1), .cst (.str "down"), .cst (.int 0)], .tup [], .cst .non, .cst .non], .tup [.tup [.cst (.int 4), .cst (.str "up"), .cst (.int 1)], .tup [.cst (.int 4), .cst (.str "down"), .cst (.int 1)], .tup [.tup [.cst (.int 24), .cst (.int 2)]], .cst (.int 32), .cst .non]]),
    .ifs (.or (.cmp .NotEq (.call 180 [.var 9]) (.cst (.int 94))) (.or (.cmp .NotEq (.call 181 [.var 9]) (.cst (.int 160))) (.cmp .NotEq (.call 181 [.var 8]) (.cst (.int 480))))) [.ret (.cst (.bl false))] [],
    .ret (.and (.cmp .Eq (.call 180 [.var 8]) (.cst (.int 96))) (.cmp .Eq (.call 180 [.bin .Add (.slc (.var 8) none (some (.cst (.int 4)))) (.tup [.cst (.int 3)])]) (.cst (.int 3))))]⟩
def F_marks_of : Fd := ⟨1, 9, false, [.parO false 1 2 (.lc2 [3, 4] [4] (.nm 3) (.rng (.bi .len [.var 0])) (.nm 4) (.rng (.var 3)) none (.tup [.var 3, .var 4])) (.dic false),
    .for_ (.nm 5) (.seq (.call 49 [])) [.set 6 (.lc [7] (.nm 7) (.seq (.var 0)) none (.call 36 [.var 7, .tup [.var 5]])),
    .set 8 (.bi .tuple [.lc [3, 4] (.tup [.nm 3, .nm 4]) (.seq (.var 1)) none (.cmp .NotEq (.idx (.var 6) (.var 3)) (.idx (.var 6) (.var 4)))]),
    .ifs (.cmp .NotIn (.var 8) (.var 2)) [.store 2 (.var 8) (.var 5)] []],
    .retv 2]⟩
def F_both_marks : Fd := ⟨2, 4, false, [.ret (.bi .tuple [.lc [2, 3] (.tup [.nm 2, .nm 3]) (.zip (.var 0) (.var 1)) none (.or (.var 2) (.var 3))])]⟩
def F_telling_days : Fd := ⟨1, 11, false, [.expr (.call 116 [.var 0]),
    .set 1 (.call 184 [.var 0]),
    .set 2 (.bi .tuple [.lmul [.cst (.bl false)] (.bin .FloorDiv (.bin .Mult (.bi .len [.var 0]) (.bin .Sub (.bi .len [.var 0]) (.cst (.int 1)))) (.cst (.int 2)))]),
    .par 3 4 (.dic1 (.var 2) (.tup [])) (.var 2),
    .for_ (.nm 5) (.seq (.var 1)) [.set 4 (.call 185 [.var 4, .var 5])],
    .whil 1000 (.cmp .NotIn (.var 4) (.var 3)) [.set 6 (.dic false),
    .for_ (.tup [.nm 5, .nm 7]) (.items (.var 3)) [.for_ (.tup [.nm 8, .nm 9]) (.items (.var 1)) [.set 10 (.call 185 [.var 5, .var 8]),
    .ifs (.cmp .NotIn (.var 10) (.var 6)) [.store 6 (.var 10) (.bin .Add (.var 7) (.tup [.var 9]))] []]],
    .set 3 (.var 6)],
    .ret (.idx (.var 3) (.var 4))]⟩
def F__law_marks : Fd := ⟨1, 12, false, [.parO true 1 2 (.lst []) (.dic false),
    .for_ (.nm 3) (.seq (.var 0)) [.app 1 (.lc [4] (.nm 4) (.seq (.call 60 [.var 3])) none (.call 69 [.var 3, .var 4]))],
    .set 5 (.lst []),
    .for_ (.nm 6) (.rng (.bi .len [.var 0])) [.set 5 (.bin .Add (.var 5) (.lc [7] (.nm 7) (.rng (.var 6)) none (.tup [.var 6, .var 7])))],
    .for_ (.tup [.nm 8, .nm 9]) (.enum (.call 59 [])) [.set 10 (.bi .tuple [.lc [11] (.nm 11) (.seq (.var 5)) (some (.cmp .NotEq (.idx (.idx (.var 1) (.idx (.var 11) (.cst (.int 0)))) (.var 8)) (.idx (.idx (.var 1) (.idx (.var 11) (.cst (.int 1)))) (.var 8)))) (.var 11)]),
    .store 2 (.var 10) (.var 9)],
    .retv 2]⟩
def globL : List (Option Fd) := [some F_is_from, some F_is_rounding_of, some F_are_breaks_of, some F_is_manner_of, some F_is_manner, some F__law_deck, some F__law_pick, some F__law_one, some F__law_whole, some F__law_rounding, some F__law_manner, some F__law_is_from, some F__law_is_rounding, some F__law_is, some F__law_changed, some F_law_k01, some F_need_manner, some F_need_time, some F_came, some F_went, some F_time_in, some F_time_out, none, none, some F__law_sort, some F__law_same, some F__law_punch, none, some F_is_day_of, some F_is_week_of, some F_need_day, some F_need_week, some F_counted_of, some F_left_of, some F_split_of, some F_parts_of, some F_paid_of, some F_counted, some F_parts, some F_paid, some F__law_split, some F__law_counts, some F__law_worth, some F__law_pair, some F__law_days, none, some F_need_manners, some F_lists_of, some F_all_parts, some F_every_day, some F_best_days, some F_best_weeks, some F_lead_of, some F_greatest_lead, some F_lead_week, some F_never_less, some F__law_bool, some F__law_worth__k04, some F__law_bent, some F__law_every, some F__law_splits, some F__law_lead, some F__law_is_week, some F_law_k04, some F_same_for_all, some F_alike, some F_first_day, some F_parting_day, some F_parting_week, some F__law_alone, some F__law_same_so, some F_law_k05, some F_need_number, some F_lowest_terms, some F_won, some F_ends_of, some F_most_won, some F_most_lost, some F_mean_of, some F_mean_won, some F_won_day, some F__law_terms, some F__law_ends, none, some F_steps_of, some F_best_quarter, some F_worse_quarter, some F__law_more, some F_law_k07, some F_same_punches, some F_law_k08, none, some F_pay_of, some F_most_paid, some F_least_time, some F__law_manner__k09, none, some F__law_most, none, some F_same_graces, some F_same_sides, some F_needless_breaks, some F_is_needless, some F__law_alike, some F__law_right, none, some F_numbers_of, some F_pays, none, some F_count_weeks, some F_day_for, some F_most_day, some F__law_numbers, some F__law_twice, some F__law_written, none, some F_need_manners_of, some F_need_seen, some F_explains, some F_fitting, some F_telling_day, some F__law_telling, none, some F_every_rounding, some F_roundings_for, some F__law_all, none, none, none, none, none, none, none, none, none, none, some F_number_in, none, none, some F__law_pick__k16, some F__law_one__k16, some F__law_same__k16, some F__law_rounding__k16, some F__law_manner__k16, none, some F__law_number, some F__law_rounded, none, none, none, none, some F_least_time__k17, some F_count_weeks__k17, some F_day_for__k17, some F_need_seen__k17, some F_roundings_for__k17, some F__law_odd, none, none, some F_law_k18, some F_by_time, some F_weeks_by_time, some F_best_weeks_of, some F_most_in_week, some F_week_for, some F__law_best, none, some F_least_week, none, some F_need_roundings, some F_need_end, some F_rounded, some F_counts_twice, some F_once_for, none, some F_fair_outs, some F_never_wins, some F_never_loses, some F__law_mean, some F_law_k22, some F_least_day_limit, some F_least_week_limit, some F__law_alike__k23, some F_law_k23, some F_marks_of, some F_both_marks, some F_telling_days, some F__law_marks, none, none, none]
def glob (j : Nat) : Option Fd := (globL[j]?).getD none
@[simp] theorem g_is_from : glob 0 = some F_is_from := rfl
@[simp] theorem g_is_rounding_of : glob 1 = some F_is_rounding_of := rfl
@[simp] theorem g_are_breaks_of : glob 2 = some F_are_breaks_of := rfl
@[simp] theorem g_is_manner_of : glob 3 = some F_is_manner_of := rfl
@[simp] theorem g_is_manner : glob 4 = some F_is_manner := rfl
@[simp] theorem g__law_deck : glob 5 = some F__law_deck := rfl
@[simp] theorem g__law_pick : glob 6 = some F__law_pick := rfl
@[simp] theorem g__law_one : glob 7 = some F__law_one := rfl
@[simp] theorem g__law_whole : glob 8 = some F__law_whole := rfl
@[simp] theorem g__law_rounding : glob 9 = some F__law_rounding := rfl
@[simp] theorem g__law_manner : glob 10 = some F__law_manner := rfl
@[simp] theorem g__law_is_from : glob 11 = some F__law_is_from := rfl
@[simp] theorem g__law_is_rounding : glob 12 = some F__law_is_rounding := rfl
@[simp] theorem g__law_is : glob 13 = some F__law_is := rfl
@[simp] theorem g__law_changed : glob 14 = some F__law_changed := rfl
@[simp] theorem g_law_k01 : glob 15 = some F_law_k01 := rfl
@[simp] theorem g_need_manner : glob 16 = some F_need_manner := rfl
@[simp] theorem g_need_time : glob 17 = some F_need_time := rfl
@[simp] theorem g_came : glob 18 = some F_came := rfl
@[simp] theorem g_went : glob 19 = some F_went := rfl
@[simp] theorem g_time_in : glob 20 = some F_time_in := rfl
@[simp] theorem g_time_out : glob 21 = some F_time_out := rfl
@[simp] theorem g__law_sort : glob 24 = some F__law_sort := rfl
@[simp] theorem g__law_same : glob 25 = some F__law_same := rfl
@[simp] theorem g__law_punch : glob 26 = some F__law_punch := rfl
@[simp] theorem g_is_day_of : glob 28 = some F_is_day_of := rfl
@[simp] theorem g_is_week_of : glob 29 = some F_is_week_of := rfl
@[simp] theorem g_need_day : glob 30 = some F_need_day := rfl
@[simp] theorem g_need_week : glob 31 = some F_need_week := rfl
@[simp] theorem g_counted_of : glob 32 = some F_counted_of := rfl
@[simp] theorem g_left_of : glob 33 = some F_left_of := rfl
@[simp] theorem g_split_of : glob 34 = some F_split_of := rfl
@[simp] theorem g_parts_of : glob 35 = some F_parts_of := rfl
@[simp] theorem g_paid_of : glob 36 = some F_paid_of := rfl
@[simp] theorem g_counted : glob 37 = some F_counted := rfl
@[simp] theorem g_parts : glob 38 = some F_parts := rfl
@[simp] theorem g_paid : glob 39 = some F_paid := rfl
@[simp] theorem g__law_split : glob 40 = some F__law_split := rfl
@[simp] theorem g__law_counts : glob 41 = some F__law_counts := rfl
@[simp] theorem g__law_worth : glob 42 = some F__law_worth := rfl
@[simp] theorem g__law_pair : glob 43 = some F__law_pair := rfl
@[simp] theorem g__law_days : glob 44 = some F__law_days := rfl
@[simp] theorem g_need_manners : glob 46 = some F_need_manners := rfl
@[simp] theorem g_lists_of : glob 47 = some F_lists_of := rfl
@[simp] theorem g_all_parts : glob 48 = some F_all_parts := rfl
@[simp] theorem g_every_day : glob 49 = some F_every_day := rfl
@[simp] theorem g_best_days : glob 50 = some F_best_days := rfl
@[simp] theorem g_best_weeks : glob 51 = some F_best_weeks := rfl
@[simp] theorem g_lead_of : glob 52 = some F_lead_of := rfl
@[simp] theorem g_greatest_lead : glob 53 = some F_greatest_lead := rfl
@[simp] theorem g_lead_week : glob 54 = some F_lead_week := rfl
@[simp] theorem g_never_less : glob 55 = some F_never_less := rfl
@[simp] theorem g__law_bool : glob 56 = some F__law_bool := rfl
@[simp] theorem g__law_worth__k04 : glob 57 = some F__law_worth__k04 := rfl
@[simp] theorem g__law_bent : glob 58 = some F__law_bent := rfl
@[simp] theorem g__law_every : glob 59 = some F__law_every := rfl
@[simp] theorem g__law_splits : glob 60 = some F__law_splits := rfl
@[simp] theorem g__law_lead : glob 61 = some F__law_lead := rfl
@[simp] theorem g__law_is_week : glob 62 = some F__law_is_week := rfl
@[simp] theorem g_law_k04 : glob 63 = some F_law_k04 := rfl
@[simp] theorem g_same_for_all : glob 64 = some F_same_for_all := rfl
@[simp] theorem g_alike : glob 65 = some F_alike := rfl
@[simp] theorem g_first_day : glob 66 = some F_first_day := rfl
@[simp] theorem g_parting_day : glob 67 = some F_parting_day := rfl
@[simp] theorem g_parting_week : glob 68 = some F_parting_week := rfl
@[simp] theorem g__law_alone : glob 69 = some F__law_alone := rfl
@[simp] theorem g__law_same_so : glob 70 = some F__law_same_so := rfl
@[simp] theorem g_law_k05 : glob 71 = some F_law_k05 := rfl
@[simp] theorem g_need_number : glob 72 = some F_need_number := rfl
@[simp] theorem g_lowest_terms : glob 73 = some F_lowest_terms := rfl
@[simp] theorem g_won : glob 74 = some F_won := rfl
@[simp] theorem g_ends_of : glob 75 = some F_ends_of := rfl
@[simp] theorem g_most_won : glob 76 = some F_most_won := rfl
@[simp] theorem g_most_lost : glob 77 = some F_most_lost := rfl
@[simp] theorem g_mean_of : glob 78 = some F_mean_of := rfl
@[simp] theorem g_mean_won : glob 79 = some F_mean_won := rfl
@[simp] theorem g_won_day : glob 80 = some F_won_day := rfl
@[simp] theorem g__law_terms : glob 81 = some F__law_terms := rfl
@[simp] theorem g__law_ends : glob 82 = some F__law_ends := rfl
@[simp] theorem g_steps_of : glob 84 = some F_steps_of := rfl
@[simp] theorem g_best_quarter : glob 85 = some F_best_quarter := rfl
@[simp] theorem g_worse_quarter : glob 86 = some F_worse_quarter := rfl
@[simp] theorem g__law_more : glob 87 = some F__law_more := rfl
@[simp] theorem g_law_k07 : glob 88 = some F_law_k07 := rfl
@[simp] theorem g_same_punches : glob 89 = some F_same_punches := rfl
@[simp] theorem g_law_k08 : glob 90 = some F_law_k08 := rfl
@[simp] theorem g_pay_of : glob 92 = some F_pay_of := rfl
@[simp] theorem g_most_paid : glob 93 = some F_most_paid := rfl
@[simp] theorem g_least_time : glob 94 = some F_least_time := rfl
@[simp] theorem g__law_manner__k09 : glob 95 = some F__law_manner__k09 := rfl
@[simp] theorem g__law_most : glob 97 = some F__law_most := rfl
@[simp] theorem g_same_graces : glob 99 = some F_same_graces := rfl
@[simp] theorem g_same_sides : glob 100 = some F_same_sides := rfl
@[simp] theorem g_needless_breaks : glob 101 = some F_needless_breaks := rfl
@[simp] theorem g_is_needless : glob 102 = some F_is_needless := rfl
@[simp] theorem g__law_alike : glob 103 = some F__law_alike := rfl
@[simp] theorem g__law_right : glob 104 = some F__law_right := rfl
@[simp] theorem g_numbers_of : glob 106 = some F_numbers_of := rfl
@[simp] theorem g_pays : glob 107 = some F_pays := rfl
@[simp] theorem g_count_weeks : glob 109 = some F_count_weeks := rfl
@[simp] theorem g_day_for : glob 110 = some F_day_for := rfl
@[simp] theorem g_most_day : glob 111 = some F_most_day := rfl
@[simp] theorem g__law_numbers : glob 112 = some F__law_numbers := rfl
@[simp] theorem g__law_twice : glob 113 = some F__law_twice := rfl
@[simp] theorem g__law_written : glob 114 = some F__law_written := rfl
@[simp] theorem g_need_manners_of : glob 116 = some F_need_manners_of := rfl
@[simp] theorem g_need_seen : glob 117 = some F_need_seen := rfl
@[simp] theorem g_explains : glob 118 = some F_explains := rfl
@[simp] theorem g_fitting : glob 119 = some F_fitting := rfl
@[simp] theorem g_telling_day : glob 120 = some F_telling_day := rfl
@[simp] theorem g__law_telling : glob 121 = some F__law_telling := rfl
@[simp] theorem g_every_rounding : glob 123 = some F_every_rounding := rfl
@[simp] theorem g_roundings_for : glob 124 = some F_roundings_for := rfl
@[simp] theorem g__law_all : glob 125 = some F__law_all := rfl
@[simp] theorem g_number_in : glob 136 = some F_number_in := rfl
@[simp] theorem g__law_pick__k16 : glob 139 = some F__law_pick__k16 := rfl
@[simp] theorem g__law_one__k16 : glob 140 = some F__law_one__k16 := rfl
@[simp] theorem g__law_same__k16 : glob 141 = some F__law_same__k16 := rfl
@[simp] theorem g__law_rounding__k16 : glob 142 = some F__law_rounding__k16 := rfl
@[simp] theorem g__law_manner__k16 : glob 143 = some F__law_manner__k16 := rfl
@[simp] theorem g__law_number : glob 145 = some F__law_number := rfl
@[simp] theorem g__law_rounded : glob 146 = some F__law_rounded := rfl
@[simp] theorem g_least_time__k17 : glob 151 = some F_least_time__k17 := rfl
@[simp] theorem g_count_weeks__k17 : glob 152 = some F_count_weeks__k17 := rfl
@[simp] theorem g_day_for__k17 : glob 153 = some F_day_for__k17 := rfl
@[simp] theorem g_need_seen__k17 : glob 154 = some F_need_seen__k17 := rfl
@[simp] theorem g_roundings_for__k17 : glob 155 = some F_roundings_for__k17 := rfl
@[simp] theorem g__law_odd : glob 156 = some F__law_odd := rfl
@[simp] theorem g_law_k18 : glob 159 = some F_law_k18 := rfl
@[simp] theorem g_by_time : glob 160 = some F_by_time := rfl
@[simp] theorem g_weeks_by_time : glob 161 = some F_weeks_by_time := rfl
@[simp] theorem g_best_weeks_of : glob 162 = some F_best_weeks_of := rfl
@[simp] theorem g_most_in_week : glob 163 = some F_most_in_week := rfl
@[simp] theorem g_week_for : glob 164 = some F_week_for := rfl
@[simp] theorem g__law_best : glob 165 = some F__law_best := rfl
@[simp] theorem g_least_week : glob 167 = some F_least_week := rfl
@[simp] theorem g_need_roundings : glob 169 = some F_need_roundings := rfl
@[simp] theorem g_need_end : glob 170 = some F_need_end := rfl
@[simp] theorem g_rounded : glob 171 = some F_rounded := rfl
@[simp] theorem g_counts_twice : glob 172 = some F_counts_twice := rfl
@[simp] theorem g_once_for : glob 173 = some F_once_for := rfl
@[simp] theorem g_fair_outs : glob 175 = some F_fair_outs := rfl
@[simp] theorem g_never_wins : glob 176 = some F_never_wins := rfl
@[simp] theorem g_never_loses : glob 177 = some F_never_loses := rfl
@[simp] theorem g__law_mean : glob 178 = some F__law_mean := rfl
@[simp] theorem g_law_k22 : glob 179 = some F_law_k22 := rfl
@[simp] theorem g_least_day_limit : glob 180 = some F_least_day_limit := rfl
@[simp] theorem g_least_week_limit : glob 181 = some F_least_week_limit := rfl
@[simp] theorem g__law_alike__k23 : glob 182 = some F__law_alike__k23 := rfl
@[simp] theorem g_law_k23 : glob 183 = some F_law_k23 := rfl
@[simp] theorem g_marks_of : glob 184 = some F_marks_of := rfl
@[simp] theorem g_both_marks : glob 185 = some F_both_marks := rfl
@[simp] theorem g_telling_days : glob 186 = some F_telling_days := rfl
@[simp] theorem g__law_marks : glob 187 = some F__law_marks := rfl
def gvL : List (Option D) := [some (.ktup [.int 1, .int 2, .int 3, .int 4, .int 6, .int 8, .int 12]), some (.ktup [.str "down", .str "near", .str "up"]), some (.int 96), some (.int 8), some (.int 5), some (.int 300), some (.int 1500), some (.int 4), some (.int 6), none, some (.int 300), some (.int 1500), some (.int 1500), none]
def gvG (j : Nat) : Option D := (gvL[j]?).getD none
@[simp] theorem gv_0 : gvG 0 = some (.ktup [.int 1, .int 2, .int 3, .int 4, .int 6, .int 8, .int 12]) := rfl
@[simp] theorem gv_1 : gvG 1 = some (.ktup [.str "down", .str "near", .str "up"]) := rfl
@[simp] theorem gv_2 : gvG 2 = some (.int 96) := rfl
@[simp] theorem gv_3 : gvG 3 = some (.int 8) := rfl
@[simp] theorem gv_4 : gvG 4 = some (.int 5) := rfl
@[simp] theorem gv_5 : gvG 5 = some (.int 300) := rfl
@[simp] theorem gv_6 : gvG 6 = some (.int 1500) := rfl
@[simp] theorem gv_7 : gvG 7 = some (.int 4) := rfl
@[simp] theorem gv_8 : gvG 8 = some (.int 6) := rfl
@[simp] theorem gv_10 : gvG 10 = some (.int 300) := rfl
@[simp] theorem gv_11 : gvG 11 = some (.int 1500) := rfl
@[simp] theorem gv_12 : gvG 12 = some (.int 1500) := rfl
/-- the calls of a body -/
def cfk (k : Nat) : Cf := ⟨semK glob gvG 100 k, fun i => match glob i with
  | some g => g.lend
  | none => false, gvG⟩
@[simp] theorem cfk_run {k j : Nat} {svs : List SV} : (cfk k).run j svs = semK glob gvG 100 k j svs := rfl
@[simp] theorem cfk_gv {k j : Nat} : (cfk k).gv j = gvG j := rfl
@[simp] theorem l_is_from {k : Nat} : (cfk k).lend 0 = false := rfl
@[simp] theorem l_is_rounding_of {k : Nat} : (cfk k).lend 1 = false := rfl
@[simp] theorem l_are_breaks_of {k : Nat} : (cfk k).lend 2 = false := rfl
@[simp] theorem l_is_manner_of {k : Nat} : (cfk k).lend 3 = false := rfl
@[simp] theorem l_is_manner {k : Nat} : (cfk k).lend 4 = false := rfl
@[simp] theorem l__law_deck {k : Nat} : (cfk k).lend 5 = false := rfl
@[simp] theorem l__law_pick {k : Nat} : (cfk k).lend 6 = true := rfl
@[simp] theorem l__law_one {k : Nat} : (cfk k).lend 7 = true := rfl
@[simp] theorem l__law_whole {k : Nat} : (cfk k).lend 8 = false := rfl
@[simp] theorem l__law_rounding {k : Nat} : (cfk k).lend 9 = true := rfl
@[simp] theorem l__law_manner {k : Nat} : (cfk k).lend 10 = true := rfl
@[simp] theorem l__law_is_from {k : Nat} : (cfk k).lend 11 = false := rfl
@[simp] theorem l__law_is_rounding {k : Nat} : (cfk k).lend 12 = false := rfl
@[simp] theorem l__law_is {k : Nat} : (cfk k).lend 13 = false := rfl
@[simp] theorem l__law_changed {k : Nat} : (cfk k).lend 14 = true := rfl
@[simp] theorem l_law_k01 {k : Nat} : (cfk k).lend 15 = false := rfl
@[simp] theorem l_need_manner {k : Nat} : (cfk k).lend 16 = false := rfl
@[simp] theorem l_need_time {k : Nat} : (cfk k).lend 17 = false := rfl
@[simp] theorem l_came {k : Nat} : (cfk k).lend 18 = false := rfl
@[simp] theorem l_went {k : Nat} : (cfk k).lend 19 = false := rfl
@[simp] theorem l_time_in {k : Nat} : (cfk k).lend 20 = false := rfl
@[simp] theorem l_time_out {k : Nat} : (cfk k).lend 21 = false := rfl
@[simp] theorem l__law_sort {k : Nat} : (cfk k).lend 24 = false := rfl
@[simp] theorem l__law_same {k : Nat} : (cfk k).lend 25 = false := rfl
@[simp] theorem l__law_punch {k : Nat} : (cfk k).lend 26 = false := rfl
@[simp] theorem l_is_day_of {k : Nat} : (cfk k).lend 28 = false := rfl
@[simp] theorem l_is_week_of {k : Nat} : (cfk k).lend 29 = false := rfl
@[simp] theorem l_need_day {k : Nat} : (cfk k).lend 30 = false := rfl
@[simp] theorem l_need_week {k : Nat} : (cfk k).lend 31 = false := rfl
@[simp] theorem l_counted_of {k : Nat} : (cfk k).lend 32 = false := rfl
@[simp] theorem l_left_of {k : Nat} : (cfk k).lend 33 = false := rfl
@[simp] theorem l_split_of {k : Nat} : (cfk k).lend 34 = false := rfl
@[simp] theorem l_parts_of {k : Nat} : (cfk k).lend 35 = false := rfl
@[simp] theorem l_paid_of {k : Nat} : (cfk k).lend 36 = false := rfl
@[simp] theorem l_counted {k : Nat} : (cfk k).lend 37 = false := rfl
@[simp] theorem l_parts {k : Nat} : (cfk k).lend 38 = false := rfl
@[simp] theorem l_paid {k : Nat} : (cfk k).lend 39 = false := rfl
@[simp] theorem l__law_split {k : Nat} : (cfk k).lend 40 = false := rfl
@[simp] theorem l__law_counts {k : Nat} : (cfk k).lend 41 = false := rfl
@[simp] theorem l__law_worth {k : Nat} : (cfk k).lend 42 = false := rfl
@[simp] theorem l__law_pair {k : Nat} : (cfk k).lend 43 = true := rfl
@[simp] theorem l__law_days {k : Nat} : (cfk k).lend 44 = true := rfl
@[simp] theorem l_need_manners {k : Nat} : (cfk k).lend 46 = false := rfl
@[simp] theorem l_lists_of {k : Nat} : (cfk k).lend 47 = false := rfl
@[simp] theorem l_all_parts {k : Nat} : (cfk k).lend 48 = false := rfl
@[simp] theorem l_every_day {k : Nat} : (cfk k).lend 49 = false := rfl
@[simp] theorem l_best_days {k : Nat} : (cfk k).lend 50 = false := rfl
@[simp] theorem l_best_weeks {k : Nat} : (cfk k).lend 51 = false := rfl
@[simp] theorem l_lead_of {k : Nat} : (cfk k).lend 52 = false := rfl
@[simp] theorem l_greatest_lead {k : Nat} : (cfk k).lend 53 = false := rfl
@[simp] theorem l_lead_week {k : Nat} : (cfk k).lend 54 = false := rfl
@[simp] theorem l_never_less {k : Nat} : (cfk k).lend 55 = false := rfl
@[simp] theorem l__law_bool {k : Nat} : (cfk k).lend 56 = false := rfl
@[simp] theorem l__law_worth__k04 {k : Nat} : (cfk k).lend 57 = false := rfl
@[simp] theorem l__law_bent {k : Nat} : (cfk k).lend 58 = true := rfl
@[simp] theorem l__law_every {k : Nat} : (cfk k).lend 59 = false := rfl
@[simp] theorem l__law_splits {k : Nat} : (cfk k).lend 60 = false := rfl
@[simp] theorem l__law_lead {k : Nat} : (cfk k).lend 61 = false := rfl
@[simp] theorem l__law_is_week {k : Nat} : (cfk k).lend 62 = false := rfl
@[simp] theorem l_law_k04 {k : Nat} : (cfk k).lend 63 = false := rfl
@[simp] theorem l_same_for_all {k : Nat} : (cfk k).lend 64 = false := rfl
@[simp] theorem l_alike {k : Nat} : (cfk k).lend 65 = false := rfl
@[simp] theorem l_first_day {k : Nat} : (cfk k).lend 66 = false := rfl
@[simp] theorem l_parting_day {k : Nat} : (cfk k).lend 67 = false := rfl
@[simp] theorem l_parting_week {k : Nat} : (cfk k).lend 68 = false := rfl
@[simp] theorem l__law_alone {k : Nat} : (cfk k).lend 69 = false := rfl
@[simp] theorem l__law_same_so {k : Nat} : (cfk k).lend 70 = true := rfl
@[simp] theorem l_law_k05 {k : Nat} : (cfk k).lend 71 = false := rfl
@[simp] theorem l_need_number {k : Nat} : (cfk k).lend 72 = false := rfl
@[simp] theorem l_lowest_terms {k : Nat} : (cfk k).lend 73 = false := rfl
@[simp] theorem l_won {k : Nat} : (cfk k).lend 74 = false := rfl
@[simp] theorem l_ends_of {k : Nat} : (cfk k).lend 75 = false := rfl
@[simp] theorem l_most_won {k : Nat} : (cfk k).lend 76 = false := rfl
@[simp] theorem l_most_lost {k : Nat} : (cfk k).lend 77 = false := rfl
@[simp] theorem l_mean_of {k : Nat} : (cfk k).lend 78 = false := rfl
@[simp] theorem l_mean_won {k : Nat} : (cfk k).lend 79 = false := rfl
@[simp] theorem l_won_day {k : Nat} : (cfk k).lend 80 = false := rfl
@[simp] theorem l__law_terms {k : Nat} : (cfk k).lend 81 = false := rfl
@[simp] theorem l__law_ends {k : Nat} : (cfk k).lend 82 = false := rfl
@[simp] theorem l_steps_of {k : Nat} : (cfk k).lend 84 = false := rfl
@[simp] theorem l_best_quarter {k : Nat} : (cfk k).lend 85 = false := rfl
@[simp] theorem l_worse_quarter {k : Nat} : (cfk k).lend 86 = false := rfl
@[simp] theorem l__law_more {k : Nat} : (cfk k).lend 87 = false := rfl
@[simp] theorem l_law_k07 {k : Nat} : (cfk k).lend 88 = false := rfl
@[simp] theorem l_same_punches {k : Nat} : (cfk k).lend 89 = false := rfl
@[simp] theorem l_law_k08 {k : Nat} : (cfk k).lend 90 = false := rfl
@[simp] theorem l_pay_of {k : Nat} : (cfk k).lend 92 = false := rfl
@[simp] theorem l_most_paid {k : Nat} : (cfk k).lend 93 = false := rfl
@[simp] theorem l_least_time {k : Nat} : (cfk k).lend 94 = false := rfl
@[simp] theorem l__law_manner__k09 {k : Nat} : (cfk k).lend 95 = true := rfl
@[simp] theorem l__law_most {k : Nat} : (cfk k).lend 97 = false := rfl
@[simp] theorem l_same_graces {k : Nat} : (cfk k).lend 99 = false := rfl
@[simp] theorem l_same_sides {k : Nat} : (cfk k).lend 100 = false := rfl
@[simp] theorem l_needless_breaks {k : Nat} : (cfk k).lend 101 = false := rfl
@[simp] theorem l_is_needless {k : Nat} : (cfk k).lend 102 = false := rfl
@[simp] theorem l__law_alike {k : Nat} : (cfk k).lend 103 = false := rfl
@[simp] theorem l__law_right {k : Nat} : (cfk k).lend 104 = false := rfl
@[simp] theorem l_numbers_of {k : Nat} : (cfk k).lend 106 = false := rfl
@[simp] theorem l_pays {k : Nat} : (cfk k).lend 107 = false := rfl
@[simp] theorem l_count_weeks {k : Nat} : (cfk k).lend 109 = false := rfl
@[simp] theorem l_day_for {k : Nat} : (cfk k).lend 110 = false := rfl
@[simp] theorem l_most_day {k : Nat} : (cfk k).lend 111 = false := rfl
@[simp] theorem l__law_numbers {k : Nat} : (cfk k).lend 112 = false := rfl
@[simp] theorem l__law_twice {k : Nat} : (cfk k).lend 113 = false := rfl
@[simp] theorem l__law_written {k : Nat} : (cfk k).lend 114 = false := rfl
@[simp] theorem l_need_manners_of {k : Nat} : (cfk k).lend 116 = false := rfl
@[simp] theorem l_need_seen {k : Nat} : (cfk k).lend 117 = false := rfl
@[simp] theorem l_explains {k : Nat} : (cfk k).lend 118 = false := rfl
@[simp] theorem l_fitting {k : Nat} : (cfk k).lend 119 = false := rfl
@[simp] theorem l_telling_day {k : Nat} : (cfk k).lend 120 = false := rfl
@[simp] theorem l__law_telling {k : Nat} : (cfk k).lend 121 = false := rfl
@[simp] theorem l_every_rounding {k : Nat} : (cfk k).lend 123 = false := rfl
@[simp] theorem l_roundings_for {k : Nat} : (cfk k).lend 124 = false := rfl
@[simp] theorem l__law_all {k : Nat} : (cfk k).lend 125 = false := rfl
@[simp] theorem l_number_in {k : Nat} : (cfk k).lend 136 = false := rfl
@[simp] theorem l__law_pick__k16 {k : Nat} : (cfk k).lend 139 = true := rfl
@[simp] theorem l__law_one__k16 {k : Nat} : (cfk k).lend 140 = true := rfl
@[simp] theorem l__law_same__k16 {k : Nat} : (cfk k).lend 141 = false := rfl
@[simp] theorem l__law_rounding__k16 {k : Nat} : (cfk k).lend 142 = true := rfl
@[simp] theorem l__law_manner__k16 {k : Nat} : (cfk k).lend 143 = true := rfl
@[simp] theorem l__law_number {k : Nat} : (cfk k).lend 145 = false := rfl
@[simp] theorem l__law_rounded {k : Nat} : (cfk k).lend 146 = false := rfl
@[simp] theorem l_least_time__k17 {k : Nat} : (cfk k).lend 151 = false := rfl
@[simp] theorem l_count_weeks__k17 {k : Nat} : (cfk k).lend 152 = false := rfl
@[simp] theorem l_day_for__k17 {k : Nat} : (cfk k).lend 153 = false := rfl
@[simp] theorem l_need_seen__k17 {k : Nat} : (cfk k).lend 154 = false := rfl
@[simp] theorem l_roundings_for__k17 {k : Nat} : (cfk k).lend 155 = false := rfl
@[simp] theorem l__law_odd {k : Nat} : (cfk k).lend 156 = true := rfl
@[simp] theorem l_law_k18 {k : Nat} : (cfk k).lend 159 = false := rfl
@[simp] theorem l_by_time {k : Nat} : (cfk k).lend 160 = false := rfl
@[simp] theorem l_weeks_by_time {k : Nat} : (cfk k).lend 161 = false := rfl
@[simp] theorem l_best_weeks_of {k : Nat} : (cfk k).lend 162 = false := rfl
@[simp] theorem l_most_in_week {k : Nat} : (cfk k).lend 163 = false := rfl
@[simp] theorem l_week_for {k : Nat} : (cfk k).lend 164 = false := rfl
@[simp] theorem l__law_best {k : Nat} : (cfk k).lend 165 = false := rfl
@[simp] theorem l_least_week {k : Nat} : (cfk k).lend 167 = false := rfl
@[simp] theorem l_need_roundings {k : Nat} : (cfk k).lend 169 = false := rfl
@[simp] theorem l_need_end {k : Nat} : (cfk k).lend 170 = false := rfl
@[simp] theorem l_rounded {k : Nat} : (cfk k).lend 171 = false := rfl
@[simp] theorem l_counts_twice {k : Nat} : (cfk k).lend 172 = false := rfl
@[simp] theorem l_once_for {k : Nat} : (cfk k).lend 173 = false := rfl
@[simp] theorem l_fair_outs {k : Nat} : (cfk k).lend 175 = false := rfl
@[simp] theorem l_never_wins {k : Nat} : (cfk k).lend 176 = false := rfl
@[simp] theorem l_never_loses {k : Nat} : (cfk k).lend 177 = false := rfl
@[simp] theorem l__law_mean {k : Nat} : (cfk k).lend 178 = false := rfl
@[simp] theorem l_law_k22 {k : Nat} : (cfk k).lend 179 = false := rfl
@[simp] theorem l_least_day_limit {k : Nat} : (cfk k).lend 180 = false := rfl
@[simp] theorem l_least_week_limit {k : Nat} : (cfk k).lend 181 = false := rfl
@[simp] theorem l__law_alike__k23 {k : Nat} : (cfk k).lend 182 = false := rfl
@[simp] theorem l_law_k23 {k : Nat} : (cfk k).lend 183 = false := rfl
@[simp] theorem l_marks_of {k : Nat} : (cfk k).lend 184 = false := rfl
@[simp] theorem l_both_marks {k : Nat} : (cfk k).lend 185 = false := rfl
@[simp] theorem l_telling_days {k : Nat} : (cfk k).lend 186 = false := rfl
@[simp] theorem l__law_marks {k : Nat} : (cfk k).lend 187 = false := rfl
theorem semK_eq {k j : Nat} {fd : Fd} (h : glob j = some fd) (svs : List SV) : semK glob gvG 100 (k + 1) j svs = if svs.length = fd.np ∧ isLent svs = fd.lend then finF fd.lend (exSs (cfk k) 100 fd.body (svs.map some ++ List.replicate (fd.nl - fd.np) none)) else .stuck := by
  conv => lhs; unfold semK
  rw [h]
  rfl
end DL

namespace DL
open PySem PySem.Spec PyProof.Rows L2

/-! ### reading the evaluator -/
/-- a slot that may be stored -/
def free : Option SV → Bool
  | none => true
  | some sv => !sv.lent
theorem free_dat {d : D} : free (some (.dat d)) = true := rfl
theorem free_own {d : D} : free (some (.own d)) = true := rfl
theorem free_none : free none = true := rfl
theorem setS_eq {i : Nat} {sv : SV} {ρ : Env'} : setS i sv ρ = if sv.lent = true then .stuck else match ρ[i]? with
  | some x => if free x = true then .nx (ρ.set i (some sv)) else .stuck
  | none => .stuck := by
  unfold setS
  split
  · rfl
  · cases h : ρ[i]? with
    | none => rfl
    | some x =>
      cases x with
      | none => rfl
      | some sw => cases sw <;> rfl
theorem asg_nm {i : Nat} {d : D} {ρ : Env'} : asg (.nm i) d ρ = match ρ[i]? with
  | some x => if free x = true then some (ρ.set i (some (.dat d))) else none
  | none => none := by
  unfold asg
  cases h : ρ[i]? with
  | none => rfl
  | some x =>
    cases x with
    | none => rfl
    | some sw => cases sw <;> rfl
theorem asg_tup {ts : List Tg} {ds : List D} {ρ : Env'} : asg (.tup ts) (.tup ds) ρ = asgs ts ds ρ := by unfold asg; rfl
theorem asg_ktup {ts : List Tg} {ds : List D} {ρ : Env'} : asg (.tup ts) (.ktup ds) ρ = asgs ts ds ρ := by unfold asg; rfl
theorem asg_lst {ts : List Tg} {ds : List D} {ρ : Env'} : asg (.tup ts) (.lst ds) ρ = asgs ts ds ρ := by unfold asg; rfl
theorem asgs_nil {ρ : Env'} : asgs [] [] ρ = some ρ := by unfold asgs; rfl
theorem asgs_cons {t : Tg} {ts : List Tg} {d : D} {ds : List D} {ρ : Env'} : asgs (t :: ts) (d :: ds) ρ = (asg t d ρ).bind fun ρ1 => asgs ts ds ρ1 := by conv => lhs; unfold asgs
/-- a loop by its invariant: J at turn i -/
theorem forGo_inv {body : Env' → SRes} {T : Tg} (J : Nat → Env' → Prop) (R : SRes → Prop) : ∀ (ds : List D) (i : Nat) (ρ : Env'), J i ρ →
    (∀ j d ρ, ds[j]? = some d → J (i + j) ρ → ∃ ρ1, asg T d ρ = some ρ1 ∧ ((∃ ρ2, (body ρ1 = .nx ρ2 ∨ body ρ1 = .ct ρ2) ∧ J (i + j + 1) ρ2) ∨ (∃ ρ2, body ρ1 = .bk ρ2 ∧ R (.nx ρ2)) ∨ (∃ sv ρ2, body ρ1 = .rt sv ρ2 ∧ R (.rt sv ρ2)))) → (∀ ρ, J (i + ds.length) ρ → R (.nx ρ)) → R (forGo body T ds ρ)
  | [], i, ρ, h, _, e => e ρ h
  | d :: ds, i, ρ, h, st, e => by
    obtain ⟨ρ1, e1, hh⟩ := st 0 d ρ rfl h
    unfold forGo
    rw [e1]
    dsimp only
    rcases hh with ⟨ρ2, e2, j⟩ | ⟨ρ2, e2, r⟩ | ⟨sv, ρ2, e2, r⟩
    · have := forGo_inv J R ds (i + 1) ρ2 j (fun j d ρ hd hj => by
        have := st (j + 1) d ρ (by simpa using hd) (by rw [show i + (j + 1) = i + 1 + j by omega]; exact hj)
        rw [show i + (j + 1) + 1 = i + 1 + j + 1 by omega] at this
        exact this) (fun ρ hj => e ρ (by rw [List.length_cons, show i + (ds.length + 1) = i + 1 + ds.length by omega]; exact hj))
      rcases e2 with e2 | e2 <;> (rw [e2]; exact this)
    · rw [e2]; exact r
    · rw [e2]; exact r
/-! what simp is not to enter -/
theorem lcGo_congr {fe : Env' → Res SV} {ft : Env' → Res Bool} {own : List Nat} {tg : Tg} {ds ds' acc acc' : List D} {ρ ρ' : Env'} (h1 : ds = ds') (h2 : acc = acc') (h3 : ρ = ρ') : lcGo fe ft own tg ds acc ρ = lcGo fe ft own tg ds' acc' ρ' := by rw [h1, h2, h3]
theorem lcOut_congr {own own1 : List Nat} {tg : Tg} {fi : Env' → Res (List D)} {go : List D → List D → Env' → Res (List D)} {ds ds' acc acc' : List D} {ρ ρ' : Env'} (h1 : ds = ds') (h2 : acc = acc') (h3 : ρ = ρ') : lcOut own own1 tg fi go ds acc ρ = lcOut own own1 tg fi go ds' acc' ρ' := by rw [h1, h2, h3]
theorem forGo_congr {body : Env' → SRes} {T : Tg} {ds ds' : List D} {ρ ρ' : Env'} (h1 : ds = ds') (h3 : ρ = ρ') : forGo body T ds ρ = forGo body T ds' ρ' := by rw [h1, h3]
theorem whGo_congr {c : Env' → Res Bool} {body : Env' → SRes} {m : Nat} {ρ ρ' : Env'} (h3 : ρ = ρ') : whGo c body m ρ = whGo c body m ρ' := by rw [h3]
theorem opds_congr {f : Q → Env' → Res SV} {qs : List Q} {ρ ρ' : Env'} (h3 : ρ = ρ') : opds f qs ρ = opds f qs ρ' := by rw [h3]
theorem vals_congr {f : Q → Env' → Res SV} {qs : List Q} {ρ ρ' : Env'} (h3 : ρ = ρ') : vals f qs ρ = vals f qs ρ' := by rw [h3]
theorem opd_congr {f : Q → Env' → Res SV} {q : Q} {ρ ρ' : Env'} (h3 : ρ = ρ') : opd f q ρ = opd f q ρ' := by rw [h3]
theorem op2_congr {α : Type} {f : Q → Env' → Res SV} {g : D → D → Option α} {a b : Q} {ρ ρ' : Env'} (h3 : ρ = ρ') : op2 f g a b ρ = op2 f g a b ρ' := by rw [h3]
theorem evIt_congr {f : Q → Env' → Res SV} {it : It} {ρ ρ' : Env'} (h3 : ρ = ρ') : evIt f it ρ = evIt f it ρ' := by rw [h3]
theorem lcFin_congr {own : List Nat} {fi : Env' → Res (List D)} {go : List D → List D → Env' → Res (List D)} {ρ ρ' : Env'} (h3 : ρ = ρ') : lcFin own fi go ρ = lcFin own fi go ρ' := by rw [h3]
end DL

namespace DL
open PySem PySem.Spec PyProof.Rows L2
/-! the evaluator's equations, one for each form (so that simp never opens it where it is not applied) -/
theorem ev_var {cf : Cf} {n : Nat} {i : Nat} {ρ : Env'} : ev cf (n + 1) (.var i) ρ = ((match ρ[i]? with
      | some (some (.dat d)) => .ok (.dat d) ρ
      | some (some (.own d)) => .ok (.dat d) (ρ.set i (some (.dat d)))
      | _ => .stuck)) := rfl
theorem ev_cst {cf : Cf} {n : Nat} {d : D} {ρ : Env'} : ev cf (n + 1) (.cst d) ρ = (.ok (.dat d) ρ) := rfl
theorem ev_glb {cf : Cf} {n : Nat} {j : Nat} {ρ : Env'} : ev cf (n + 1) (.glb j) ρ = ((match cf.gv j with
      | some d => .ok (.dat d) ρ
      | none => .stuck)) := rfl
theorem ev_fnv {cf : Cf} {n : Nat} {j : Nat} {ρ : Env'} : ev cf (n + 1) (.fnv j) ρ = (.ok (.dat (.fn j)) ρ) := rfl
theorem ev_tup {cf : Cf} {n : Nat} {qs : List Q} {ρ : Env'} : ev cf (n + 1) (.tup qs) ρ = ((vals (ev cf n) qs ρ).bind fun ds ρ1 => if ds.length ≤ Z24 then .ok (.dat (.tup ds)) ρ1 else .stuck) := rfl
theorem ev_lst {cf : Cf} {n : Nat} {qs : List Q} {ρ : Env'} : ev cf (n + 1) (.lst qs) ρ = ((vals (ev cf n) qs ρ).bind fun ds ρ1 => if ds.length ≤ Z24 then .ok (.own (.lst ds)) ρ1 else .stuck) := rfl
theorem ev_lmul {cf : Cf} {n : Nat} {qs : List Q} {b : Q} {ρ : Env'} : ev cf (n + 1) (.lmul qs b) ρ = ((vals (ev cf n) qs ρ).bind fun ds ρ1 => if ds.length ≤ Z24 then (ev cf n b ρ1).bind fun sv ρ2 => (match sv.d with
      | .int k => if (-(2 ^ 63) ≤ k ∧ k < 2 ^ 63) ∧ ds.length * k.toNat ≤ Z24 then .ok (.own (.lst (List.replicate k.toNat ds).flatten)) ρ2 else .stuck
      | _ => .stuck) else .stuck) := rfl
theorem ev_dic_false {cf : Cf} {n : Nat}  {ρ : Env'} : ev cf (n + 1) (.dic false) ρ = (.ok (.own (.dK [])) ρ) := rfl
theorem ev_dic_true {cf : Cf} {n : Nat}  {ρ : Env'} : ev cf (n + 1) (.dic true) ρ = (.ok (.own (.dT [])) ρ) := rfl
theorem ev_dic1 {cf : Cf} {n : Nat} {k : Q} {v : Q} {ρ : Env'} : ev cf (n + 1) (.dic1 k v) ρ = ((ev cf n k ρ).bind fun sk ρ1 => (ev cf n v ρ1).bind fun sv ρ2 => (match keyOf sk.d with
      | some kk => .ok (.own (.dK [(kk, sv.d)])) ρ2
      | none => .stuck)) := rfl
theorem ev_bin {cf : Cf} {n : Nat} {o : Operator} {a : Q} {b : Q} {ρ : Env'} : ev cf (n + 1) (.bin o a b) ρ = (op2 (ev cf n) (binP o) a b ρ) := rfl
theorem ev_neg {cf : Cf} {n : Nat} {a : Q} {ρ : Env'} : ev cf (n + 1) (.neg a) ρ = ((ev cf n a ρ).bind fun sv ρ1 => (match sv.d with
      | .int i => .ok (.dat (.int (-i))) ρ1
      | _ => .stuck)) := rfl
theorem ev_cmp {cf : Cf} {n : Nat} {o : CmpOp} {a : Q} {b : Q} {ρ : Env'} : ev cf (n + 1) (.cmp o a b) ρ = ((op2 (ev cf n) (cmpP o) a b ρ).bind fun c ρ1 => .ok (.dat (.bl c)) ρ1) := rfl
theorem ev_chain {cf : Cf} {n : Nat} {o : CmpOp} {o' : CmpOp} {a : Q} {b : Q} {c : Q} {ρ : Env'} : ev cf (n + 1) (.chain o o' a b c) ρ = ((ev cf n a ρ).bind fun sa ρ1 => (ev cf n b ρ1).bind fun sb ρ2 => (match cmpP o sa.d sb.d with
      | some true => (ev cf n c ρ2).bind fun sc ρ3 => (match cmpP o' sb.d sc.d with
        | some r => .ok (.dat (.bl r)) ρ3
        | none => .stuck)
      | some false => .ok (.dat (.bl false)) ρ2
      | none => .stuck)) := rfl
theorem ev_and {cf : Cf} {n : Nat} {a : Q} {b : Q} {ρ : Env'} : ev cf (n + 1) (.and a b) ρ = ((ev cf n a ρ).bind fun sa ρ1 => (match sa.d with
      | .bl true => (ev cf n b ρ1).bind fun sb ρ2 => .ok (.dat sb.d) ρ2
      | .bl false => .ok (.dat (.bl false)) ρ1
      | _ => .stuck)) := rfl
theorem ev_or {cf : Cf} {n : Nat} {a : Q} {b : Q} {ρ : Env'} : ev cf (n + 1) (.or a b) ρ = ((ev cf n a ρ).bind fun sa ρ1 => (match sa.d with
      | .bl false => (ev cf n b ρ1).bind fun sb ρ2 => .ok (.dat sb.d) ρ2
      | .bl true => .ok (.dat (.bl true)) ρ1
      | _ => .stuck)) := rfl
theorem ev_not {cf : Cf} {n : Nat} {a : Q} {ρ : Env'} : ev cf (n + 1) (.not a) ρ = ((ev cf n a ρ).bind fun sa ρ1 => (match sa.d with
      | .bl b => .ok (.dat (.bl (!b))) ρ1
      | _ => .stuck)) := rfl
theorem ev_ite {cf : Cf} {n : Nat} {c : Q} {a : Q} {b : Q} {ρ : Env'} : ev cf (n + 1) (.ite c a b) ρ = ((evT cf n c ρ).bind fun t ρ1 => if t = true then ev cf n a ρ1 else ev cf n b ρ1) := rfl
theorem ev_idx {cf : Cf} {n : Nat} {a : Q} {b : Q} {ρ : Env'} : ev cf (n + 1) (.idx a b) ρ = ((op2 (ev cf n) idxP a b ρ).bind fun d ρ1 => .ok (.dat d) ρ1) := rfl
theorem ev_slc {cf : Cf} {n : Nat} {a : Q} {lo : Option Q} {hi : Option Q} {ρ : Env'} : ev cf (n + 1) (.slc a lo hi) ρ = ((opd (ev cf n) a ρ).bind fun p ρ1 => (part cf n lo ρ1).bind fun l ρ2 => (part cf n hi ρ2).bind fun h ρ3 => (match cont ρ3 p with
      | some d => lift (slP d l h) ρ3
      | none => .stuck)) := rfl
theorem ev_rev {cf : Cf} {n : Nat} {a : Q} {ρ : Env'} : ev cf (n + 1) (.rev a) ρ = ((opd (ev cf n) a ρ).bind fun p ρ1 => (match cont ρ1 p with
      | some (.tup ds) => .ok (.dat (.tup ds.reverse)) ρ1
      | some (.lst ds) => .ok (.own (.lst ds.reverse)) ρ1
      | _ => .stuck)) := rfl
theorem ev_call {cf : Cf} {n : Nat} {j : Nat} {args : List Q} {ρ : Env'} : ev cf (n + 1) (.call j args) ρ = ((opds (ev cf n) args ρ).bind fun ps ρ1 => callR cf j ps ρ1) := rfl
theorem ev_callv {cf : Cf} {n : Nat} {i : Nat} {args : List Q} {ρ : Env'} : ev cf (n + 1) (.callv i args) ρ = ((match ρ[i]? with
      | some (some (.dat (.fn j))) => (opds (ev cf n) args ρ).bind fun ps ρ1 => callR cf j ps ρ1
      | _ => .stuck)) := rfl
theorem ev_bi {cf : Cf} {n : Nat} {b : BI} {args : List Q} {ρ : Env'} : ev cf (n + 1) (.bi b args) ρ = ((opds (ev cf n) args ρ).bind fun ps ρ1 => (match conts ρ1 ps with
      | some ds => lift (callP b ds) ρ1
      | none => .stuck)) := rfl
theorem ev_inst {cf : Cf} {n : Nat} {a : Q} {ρ : Env'} : ev cf (n + 1) (.inst a T) ρ = ((opd (ev cf n) a ρ).bind fun p ρ1 => (match cont ρ1 p with
      | some d => (match instP d T with
        | some b => .ok (.dat (.bl b)) ρ1
        | none => .stuck)
      | none => .stuck)) := rfl
theorem ev_get {cf : Cf} {n : Nat} {a : Q} {k : Q} {d : Q} {ρ : Env'} : ev cf (n + 1) (.get a k d) ρ = ((opd (ev cf n) a ρ).bind fun p ρ1 => if isDic (cont ρ1 p) = true then (ev cf n k ρ1).bind fun sk ρ2 => (ev cf n d ρ2).bind fun sd ρ3 => (match cont ρ3 p with
      | some (.dK kds) => (match keyOf sk.d with
        | some kk => .ok (.dat ((lookD kds kk).getD sd.d)) ρ3
        | none => .stuck)
      | some (.dT kds) => (match sk.d with
        | .tup ks => (match keysOf ks with
          | some kk => .ok (.dat ((lookD kds kk).getD sd.d)) ρ3
          | none => .stuck)
        | _ => .stuck)
      | _ => .stuck) else .stuck) := rfl
theorem ev_lrng {cf : Cf} {n : Nat} {a : Q} {ρ : Env'} : ev cf (n + 1) (.lrng a) ρ = ((ev cf n a ρ).bind fun sa ρ1 => (match sa.d with
      | .int j => if 0 ≤ j ∧ j ≤ Z24 then .ok (.own (.lst (rangeD 0 j.toNat))) ρ1 else .stuck
      | _ => .stuck)) := rfl
theorem ev_dcp {cf : Cf} {n : Nat} {a : Q} {ρ : Env'} : ev cf (n + 1) (.dcp a) ρ = ((opd (ev cf n) a ρ).bind fun p ρ1 => (match cont ρ1 p with
      | some (.dK kds) => .ok (.own (.dK kds)) ρ1
      | _ => .stuck)) := rfl
theorem ev_dprs {cf : Cf} {n : Nat} {a : Q} {ρ : Env'} : ev cf (n + 1) (.dprs a) ρ = ((opd (ev cf n) a ρ).bind fun p ρ1 => (match cont ρ1 p with
      | some (.lst es) => (match pairsK es with
        | some kds => .ok (.own (.dK (kds.foldl (fun acc kv => putD acc kv.1 kv.2) []))) ρ1
        | none => .stuck)
      | _ => .stuck)) := rfl
theorem ev_lc {cf : Cf} {n : Nat} {own : List Nat} {tg : Tg} {it : It} {c : Option Q} {e : Q} {ρ : Env'} : ev cf (n + 1) (.lc own tg it c e) ρ = (lcFin own (evIt (ev cf n) it) (lcGo (ev cf n e) (testO (evT cf n) c) own tg) ρ) := rfl
theorem ev_lc2 {cf : Cf} {n : Nat} {own : List Nat} {own1 : List Nat} {tg : Tg} {it : It} {tg1 : Tg} {it1 : It} {c : Option Q} {e : Q} {ρ : Env'} : ev cf (n + 1) (.lc2 own own1 tg it tg1 it1 c e) ρ = (lcFin own (evIt (ev cf n) it) (lcOut own own1 tg (evIt (ev cf n) it1) (lcGo (ev cf n e) (testO (evT cf n) c) own1 tg1)) ρ) := rfl
theorem ev_lc3 {cf : Cf} {n : Nat} {own : List Nat} {own1 : List Nat} {own2 : List Nat} {tg : Tg} {it : It} {tg1 : Tg} {it1 : It} {tg2 : Tg} {it2 : It} {c : Option Q} {e : Q} {ρ : Env'} : ev cf (n + 1) (.lc3 own own1 own2 tg it tg1 it1 tg2 it2 c e) ρ = (lcFin own (evIt (ev cf n) it) (lcOut own own1 tg (evIt (ev cf n) it1) (lcOut own1 own2 tg1 (evIt (ev cf n) it2) (lcGo (ev cf n e) (testO (evT cf n) c) own2 tg2))) ρ) := rfl
theorem evT_and {cf : Cf} {n : Nat} {a : Q} {b : Q} {ρ : Env'} : evT cf (n + 1) (.and a b) ρ = ((evT cf n a ρ).bind fun t ρ1 => if t = true then evT cf n b ρ1 else .ok false ρ1) := rfl
theorem evT_or {cf : Cf} {n : Nat} {a : Q} {b : Q} {ρ : Env'} : evT cf (n + 1) (.or a b) ρ = ((evT cf n a ρ).bind fun t ρ1 => if t = true then .ok true ρ1 else evT cf n b ρ1) := rfl
theorem evT_not {cf : Cf} {n : Nat} {a : Q} {ρ : Env'} : evT cf (n + 1) (.not a) ρ = ((evT cf n a ρ).bind fun t ρ1 => .ok (!t) ρ1) := rfl
theorem evT_var {cf : Cf} {n : Nat} {a0 : Nat} {ρ : Env'} : evT cf (n + 1) (.var a0) ρ = ((ev cf n (.var a0) ρ).bind fun sv ρ1 => lift (tru sv.d) ρ1) := rfl
theorem evT_cst {cf : Cf} {n : Nat} {a0 : D} {ρ : Env'} : evT cf (n + 1) (.cst a0) ρ = ((ev cf n (.cst a0) ρ).bind fun sv ρ1 => lift (tru sv.d) ρ1) := rfl
theorem evT_glb {cf : Cf} {n : Nat} {a0 : Nat} {ρ : Env'} : evT cf (n + 1) (.glb a0) ρ = ((ev cf n (.glb a0) ρ).bind fun sv ρ1 => lift (tru sv.d) ρ1) := rfl
theorem evT_fnv {cf : Cf} {n : Nat} {a0 : Nat} {ρ : Env'} : evT cf (n + 1) (.fnv a0) ρ = ((ev cf n (.fnv a0) ρ).bind fun sv ρ1 => lift (tru sv.d) ρ1) := rfl
theorem evT_tup {cf : Cf} {n : Nat} {a0 : List Q} {ρ : Env'} : evT cf (n + 1) (.tup a0) ρ = ((ev cf n (.tup a0) ρ).bind fun sv ρ1 => lift (tru sv.d) ρ1) := rfl
theorem evT_lst {cf : Cf} {n : Nat} {a0 : List Q} {ρ : Env'} : evT cf (n + 1) (.lst a0) ρ = ((ev cf n (.lst a0) ρ).bind fun sv ρ1 => lift (tru sv.d) ρ1) := rfl
theorem evT_lmul {cf : Cf} {n : Nat} {a0 : List Q} {a1 : Q} {ρ : Env'} : evT cf (n + 1) (.lmul a0 a1) ρ = ((ev cf n (.lmul a0 a1) ρ).bind fun sv ρ1 => lift (tru sv.d) ρ1) := rfl
theorem evT_dic {cf : Cf} {n : Nat} {a0 : Bool} {ρ : Env'} : evT cf (n + 1) (.dic a0) ρ = ((ev cf n (.dic a0) ρ).bind fun sv ρ1 => lift (tru sv.d) ρ1) := rfl
theorem evT_dic1 {cf : Cf} {n : Nat} {a0 : Q} {a1 : Q} {ρ : Env'} : evT cf (n + 1) (.dic1 a0 a1) ρ = ((ev cf n (.dic1 a0 a1) ρ).bind fun sv ρ1 => lift (tru sv.d) ρ1) := rfl
theorem evT_bin {cf : Cf} {n : Nat} {a0 : Operator} {a1 : Q} {a2 : Q} {ρ : Env'} : evT cf (n + 1) (.bin a0 a1 a2) ρ = ((ev cf n (.bin a0 a1 a2) ρ).bind fun sv ρ1 => lift (tru sv.d) ρ1) := rfl
theorem evT_neg {cf : Cf} {n : Nat} {a0 : Q} {ρ : Env'} : evT cf (n + 1) (.neg a0) ρ = ((ev cf n (.neg a0) ρ).bind fun sv ρ1 => lift (tru sv.d) ρ1) := rfl
theorem evT_cmp {cf : Cf} {n : Nat} {a0 : CmpOp} {a1 : Q} {a2 : Q} {ρ : Env'} : evT cf (n + 1) (.cmp a0 a1 a2) ρ = ((ev cf n (.cmp a0 a1 a2) ρ).bind fun sv ρ1 => lift (tru sv.d) ρ1) := rfl
theorem evT_chain {cf : Cf} {n : Nat} {a0 : CmpOp} {a1 : CmpOp} {a2 : Q} {a3 : Q} {a4 : Q} {ρ : Env'} : evT cf (n + 1) (.chain a0 a1 a2 a3 a4) ρ = ((ev cf n (.chain a0 a1 a2 a3 a4) ρ).bind fun sv ρ1 => lift (tru sv.d) ρ1) := rfl
theorem evT_ite {cf : Cf} {n : Nat} {a0 : Q} {a1 : Q} {a2 : Q} {ρ : Env'} : evT cf (n + 1) (.ite a0 a1 a2) ρ = ((ev cf n (.ite a0 a1 a2) ρ).bind fun sv ρ1 => lift (tru sv.d) ρ1) := rfl
theorem evT_idx {cf : Cf} {n : Nat} {a0 : Q} {a1 : Q} {ρ : Env'} : evT cf (n + 1) (.idx a0 a1) ρ = ((ev cf n (.idx a0 a1) ρ).bind fun sv ρ1 => lift (tru sv.d) ρ1) := rfl
theorem evT_slc {cf : Cf} {n : Nat} {a0 : Q} {a1 : Option Q} {a2 : Option Q} {ρ : Env'} : evT cf (n + 1) (.slc a0 a1 a2) ρ = ((ev cf n (.slc a0 a1 a2) ρ).bind fun sv ρ1 => lift (tru sv.d) ρ1) := rfl
theorem evT_rev {cf : Cf} {n : Nat} {a0 : Q} {ρ : Env'} : evT cf (n + 1) (.rev a0) ρ = ((ev cf n (.rev a0) ρ).bind fun sv ρ1 => lift (tru sv.d) ρ1) := rfl
theorem evT_call {cf : Cf} {n : Nat} {a0 : Nat} {a1 : List Q} {ρ : Env'} : evT cf (n + 1) (.call a0 a1) ρ = ((ev cf n (.call a0 a1) ρ).bind fun sv ρ1 => lift (tru sv.d) ρ1) := rfl
theorem evT_callv {cf : Cf} {n : Nat} {a0 : Nat} {a1 : List Q} {ρ : Env'} : evT cf (n + 1) (.callv a0 a1) ρ = ((ev cf n (.callv a0 a1) ρ).bind fun sv ρ1 => lift (tru sv.d) ρ1) := rfl
theorem evT_bi {cf : Cf} {n : Nat} {a0 : BI} {a1 : List Q} {ρ : Env'} : evT cf (n + 1) (.bi a0 a1) ρ = ((ev cf n (.bi a0 a1) ρ).bind fun sv ρ1 => lift (tru sv.d) ρ1) := rfl
theorem evT_inst {cf : Cf} {n : Nat} {a0 : Q} {a1 : String} {ρ : Env'} : evT cf (n + 1) (.inst a0 a1) ρ = ((ev cf n (.inst a0 a1) ρ).bind fun sv ρ1 => lift (tru sv.d) ρ1) := rfl
theorem evT_get {cf : Cf} {n : Nat} {a0 : Q} {a1 : Q} {a2 : Q} {ρ : Env'} : evT cf (n + 1) (.get a0 a1 a2) ρ = ((ev cf n (.get a0 a1 a2) ρ).bind fun sv ρ1 => lift (tru sv.d) ρ1) := rfl
theorem evT_lrng {cf : Cf} {n : Nat} {a0 : Q} {ρ : Env'} : evT cf (n + 1) (.lrng a0) ρ = ((ev cf n (.lrng a0) ρ).bind fun sv ρ1 => lift (tru sv.d) ρ1) := rfl
theorem evT_dcp {cf : Cf} {n : Nat} {a0 : Q} {ρ : Env'} : evT cf (n + 1) (.dcp a0) ρ = ((ev cf n (.dcp a0) ρ).bind fun sv ρ1 => lift (tru sv.d) ρ1) := rfl
theorem evT_dprs {cf : Cf} {n : Nat} {a0 : Q} {ρ : Env'} : evT cf (n + 1) (.dprs a0) ρ = ((ev cf n (.dprs a0) ρ).bind fun sv ρ1 => lift (tru sv.d) ρ1) := rfl
theorem evT_lc {cf : Cf} {n : Nat} {a0 : List Nat} {a1 : Tg} {a2 : It} {a3 : Option Q} {a4 : Q} {ρ : Env'} : evT cf (n + 1) (.lc a0 a1 a2 a3 a4) ρ = ((ev cf n (.lc a0 a1 a2 a3 a4) ρ).bind fun sv ρ1 => lift (tru sv.d) ρ1) := rfl
theorem evT_lc2 {cf : Cf} {n : Nat} {a0 : List Nat} {a1 : List Nat} {a2 : Tg} {a3 : It} {a4 : Tg} {a5 : It} {a6 : Option Q} {a7 : Q} {ρ : Env'} : evT cf (n + 1) (.lc2 a0 a1 a2 a3 a4 a5 a6 a7) ρ = ((ev cf n (.lc2 a0 a1 a2 a3 a4 a5 a6 a7) ρ).bind fun sv ρ1 => lift (tru sv.d) ρ1) := rfl
theorem evT_lc3 {cf : Cf} {n : Nat} {a0 : List Nat} {a1 : List Nat} {a2 : List Nat} {a3 : Tg} {a4 : It} {a5 : Tg} {a6 : It} {a7 : Tg} {a8 : It} {a9 : Option Q} {a10 : Q} {ρ : Env'} : evT cf (n + 1) (.lc3 a0 a1 a2 a3 a4 a5 a6 a7 a8 a9 a10) ρ = ((ev cf n (.lc3 a0 a1 a2 a3 a4 a5 a6 a7 a8 a9 a10) ρ).bind fun sv ρ1 => lift (tru sv.d) ρ1) := rfl
theorem opd_var {f : Q → Env' → Res SV} {i : Nat} {ρ : Env'} : opd f (.var i) ρ = (match ρ[i]? with
    | some (some _) => .ok (.sl i) ρ
    | _ => .stuck) := rfl
theorem opd_cst {f : Q → Env' → Res SV} {a0 : D} {ρ : Env'} : opd f (.cst a0) ρ = ((f (.cst a0) ρ).bind fun sv ρ' => .ok (.dd sv.d) ρ') := rfl
theorem opd_glb {f : Q → Env' → Res SV} {a0 : Nat} {ρ : Env'} : opd f (.glb a0) ρ = ((f (.glb a0) ρ).bind fun sv ρ' => .ok (.dd sv.d) ρ') := rfl
theorem opd_fnv {f : Q → Env' → Res SV} {a0 : Nat} {ρ : Env'} : opd f (.fnv a0) ρ = ((f (.fnv a0) ρ).bind fun sv ρ' => .ok (.dd sv.d) ρ') := rfl
theorem opd_tup {f : Q → Env' → Res SV} {a0 : List Q} {ρ : Env'} : opd f (.tup a0) ρ = ((f (.tup a0) ρ).bind fun sv ρ' => .ok (.dd sv.d) ρ') := rfl
theorem opd_lst {f : Q → Env' → Res SV} {a0 : List Q} {ρ : Env'} : opd f (.lst a0) ρ = ((f (.lst a0) ρ).bind fun sv ρ' => .ok (.dd sv.d) ρ') := rfl
theorem opd_lmul {f : Q → Env' → Res SV} {a0 : List Q} {a1 : Q} {ρ : Env'} : opd f (.lmul a0 a1) ρ = ((f (.lmul a0 a1) ρ).bind fun sv ρ' => .ok (.dd sv.d) ρ') := rfl
theorem opd_dic {f : Q → Env' → Res SV} {a0 : Bool} {ρ : Env'} : opd f (.dic a0) ρ = ((f (.dic a0) ρ).bind fun sv ρ' => .ok (.dd sv.d) ρ') := rfl
theorem opd_dic1 {f : Q → Env' → Res SV} {a0 : Q} {a1 : Q} {ρ : Env'} : opd f (.dic1 a0 a1) ρ = ((f (.dic1 a0 a1) ρ).bind fun sv ρ' => .ok (.dd sv.d) ρ') := rfl
theorem opd_bin {f : Q → Env' → Res SV} {a0 : Operator} {a1 : Q} {a2 : Q} {ρ : Env'} : opd f (.bin a0 a1 a2) ρ = ((f (.bin a0 a1 a2) ρ).bind fun sv ρ' => .ok (.dd sv.d) ρ') := rfl
theorem opd_neg {f : Q → Env' → Res SV} {a0 : Q} {ρ : Env'} : opd f (.neg a0) ρ = ((f (.neg a0) ρ).bind fun sv ρ' => .ok (.dd sv.d) ρ') := rfl
theorem opd_cmp {f : Q → Env' → Res SV} {a0 : CmpOp} {a1 : Q} {a2 : Q} {ρ : Env'} : opd f (.cmp a0 a1 a2) ρ = ((f (.cmp a0 a1 a2) ρ).bind fun sv ρ' => .ok (.dd sv.d) ρ') := rfl
theorem opd_chain {f : Q → Env' → Res SV} {a0 : CmpOp} {a1 : CmpOp} {a2 : Q} {a3 : Q} {a4 : Q} {ρ : Env'} : opd f (.chain a0 a1 a2 a3 a4) ρ = ((f (.chain a0 a1 a2 a3 a4) ρ).bind fun sv ρ' => .ok (.dd sv.d) ρ') := rfl
theorem opd_and {f : Q → Env' → Res SV} {a0 : Q} {a1 : Q} {ρ : Env'} : opd f (.and a0 a1) ρ = ((f (.and a0 a1) ρ).bind fun sv ρ' => .ok (.dd sv.d) ρ') := rfl
theorem opd_or {f : Q → Env' → Res SV} {a0 : Q} {a1 : Q} {ρ : Env'} : opd f (.or a0 a1) ρ = ((f (.or a0 a1) ρ).bind fun sv ρ' => .ok (.dd sv.d) ρ') := rfl
theorem opd_not {f : Q → Env' → Res SV} {a0 : Q} {ρ : Env'} : opd f (.not a0) ρ = ((f (.not a0) ρ).bind fun sv ρ' => .ok (.dd sv.d) ρ') := rfl
theorem opd_ite {f : Q → Env' → Res SV} {a0 : Q} {a1 : Q} {a2 : Q} {ρ : Env'} : opd f (.ite a0 a1 a2) ρ = ((f (.ite a0 a1 a2) ρ).bind fun sv ρ' => .ok (.dd sv.d) ρ') := rfl
theorem opd_idx {f : Q → Env' → Res SV} {a0 : Q} {a1 : Q} {ρ : Env'} : opd f (.idx a0 a1) ρ = ((f (.idx a0 a1) ρ).bind fun sv ρ' => .ok (.dd sv.d) ρ') := rfl
theorem opd_slc {f : Q → Env' → Res SV} {a0 : Q} {a1 : Option Q} {a2 : Option Q} {ρ : Env'} : opd f (.slc a0 a1 a2) ρ = ((f (.slc a0 a1 a2) ρ).bind fun sv ρ' => .ok (.dd sv.d) ρ') := rfl
theorem opd_rev {f : Q → Env' → Res SV} {a0 : Q} {ρ : Env'} : opd f (.rev a0) ρ = ((f (.rev a0) ρ).bind fun sv ρ' => .ok (.dd sv.d) ρ') := rfl
theorem opd_call {f : Q → Env' → Res SV} {a0 : Nat} {a1 : List Q} {ρ : Env'} : opd f (.call a0 a1) ρ = ((f (.call a0 a1) ρ).bind fun sv ρ' => .ok (.dd sv.d) ρ') := rfl
theorem opd_callv {f : Q → Env' → Res SV} {a0 : Nat} {a1 : List Q} {ρ : Env'} : opd f (.callv a0 a1) ρ = ((f (.callv a0 a1) ρ).bind fun sv ρ' => .ok (.dd sv.d) ρ') := rfl
theorem opd_bi {f : Q → Env' → Res SV} {a0 : BI} {a1 : List Q} {ρ : Env'} : opd f (.bi a0 a1) ρ = ((f (.bi a0 a1) ρ).bind fun sv ρ' => .ok (.dd sv.d) ρ') := rfl
theorem opd_inst {f : Q → Env' → Res SV} {a0 : Q} {a1 : String} {ρ : Env'} : opd f (.inst a0 a1) ρ = ((f (.inst a0 a1) ρ).bind fun sv ρ' => .ok (.dd sv.d) ρ') := rfl
theorem opd_get {f : Q → Env' → Res SV} {a0 : Q} {a1 : Q} {a2 : Q} {ρ : Env'} : opd f (.get a0 a1 a2) ρ = ((f (.get a0 a1 a2) ρ).bind fun sv ρ' => .ok (.dd sv.d) ρ') := rfl
theorem opd_lrng {f : Q → Env' → Res SV} {a0 : Q} {ρ : Env'} : opd f (.lrng a0) ρ = ((f (.lrng a0) ρ).bind fun sv ρ' => .ok (.dd sv.d) ρ') := rfl
theorem opd_dcp {f : Q → Env' → Res SV} {a0 : Q} {ρ : Env'} : opd f (.dcp a0) ρ = ((f (.dcp a0) ρ).bind fun sv ρ' => .ok (.dd sv.d) ρ') := rfl
theorem opd_dprs {f : Q → Env' → Res SV} {a0 : Q} {ρ : Env'} : opd f (.dprs a0) ρ = ((f (.dprs a0) ρ).bind fun sv ρ' => .ok (.dd sv.d) ρ') := rfl
theorem opd_lc {f : Q → Env' → Res SV} {a0 : List Nat} {a1 : Tg} {a2 : It} {a3 : Option Q} {a4 : Q} {ρ : Env'} : opd f (.lc a0 a1 a2 a3 a4) ρ = ((f (.lc a0 a1 a2 a3 a4) ρ).bind fun sv ρ' => .ok (.dd sv.d) ρ') := rfl
theorem opd_lc2 {f : Q → Env' → Res SV} {a0 : List Nat} {a1 : List Nat} {a2 : Tg} {a3 : It} {a4 : Tg} {a5 : It} {a6 : Option Q} {a7 : Q} {ρ : Env'} : opd f (.lc2 a0 a1 a2 a3 a4 a5 a6 a7) ρ = ((f (.lc2 a0 a1 a2 a3 a4 a5 a6 a7) ρ).bind fun sv ρ' => .ok (.dd sv.d) ρ') := rfl
theorem opd_lc3 {f : Q → Env' → Res SV} {a0 : List Nat} {a1 : List Nat} {a2 : List Nat} {a3 : Tg} {a4 : It} {a5 : Tg} {a6 : It} {a7 : Tg} {a8 : It} {a9 : Option Q} {a10 : Q} {ρ : Env'} : opd f (.lc3 a0 a1 a2 a3 a4 a5 a6 a7 a8 a9 a10) ρ = ((f (.lc3 a0 a1 a2 a3 a4 a5 a6 a7 a8 a9 a10) ρ).bind fun sv ρ' => .ok (.dd sv.d) ρ') := rfl
theorem exS_set {cf : Cf} {n : Nat} {i : Nat} {q : Q} {ρ : Env'} : exS cf (n + 1) (.set i q) ρ = ((ev cf n q ρ).sb fun sv ρ1 => setS i sv ρ1) := rfl
theorem exS_unp {cf : Cf} {n : Nat} {ts : List Tg} {q : Q} {ρ : Env'} : exS cf (n + 1) (.unp ts q) ρ = ((ev cf n q ρ).sb fun sv ρ1 => unpS (.tup ts) sv.d ρ1) := rfl
theorem exS_par {cf : Cf} {n : Nat} {i : Nat} {j : Nat} {a : Q} {b : Q} {ρ : Env'} : exS cf (n + 1) (.par i j a b) ρ = ((ev cf n a ρ).sb fun sv ρ1 => (ev cf n b ρ1).sb fun sw ρ2 => (setS i (.dat sv.d) ρ2).sq fun ρ3 => setS j (.dat sw.d) ρ3) := rfl
theorem exS_parO {cf : Cf} {n : Nat} {k : Bool} {i : Nat} {j : Nat} {a : Q} {b : Q} {ρ : Env'} : exS cf (n + 1) (.parO k i j a b) ρ = ((ev cf n a ρ).sb fun sv ρ1 => (ev cf n b ρ1).sb fun sw ρ2 => (setS i (keepO k sv) ρ2).sq fun ρ3 => setS j sw ρ3) := rfl
theorem exS_store {cf : Cf} {n : Nat} {i : Nat} {k : Q} {v : Q} {ρ : Env'} : exS cf (n + 1) (.store i k v) ρ = ((ev cf n v ρ).sb fun sv ρ1 => if hasSlot ρ1 i = true then (ev cf n k ρ1).sb fun sk ρ2 => modS i (fun d => putAt d sk.d sv.d) ρ2 else .stuck) := rfl
theorem exS_app {cf : Cf} {n : Nat} {i : Nat} {q : Q} {ρ : Env'} : exS cf (n + 1) (.app i q) ρ = (if hasLst ρ i = true then (ev cf n q ρ).sb fun sv ρ1 => modS i (fun d => pushAt d sv.d) ρ1 else .stuck) := rfl
theorem exS_expr {cf : Cf} {n : Nat} {q : Q} {ρ : Env'} : exS cf (n + 1) (.expr q) ρ = ((ev cf n q ρ).sb fun _ ρ1 => .nx ρ1) := rfl
theorem exS_ifs {cf : Cf} {n : Nat} {c : Q} {a : List S} {b : List S} {ρ : Env'} : exS cf (n + 1) (.ifs c a b) ρ = ((evT cf n c ρ).sb fun t ρ1 => if t = true then exSs cf n a ρ1 else exSs cf n b ρ1) := rfl
theorem exS_for_ {cf : Cf} {n : Nat} {it : It} {body : List S} {ρ : Env'} : exS cf (n + 1) (.for_ T it body) ρ = ((evIt (ev cf n) it ρ).sb fun items ρ1 => forGo (exSs cf n body) T items ρ1) := rfl
theorem exS_whil {cf : Cf} {n : Nat} {m : Nat} {c : Q} {body : List S} {ρ : Env'} : exS cf (n + 1) (.whil m c body) ρ = (whGo (evT cf n c) (exSs cf n body) m ρ) := rfl
theorem exS_ret {cf : Cf} {n : Nat} {q : Q} {ρ : Env'} : exS cf (n + 1) (.ret q) ρ = ((ev cf n q ρ).sb fun sv ρ1 => .rt sv ρ1) := rfl
theorem exS_retv {cf : Cf} {n : Nat} {i : Nat} {ρ : Env'} : exS cf (n + 1) (.retv i) ρ = (retvS i ρ) := rfl
theorem exS_retN {cf : Cf} {n : Nat}  {ρ : Env'} : exS cf (n + 1) (.retN) ρ = (.rt (.dat .non) ρ) := rfl
theorem exS_brk {cf : Cf} {n : Nat}  {ρ : Env'} : exS cf (n + 1) (.brk) ρ = (.bk ρ) := rfl
theorem exS_cont {cf : Cf} {n : Nat}  {ρ : Env'} : exS cf (n + 1) (.cont) ρ = (.ct ρ) := rfl
theorem exS_pass {cf : Cf} {n : Nat}  {ρ : Env'} : exS cf (n + 1) (.pass) ρ = (.nx ρ) := rfl
theorem exS_never {cf : Cf} {n : Nat}  {ρ : Env'} : exS cf (n + 1) (.never) ρ = (.stuck) := rfl
theorem exSs_nil {cf : Cf} {n : Nat} {ρ : Env'} : exSs cf (n + 1) [] ρ = .nx ρ := rfl
theorem exSs_cons {cf : Cf} {n : Nat} {s : S} {ss : List S} {ρ : Env'} : exSs cf (n + 1) (s :: ss) ρ = (exS cf n s ρ).sq fun ρ1 => exSs cf n ss ρ1 := rfl
theorem part_none {cf : Cf} {n : Nat} {ρ : Env'} : part cf (n + 1) none ρ = .ok none ρ := rfl
theorem part_some {cf : Cf} {n : Nat} {q : Q} {ρ : Env'} : part cf (n + 1) (some q) ρ = ((ev cf n q ρ).bind fun sv ρ1 => (match sv.d with
    | .int i => .ok (some i) ρ1
    | _ => .stuck)) := rfl
end DL

namespace DL
open PySem PySem.Spec PyProof.Rows L2

/-! ### the decks that the laws draw from -/
def F_deck : Fd := ⟨2, 2, false, [.ifs (.cmp .GtE (.var 0) (.bin .Pow (.cst (.int 10)) (.cst (.int 18)))) [.ret (.lst [.bin .Sub (.var 0) (.bin .Pow (.cst (.int 10)) (.cst (.int 18))), .bin .Mod (.bi .int [.var 0]) (.cst (.int 2147483579)), .var 1])] [],
    .ret (.lst [.cst (.int 0), .bin .Mod (.bi .int [.var 0]) (.cst (.int 2147483579)), .var 1])]⟩
def F_pick : Fd := ⟨2, 4, true, [.ifs (.cmp .Gt (.idx (.var 0) (.cst (.int 0))) (.cst (.int 1))) [.set 2 (.bin .Mod (.bi .int [.idx (.var 0) (.cst (.int 0))]) (.var 1)),
    .store 0 (.cst (.int 0)) (.bin .FloorDiv (.idx (.var 0) (.cst (.int 0))) (.var 1)),
    .retv 2] [],
    .store 0 (.cst (.int 2)) (.bin .Add (.idx (.var 0) (.cst (.int 2))) (.cst (.int 1))),
    .set 3 (.bin .Mod (.bi .int [.bin .Pow (.bi .int [.bin .Add (.idx (.var 0) (.cst (.int 1))) (.bin .Mult (.cst (.int 15485867)) (.idx (.var 0) (.cst (.int 2))))]) (.cst (.int 5))]) (.cst (.int 2147483647))),
    .set 2 (.bin .FloorDiv (.bin .Mod (.bi .int [.bin .Pow (.bi .int [.bin .Add (.var 3) (.bin .Mult (.cst (.int 7919)) (.idx (.var 0) (.cst (.int 2))))]) (.cst (.int 3))]) (.cst (.int 2147483629))) (.cst (.int 32))),
    .ret (.bin .Mod (.bi .int [.var 2]) (.var 1))]⟩
def F_one (jp : Nat) : Fd := ⟨2, 2, true, [.ret (.idx (.var 1) (.call jp [.var 0, .bi .len [.var 1]]))]⟩
def F_rounding (jp : Nat) : Fd := ⟨1, 2, true, [.set 1 (.idx (.lst [.cst (.int 1), .cst (.int 2), .cst (.int 3), .cst (.int 4), .cst (.int 6), .cst (.int 8), .cst (.int 12)]) (.call jp [.var 0, .cst (.int 7)])),
    .ret (.tup [.var 1, .idx (.lst [.cst (.str "down"), .cst (.str "near"), .cst (.str "up")]) (.call jp [.var 0, .cst (.int 3)]), .call jp [.var 0, .var 1]])]⟩
def DeckOk (m : Nat) (d : D) : Prop := ∃ a b c : Int, d = .lst [.int a, .int b, .int c] ∧ (0 ≤ b ∧ b < 2147483579) ∧ 0 ≤ c ∧ c + m ≤ 1000000
theorem DeckOk.le {m n : Nat} {d : D} (h : DeckOk m d) (e : n ≤ m) : DeckOk n d := by
  obtain ⟨a, b, c, h1, h2, h3, h4⟩ := h
  exact ⟨a, b, c, h1, h2, h3, by omega⟩
section
variable {defs : Nat → Option Fd} {gv : Nat → Option D} {jp jd j1 jr : Nat}
theorem deck_ok (hd : defs jd = some F_deck) (k : Nat) (x t : Int) (m : Nat) (ht : 0 ≤ t ∧ t + m ≤ 1000000) : ∃ dk, semK defs gv 100 (k + 1) jd [.dat (.int x), .dat (.int t)] = .ok (.own dk) none ∧ DeckOk m dk := by
  by_cases hx : (1000000000000000000 : Int) ≤ x
  · refine ⟨.lst [.int (x - 1000000000000000000), .int (x.fmod 2147483579), .int t], ?_, _, _, _, rfl, ⟨Int.fmod_nonneg_of_pos _ (by decide), Int.fmod_lt_of_pos _ (by decide)⟩, ht⟩
    unfold semK
    rw [hd]
    simp [F_deck, exSs, exS, ev, evT, opd, opds, op2, vals, cont, conts, Res.bind, Res.sb, SRes.sq, lift, cmpP, binP, callP, tru, finF, endF, isLent, SV.d, hx, Z24]
  · refine ⟨.lst [.int 0, .int (x.fmod 2147483579), .int t], ?_, _, _, _, rfl, ⟨Int.fmod_nonneg_of_pos _ (by decide), Int.fmod_lt_of_pos _ (by decide)⟩, ht⟩
    unfold semK
    rw [hd]
    simp [F_deck, exSs, exS, ev, evT, opd, opds, op2, vals, cont, conts, Res.bind, Res.sb, SRes.sq, lift, cmpP, binP, callP, tru, finF, endF, isLent, SV.d, hx, Z24]
theorem t1 (b c : Int) (hb : 0 ≤ b ∧ b < 2147483579) (hc : 0 ≤ c) (hm : c ≤ 1000000) : (b + 15485867 * (c + 1)).natAbs < 18446744073709551616 := by omega
theorem t2 (y c : Int) (hb : 0 ≤ y ∧ y < 2147483647) (hc : 0 ≤ c) (hm : c ≤ 1000000) : (y + 7919 * (c + 1)).natAbs < 18446744073709551616 := by omega
theorem pick_ok (hp : defs jp = some F_pick) (k m : Nat) {dk : D} (h : DeckOk (m + 1) dk) {n : Int} (hn : 0 < n ∧ n < 1000000) :
    ∃ p dk', semK defs gv 100 (k + 1) jp [.bor dk, .dat (.int n)] = .ok (.dat (.int p)) (some dk') ∧ (0 ≤ p ∧ p < n) ∧ DeckOk m dk' := by
  obtain ⟨a, b, c, rfl, hb, hc, hm⟩ := h
  have h1 : n ≠ 0 := by omega
  have h2 : n.natAbs < 1073741824 := by omega
  have g1 := t1 b c hb hc (by omega)
  have g2 := fun y hy => t2 y c hy hc (by omega)
  by_cases ha : 1 < a
  · refine ⟨a.fmod n, .lst [.int (a.fdiv n), .int b, .int c], ?_, ⟨Int.fmod_nonneg_of_pos a hn.1, Int.fmod_lt_of_pos a hn.1⟩, _, _, _, rfl, hb, hc, by omega⟩
    unfold semK
    rw [hp]
    simp [F_pick, exSs, exS, ev, evT, opd, opds, op2, cont, conts, Res.bind, Res.sb, SRes.sq, lift, idxP, atI, cmpP, binP, callP, tru, setS, modS, putAt, hasSlot, retvS, finF, endF, backOf, isLent, SV.d, SV.lent, ixN, ha, h1, h2]
  · have q1 : 0 ≤ ((b + 15485867 * (c + 1)) ^ 5).fmod 2147483647 ∧ ((b + 15485867 * (c + 1)) ^ 5).fmod 2147483647 < 2147483647 := ⟨Int.fmod_nonneg_of_pos _ (by decide), Int.fmod_lt_of_pos _ (by decide)⟩
    have g3 := g2 _ q1
    clear q1 g2
    obtain ⟨p, hp'⟩ : ∃ p : Int, p = ((((((b + 15485867 * (c + 1)) ^ 5).fmod 2147483647 + 7919 * (c + 1)) ^ 3).fmod 2147483629).fdiv 32).fmod n := ⟨_, rfl⟩
    have hpn : 0 ≤ p ∧ p < n := by rw [hp']; exact ⟨Int.fmod_nonneg_of_pos _ hn.1, Int.fmod_lt_of_pos _ hn.1⟩
    refine ⟨p, .lst [.int a, .int b, .int (c + 1)], ?_, hpn, _, _, _, rfl, hb, by omega, by omega⟩
    unfold semK
    rw [hp]
    clear hpn
    simp [F_pick, exSs, exS, ev, evT, opd, opds, op2, cont, conts, Res.bind, Res.sb, SRes.sq, lift, idxP, atI, cmpP, binP, callP, tru, setS, modS, putAt, hasSlot, retvS, finF, endF, backOf, isLent, SV.d, SV.lent, ixN, ha, h1, h2, g1, g3]
    exact hp'.symm

/-- one of ds -/
theorem one_ok (hp : defs jp = some F_pick) (h1 : defs j1 = some (F_one jp)) (k m : Nat) {dk : D} (h : DeckOk (m + 1) dk) {ds : List D} (hn : 0 < ds.length ∧ ds.length < 1000000) :
    ∃ d dk', semK defs gv 100 (k + 2) j1 [.bor dk, .dat (.lst ds)] = .ok (.dat d) (some dk') ∧ d ∈ ds ∧ DeckOk m dk' := by
  obtain ⟨p, dk', e, hp2, ok⟩ := pick_ok (gv := gv) hp k m h (n := (ds.length : Int)) ⟨by omega, by omega⟩
  have hi : ixN ds.length p = some p.toNat := by unfold ixN; rw [if_pos hp2.1, if_pos hp2.2]
  have hl : p.toNat < ds.length := by omega
  refine ⟨ds[p.toNat], dk', ?_, List.getElem_mem hl, ok⟩
  unfold semK
  rw [h1]
  simp [F_one, exSs, exS, ev, evT, opd, opds, op2, cont, conts, Res.bind, Res.sb, SRes.sq, lift, idxP, atI, callP, finF, endF, backOf, isLent, SV.d, SV.lent, callR, lentOf, sharedSl, freezeSl, putBack, D.seq?, e, hp, F_pick, hi, hl]
theorem in3 {p : Int} (h : 0 ≤ p ∧ p < 3) : p = 0 ∨ p = 1 ∨ p = 2 := by omega
theorem in7 {p : Int} (h : 0 ≤ p ∧ p < 7) : p = 0 ∨ p = 1 ∨ p = 2 ∨ p = 3 ∨ p = 4 ∨ p = 5 ∨ p = 6 := by omega
/-- a rounding -/
def RoundOk (d : D) : Prop := ∃ (s : Int) (x : Str) (g : Int), d = .tup [.int s, .str x, .int g] ∧ s ∈ [(1 : Int), 2, 3, 4, 6, 8, 12] ∧ x ∈ [("down" : Str), "near", "up"] ∧ 0 ≤ g ∧ g < s
theorem rounding_ok (hp : defs jp = some F_pick) (hr : defs jr = some (F_rounding jp)) (k m : Nat) {dk : D} (h : DeckOk (m + 3) dk) :
    ∃ d dk', semK defs gv 100 (k + 2) jr [.bor dk] = .ok (.dat d) (some dk') ∧ RoundOk d ∧ DeckOk m dk' := by
  obtain ⟨p, dk1, e1, hp1, ok1⟩ := pick_ok (gv := gv) hp k (m + 2) h (n := 7) (by decide)
  obtain ⟨q, dk2, e2, hp2, ok2⟩ := pick_ok (gv := gv) hp k (m + 1) ok1 (n := 3) (by decide)
  have hs : ∃ s : Int, atI [D.int 1, D.int 2, D.int 3, D.int 4, D.int 6, D.int 8, D.int 12] p = some (.int s) ∧ s ∈ [(1 : Int), 2, 3, 4, 6, 8, 12] ∧ 0 < s ∧ s < 1000000 := by
    rcases in7 hp1 with rfl | rfl | rfl | rfl | rfl | rfl | rfl
    · exact ⟨1, rfl, by decide, by decide⟩
    · exact ⟨2, rfl, by decide, by decide⟩
    · exact ⟨3, rfl, by decide, by decide⟩
    · exact ⟨4, rfl, by decide, by decide⟩
    · exact ⟨6, rfl, by decide, by decide⟩
    · exact ⟨8, rfl, by decide, by decide⟩
    · exact ⟨12, rfl, by decide, by decide⟩
  have hx : ∃ x : Str, atI [D.str "down", D.str "near", D.str "up"] q = some (.str x) ∧ x ∈ [("down" : Str), "near", "up"] := by
    rcases in3 hp2 with rfl | rfl | rfl
    · exact ⟨"down", rfl, by simp⟩
    · exact ⟨"near", rfl, by simp⟩
    · exact ⟨"up", rfl, by simp⟩
  obtain ⟨s, es, ms, s0, s1⟩ := hs
  obtain ⟨x, ex, mx⟩ := hx
  obtain ⟨g, dk3, e3, hp3, ok3⟩ := pick_ok (gv := gv) hp k m ok2 (n := s) ⟨s0, s1⟩
  refine ⟨.tup [.int s, .str x, .int g], dk3, ?_, ⟨s, x, g, rfl, ms, mx, hp3⟩, ok3⟩
  unfold semK
  rw [hr]
  simp [F_rounding, exSs, exS, ev, evT, opd, opds, op2, vals, cont, conts, Res.bind, Res.sb, SRes.sq, lift, idxP, callP, setS, finF, endF, backOf, isLent, SV.d, SV.lent, callR, lentOf, sharedSl, freezeSl, putBack, e1, e2, e3, es, ex, hp, F_pick, Z24]
end
end DL

namespace DL
open PySem PySem.Spec PyProof.Rows L2

/-! ### equality -/
def shp : Nat → D → Bool
  | 0, _ => false
  | n + 1, d => match d with
    | .non => true
    | .bl _ => true
    | .int _ => true
    | .str x => PyData.strOk x
    | .tup ds => ds.all (shp n)
    | .ktup ds => ds.all (shp n)
    | .lst ds => ds.all (shp n)
    | _ => false
theorem shp_all {n : Nat} (ih : ∀ d : D, shp n d = true → d.py.canLay0 = true ∧ d.py.depth ≤ n) : ∀ ds : List D, ds.all (shp n) = true → PyData.canLayAll0 (pyL ds) = true ∧ PyData.depthAll (pyL ds) ≤ n
  | [], _ => ⟨rfl, Nat.zero_le _⟩
  | d :: ds, h => by
    rw [List.all_cons, Bool.and_eq_true] at h
    obtain ⟨h1, h2⟩ := ih d h.1
    obtain ⟨h3, h4⟩ := shp_all ih ds h.2
    unfold pyL PyData.canLayAll0 PyData.depthAll
    exact ⟨by rw [h1, h3]; rfl, Nat.max_le.mpr ⟨h2, h4⟩⟩
theorem shp_lay : ∀ (n : Nat) (d : D), shp n d = true → d.py.canLay0 = true ∧ d.py.depth ≤ n
  | 0, _, h => by cases h
  | n + 1, d, h => by
    cases d with
    | non => exact ⟨rfl, Nat.zero_le _⟩
    | bl b => exact ⟨rfl, Nat.zero_le _⟩
    | int i => exact ⟨rfl, Nat.zero_le _⟩
    | str x => exact ⟨h, Nat.zero_le _⟩
    | tup ds =>
      obtain ⟨h1, h2⟩ := shp_all (shp_lay n) ds h
      unfold D.py PyData.canLay0 PyData.depth
      exact ⟨h1, Nat.succ_le_succ h2⟩
    | ktup ds =>
      obtain ⟨h1, h2⟩ := shp_all (shp_lay n) ds h
      unfold D.py PyData.canLay0 PyData.depth
      exact ⟨h1, Nat.succ_le_succ h2⟩
    | lst ds =>
      obtain ⟨h1, h2⟩ := shp_all (shp_lay n) ds h
      unfold D.py PyData.canLay0 PyData.depth
      exact ⟨h1, Nat.succ_le_succ h2⟩
    | _ => cases h
theorem shp_ok {n : Nat} {d : D} (h : shp n d = true) (hn : n ≤ 64) : SeqAt.shaped d.py = true := by
  obtain ⟨h1, h2⟩ := shp_lay n d h
  unfold SeqAt.shaped
  rw [h1, Bool.true_and]
  exact decide_eq_true (Nat.le_trans h2 hn)
/-- the same -/
theorem eqD_self {n : Nat} {d : D} (h : shp n d = true) (hn : n ≤ 64 := by decide) : eqD d d = some true := by
  have s := shp_ok h hn
  unfold eqD
  rw [if_pos ⟨s, s⟩, SeqAt.eqv_refl d.py (SeqAt.canLay_of_shaped s)]
@[simp] theorem eqD_int (i j : Int) : eqD (.int i) (.int j) = some (decide (i = j)) := by
  unfold eqD
  rw [if_pos ⟨rfl, rfl⟩]
  show some (i == j) = _
  by_cases h : i = j <;> simp [h]
theorem sd1 : PyData.strOk "down" = true := by decide +kernel
theorem sd2 : PyData.strOk "near" = true := by decide +kernel
theorem sd3 : PyData.strOk "up" = true := by decide +kernel
@[simp] theorem e11 : eqD (.str "down") (.str "down") = some true := eqD_self (n := 1) sd1
@[simp] theorem e22 : eqD (.str "near") (.str "near") = some true := eqD_self (n := 1) sd2
@[simp] theorem e33 : eqD (.str "up") (.str "up") = some true := eqD_self (n := 1) sd3
theorem eqD_str {x y : Str} (hx : PyData.strOk x = true) (hy : PyData.strOk y = true) : eqD (.str x) (.str y) = some (x == y) := by
  unfold eqD
  rw [if_pos ⟨shp_ok (n := 1) (d := .str x) hx (by decide), shp_ok (n := 1) (d := .str y) hy (by decide)⟩]
  rfl
@[simp] theorem e12 : eqD (.str "down") (.str "near") = some false := by rw [eqD_str sd1 sd2]; decide +kernel
@[simp] theorem e13 : eqD (.str "down") (.str "up") = some false := by rw [eqD_str sd1 sd3]; decide +kernel
@[simp] theorem e21 : eqD (.str "near") (.str "down") = some false := by rw [eqD_str sd2 sd1]; decide +kernel
@[simp] theorem e23 : eqD (.str "near") (.str "up") = some false := by rw [eqD_str sd2 sd3]; decide +kernel
@[simp] theorem e31 : eqD (.str "up") (.str "down") = some false := by rw [eqD_str sd3 sd1]; decide +kernel
@[simp] theorem e32 : eqD (.str "up") (.str "near") = some false := by rw [eqD_str sd3 sd2]; decide +kernel

/-! ### roundings -/
inductive Side where
  | down | near | up
  deriving DecidableEq
def Side.s : Side → Str
  | .down => "down" | .near => "near" | .up => "up"
structure Rnd where
  st : Int
  sd : Side
  gr : Int
def Rnd.d (r : Rnd) : D := .tup [.int r.st, .str r.sd.s, .int r.gr]
def Rnd.ok (r : Rnd) : Prop := r.st ∈ [(1 : Int), 2, 3, 4, 6, 8, 12] ∧ 0 ≤ r.gr ∧ r.gr < r.st
theorem Rnd.ok.st {r : Rnd} (h : r.ok) : 1 ≤ r.st ∧ r.st ≤ 12 := by
  have := h.1
  simp only [List.mem_cons, List.not_mem_nil, or_false] at this
  omega
/-- the time that counts for a punch in, out -/
def cameI (r : Rnd) (t : Int) : Int := let q := t.fmod r.st; if q ≤ r.gr ∨ r.sd = .down ∨ (r.sd = .near ∧ 2 * q < r.st) then t - q else t - q + r.st
def wentI (r : Rnd) (t : Int) : Int := let q := (0 - t).fmod r.st; if q ≤ r.gr ∨ r.sd = .up ∨ (r.sd = .near ∧ 2 * q ≤ r.st) then t + q else t + q - r.st
theorem came_ok (k : Nat) {r : Rnd} (h : r.ok) (t : Int) : semK glob gvG 100 (k + 1) 18 [.dat r.d, .dat (.int t)] = .ok (.dat (.int (cameI r t))) none := by
  have hs : r.st ≠ 0 := by have := h.st; omega
  have h2 : r.st < 18446744073709551616 := by have := h.st; omega
  rw [semK_eq g_came]
  obtain ⟨s, x, g⟩ := r
  simp only at hs h2
  generalize e : t.fmod s = q
  cases x
  · simp [ev_var, ev_cst, ev_glb, ev_fnv, ev_tup, ev_lst, ev_lmul, ev_dic_false, ev_dic_true, ev_dic1, ev_bin, ev_neg, ev_cmp, ev_chain, ev_and, ev_or, ev_not, ev_ite, ev_idx, ev_slc, ev_rev, ev_call, ev_callv, ev_bi, ev_inst, ev_get, ev_lrng, ev_dcp, ev_dprs, ev_lc, ev_lc2, ev_lc3, evT_and, evT_or, evT_not, evT_var, evT_cst, evT_glb, evT_fnv, evT_tup, evT_lst, evT_lmul, evT_dic, evT_dic1, evT_bin, evT_neg, evT_cmp, evT_chain, evT_ite, evT_idx, evT_slc, evT_rev, evT_call, evT_callv, evT_bi, evT_inst, evT_get, evT_lrng, evT_dcp, evT_dprs, evT_lc, evT_lc2, evT_lc3, opd_var, opd_cst, opd_glb, opd_fnv, opd_tup, opd_lst, opd_lmul, opd_dic, opd_dic1, opd_bin, opd_neg, opd_cmp, opd_chain, opd_and, opd_or, opd_not, opd_ite, opd_idx, opd_slc, opd_rev, opd_call, opd_callv, opd_bi, opd_inst, opd_get, opd_lrng, opd_dcp, opd_dprs, opd_lc, opd_lc2, opd_lc3, exS_set, exS_unp, exS_par, exS_parO, exS_store, exS_app, exS_expr, exS_ifs, exS_for_, exS_whil, exS_ret, exS_retv, exS_retN, exS_brk, exS_cont, exS_pass, exS_never, exSs_nil, exSs_cons, part_none, part_some, evIt, opds, vals, op2, cont, conts, Res.bind, Res.bindN, Res.sb, SRes.sq, lift, cmpP, binP, idxP, callP, finF, endF, backOf, isLent, SV.d, SV.lent, callR, lentOf, sharedSl, shLst, freezeSl, putBack, D.flat, tru, unpS, asg_tup, asg_ktup, asg_lst, asgs_cons, asgs_nil, setS_eq, asg_nm, free_none, free_dat, free_own, D.seq?, Z24, hasSlot, hasLst, modS, putAt, pushAt, retvS, lcFin, testO, DL.isP, keepO, List.replicate, F_came, Rnd.d, Side.s, hs, e, cameI]
  · by_cases h1 : q ≤ g <;> by_cases h3 : 2 * q < s <;> simp [ev_var, ev_cst, ev_glb, ev_fnv, ev_tup, ev_lst, ev_lmul, ev_dic_false, ev_dic_true, ev_dic1, ev_bin, ev_neg, ev_cmp, ev_chain, ev_and, ev_or, ev_not, ev_ite, ev_idx, ev_slc, ev_rev, ev_call, ev_callv, ev_bi, ev_inst, ev_get, ev_lrng, ev_dcp, ev_dprs, ev_lc, ev_lc2, ev_lc3, evT_and, evT_or, evT_not, evT_var, evT_cst, evT_glb, evT_fnv, evT_tup, evT_lst, evT_lmul, evT_dic, evT_dic1, evT_bin, evT_neg, evT_cmp, evT_chain, evT_ite, evT_idx, evT_slc, evT_rev, evT_call, evT_callv, evT_bi, evT_inst, evT_get, evT_lrng, evT_dcp, evT_dprs, evT_lc, evT_lc2, evT_lc3, opd_var, opd_cst, opd_glb, opd_fnv, opd_tup, opd_lst, opd_lmul, opd_dic, opd_dic1, opd_bin, opd_neg, opd_cmp, opd_chain, opd_and, opd_or, opd_not, opd_ite, opd_idx, opd_slc, opd_rev, opd_call, opd_callv, opd_bi, opd_inst, opd_get, opd_lrng, opd_dcp, opd_dprs, opd_lc, opd_lc2, opd_lc3, exS_set, exS_unp, exS_par, exS_parO, exS_store, exS_app, exS_expr, exS_ifs, exS_for_, exS_whil, exS_ret, exS_retv, exS_retN, exS_brk, exS_cont, exS_pass, exS_never, exSs_nil, exSs_cons, part_none, part_some, evIt, opds, vals, op2, cont, conts, Res.bind, Res.bindN, Res.sb, SRes.sq, lift, cmpP, binP, idxP, callP, finF, endF, backOf, isLent, SV.d, SV.lent, callR, lentOf, sharedSl, shLst, freezeSl, putBack, D.flat, tru, unpS, asg_tup, asg_ktup, asg_lst, asgs_cons, asgs_nil, setS_eq, asg_nm, free_none, free_dat, free_own, D.seq?, Z24, hasSlot, hasLst, modS, putAt, pushAt, retvS, lcFin, testO, DL.isP, keepO, List.replicate, F_came, Rnd.d, Side.s, hs, e, cameI, h1, h3]
  · by_cases h1 : q ≤ g <;> simp [ev_var, ev_cst, ev_glb, ev_fnv, ev_tup, ev_lst, ev_lmul, ev_dic_false, ev_dic_true, ev_dic1, ev_bin, ev_neg, ev_cmp, ev_chain, ev_and, ev_or, ev_not, ev_ite, ev_idx, ev_slc, ev_rev, ev_call, ev_callv, ev_bi, ev_inst, ev_get, ev_lrng, ev_dcp, ev_dprs, ev_lc, ev_lc2, ev_lc3, evT_and, evT_or, evT_not, evT_var, evT_cst, evT_glb, evT_fnv, evT_tup, evT_lst, evT_lmul, evT_dic, evT_dic1, evT_bin, evT_neg, evT_cmp, evT_chain, evT_ite, evT_idx, evT_slc, evT_rev, evT_call, evT_callv, evT_bi, evT_inst, evT_get, evT_lrng, evT_dcp, evT_dprs, evT_lc, evT_lc2, evT_lc3, opd_var, opd_cst, opd_glb, opd_fnv, opd_tup, opd_lst, opd_lmul, opd_dic, opd_dic1, opd_bin, opd_neg, opd_cmp, opd_chain, opd_and, opd_or, opd_not, opd_ite, opd_idx, opd_slc, opd_rev, opd_call, opd_callv, opd_bi, opd_inst, opd_get, opd_lrng, opd_dcp, opd_dprs, opd_lc, opd_lc2, opd_lc3, exS_set, exS_unp, exS_par, exS_parO, exS_store, exS_app, exS_expr, exS_ifs, exS_for_, exS_whil, exS_ret, exS_retv, exS_retN, exS_brk, exS_cont, exS_pass, exS_never, exSs_nil, exSs_cons, part_none, part_some, evIt, opds, vals, op2, cont, conts, Res.bind, Res.bindN, Res.sb, SRes.sq, lift, cmpP, binP, idxP, callP, finF, endF, backOf, isLent, SV.d, SV.lent, callR, lentOf, sharedSl, shLst, freezeSl, putBack, D.flat, tru, unpS, asg_tup, asg_ktup, asg_lst, asgs_cons, asgs_nil, setS_eq, asg_nm, free_none, free_dat, free_own, D.seq?, Z24, hasSlot, hasLst, modS, putAt, pushAt, retvS, lcFin, testO, DL.isP, keepO, List.replicate, F_came, Rnd.d, Side.s, hs, e, cameI, h1]
theorem went_ok (k : Nat) {r : Rnd} (h : r.ok) (t : Int) : semK glob gvG 100 (k + 1) 19 [.dat r.d, .dat (.int t)] = .ok (.dat (.int (wentI r t))) none := by
  have hs : r.st ≠ 0 := by have := h.st; omega
  rw [semK_eq g_went]
  obtain ⟨s, x, g⟩ := r
  simp only at hs
  generalize e : (0 - t).fmod s = q
  have e' : (-t).fmod s = q := by rw [← e, Int.zero_sub]
  cases x
  · by_cases h1 : q ≤ g <;> simp [ev_var, ev_cst, ev_glb, ev_fnv, ev_tup, ev_lst, ev_lmul, ev_dic_false, ev_dic_true, ev_dic1, ev_bin, ev_neg, ev_cmp, ev_chain, ev_and, ev_or, ev_not, ev_ite, ev_idx, ev_slc, ev_rev, ev_call, ev_callv, ev_bi, ev_inst, ev_get, ev_lrng, ev_dcp, ev_dprs, ev_lc, ev_lc2, ev_lc3, evT_and, evT_or, evT_not, evT_var, evT_cst, evT_glb, evT_fnv, evT_tup, evT_lst, evT_lmul, evT_dic, evT_dic1, evT_bin, evT_neg, evT_cmp, evT_chain, evT_ite, evT_idx, evT_slc, evT_rev, evT_call, evT_callv, evT_bi, evT_inst, evT_get, evT_lrng, evT_dcp, evT_dprs, evT_lc, evT_lc2, evT_lc3, opd_var, opd_cst, opd_glb, opd_fnv, opd_tup, opd_lst, opd_lmul, opd_dic, opd_dic1, opd_bin, opd_neg, opd_cmp, opd_chain, opd_and, opd_or, opd_not, opd_ite, opd_idx, opd_slc, opd_rev, opd_call, opd_callv, opd_bi, opd_inst, opd_get, opd_lrng, opd_dcp, opd_dprs, opd_lc, opd_lc2, opd_lc3, exS_set, exS_unp, exS_par, exS_parO, exS_store, exS_app, exS_expr, exS_ifs, exS_for_, exS_whil, exS_ret, exS_retv, exS_retN, exS_brk, exS_cont, exS_pass, exS_never, exSs_nil, exSs_cons, part_none, part_some, evIt, opds, vals, op2, cont, conts, Res.bind, Res.bindN, Res.sb, SRes.sq, lift, cmpP, binP, idxP, callP, finF, endF, backOf, isLent, SV.d, SV.lent, callR, lentOf, sharedSl, shLst, freezeSl, putBack, D.flat, tru, unpS, asg_tup, asg_ktup, asg_lst, asgs_cons, asgs_nil, setS_eq, asg_nm, free_none, free_dat, free_own, D.seq?, Z24, hasSlot, hasLst, modS, putAt, pushAt, retvS, lcFin, testO, DL.isP, keepO, List.replicate, F_went, Rnd.d, Side.s, hs, e, e', wentI, h1]
  · by_cases h1 : q ≤ g <;> by_cases h3 : 2 * q ≤ s <;> simp [ev_var, ev_cst, ev_glb, ev_fnv, ev_tup, ev_lst, ev_lmul, ev_dic_false, ev_dic_true, ev_dic1, ev_bin, ev_neg, ev_cmp, ev_chain, ev_and, ev_or, ev_not, ev_ite, ev_idx, ev_slc, ev_rev, ev_call, ev_callv, ev_bi, ev_inst, ev_get, ev_lrng, ev_dcp, ev_dprs, ev_lc, ev_lc2, ev_lc3, evT_and, evT_or, evT_not, evT_var, evT_cst, evT_glb, evT_fnv, evT_tup, evT_lst, evT_lmul, evT_dic, evT_dic1, evT_bin, evT_neg, evT_cmp, evT_chain, evT_ite, evT_idx, evT_slc, evT_rev, evT_call, evT_callv, evT_bi, evT_inst, evT_get, evT_lrng, evT_dcp, evT_dprs, evT_lc, evT_lc2, evT_lc3, opd_var, opd_cst, opd_glb, opd_fnv, opd_tup, opd_lst, opd_lmul, opd_dic, opd_dic1, opd_bin, opd_neg, opd_cmp, opd_chain, opd_and, opd_or, opd_not, opd_ite, opd_idx, opd_slc, opd_rev, opd_call, opd_callv, opd_bi, opd_inst, opd_get, opd_lrng, opd_dcp, opd_dprs, opd_lc, opd_lc2, opd_lc3, exS_set, exS_unp, exS_par, exS_parO, exS_store, exS_app, exS_expr, exS_ifs, exS_for_, exS_whil, exS_ret, exS_retv, exS_retN, exS_brk, exS_cont, exS_pass, exS_never, exSs_nil, exSs_cons, part_none, part_some, evIt, opds, vals, op2, cont, conts, Res.bind, Res.bindN, Res.sb, SRes.sq, lift, cmpP, binP, idxP, callP, finF, endF, backOf, isLent, SV.d, SV.lent, callR, lentOf, sharedSl, shLst, freezeSl, putBack, D.flat, tru, unpS, asg_tup, asg_ktup, asg_lst, asgs_cons, asgs_nil, setS_eq, asg_nm, free_none, free_dat, free_own, D.seq?, Z24, hasSlot, hasLst, modS, putAt, pushAt, retvS, lcFin, testO, DL.isP, keepO, List.replicate, F_went, Rnd.d, Side.s, hs, e, e', wentI, h1, h3]
  · simp [ev_var, ev_cst, ev_glb, ev_fnv, ev_tup, ev_lst, ev_lmul, ev_dic_false, ev_dic_true, ev_dic1, ev_bin, ev_neg, ev_cmp, ev_chain, ev_and, ev_or, ev_not, ev_ite, ev_idx, ev_slc, ev_rev, ev_call, ev_callv, ev_bi, ev_inst, ev_get, ev_lrng, ev_dcp, ev_dprs, ev_lc, ev_lc2, ev_lc3, evT_and, evT_or, evT_not, evT_var, evT_cst, evT_glb, evT_fnv, evT_tup, evT_lst, evT_lmul, evT_dic, evT_dic1, evT_bin, evT_neg, evT_cmp, evT_chain, evT_ite, evT_idx, evT_slc, evT_rev, evT_call, evT_callv, evT_bi, evT_inst, evT_get, evT_lrng, evT_dcp, evT_dprs, evT_lc, evT_lc2, evT_lc3, opd_var, opd_cst, opd_glb, opd_fnv, opd_tup, opd_lst, opd_lmul, opd_dic, opd_dic1, opd_bin, opd_neg, opd_cmp, opd_chain, opd_and, opd_or, opd_not, opd_ite, opd_idx, opd_slc, opd_rev, opd_call, opd_callv, opd_bi, opd_inst, opd_get, opd_lrng, opd_dcp, opd_dprs, opd_lc, opd_lc2, opd_lc3, exS_set, exS_unp, exS_par, exS_parO, exS_store, exS_app, exS_expr, exS_ifs, exS_for_, exS_whil, exS_ret, exS_retv, exS_retN, exS_brk, exS_cont, exS_pass, exS_never, exSs_nil, exSs_cons, part_none, part_some, evIt, opds, vals, op2, cont, conts, Res.bind, Res.bindN, Res.sb, SRes.sq, lift, cmpP, binP, idxP, callP, finF, endF, backOf, isLent, SV.d, SV.lent, callR, lentOf, sharedSl, shLst, freezeSl, putBack, D.flat, tru, unpS, asg_tup, asg_ktup, asg_lst, asgs_cons, asgs_nil, setS_eq, asg_nm, free_none, free_dat, free_own, D.seq?, Z24, hasSlot, hasLst, modS, putAt, pushAt, retvS, lcFin, testO, DL.isP, keepO, List.replicate, F_went, Rnd.d, Side.s, hs, e, e', wentI]
theorem fmod_neg {r : Rnd} (h : r.ok) (t : Int) : (0 - t).fmod r.st = if t.fmod r.st = 0 then 0 else r.st - t.fmod r.st := by
  have h1 := h.1
  generalize r.st = s at h1
  simp only [List.mem_cons, List.not_mem_nil, or_false] at h1
  rcases h1 with rfl | rfl | rfl | rfl | rfl | rfl | rfl <;> (rw [Int.fmod_eq_emod_of_nonneg _ (by decide), Int.fmod_eq_emod_of_nonneg _ (by decide)]; split <;> omega)
theorem fmod_range {r : Rnd} (h : r.ok) (t : Int) : 0 ≤ t.fmod r.st ∧ t.fmod r.st < r.st := by
  have := h.st
  exact ⟨Int.fmod_nonneg_of_pos _ (by omega), Int.fmod_lt_of_pos _ (by omega)⟩
theorem punch_in (k : Nat) {r : Rnd} (h : r.ok) (t : Int) : semK glob gvG 100 (k + 1) 26 [.dat r.d, .dat (.int t), .dat (.bl true)] = .ok (.dat (.int (cameI r t))) none := by
  have hs : r.st ≠ 0 := by have := h.st; omega
  have hq := fmod_range h t
  have hg := h.2
  rw [semK_eq g__law_punch]
  obtain ⟨s, x, g⟩ := r
  simp only at hs hq hg
  generalize e : t.fmod s = q at hq
  have e1 : t - (t - q) = q := by omega
  have e2 : (t - q = t) = (q = 0) := propext (by omega)
  by_cases h0 : q = 0
  · subst h0
    have : (0 : Int) ≤ g := hg.1
    cases x <;> simp [ev_var, ev_cst, ev_glb, ev_fnv, ev_tup, ev_lst, ev_lmul, ev_dic_false, ev_dic_true, ev_dic1, ev_bin, ev_neg, ev_cmp, ev_chain, ev_and, ev_or, ev_not, ev_ite, ev_idx, ev_slc, ev_rev, ev_call, ev_callv, ev_bi, ev_inst, ev_get, ev_lrng, ev_dcp, ev_dprs, ev_lc, ev_lc2, ev_lc3, evT_and, evT_or, evT_not, evT_var, evT_cst, evT_glb, evT_fnv, evT_tup, evT_lst, evT_lmul, evT_dic, evT_dic1, evT_bin, evT_neg, evT_cmp, evT_chain, evT_ite, evT_idx, evT_slc, evT_rev, evT_call, evT_callv, evT_bi, evT_inst, evT_get, evT_lrng, evT_dcp, evT_dprs, evT_lc, evT_lc2, evT_lc3, opd_var, opd_cst, opd_glb, opd_fnv, opd_tup, opd_lst, opd_lmul, opd_dic, opd_dic1, opd_bin, opd_neg, opd_cmp, opd_chain, opd_and, opd_or, opd_not, opd_ite, opd_idx, opd_slc, opd_rev, opd_call, opd_callv, opd_bi, opd_inst, opd_get, opd_lrng, opd_dcp, opd_dprs, opd_lc, opd_lc2, opd_lc3, exS_set, exS_unp, exS_par, exS_parO, exS_store, exS_app, exS_expr, exS_ifs, exS_for_, exS_whil, exS_ret, exS_retv, exS_retN, exS_brk, exS_cont, exS_pass, exS_never, exSs_nil, exSs_cons, part_none, part_some, evIt, opds, vals, op2, cont, conts, Res.bind, Res.bindN, Res.sb, SRes.sq, lift, cmpP, binP, idxP, callP, finF, endF, backOf, isLent, SV.d, SV.lent, callR, lentOf, sharedSl, shLst, freezeSl, putBack, D.flat, tru, unpS, asg_tup, asg_ktup, asg_lst, asgs_cons, asgs_nil, setS_eq, asg_nm, free_none, free_dat, free_own, D.seq?, Z24, hasSlot, hasLst, modS, putAt, pushAt, retvS, lcFin, testO, DL.isP, keepO, List.replicate, F__law_punch, Rnd.d, Side.s, hs, e, cameI, this]
  · have e3 : (q < t - q + s - t) = (2 * q < s) := propext (by omega)
    cases x
    · by_cases h1 : q ≤ g <;> simp [ev_var, ev_cst, ev_glb, ev_fnv, ev_tup, ev_lst, ev_lmul, ev_dic_false, ev_dic_true, ev_dic1, ev_bin, ev_neg, ev_cmp, ev_chain, ev_and, ev_or, ev_not, ev_ite, ev_idx, ev_slc, ev_rev, ev_call, ev_callv, ev_bi, ev_inst, ev_get, ev_lrng, ev_dcp, ev_dprs, ev_lc, ev_lc2, ev_lc3, evT_and, evT_or, evT_not, evT_var, evT_cst, evT_glb, evT_fnv, evT_tup, evT_lst, evT_lmul, evT_dic, evT_dic1, evT_bin, evT_neg, evT_cmp, evT_chain, evT_ite, evT_idx, evT_slc, evT_rev, evT_call, evT_callv, evT_bi, evT_inst, evT_get, evT_lrng, evT_dcp, evT_dprs, evT_lc, evT_lc2, evT_lc3, opd_var, opd_cst, opd_glb, opd_fnv, opd_tup, opd_lst, opd_lmul, opd_dic, opd_dic1, opd_bin, opd_neg, opd_cmp, opd_chain, opd_and, opd_or, opd_not, opd_ite, opd_idx, opd_slc, opd_rev, opd_call, opd_callv, opd_bi, opd_inst, opd_get, opd_lrng, opd_dcp, opd_dprs, opd_lc, opd_lc2, opd_lc3, exS_set, exS_unp, exS_par, exS_parO, exS_store, exS_app, exS_expr, exS_ifs, exS_for_, exS_whil, exS_ret, exS_retv, exS_retN, exS_brk, exS_cont, exS_pass, exS_never, exSs_nil, exSs_cons, part_none, part_some, evIt, opds, vals, op2, cont, conts, Res.bind, Res.bindN, Res.sb, SRes.sq, lift, cmpP, binP, idxP, callP, finF, endF, backOf, isLent, SV.d, SV.lent, callR, lentOf, sharedSl, shLst, freezeSl, putBack, D.flat, tru, unpS, asg_tup, asg_ktup, asg_lst, asgs_cons, asgs_nil, setS_eq, asg_nm, free_none, free_dat, free_own, D.seq?, Z24, hasSlot, hasLst, modS, putAt, pushAt, retvS, lcFin, testO, DL.isP, keepO, List.replicate, F__law_punch, Rnd.d, Side.s, hs, e, cameI, e1, e2, e3, h0, h1]
    · by_cases h1 : q ≤ g <;> by_cases h3 : 2 * q < s <;> simp [ev_var, ev_cst, ev_glb, ev_fnv, ev_tup, ev_lst, ev_lmul, ev_dic_false, ev_dic_true, ev_dic1, ev_bin, ev_neg, ev_cmp, ev_chain, ev_and, ev_or, ev_not, ev_ite, ev_idx, ev_slc, ev_rev, ev_call, ev_callv, ev_bi, ev_inst, ev_get, ev_lrng, ev_dcp, ev_dprs, ev_lc, ev_lc2, ev_lc3, evT_and, evT_or, evT_not, evT_var, evT_cst, evT_glb, evT_fnv, evT_tup, evT_lst, evT_lmul, evT_dic, evT_dic1, evT_bin, evT_neg, evT_cmp, evT_chain, evT_ite, evT_idx, evT_slc, evT_rev, evT_call, evT_callv, evT_bi, evT_inst, evT_get, evT_lrng, evT_dcp, evT_dprs, evT_lc, evT_lc2, evT_lc3, opd_var, opd_cst, opd_glb, opd_fnv, opd_tup, opd_lst, opd_lmul, opd_dic, opd_dic1, opd_bin, opd_neg, opd_cmp, opd_chain, opd_and, opd_or, opd_not, opd_ite, opd_idx, opd_slc, opd_rev, opd_call, opd_callv, opd_bi, opd_inst, opd_get, opd_lrng, opd_dcp, opd_dprs, opd_lc, opd_lc2, opd_lc3, exS_set, exS_unp, exS_par, exS_parO, exS_store, exS_app, exS_expr, exS_ifs, exS_for_, exS_whil, exS_ret, exS_retv, exS_retN, exS_brk, exS_cont, exS_pass, exS_never, exSs_nil, exSs_cons, part_none, part_some, evIt, opds, vals, op2, cont, conts, Res.bind, Res.bindN, Res.sb, SRes.sq, lift, cmpP, binP, idxP, callP, finF, endF, backOf, isLent, SV.d, SV.lent, callR, lentOf, sharedSl, shLst, freezeSl, putBack, D.flat, tru, unpS, asg_tup, asg_ktup, asg_lst, asgs_cons, asgs_nil, setS_eq, asg_nm, free_none, free_dat, free_own, D.seq?, Z24, hasSlot, hasLst, modS, putAt, pushAt, retvS, lcFin, testO, DL.isP, keepO, List.replicate, F__law_punch, Rnd.d, Side.s, hs, e, cameI, e1, e2, e3, h0, h1, h3]
    · by_cases h1 : q ≤ g <;> simp [ev_var, ev_cst, ev_glb, ev_fnv, ev_tup, ev_lst, ev_lmul, ev_dic_false, ev_dic_true, ev_dic1, ev_bin, ev_neg, ev_cmp, ev_chain, ev_and, ev_or, ev_not, ev_ite, ev_idx, ev_slc, ev_rev, ev_call, ev_callv, ev_bi, ev_inst, ev_get, ev_lrng, ev_dcp, ev_dprs, ev_lc, ev_lc2, ev_lc3, evT_and, evT_or, evT_not, evT_var, evT_cst, evT_glb, evT_fnv, evT_tup, evT_lst, evT_lmul, evT_dic, evT_dic1, evT_bin, evT_neg, evT_cmp, evT_chain, evT_ite, evT_idx, evT_slc, evT_rev, evT_call, evT_callv, evT_bi, evT_inst, evT_get, evT_lrng, evT_dcp, evT_dprs, evT_lc, evT_lc2, evT_lc3, opd_var, opd_cst, opd_glb, opd_fnv, opd_tup, opd_lst, opd_lmul, opd_dic, opd_dic1, opd_bin, opd_neg, opd_cmp, opd_chain, opd_and, opd_or, opd_not, opd_ite, opd_idx, opd_slc, opd_rev, opd_call, opd_callv, opd_bi, opd_inst, opd_get, opd_lrng, opd_dcp, opd_dprs, opd_lc, opd_lc2, opd_lc3, exS_set, exS_unp, exS_par, exS_parO, exS_store, exS_app, exS_expr, exS_ifs, exS_for_, exS_whil, exS_ret, exS_retv, exS_retN, exS_brk, exS_cont, exS_pass, exS_never, exSs_nil, exSs_cons, part_none, part_some, evIt, opds, vals, op2, cont, conts, Res.bind, Res.bindN, Res.sb, SRes.sq, lift, cmpP, binP, idxP, callP, finF, endF, backOf, isLent, SV.d, SV.lent, callR, lentOf, sharedSl, shLst, freezeSl, putBack, D.flat, tru, unpS, asg_tup, asg_ktup, asg_lst, asgs_cons, asgs_nil, setS_eq, asg_nm, free_none, free_dat, free_own, D.seq?, Z24, hasSlot, hasLst, modS, putAt, pushAt, retvS, lcFin, testO, DL.isP, keepO, List.replicate, F__law_punch, Rnd.d, Side.s, hs, e, cameI, e1, e2, e3, h0, h1]
theorem punch_out (k : Nat) {r : Rnd} (h : r.ok) (t : Int) : semK glob gvG 100 (k + 1) 26 [.dat r.d, .dat (.int t), .dat (.bl false)] = .ok (.dat (.int (wentI r t))) none := by
  have hs : r.st ≠ 0 := by have := h.st; omega
  have hq := fmod_range h t
  have hg := h.2
  have hn := fmod_neg h t
  rw [semK_eq g__law_punch]
  obtain ⟨s, x, g⟩ := r
  simp only at hs hq hg hn
  unfold wentI
  simp only [hn]
  clear hn
  generalize e : t.fmod s = q at hq
  have e1 : t - (t - q) = q := by omega
  have e2 : (t - q = t) = (q = 0) := propext (by omega)
  by_cases h0 : q = 0
  · subst h0
    have : (0 : Int) ≤ g := hg.1
    cases x <;> simp [ev_var, ev_cst, ev_glb, ev_fnv, ev_tup, ev_lst, ev_lmul, ev_dic_false, ev_dic_true, ev_dic1, ev_bin, ev_neg, ev_cmp, ev_chain, ev_and, ev_or, ev_not, ev_ite, ev_idx, ev_slc, ev_rev, ev_call, ev_callv, ev_bi, ev_inst, ev_get, ev_lrng, ev_dcp, ev_dprs, ev_lc, ev_lc2, ev_lc3, evT_and, evT_or, evT_not, evT_var, evT_cst, evT_glb, evT_fnv, evT_tup, evT_lst, evT_lmul, evT_dic, evT_dic1, evT_bin, evT_neg, evT_cmp, evT_chain, evT_ite, evT_idx, evT_slc, evT_rev, evT_call, evT_callv, evT_bi, evT_inst, evT_get, evT_lrng, evT_dcp, evT_dprs, evT_lc, evT_lc2, evT_lc3, opd_var, opd_cst, opd_glb, opd_fnv, opd_tup, opd_lst, opd_lmul, opd_dic, opd_dic1, opd_bin, opd_neg, opd_cmp, opd_chain, opd_and, opd_or, opd_not, opd_ite, opd_idx, opd_slc, opd_rev, opd_call, opd_callv, opd_bi, opd_inst, opd_get, opd_lrng, opd_dcp, opd_dprs, opd_lc, opd_lc2, opd_lc3, exS_set, exS_unp, exS_par, exS_parO, exS_store, exS_app, exS_expr, exS_ifs, exS_for_, exS_whil, exS_ret, exS_retv, exS_retN, exS_brk, exS_cont, exS_pass, exS_never, exSs_nil, exSs_cons, part_none, part_some, evIt, opds, vals, op2, cont, conts, Res.bind, Res.bindN, Res.sb, SRes.sq, lift, cmpP, binP, idxP, callP, finF, endF, backOf, isLent, SV.d, SV.lent, callR, lentOf, sharedSl, shLst, freezeSl, putBack, D.flat, tru, unpS, asg_tup, asg_ktup, asg_lst, asgs_cons, asgs_nil, setS_eq, asg_nm, free_none, free_dat, free_own, D.seq?, Z24, hasSlot, hasLst, modS, putAt, pushAt, retvS, lcFin, testO, DL.isP, keepO, List.replicate, F__law_punch, Rnd.d, Side.s, hs, e, this]
  · have e3 : (q < t - q + s - t) = ¬ (2 * (s - q) ≤ s) := propext (by omega)
    have e4 : t - q + s - t = s - q := by omega
    have e5 : t - q + s = t + (s - q) := by omega
    have e6 : t - q = t + (s - q) - s := by omega
    have e7 : (q < s - q) = ¬ (2 * (s - q) ≤ s) := propext (by omega)
    cases x
    · by_cases h1 : s - q ≤ g <;> simp [ev_var, ev_cst, ev_glb, ev_fnv, ev_tup, ev_lst, ev_lmul, ev_dic_false, ev_dic_true, ev_dic1, ev_bin, ev_neg, ev_cmp, ev_chain, ev_and, ev_or, ev_not, ev_ite, ev_idx, ev_slc, ev_rev, ev_call, ev_callv, ev_bi, ev_inst, ev_get, ev_lrng, ev_dcp, ev_dprs, ev_lc, ev_lc2, ev_lc3, evT_and, evT_or, evT_not, evT_var, evT_cst, evT_glb, evT_fnv, evT_tup, evT_lst, evT_lmul, evT_dic, evT_dic1, evT_bin, evT_neg, evT_cmp, evT_chain, evT_ite, evT_idx, evT_slc, evT_rev, evT_call, evT_callv, evT_bi, evT_inst, evT_get, evT_lrng, evT_dcp, evT_dprs, evT_lc, evT_lc2, evT_lc3, opd_var, opd_cst, opd_glb, opd_fnv, opd_tup, opd_lst, opd_lmul, opd_dic, opd_dic1, opd_bin, opd_neg, opd_cmp, opd_chain, opd_and, opd_or, opd_not, opd_ite, opd_idx, opd_slc, opd_rev, opd_call, opd_callv, opd_bi, opd_inst, opd_get, opd_lrng, opd_dcp, opd_dprs, opd_lc, opd_lc2, opd_lc3, exS_set, exS_unp, exS_par, exS_parO, exS_store, exS_app, exS_expr, exS_ifs, exS_for_, exS_whil, exS_ret, exS_retv, exS_retN, exS_brk, exS_cont, exS_pass, exS_never, exSs_nil, exSs_cons, part_none, part_some, evIt, opds, vals, op2, cont, conts, Res.bind, Res.bindN, Res.sb, SRes.sq, lift, cmpP, binP, idxP, callP, finF, endF, backOf, isLent, SV.d, SV.lent, callR, lentOf, sharedSl, shLst, freezeSl, putBack, D.flat, tru, unpS, asg_tup, asg_ktup, asg_lst, asgs_cons, asgs_nil, setS_eq, asg_nm, free_none, free_dat, free_own, D.seq?, Z24, hasSlot, hasLst, modS, putAt, pushAt, retvS, lcFin, testO, DL.isP, keepO, List.replicate, F__law_punch, Rnd.d, Side.s, hs, e, e1, e2, e4, h0, h1] <;> omega
    · by_cases h1 : s - q ≤ g <;> by_cases h3 : 2 * (s - q) ≤ s <;> simp [ev_var, ev_cst, ev_glb, ev_fnv, ev_tup, ev_lst, ev_lmul, ev_dic_false, ev_dic_true, ev_dic1, ev_bin, ev_neg, ev_cmp, ev_chain, ev_and, ev_or, ev_not, ev_ite, ev_idx, ev_slc, ev_rev, ev_call, ev_callv, ev_bi, ev_inst, ev_get, ev_lrng, ev_dcp, ev_dprs, ev_lc, ev_lc2, ev_lc3, evT_and, evT_or, evT_not, evT_var, evT_cst, evT_glb, evT_fnv, evT_tup, evT_lst, evT_lmul, evT_dic, evT_dic1, evT_bin, evT_neg, evT_cmp, evT_chain, evT_ite, evT_idx, evT_slc, evT_rev, evT_call, evT_callv, evT_bi, evT_inst, evT_get, evT_lrng, evT_dcp, evT_dprs, evT_lc, evT_lc2, evT_lc3, opd_var, opd_cst, opd_glb, opd_fnv, opd_tup, opd_lst, opd_lmul, opd_dic, opd_dic1, opd_bin, opd_neg, opd_cmp, opd_chain, opd_and, opd_or, opd_not, opd_ite, opd_idx, opd_slc, opd_rev, opd_call, opd_callv, opd_bi, opd_inst, opd_get, opd_lrng, opd_dcp, opd_dprs, opd_lc, opd_lc2, opd_lc3, exS_set, exS_unp, exS_par, exS_parO, exS_store, exS_app, exS_expr, exS_ifs, exS_for_, exS_whil, exS_ret, exS_retv, exS_retN, exS_brk, exS_cont, exS_pass, exS_never, exSs_nil, exSs_cons, part_none, part_some, evIt, opds, vals, op2, cont, conts, Res.bind, Res.bindN, Res.sb, SRes.sq, lift, cmpP, binP, idxP, callP, finF, endF, backOf, isLent, SV.d, SV.lent, callR, lentOf, sharedSl, shLst, freezeSl, putBack, D.flat, tru, unpS, asg_tup, asg_ktup, asg_lst, asgs_cons, asgs_nil, setS_eq, asg_nm, free_none, free_dat, free_own, D.seq?, Z24, hasSlot, hasLst, modS, putAt, pushAt, retvS, lcFin, testO, DL.isP, keepO, List.replicate, F__law_punch, Rnd.d, Side.s, hs, e, e1, e2, e4, e7, h0, h1, h3] <;> omega
    · by_cases h1 : s - q ≤ g <;> simp [ev_var, ev_cst, ev_glb, ev_fnv, ev_tup, ev_lst, ev_lmul, ev_dic_false, ev_dic_true, ev_dic1, ev_bin, ev_neg, ev_cmp, ev_chain, ev_and, ev_or, ev_not, ev_ite, ev_idx, ev_slc, ev_rev, ev_call, ev_callv, ev_bi, ev_inst, ev_get, ev_lrng, ev_dcp, ev_dprs, ev_lc, ev_lc2, ev_lc3, evT_and, evT_or, evT_not, evT_var, evT_cst, evT_glb, evT_fnv, evT_tup, evT_lst, evT_lmul, evT_dic, evT_dic1, evT_bin, evT_neg, evT_cmp, evT_chain, evT_ite, evT_idx, evT_slc, evT_rev, evT_call, evT_callv, evT_bi, evT_inst, evT_get, evT_lrng, evT_dcp, evT_dprs, evT_lc, evT_lc2, evT_lc3, opd_var, opd_cst, opd_glb, opd_fnv, opd_tup, opd_lst, opd_lmul, opd_dic, opd_dic1, opd_bin, opd_neg, opd_cmp, opd_chain, opd_and, opd_or, opd_not, opd_ite, opd_idx, opd_slc, opd_rev, opd_call, opd_callv, opd_bi, opd_inst, opd_get, opd_lrng, opd_dcp, opd_dprs, opd_lc, opd_lc2, opd_lc3, exS_set, exS_unp, exS_par, exS_parO, exS_store, exS_app, exS_expr, exS_ifs, exS_for_, exS_whil, exS_ret, exS_retv, exS_retN, exS_brk, exS_cont, exS_pass, exS_never, exSs_nil, exSs_cons, part_none, part_some, evIt, opds, vals, op2, cont, conts, Res.bind, Res.bindN, Res.sb, SRes.sq, lift, cmpP, binP, idxP, callP, finF, endF, backOf, isLent, SV.d, SV.lent, callR, lentOf, sharedSl, shLst, freezeSl, putBack, D.flat, tru, unpS, asg_tup, asg_ktup, asg_lst, asgs_cons, asgs_nil, setS_eq, asg_nm, free_none, free_dat, free_own, D.seq?, Z24, hasSlot, hasLst, modS, putAt, pushAt, retvS, lcFin, testO, DL.isP, keepO, List.replicate, F__law_punch, Rnd.d, Side.s, hs, e, e1, e2, e4, h0, h1] <;> omega
end DL

namespace DL
open PySem PySem.Spec PyProof.Rows L2

theorem shp_mono : ∀ {n m : Nat} {d : D}, n ≤ m → shp n d = true → shp m d = true
  | 0, _, _, _, h => by cases h
  | n + 1, 0, _, l, _ => by omega
  | n + 1, m + 1, d, l, h => by
    have ih : ∀ ds : List D, ds.all (shp n) = true → ds.all (shp m) = true := fun ds q => List.all_eq_true.mpr fun x hx => shp_mono (by omega) (List.all_eq_true.mp q x hx)
    cases d with
    | tup ds => exact ih ds h
    | ktup ds => exact ih ds h
    | lst ds => exact ih ds h
    | _ => first | exact h | cases h
/-- a list beside the empty one -/
theorem eqD_nil {n : Nat} {ds : List D} (h : ds.all (shp n) = true) (hn : n < 64 := by decide) : eqD (.lst ds) (.lst []) = some ds.isEmpty := by
  have s1 : SeqAt.shaped (D.lst ds).py = true := shp_ok (n := n + 1) h hn
  unfold eqD
  rw [if_pos ⟨s1, shp_ok (n := 1) (d := .lst []) rfl (by decide)⟩]
  cases ds <;> simp [D.py, pyL, PyData.eqv, PyData.eqvAll]

/-! ### manners -/
def prD (p : Int × Int) : D := .tup [.int p.1, .int p.2]
def optD : Option Int → D
  | none => .non
  | some i => .int i
structure Mn where
  i : Rnd
  o : Rnd
  br : List (Int × Int)
  dl : Option Int
  wl : Option Int
def Mn.d (m : Mn) : D := .tup [m.i.d, m.o.d, .tup (m.br.map prD), optD m.dl, optD m.wl]
def brOk1 (p : Int × Int) : Prop := (1 ≤ p.1 ∧ p.1 ≤ 96) ∧ 1 ≤ p.2 ∧ p.2 ≤ 8
def brOk : List (Int × Int) → Prop
  | [] => True
  | [p] => brOk1 p
  | [p, q] => brOk1 p ∧ brOk1 q ∧ p.1 < q.1
  | _ => False
structure Mn.ok (m : Mn) : Prop where
  i : m.i.ok
  o : m.o.ok
  br : brOk m.br
  dl : ∀ x, m.dl = some x → 1 ≤ x ∧ x ≤ 96
  wl : ∀ x, m.wl = some x → 1 ≤ x ∧ x ≤ 480
/-- the minus that applies -/
def appl (br : List (Int × Int)) (q : Int) : Option Int := br.foldl (fun a p => if p.1 ≤ q then some p.2 else a) none
def leftI (br : List (Int × Int)) (q : Int) : Int := match appl br q with
  | none => q
  | some x => if q - x > 0 then q - x else 0
def capI (dl : Option Int) (l : Int) : Int × Int := match dl with
  | none => (l, 0)
  | some x => if x < l then (x, l - x) else (l, 0)
def splitI (m : Mn) (q : Int) : Int × Int := capI m.dl (leftI m.br q)
def countI (m : Mn) (p : Int × Int) : Int := if wentI m.o p.2 - cameI m.i p.1 > 0 then wentI m.o p.2 - cameI m.i p.1 else 0
def partsI (m : Mn) (p : Int × Int) : Int × Int := splitI m (countI m p)
theorem br3 {br : List (Int × Int)} (h : brOk br) : br = [] ∨ (∃ p, br = [p]) ∨ ∃ p q, br = [p, q] := by
  match br, h with
  | [], _ => exact .inl rfl
  | [p], _ => exact .inr (.inl ⟨p, rfl⟩)
  | [p, q], _ => exact .inr (.inr ⟨p, q, rfl⟩)
theorem at0 {a b c d e : D} : L2.atI [a, b, c, d, e] 0 = some a := rfl
theorem at1 {a b c d e : D} : L2.atI [a, b, c, d, e] 1 = some b := rfl
theorem at2 {a b c d e : D} : L2.atI [a, b, c, d, e] 2 = some c := rfl
theorem at3 {a b c d e : D} : L2.atI [a, b, c, d, e] 3 = some d := rfl
theorem at4 {a b c d e : D} : L2.atI [a, b, c, d, e] 4 = some e := rfl
theorem at20 {a b : D} : L2.atI [a, b] 0 = some a := rfl
theorem at21 {a b : D} : L2.atI [a, b] 1 = some b := rfl
theorem at1m {a : D} : L2.atI [a] (-1) = some a := rfl
theorem at2m {a b : D} : L2.atI [a, b] (-1) = some b := rfl
theorem eqI1 (i : Int) : eqD (.lst [.int i]) (.lst []) = some false := eqD_nil (n := 1) rfl
theorem eqI2 (i j : Int) : eqD (.lst [.int i, .int j]) (.lst []) = some false := eqD_nil (n := 1) rfl
theorem eqI0 : eqD (.lst []) (.lst []) = some true := eqD_nil (n := 1) rfl
theorem left_ok (k : Nat) {m : Mn} (h : m.ok) (q : Int) : semK glob gvG 100 (k + 1) 33 [.dat m.d, .dat (.int q)] = .ok (.dat (.int (leftI m.br q))) none := by
  rw [semK_eq g_left_of]
  obtain ⟨mi, mo, br, dl, wl⟩ := m
  have hb := br3 h.br
  simp only at hb
  rcases hb with rfl | ⟨⟨a, b⟩, rfl⟩ | ⟨⟨a, b⟩, ⟨c, d⟩, rfl⟩
  · simp [ev_var, ev_cst, ev_glb, ev_fnv, ev_tup, ev_lst, ev_lmul, ev_dic_false, ev_dic_true, ev_dic1, ev_bin, ev_neg, ev_cmp, ev_chain, ev_and, ev_or, ev_not, ev_ite, ev_idx, ev_slc, ev_rev, ev_call, ev_callv, ev_bi, ev_inst, ev_get, ev_lrng, ev_dcp, ev_dprs, ev_lc, ev_lc2, ev_lc3, evT_and, evT_or, evT_not, evT_var, evT_cst, evT_glb, evT_fnv, evT_tup, evT_lst, evT_lmul, evT_dic, evT_dic1, evT_bin, evT_neg, evT_cmp, evT_chain, evT_ite, evT_idx, evT_slc, evT_rev, evT_call, evT_callv, evT_bi, evT_inst, evT_get, evT_lrng, evT_dcp, evT_dprs, evT_lc, evT_lc2, evT_lc3, opd_var, opd_cst, opd_glb, opd_fnv, opd_tup, opd_lst, opd_lmul, opd_dic, opd_dic1, opd_bin, opd_neg, opd_cmp, opd_chain, opd_and, opd_or, opd_not, opd_ite, opd_idx, opd_slc, opd_rev, opd_call, opd_callv, opd_bi, opd_inst, opd_get, opd_lrng, opd_dcp, opd_dprs, opd_lc, opd_lc2, opd_lc3, exS_set, exS_unp, exS_par, exS_parO, exS_store, exS_app, exS_expr, exS_ifs, exS_for_, exS_whil, exS_ret, exS_retv, exS_retN, exS_brk, exS_cont, exS_pass, exS_never, exSs_nil, exSs_cons, part_none, part_some, evIt, opds, vals, op2, cont, conts, Res.bind, Res.bindN, Res.sb, SRes.sq, lift, cmpP, binP, idxP, callP, finF, endF, backOf, isLent, SV.d, SV.lent, callR, lentOf, sharedSl, shLst, freezeSl, putBack, D.flat, tru, unpS, asg_tup, asg_ktup, asg_lst, asgs_cons, asgs_nil, setS_eq, asg_nm, free_none, free_dat, free_own, D.seq?, Z24, hasSlot, hasLst, modS, putAt, pushAt, retvS, lcFin, testO, DL.isP, keepO, List.replicate, F_left_of, Mn.d, at2, lcGo, tame, wipeR, backR, eqI0, leftI, appl]
  · by_cases h1 : a ≤ q <;> simp [ev_var, ev_cst, ev_glb, ev_fnv, ev_tup, ev_lst, ev_lmul, ev_dic_false, ev_dic_true, ev_dic1, ev_bin, ev_neg, ev_cmp, ev_chain, ev_and, ev_or, ev_not, ev_ite, ev_idx, ev_slc, ev_rev, ev_call, ev_callv, ev_bi, ev_inst, ev_get, ev_lrng, ev_dcp, ev_dprs, ev_lc, ev_lc2, ev_lc3, evT_and, evT_or, evT_not, evT_var, evT_cst, evT_glb, evT_fnv, evT_tup, evT_lst, evT_lmul, evT_dic, evT_dic1, evT_bin, evT_neg, evT_cmp, evT_chain, evT_ite, evT_idx, evT_slc, evT_rev, evT_call, evT_callv, evT_bi, evT_inst, evT_get, evT_lrng, evT_dcp, evT_dprs, evT_lc, evT_lc2, evT_lc3, opd_var, opd_cst, opd_glb, opd_fnv, opd_tup, opd_lst, opd_lmul, opd_dic, opd_dic1, opd_bin, opd_neg, opd_cmp, opd_chain, opd_and, opd_or, opd_not, opd_ite, opd_idx, opd_slc, opd_rev, opd_call, opd_callv, opd_bi, opd_inst, opd_get, opd_lrng, opd_dcp, opd_dprs, opd_lc, opd_lc2, opd_lc3, exS_set, exS_unp, exS_par, exS_parO, exS_store, exS_app, exS_expr, exS_ifs, exS_for_, exS_whil, exS_ret, exS_retv, exS_retN, exS_brk, exS_cont, exS_pass, exS_never, exSs_nil, exSs_cons, part_none, part_some, evIt, opds, vals, op2, cont, conts, Res.bind, Res.bindN, Res.sb, SRes.sq, lift, cmpP, binP, idxP, callP, finF, endF, backOf, isLent, SV.d, SV.lent, callR, lentOf, sharedSl, shLst, freezeSl, putBack, D.flat, tru, unpS, asg_tup, asg_ktup, asg_lst, asgs_cons, asgs_nil, setS_eq, asg_nm, free_none, free_dat, free_own, D.seq?, Z24, hasSlot, hasLst, modS, putAt, pushAt, retvS, lcFin, testO, DL.isP, keepO, List.replicate, F_left_of, Mn.d, prD, at2, at1m, lcGo, tame, wipeR, backR, eqI0, eqI1, leftI, appl, h1]
  · by_cases h1 : a ≤ q <;> by_cases h2 : c ≤ q <;> simp [ev_var, ev_cst, ev_glb, ev_fnv, ev_tup, ev_lst, ev_lmul, ev_dic_false, ev_dic_true, ev_dic1, ev_bin, ev_neg, ev_cmp, ev_chain, ev_and, ev_or, ev_not, ev_ite, ev_idx, ev_slc, ev_rev, ev_call, ev_callv, ev_bi, ev_inst, ev_get, ev_lrng, ev_dcp, ev_dprs, ev_lc, ev_lc2, ev_lc3, evT_and, evT_or, evT_not, evT_var, evT_cst, evT_glb, evT_fnv, evT_tup, evT_lst, evT_lmul, evT_dic, evT_dic1, evT_bin, evT_neg, evT_cmp, evT_chain, evT_ite, evT_idx, evT_slc, evT_rev, evT_call, evT_callv, evT_bi, evT_inst, evT_get, evT_lrng, evT_dcp, evT_dprs, evT_lc, evT_lc2, evT_lc3, opd_var, opd_cst, opd_glb, opd_fnv, opd_tup, opd_lst, opd_lmul, opd_dic, opd_dic1, opd_bin, opd_neg, opd_cmp, opd_chain, opd_and, opd_or, opd_not, opd_ite, opd_idx, opd_slc, opd_rev, opd_call, opd_callv, opd_bi, opd_inst, opd_get, opd_lrng, opd_dcp, opd_dprs, opd_lc, opd_lc2, opd_lc3, exS_set, exS_unp, exS_par, exS_parO, exS_store, exS_app, exS_expr, exS_ifs, exS_for_, exS_whil, exS_ret, exS_retv, exS_retN, exS_brk, exS_cont, exS_pass, exS_never, exSs_nil, exSs_cons, part_none, part_some, evIt, opds, vals, op2, cont, conts, Res.bind, Res.bindN, Res.sb, SRes.sq, lift, cmpP, binP, idxP, callP, finF, endF, backOf, isLent, SV.d, SV.lent, callR, lentOf, sharedSl, shLst, freezeSl, putBack, D.flat, tru, unpS, asg_tup, asg_ktup, asg_lst, asgs_cons, asgs_nil, setS_eq, asg_nm, free_none, free_dat, free_own, D.seq?, Z24, hasSlot, hasLst, modS, putAt, pushAt, retvS, lcFin, testO, DL.isP, keepO, List.replicate, F_left_of, Mn.d, prD, at2, at1m, at2m, lcGo, tame, wipeR, backR, eqI0, eqI1, eqI2, leftI, appl, h1, h2]
theorem optD_none : optD none = .non := rfl
theorem optD_some {x : Int} : optD (some x) = .int x := rfl
theorem split_ok (k : Nat) {m : Mn} (h : m.ok) (q : Int) : semK glob gvG 100 (k + 2) 34 [.dat m.d, .dat (.int q)] = .ok (.dat (prD (splitI m q))) none := by
  have e := left_ok k h q
  rw [semK_eq g_split_of]
  obtain ⟨mi, mo, br, dl, wl⟩ := m
  simp only [Mn.d] at e
  cases dl with
  | none =>
    simp only [optD_none] at e
    simp [ev_var, ev_cst, ev_glb, ev_fnv, ev_tup, ev_lst, ev_lmul, ev_dic_false, ev_dic_true, ev_dic1, ev_bin, ev_neg, ev_cmp, ev_chain, ev_and, ev_or, ev_not, ev_ite, ev_idx, ev_slc, ev_rev, ev_call, ev_callv, ev_bi, ev_inst, ev_get, ev_lrng, ev_dcp, ev_dprs, ev_lc, ev_lc2, ev_lc3, evT_and, evT_or, evT_not, evT_var, evT_cst, evT_glb, evT_fnv, evT_tup, evT_lst, evT_lmul, evT_dic, evT_dic1, evT_bin, evT_neg, evT_cmp, evT_chain, evT_ite, evT_idx, evT_slc, evT_rev, evT_call, evT_callv, evT_bi, evT_inst, evT_get, evT_lrng, evT_dcp, evT_dprs, evT_lc, evT_lc2, evT_lc3, opd_var, opd_cst, opd_glb, opd_fnv, opd_tup, opd_lst, opd_lmul, opd_dic, opd_dic1, opd_bin, opd_neg, opd_cmp, opd_chain, opd_and, opd_or, opd_not, opd_ite, opd_idx, opd_slc, opd_rev, opd_call, opd_callv, opd_bi, opd_inst, opd_get, opd_lrng, opd_dcp, opd_dprs, opd_lc, opd_lc2, opd_lc3, exS_set, exS_unp, exS_par, exS_parO, exS_store, exS_app, exS_expr, exS_ifs, exS_for_, exS_whil, exS_ret, exS_retv, exS_retN, exS_brk, exS_cont, exS_pass, exS_never, exSs_nil, exSs_cons, part_none, part_some, evIt, opds, vals, op2, cont, conts, Res.bind, Res.bindN, Res.sb, SRes.sq, lift, cmpP, binP, idxP, callP, finF, endF, backOf, isLent, SV.d, SV.lent, callR, lentOf, sharedSl, shLst, freezeSl, putBack, D.flat, tru, unpS, asg_tup, asg_ktup, asg_lst, asgs_cons, asgs_nil, setS_eq, asg_nm, free_none, free_dat, free_own, D.seq?, Z24, hasSlot, hasLst, modS, putAt, pushAt, retvS, lcFin, testO, DL.isP, keepO, List.replicate, F_split_of, Mn.d, at3, e, optD_none, splitI, capI, prD]
  | some x =>
    simp only [optD_some] at e
    by_cases h1 : x < leftI br q <;> simp [ev_var, ev_cst, ev_glb, ev_fnv, ev_tup, ev_lst, ev_lmul, ev_dic_false, ev_dic_true, ev_dic1, ev_bin, ev_neg, ev_cmp, ev_chain, ev_and, ev_or, ev_not, ev_ite, ev_idx, ev_slc, ev_rev, ev_call, ev_callv, ev_bi, ev_inst, ev_get, ev_lrng, ev_dcp, ev_dprs, ev_lc, ev_lc2, ev_lc3, evT_and, evT_or, evT_not, evT_var, evT_cst, evT_glb, evT_fnv, evT_tup, evT_lst, evT_lmul, evT_dic, evT_dic1, evT_bin, evT_neg, evT_cmp, evT_chain, evT_ite, evT_idx, evT_slc, evT_rev, evT_call, evT_callv, evT_bi, evT_inst, evT_get, evT_lrng, evT_dcp, evT_dprs, evT_lc, evT_lc2, evT_lc3, opd_var, opd_cst, opd_glb, opd_fnv, opd_tup, opd_lst, opd_lmul, opd_dic, opd_dic1, opd_bin, opd_neg, opd_cmp, opd_chain, opd_and, opd_or, opd_not, opd_ite, opd_idx, opd_slc, opd_rev, opd_call, opd_callv, opd_bi, opd_inst, opd_get, opd_lrng, opd_dcp, opd_dprs, opd_lc, opd_lc2, opd_lc3, exS_set, exS_unp, exS_par, exS_parO, exS_store, exS_app, exS_expr, exS_ifs, exS_for_, exS_whil, exS_ret, exS_retv, exS_retN, exS_brk, exS_cont, exS_pass, exS_never, exSs_nil, exSs_cons, part_none, part_some, evIt, opds, vals, op2, cont, conts, Res.bind, Res.bindN, Res.sb, SRes.sq, lift, cmpP, binP, idxP, callP, finF, endF, backOf, isLent, SV.d, SV.lent, callR, lentOf, sharedSl, shLst, freezeSl, putBack, D.flat, tru, unpS, asg_tup, asg_ktup, asg_lst, asgs_cons, asgs_nil, setS_eq, asg_nm, free_none, free_dat, free_own, D.seq?, Z24, hasSlot, hasLst, modS, putAt, pushAt, retvS, lcFin, testO, DL.isP, keepO, List.replicate, F_split_of, Mn.d, at3, e, optD_some, splitI, capI, prD, h1]
theorem rev_pr {a b : D} : [a, b].reverse = [b, a] := rfl
theorem lsplit_for (k : Nat) {m : Mn} (h : m.ok) (q : Int) : ∃ x y, free x = true ∧ free y = true ∧ exS (cfk k) 99 (.for_ (.tup [.nm 2, .nm 3]) (.seq (.rev (.idx (.var 0) (.cst (.int 2))))) [.ifs (.cmp .LtE (.var 2) (.var 1)) [.set 1 (.ite (.cmp .Gt (.var 1) (.var 3)) (.bin .Sub (.var 1) (.var 3)) (.cst (.int 0))), .brk] []]) [some (.dat m.d), some (.dat (.int q)), none, none] = .nx [some (.dat m.d), some (.dat (.int (leftI m.br q))), x, y] := by
  obtain ⟨mi, mo, br, dl, wl⟩ := m
  have hb := br3 h.br
  simp only at hb
  rcases hb with rfl | ⟨⟨a, b⟩, rfl⟩ | ⟨⟨a, b⟩, ⟨c, d⟩, rfl⟩
  · refine ⟨none, none, rfl, rfl, ?_⟩
    simp [ev_var, ev_cst, ev_glb, ev_fnv, ev_tup, ev_lst, ev_lmul, ev_dic_false, ev_dic_true, ev_dic1, ev_bin, ev_neg, ev_cmp, ev_chain, ev_and, ev_or, ev_not, ev_ite, ev_idx, ev_slc, ev_rev, ev_call, ev_callv, ev_bi, ev_inst, ev_get, ev_lrng, ev_dcp, ev_dprs, ev_lc, ev_lc2, ev_lc3, evT_and, evT_or, evT_not, evT_var, evT_cst, evT_glb, evT_fnv, evT_tup, evT_lst, evT_lmul, evT_dic, evT_dic1, evT_bin, evT_neg, evT_cmp, evT_chain, evT_ite, evT_idx, evT_slc, evT_rev, evT_call, evT_callv, evT_bi, evT_inst, evT_get, evT_lrng, evT_dcp, evT_dprs, evT_lc, evT_lc2, evT_lc3, opd_var, opd_cst, opd_glb, opd_fnv, opd_tup, opd_lst, opd_lmul, opd_dic, opd_dic1, opd_bin, opd_neg, opd_cmp, opd_chain, opd_and, opd_or, opd_not, opd_ite, opd_idx, opd_slc, opd_rev, opd_call, opd_callv, opd_bi, opd_inst, opd_get, opd_lrng, opd_dcp, opd_dprs, opd_lc, opd_lc2, opd_lc3, exS_set, exS_unp, exS_par, exS_parO, exS_store, exS_app, exS_expr, exS_ifs, exS_for_, exS_whil, exS_ret, exS_retv, exS_retN, exS_brk, exS_cont, exS_pass, exS_never, exSs_nil, exSs_cons, part_none, part_some, evIt, opds, vals, op2, cont, conts, Res.bind, Res.bindN, Res.sb, SRes.sq, lift, cmpP, binP, idxP, callP, finF, endF, backOf, isLent, SV.d, SV.lent, callR, lentOf, sharedSl, shLst, freezeSl, putBack, D.flat, tru, unpS, asg_tup, asg_ktup, asg_lst, asgs_cons, asgs_nil, setS_eq, asg_nm, free_none, free_dat, free_own, D.seq?, Z24, hasSlot, hasLst, modS, putAt, pushAt, retvS, lcFin, testO, DL.isP, keepO, List.replicate, Mn.d, at2, forGo, leftI, appl]
  · by_cases h1 : a ≤ q
    · refine ⟨some (.dat (.int a)), some (.dat (.int b)), rfl, rfl, ?_⟩
      by_cases h2 : b < q <;> simp [ev_var, ev_cst, ev_glb, ev_fnv, ev_tup, ev_lst, ev_lmul, ev_dic_false, ev_dic_true, ev_dic1, ev_bin, ev_neg, ev_cmp, ev_chain, ev_and, ev_or, ev_not, ev_ite, ev_idx, ev_slc, ev_rev, ev_call, ev_callv, ev_bi, ev_inst, ev_get, ev_lrng, ev_dcp, ev_dprs, ev_lc, ev_lc2, ev_lc3, evT_and, evT_or, evT_not, evT_var, evT_cst, evT_glb, evT_fnv, evT_tup, evT_lst, evT_lmul, evT_dic, evT_dic1, evT_bin, evT_neg, evT_cmp, evT_chain, evT_ite, evT_idx, evT_slc, evT_rev, evT_call, evT_callv, evT_bi, evT_inst, evT_get, evT_lrng, evT_dcp, evT_dprs, evT_lc, evT_lc2, evT_lc3, opd_var, opd_cst, opd_glb, opd_fnv, opd_tup, opd_lst, opd_lmul, opd_dic, opd_dic1, opd_bin, opd_neg, opd_cmp, opd_chain, opd_and, opd_or, opd_not, opd_ite, opd_idx, opd_slc, opd_rev, opd_call, opd_callv, opd_bi, opd_inst, opd_get, opd_lrng, opd_dcp, opd_dprs, opd_lc, opd_lc2, opd_lc3, exS_set, exS_unp, exS_par, exS_parO, exS_store, exS_app, exS_expr, exS_ifs, exS_for_, exS_whil, exS_ret, exS_retv, exS_retN, exS_brk, exS_cont, exS_pass, exS_never, exSs_nil, exSs_cons, part_none, part_some, evIt, opds, vals, op2, cont, conts, Res.bind, Res.bindN, Res.sb, SRes.sq, lift, cmpP, binP, idxP, callP, finF, endF, backOf, isLent, SV.d, SV.lent, callR, lentOf, sharedSl, shLst, freezeSl, putBack, D.flat, tru, unpS, asg_tup, asg_ktup, asg_lst, asgs_cons, asgs_nil, setS_eq, asg_nm, free_none, free_dat, free_own, D.seq?, Z24, hasSlot, hasLst, modS, putAt, pushAt, retvS, lcFin, testO, DL.isP, keepO, List.replicate, Mn.d, prD, at2, forGo, leftI, appl, h1, h2]
    · refine ⟨some (.dat (.int a)), some (.dat (.int b)), rfl, rfl, ?_⟩
      simp [ev_var, ev_cst, ev_glb, ev_fnv, ev_tup, ev_lst, ev_lmul, ev_dic_false, ev_dic_true, ev_dic1, ev_bin, ev_neg, ev_cmp, ev_chain, ev_and, ev_or, ev_not, ev_ite, ev_idx, ev_slc, ev_rev, ev_call, ev_callv, ev_bi, ev_inst, ev_get, ev_lrng, ev_dcp, ev_dprs, ev_lc, ev_lc2, ev_lc3, evT_and, evT_or, evT_not, evT_var, evT_cst, evT_glb, evT_fnv, evT_tup, evT_lst, evT_lmul, evT_dic, evT_dic1, evT_bin, evT_neg, evT_cmp, evT_chain, evT_ite, evT_idx, evT_slc, evT_rev, evT_call, evT_callv, evT_bi, evT_inst, evT_get, evT_lrng, evT_dcp, evT_dprs, evT_lc, evT_lc2, evT_lc3, opd_var, opd_cst, opd_glb, opd_fnv, opd_tup, opd_lst, opd_lmul, opd_dic, opd_dic1, opd_bin, opd_neg, opd_cmp, opd_chain, opd_and, opd_or, opd_not, opd_ite, opd_idx, opd_slc, opd_rev, opd_call, opd_callv, opd_bi, opd_inst, opd_get, opd_lrng, opd_dcp, opd_dprs, opd_lc, opd_lc2, opd_lc3, exS_set, exS_unp, exS_par, exS_parO, exS_store, exS_app, exS_expr, exS_ifs, exS_for_, exS_whil, exS_ret, exS_retv, exS_retN, exS_brk, exS_cont, exS_pass, exS_never, exSs_nil, exSs_cons, part_none, part_some, evIt, opds, vals, op2, cont, conts, Res.bind, Res.bindN, Res.sb, SRes.sq, lift, cmpP, binP, idxP, callP, finF, endF, backOf, isLent, SV.d, SV.lent, callR, lentOf, sharedSl, shLst, freezeSl, putBack, D.flat, tru, unpS, asg_tup, asg_ktup, asg_lst, asgs_cons, asgs_nil, setS_eq, asg_nm, free_none, free_dat, free_own, D.seq?, Z24, hasSlot, hasLst, modS, putAt, pushAt, retvS, lcFin, testO, DL.isP, keepO, List.replicate, Mn.d, prD, at2, forGo, leftI, appl, h1]
  · by_cases h3 : c ≤ q
    · refine ⟨some (.dat (.int c)), some (.dat (.int d)), rfl, rfl, ?_⟩
      by_cases h4 : d < q <;> by_cases h1 : a ≤ q <;> simp [ev_var, ev_cst, ev_glb, ev_fnv, ev_tup, ev_lst, ev_lmul, ev_dic_false, ev_dic_true, ev_dic1, ev_bin, ev_neg, ev_cmp, ev_chain, ev_and, ev_or, ev_not, ev_ite, ev_idx, ev_slc, ev_rev, ev_call, ev_callv, ev_bi, ev_inst, ev_get, ev_lrng, ev_dcp, ev_dprs, ev_lc, ev_lc2, ev_lc3, evT_and, evT_or, evT_not, evT_var, evT_cst, evT_glb, evT_fnv, evT_tup, evT_lst, evT_lmul, evT_dic, evT_dic1, evT_bin, evT_neg, evT_cmp, evT_chain, evT_ite, evT_idx, evT_slc, evT_rev, evT_call, evT_callv, evT_bi, evT_inst, evT_get, evT_lrng, evT_dcp, evT_dprs, evT_lc, evT_lc2, evT_lc3, opd_var, opd_cst, opd_glb, opd_fnv, opd_tup, opd_lst, opd_lmul, opd_dic, opd_dic1, opd_bin, opd_neg, opd_cmp, opd_chain, opd_and, opd_or, opd_not, opd_ite, opd_idx, opd_slc, opd_rev, opd_call, opd_callv, opd_bi, opd_inst, opd_get, opd_lrng, opd_dcp, opd_dprs, opd_lc, opd_lc2, opd_lc3, exS_set, exS_unp, exS_par, exS_parO, exS_store, exS_app, exS_expr, exS_ifs, exS_for_, exS_whil, exS_ret, exS_retv, exS_retN, exS_brk, exS_cont, exS_pass, exS_never, exSs_nil, exSs_cons, part_none, part_some, evIt, opds, vals, op2, cont, conts, Res.bind, Res.bindN, Res.sb, SRes.sq, lift, cmpP, binP, idxP, callP, finF, endF, backOf, isLent, SV.d, SV.lent, callR, lentOf, sharedSl, shLst, freezeSl, putBack, D.flat, tru, unpS, asg_tup, asg_ktup, asg_lst, asgs_cons, asgs_nil, setS_eq, asg_nm, free_none, free_dat, free_own, D.seq?, Z24, hasSlot, hasLst, modS, putAt, pushAt, retvS, lcFin, testO, DL.isP, keepO, List.replicate, Mn.d, prD, at2, rev_pr, forGo, leftI, appl, h1, h3, h4]
    · refine ⟨some (.dat (.int a)), some (.dat (.int b)), rfl, rfl, ?_⟩
      by_cases h1 : a ≤ q <;> by_cases h2 : b < q <;> simp [ev_var, ev_cst, ev_glb, ev_fnv, ev_tup, ev_lst, ev_lmul, ev_dic_false, ev_dic_true, ev_dic1, ev_bin, ev_neg, ev_cmp, ev_chain, ev_and, ev_or, ev_not, ev_ite, ev_idx, ev_slc, ev_rev, ev_call, ev_callv, ev_bi, ev_inst, ev_get, ev_lrng, ev_dcp, ev_dprs, ev_lc, ev_lc2, ev_lc3, evT_and, evT_or, evT_not, evT_var, evT_cst, evT_glb, evT_fnv, evT_tup, evT_lst, evT_lmul, evT_dic, evT_dic1, evT_bin, evT_neg, evT_cmp, evT_chain, evT_ite, evT_idx, evT_slc, evT_rev, evT_call, evT_callv, evT_bi, evT_inst, evT_get, evT_lrng, evT_dcp, evT_dprs, evT_lc, evT_lc2, evT_lc3, opd_var, opd_cst, opd_glb, opd_fnv, opd_tup, opd_lst, opd_lmul, opd_dic, opd_dic1, opd_bin, opd_neg, opd_cmp, opd_chain, opd_and, opd_or, opd_not, opd_ite, opd_idx, opd_slc, opd_rev, opd_call, opd_callv, opd_bi, opd_inst, opd_get, opd_lrng, opd_dcp, opd_dprs, opd_lc, opd_lc2, opd_lc3, exS_set, exS_unp, exS_par, exS_parO, exS_store, exS_app, exS_expr, exS_ifs, exS_for_, exS_whil, exS_ret, exS_retv, exS_retN, exS_brk, exS_cont, exS_pass, exS_never, exSs_nil, exSs_cons, part_none, part_some, evIt, opds, vals, op2, cont, conts, Res.bind, Res.bindN, Res.sb, SRes.sq, lift, cmpP, binP, idxP, callP, finF, endF, backOf, isLent, SV.d, SV.lent, callR, lentOf, sharedSl, shLst, freezeSl, putBack, D.flat, tru, unpS, asg_tup, asg_ktup, asg_lst, asgs_cons, asgs_nil, setS_eq, asg_nm, free_none, free_dat, free_own, D.seq?, Z24, hasSlot, hasLst, modS, putAt, pushAt, retvS, lcFin, testO, DL.isP, keepO, List.replicate, Mn.d, prD, at2, rev_pr, forGo, leftI, appl, h1, h2, h3]
theorem lsplit_ok (k : Nat) {m : Mn} (h : m.ok) (q : Int) : semK glob gvG 100 (k + 1) 40 [.dat m.d, .dat (.int q)] = .ok (.dat (prD (splitI m q))) none := by
  rw [semK_eq g__law_split]
  obtain ⟨x, y, fx, fy, e⟩ := lsplit_for k h q
  have a1 : ∀ b : D, (if ([SV.dat b, .dat (.int q)] : List SV).length = F__law_split.np ∧ isLent [.dat b, .dat (.int q)] = F__law_split.lend then finF F__law_split.lend (exSs (cfk k) 100 F__law_split.body ([SV.dat b, .dat (.int q)].map some ++ List.replicate (F__law_split.nl - F__law_split.np) none)) else .stuck) = finF false ((exS (cfk k) 99 (.for_ (.tup [.nm 2, .nm 3]) (.seq (.rev (.idx (.var 0) (.cst (.int 2))))) [.ifs (.cmp .LtE (.var 2) (.var 1)) [.set 1 (.ite (.cmp .Gt (.var 1) (.var 3)) (.bin .Sub (.var 1) (.var 3)) (.cst (.int 0))), .brk] []]) [some (.dat b), some (.dat (.int q)), none, none]).sq fun ρ1 => exSs (cfk k) 99 F__law_split.body.tail ρ1) := fun b => rfl
  rw [a1, e]
  obtain ⟨mi, mo, br, dl, wl⟩ := m
  cases dl with
  | none => simp [ev_var, ev_cst, ev_glb, ev_fnv, ev_tup, ev_lst, ev_lmul, ev_dic_false, ev_dic_true, ev_dic1, ev_bin, ev_neg, ev_cmp, ev_chain, ev_and, ev_or, ev_not, ev_ite, ev_idx, ev_slc, ev_rev, ev_call, ev_callv, ev_bi, ev_inst, ev_get, ev_lrng, ev_dcp, ev_dprs, ev_lc, ev_lc2, ev_lc3, evT_and, evT_or, evT_not, evT_var, evT_cst, evT_glb, evT_fnv, evT_tup, evT_lst, evT_lmul, evT_dic, evT_dic1, evT_bin, evT_neg, evT_cmp, evT_chain, evT_ite, evT_idx, evT_slc, evT_rev, evT_call, evT_callv, evT_bi, evT_inst, evT_get, evT_lrng, evT_dcp, evT_dprs, evT_lc, evT_lc2, evT_lc3, opd_var, opd_cst, opd_glb, opd_fnv, opd_tup, opd_lst, opd_lmul, opd_dic, opd_dic1, opd_bin, opd_neg, opd_cmp, opd_chain, opd_and, opd_or, opd_not, opd_ite, opd_idx, opd_slc, opd_rev, opd_call, opd_callv, opd_bi, opd_inst, opd_get, opd_lrng, opd_dcp, opd_dprs, opd_lc, opd_lc2, opd_lc3, exS_set, exS_unp, exS_par, exS_parO, exS_store, exS_app, exS_expr, exS_ifs, exS_for_, exS_whil, exS_ret, exS_retv, exS_retN, exS_brk, exS_cont, exS_pass, exS_never, exSs_nil, exSs_cons, part_none, part_some, evIt, opds, vals, op2, cont, conts, Res.bind, Res.bindN, Res.sb, SRes.sq, lift, cmpP, binP, idxP, callP, finF, endF, backOf, isLent, SV.d, SV.lent, callR, lentOf, sharedSl, shLst, freezeSl, putBack, D.flat, tru, unpS, asg_tup, asg_ktup, asg_lst, asgs_cons, asgs_nil, setS_eq, asg_nm, free_none, free_dat, free_own, D.seq?, Z24, hasSlot, hasLst, modS, putAt, pushAt, retvS, lcFin, testO, DL.isP, keepO, List.replicate, F__law_split, Mn.d, optD_none, at3, splitI, capI, prD]
  | some z =>
    by_cases h1 : z < leftI br q
    · have h2 : ¬ leftI br q ≤ z := by omega
      simp [ev_var, ev_cst, ev_glb, ev_fnv, ev_tup, ev_lst, ev_lmul, ev_dic_false, ev_dic_true, ev_dic1, ev_bin, ev_neg, ev_cmp, ev_chain, ev_and, ev_or, ev_not, ev_ite, ev_idx, ev_slc, ev_rev, ev_call, ev_callv, ev_bi, ev_inst, ev_get, ev_lrng, ev_dcp, ev_dprs, ev_lc, ev_lc2, ev_lc3, evT_and, evT_or, evT_not, evT_var, evT_cst, evT_glb, evT_fnv, evT_tup, evT_lst, evT_lmul, evT_dic, evT_dic1, evT_bin, evT_neg, evT_cmp, evT_chain, evT_ite, evT_idx, evT_slc, evT_rev, evT_call, evT_callv, evT_bi, evT_inst, evT_get, evT_lrng, evT_dcp, evT_dprs, evT_lc, evT_lc2, evT_lc3, opd_var, opd_cst, opd_glb, opd_fnv, opd_tup, opd_lst, opd_lmul, opd_dic, opd_dic1, opd_bin, opd_neg, opd_cmp, opd_chain, opd_and, opd_or, opd_not, opd_ite, opd_idx, opd_slc, opd_rev, opd_call, opd_callv, opd_bi, opd_inst, opd_get, opd_lrng, opd_dcp, opd_dprs, opd_lc, opd_lc2, opd_lc3, exS_set, exS_unp, exS_par, exS_parO, exS_store, exS_app, exS_expr, exS_ifs, exS_for_, exS_whil, exS_ret, exS_retv, exS_retN, exS_brk, exS_cont, exS_pass, exS_never, exSs_nil, exSs_cons, part_none, part_some, evIt, opds, vals, op2, cont, conts, Res.bind, Res.bindN, Res.sb, SRes.sq, lift, cmpP, binP, idxP, callP, finF, endF, backOf, isLent, SV.d, SV.lent, callR, lentOf, sharedSl, shLst, freezeSl, putBack, D.flat, tru, unpS, asg_tup, asg_ktup, asg_lst, asgs_cons, asgs_nil, setS_eq, asg_nm, free_none, free_dat, free_own, D.seq?, Z24, hasSlot, hasLst, modS, putAt, pushAt, retvS, lcFin, testO, DL.isP, keepO, List.replicate, F__law_split, Mn.d, optD_some, at3, splitI, capI, prD, h1, h2]
    · have h2 : leftI br q ≤ z := by omega
      simp [ev_var, ev_cst, ev_glb, ev_fnv, ev_tup, ev_lst, ev_lmul, ev_dic_false, ev_dic_true, ev_dic1, ev_bin, ev_neg, ev_cmp, ev_chain, ev_and, ev_or, ev_not, ev_ite, ev_idx, ev_slc, ev_rev, ev_call, ev_callv, ev_bi, ev_inst, ev_get, ev_lrng, ev_dcp, ev_dprs, ev_lc, ev_lc2, ev_lc3, evT_and, evT_or, evT_not, evT_var, evT_cst, evT_glb, evT_fnv, evT_tup, evT_lst, evT_lmul, evT_dic, evT_dic1, evT_bin, evT_neg, evT_cmp, evT_chain, evT_ite, evT_idx, evT_slc, evT_rev, evT_call, evT_callv, evT_bi, evT_inst, evT_get, evT_lrng, evT_dcp, evT_dprs, evT_lc, evT_lc2, evT_lc3, opd_var, opd_cst, opd_glb, opd_fnv, opd_tup, opd_lst, opd_lmul, opd_dic, opd_dic1, opd_bin, opd_neg, opd_cmp, opd_chain, opd_and, opd_or, opd_not, opd_ite, opd_idx, opd_slc, opd_rev, opd_call, opd_callv, opd_bi, opd_inst, opd_get, opd_lrng, opd_dcp, opd_dprs, opd_lc, opd_lc2, opd_lc3, exS_set, exS_unp, exS_par, exS_parO, exS_store, exS_app, exS_expr, exS_ifs, exS_for_, exS_whil, exS_ret, exS_retv, exS_retN, exS_brk, exS_cont, exS_pass, exS_never, exSs_nil, exSs_cons, part_none, part_some, evIt, opds, vals, op2, cont, conts, Res.bind, Res.bindN, Res.sb, SRes.sq, lift, cmpP, binP, idxP, callP, finF, endF, backOf, isLent, SV.d, SV.lent, callR, lentOf, sharedSl, shLst, freezeSl, putBack, D.flat, tru, unpS, asg_tup, asg_ktup, asg_lst, asgs_cons, asgs_nil, setS_eq, asg_nm, free_none, free_dat, free_own, D.seq?, Z24, hasSlot, hasLst, modS, putAt, pushAt, retvS, lcFin, testO, DL.isP, keepO, List.replicate, F__law_split, Mn.d, optD_some, at3, splitI, capI, prD, h1, h2]
theorem count_ok (k : Nat) {m : Mn} (h : m.ok) (p : Int × Int) : semK glob gvG 100 (k + 2) 32 [.dat m.d, .dat (prD p)] = .ok (.dat (.int (countI m p))) none := by
  have e1 := went_ok k h.o p.2
  have e2 := came_ok k h.i p.1
  rw [semK_eq g_counted_of]
  simp [ev_var, ev_cst, ev_glb, ev_fnv, ev_tup, ev_lst, ev_lmul, ev_dic_false, ev_dic_true, ev_dic1, ev_bin, ev_neg, ev_cmp, ev_chain, ev_and, ev_or, ev_not, ev_ite, ev_idx, ev_slc, ev_rev, ev_call, ev_callv, ev_bi, ev_inst, ev_get, ev_lrng, ev_dcp, ev_dprs, ev_lc, ev_lc2, ev_lc3, evT_and, evT_or, evT_not, evT_var, evT_cst, evT_glb, evT_fnv, evT_tup, evT_lst, evT_lmul, evT_dic, evT_dic1, evT_bin, evT_neg, evT_cmp, evT_chain, evT_ite, evT_idx, evT_slc, evT_rev, evT_call, evT_callv, evT_bi, evT_inst, evT_get, evT_lrng, evT_dcp, evT_dprs, evT_lc, evT_lc2, evT_lc3, opd_var, opd_cst, opd_glb, opd_fnv, opd_tup, opd_lst, opd_lmul, opd_dic, opd_dic1, opd_bin, opd_neg, opd_cmp, opd_chain, opd_and, opd_or, opd_not, opd_ite, opd_idx, opd_slc, opd_rev, opd_call, opd_callv, opd_bi, opd_inst, opd_get, opd_lrng, opd_dcp, opd_dprs, opd_lc, opd_lc2, opd_lc3, exS_set, exS_unp, exS_par, exS_parO, exS_store, exS_app, exS_expr, exS_ifs, exS_for_, exS_whil, exS_ret, exS_retv, exS_retN, exS_brk, exS_cont, exS_pass, exS_never, exSs_nil, exSs_cons, part_none, part_some, evIt, opds, vals, op2, cont, conts, Res.bind, Res.bindN, Res.sb, SRes.sq, lift, cmpP, binP, idxP, callP, finF, endF, backOf, isLent, SV.d, SV.lent, callR, lentOf, sharedSl, shLst, freezeSl, putBack, D.flat, tru, unpS, asg_tup, asg_ktup, asg_lst, asgs_cons, asgs_nil, setS_eq, asg_nm, free_none, free_dat, free_own, D.seq?, Z24, hasSlot, hasLst, modS, putAt, pushAt, retvS, lcFin, testO, DL.isP, keepO, List.replicate, F_counted_of, Mn.d, prD, at0, at1, at20, at21, e1, e2, countI]
theorem lcount_ok (k : Nat) {m : Mn} (h : m.ok) (p : Int × Int) : semK glob gvG 100 (k + 2) 41 [.dat m.d, .dat (prD p)] = .ok (.dat (.int (countI m p))) none := by
  have e1 := punch_out k h.o p.2
  have e2 := punch_in k h.i p.1
  rw [semK_eq g__law_counts]
  by_cases h1 : wentI m.o p.2 - cameI m.i p.1 > 0
  · have h2 : cameI m.i p.1 < wentI m.o p.2 := by omega
    simp [ev_var, ev_cst, ev_glb, ev_fnv, ev_tup, ev_lst, ev_lmul, ev_dic_false, ev_dic_true, ev_dic1, ev_bin, ev_neg, ev_cmp, ev_chain, ev_and, ev_or, ev_not, ev_ite, ev_idx, ev_slc, ev_rev, ev_call, ev_callv, ev_bi, ev_inst, ev_get, ev_lrng, ev_dcp, ev_dprs, ev_lc, ev_lc2, ev_lc3, evT_and, evT_or, evT_not, evT_var, evT_cst, evT_glb, evT_fnv, evT_tup, evT_lst, evT_lmul, evT_dic, evT_dic1, evT_bin, evT_neg, evT_cmp, evT_chain, evT_ite, evT_idx, evT_slc, evT_rev, evT_call, evT_callv, evT_bi, evT_inst, evT_get, evT_lrng, evT_dcp, evT_dprs, evT_lc, evT_lc2, evT_lc3, opd_var, opd_cst, opd_glb, opd_fnv, opd_tup, opd_lst, opd_lmul, opd_dic, opd_dic1, opd_bin, opd_neg, opd_cmp, opd_chain, opd_and, opd_or, opd_not, opd_ite, opd_idx, opd_slc, opd_rev, opd_call, opd_callv, opd_bi, opd_inst, opd_get, opd_lrng, opd_dcp, opd_dprs, opd_lc, opd_lc2, opd_lc3, exS_set, exS_unp, exS_par, exS_parO, exS_store, exS_app, exS_expr, exS_ifs, exS_for_, exS_whil, exS_ret, exS_retv, exS_retN, exS_brk, exS_cont, exS_pass, exS_never, exSs_nil, exSs_cons, part_none, part_some, evIt, opds, vals, op2, cont, conts, Res.bind, Res.bindN, Res.sb, SRes.sq, lift, cmpP, binP, idxP, callP, finF, endF, backOf, isLent, SV.d, SV.lent, callR, lentOf, sharedSl, shLst, freezeSl, putBack, D.flat, tru, unpS, asg_tup, asg_ktup, asg_lst, asgs_cons, asgs_nil, setS_eq, asg_nm, free_none, free_dat, free_own, D.seq?, Z24, hasSlot, hasLst, modS, putAt, pushAt, retvS, lcFin, testO, DL.isP, keepO, List.replicate, F__law_counts, Mn.d, prD, at0, at1, at20, at21, e1, e2, countI, h1, h2]
  · have h2 : ¬ cameI m.i p.1 < wentI m.o p.2 := by omega
    simp [ev_var, ev_cst, ev_glb, ev_fnv, ev_tup, ev_lst, ev_lmul, ev_dic_false, ev_dic_true, ev_dic1, ev_bin, ev_neg, ev_cmp, ev_chain, ev_and, ev_or, ev_not, ev_ite, ev_idx, ev_slc, ev_rev, ev_call, ev_callv, ev_bi, ev_inst, ev_get, ev_lrng, ev_dcp, ev_dprs, ev_lc, ev_lc2, ev_lc3, evT_and, evT_or, evT_not, evT_var, evT_cst, evT_glb, evT_fnv, evT_tup, evT_lst, evT_lmul, evT_dic, evT_dic1, evT_bin, evT_neg, evT_cmp, evT_chain, evT_ite, evT_idx, evT_slc, evT_rev, evT_call, evT_callv, evT_bi, evT_inst, evT_get, evT_lrng, evT_dcp, evT_dprs, evT_lc, evT_lc2, evT_lc3, opd_var, opd_cst, opd_glb, opd_fnv, opd_tup, opd_lst, opd_lmul, opd_dic, opd_dic1, opd_bin, opd_neg, opd_cmp, opd_chain, opd_and, opd_or, opd_not, opd_ite, opd_idx, opd_slc, opd_rev, opd_call, opd_callv, opd_bi, opd_inst, opd_get, opd_lrng, opd_dcp, opd_dprs, opd_lc, opd_lc2, opd_lc3, exS_set, exS_unp, exS_par, exS_parO, exS_store, exS_app, exS_expr, exS_ifs, exS_for_, exS_whil, exS_ret, exS_retv, exS_retN, exS_brk, exS_cont, exS_pass, exS_never, exSs_nil, exSs_cons, part_none, part_some, evIt, opds, vals, op2, cont, conts, Res.bind, Res.bindN, Res.sb, SRes.sq, lift, cmpP, binP, idxP, callP, finF, endF, backOf, isLent, SV.d, SV.lent, callR, lentOf, sharedSl, shLst, freezeSl, putBack, D.flat, tru, unpS, asg_tup, asg_ktup, asg_lst, asgs_cons, asgs_nil, setS_eq, asg_nm, free_none, free_dat, free_own, D.seq?, Z24, hasSlot, hasLst, modS, putAt, pushAt, retvS, lcFin, testO, DL.isP, keepO, List.replicate, F__law_counts, Mn.d, prD, at0, at1, at20, at21, e1, e2, countI, h1, h2]
theorem parts_ok (k : Nat) {m : Mn} (h : m.ok) (p : Int × Int) : semK glob gvG 100 (k + 3) 35 [.dat m.d, .dat (prD p)] = .ok (.dat (prD (partsI m p))) none := by
  have e1 := count_ok k h p
  have e2 := split_ok k h (countI m p)
  rw [semK_eq g_parts_of]
  simp only [Mn.d, prD] at e1 e2 ⊢
  simp [ev_var, ev_cst, ev_glb, ev_fnv, ev_tup, ev_lst, ev_lmul, ev_dic_false, ev_dic_true, ev_dic1, ev_bin, ev_neg, ev_cmp, ev_chain, ev_and, ev_or, ev_not, ev_ite, ev_idx, ev_slc, ev_rev, ev_call, ev_callv, ev_bi, ev_inst, ev_get, ev_lrng, ev_dcp, ev_dprs, ev_lc, ev_lc2, ev_lc3, evT_and, evT_or, evT_not, evT_var, evT_cst, evT_glb, evT_fnv, evT_tup, evT_lst, evT_lmul, evT_dic, evT_dic1, evT_bin, evT_neg, evT_cmp, evT_chain, evT_ite, evT_idx, evT_slc, evT_rev, evT_call, evT_callv, evT_bi, evT_inst, evT_get, evT_lrng, evT_dcp, evT_dprs, evT_lc, evT_lc2, evT_lc3, opd_var, opd_cst, opd_glb, opd_fnv, opd_tup, opd_lst, opd_lmul, opd_dic, opd_dic1, opd_bin, opd_neg, opd_cmp, opd_chain, opd_and, opd_or, opd_not, opd_ite, opd_idx, opd_slc, opd_rev, opd_call, opd_callv, opd_bi, opd_inst, opd_get, opd_lrng, opd_dcp, opd_dprs, opd_lc, opd_lc2, opd_lc3, exS_set, exS_unp, exS_par, exS_parO, exS_store, exS_app, exS_expr, exS_ifs, exS_for_, exS_whil, exS_ret, exS_retv, exS_retN, exS_brk, exS_cont, exS_pass, exS_never, exSs_nil, exSs_cons, part_none, part_some, evIt, opds, vals, op2, cont, conts, Res.bind, Res.bindN, Res.sb, SRes.sq, lift, cmpP, binP, idxP, callP, finF, endF, backOf, isLent, SV.d, SV.lent, callR, lentOf, sharedSl, shLst, freezeSl, putBack, D.flat, tru, unpS, asg_tup, asg_ktup, asg_lst, asgs_cons, asgs_nil, setS_eq, asg_nm, free_none, free_dat, free_own, D.seq?, Z24, hasSlot, hasLst, modS, putAt, pushAt, retvS, lcFin, testO, DL.isP, keepO, List.replicate, F_parts_of, Mn.d, prD, e1, e2, partsI]
end DL

namespace DL
open PySem PySem.Spec PyProof.Rows L2

/-! ### the checks, of good values -/
theorem from_ok (k : Nat) (i lo hi : Int) : semK glob gvG 100 (k + 1) 0 [.dat (.int i), .dat (.int lo), .dat (.int hi)] = .ok (.dat (.bl (decide (lo ≤ i ∧ i ≤ hi)))) none := by
  rw [semK_eq g_is_from]
  by_cases h1 : lo ≤ i <;> by_cases h2 : i ≤ hi <;> simp [ev_var, ev_cst, ev_glb, ev_fnv, ev_tup, ev_lst, ev_lmul, ev_dic_false, ev_dic_true, ev_dic1, ev_bin, ev_neg, ev_cmp, ev_chain, ev_and, ev_or, ev_not, ev_ite, ev_idx, ev_slc, ev_rev, ev_call, ev_callv, ev_bi, ev_inst, ev_get, ev_lrng, ev_dcp, ev_dprs, ev_lc, ev_lc2, ev_lc3, evT_and, evT_or, evT_not, evT_var, evT_cst, evT_glb, evT_fnv, evT_tup, evT_lst, evT_lmul, evT_dic, evT_dic1, evT_bin, evT_neg, evT_cmp, evT_chain, evT_ite, evT_idx, evT_slc, evT_rev, evT_call, evT_callv, evT_bi, evT_inst, evT_get, evT_lrng, evT_dcp, evT_dprs, evT_lc, evT_lc2, evT_lc3, opd_var, opd_cst, opd_glb, opd_fnv, opd_tup, opd_lst, opd_lmul, opd_dic, opd_dic1, opd_bin, opd_neg, opd_cmp, opd_chain, opd_and, opd_or, opd_not, opd_ite, opd_idx, opd_slc, opd_rev, opd_call, opd_callv, opd_bi, opd_inst, opd_get, opd_lrng, opd_dcp, opd_dprs, opd_lc, opd_lc2, opd_lc3, exS_set, exS_unp, exS_par, exS_parO, exS_store, exS_app, exS_expr, exS_ifs, exS_for_, exS_whil, exS_ret, exS_retv, exS_retN, exS_brk, exS_cont, exS_pass, exS_never, exSs_nil, exSs_cons, part_none, part_some, evIt, opds, vals, op2, cont, conts, Res.bind, Res.bindN, Res.sb, SRes.sq, lift, cmpP, binP, idxP, callP, finF, endF, backOf, isLent, SV.d, SV.lent, callR, lentOf, sharedSl, shLst, freezeSl, putBack, D.flat, tru, unpS, asg_tup, asg_ktup, asg_lst, asgs_cons, asgs_nil, setS_eq, asg_nm, free_none, free_dat, free_own, D.seq?, Z24, hasSlot, hasLst, modS, putAt, pushAt, retvS, lcFin, testO, DL.isP, keepO, List.replicate, F_is_from, instP, h1, h2]
theorem g_steps : gvG 0 = some (.ktup [.int 1, .int 2, .int 3, .int 4, .int 6, .int 8, .int 12]) := rfl
theorem g_sides : gvG 1 = some (.ktup [.str "down", .str "near", .str "up"]) := rfl
theorem mem_step {s : Int} (h : s ∈ [(1 : Int), 2, 3, 4, 6, 8, 12]) : memD (.int s) [.int 1, .int 2, .int 3, .int 4, .int 6, .int 8, .int 12] = some true := by
  simp only [List.mem_cons, List.not_mem_nil, or_false] at h
  rcases h with rfl | rfl | rfl | rfl | rfl | rfl | rfl <;> decide +kernel
theorem mem_side (x : Side) : memD (.str x.s) [.str "down", .str "near", .str "up"] = some true := by
  cases x <;> decide +kernel
theorem isr_ok (k : Nat) {r : Rnd} (h : r.ok) : semK glob gvG 100 (k + 2) 1 [.dat r.d] = .ok (.dat (.bl true)) none := by
  have e1 := from_ok k r.st 1 12
  have e2 := from_ok k r.gr 0 (r.st - 1)
  have h1 := h.st
  have h2 := h.2
  have h3 := mem_step h.1
  have h4 := mem_side r.sd
  rw [semK_eq g_is_rounding_of]
  rw [show decide (1 ≤ r.st ∧ r.st ≤ 12) = true from decide_eq_true h1] at e1
  rw [show decide (0 ≤ r.gr ∧ r.gr ≤ r.st - 1) = true from decide_eq_true ⟨h2.1, by omega⟩] at e2
  simp [ev_var, ev_cst, ev_glb, ev_fnv, ev_tup, ev_lst, ev_lmul, ev_dic_false, ev_dic_true, ev_dic1, ev_bin, ev_neg, ev_cmp, ev_chain, ev_and, ev_or, ev_not, ev_ite, ev_idx, ev_slc, ev_rev, ev_call, ev_callv, ev_bi, ev_inst, ev_get, ev_lrng, ev_dcp, ev_dprs, ev_lc, ev_lc2, ev_lc3, evT_and, evT_or, evT_not, evT_var, evT_cst, evT_glb, evT_fnv, evT_tup, evT_lst, evT_lmul, evT_dic, evT_dic1, evT_bin, evT_neg, evT_cmp, evT_chain, evT_ite, evT_idx, evT_slc, evT_rev, evT_call, evT_callv, evT_bi, evT_inst, evT_get, evT_lrng, evT_dcp, evT_dprs, evT_lc, evT_lc2, evT_lc3, opd_var, opd_cst, opd_glb, opd_fnv, opd_tup, opd_lst, opd_lmul, opd_dic, opd_dic1, opd_bin, opd_neg, opd_cmp, opd_chain, opd_and, opd_or, opd_not, opd_ite, opd_idx, opd_slc, opd_rev, opd_call, opd_callv, opd_bi, opd_inst, opd_get, opd_lrng, opd_dcp, opd_dprs, opd_lc, opd_lc2, opd_lc3, exS_set, exS_unp, exS_par, exS_parO, exS_store, exS_app, exS_expr, exS_ifs, exS_for_, exS_whil, exS_ret, exS_retv, exS_retN, exS_brk, exS_cont, exS_pass, exS_never, exSs_nil, exSs_cons, part_none, part_some, evIt, opds, vals, op2, cont, conts, Res.bind, Res.bindN, Res.sb, SRes.sq, lift, cmpP, binP, idxP, callP, finF, endF, backOf, isLent, SV.d, SV.lent, callR, lentOf, sharedSl, shLst, freezeSl, putBack, D.flat, tru, unpS, asg_tup, asg_ktup, asg_lst, asgs_cons, asgs_nil, setS_eq, asg_nm, free_none, free_dat, free_own, D.seq?, Z24, hasSlot, hasLst, modS, putAt, pushAt, retvS, lcFin, testO, DL.isP, keepO, List.replicate, F_is_rounding_of, Rnd.d, instP, e1, e2, g_steps, g_sides, inP, h3, h4]
theorem isb_ok (k : Nat) {br : List (Int × Int)} (h : brOk br) : semK glob gvG 100 (k + 2) 2 [.dat (.tup (br.map prD))] = .ok (.dat (.bl true)) none := by
  have g96 : gvG 2 = some (.int 96) := rfl
  have g8 : gvG 3 = some (.int 8) := rfl
  have e : ∀ i lo hi : Int, lo ≤ i ∧ i ≤ hi → semK glob gvG 100 (k + 1) 0 [.dat (.int i), .dat (.int lo), .dat (.int hi)] = .ok (.dat (.bl true)) none := fun i lo hi h => by
    rw [from_ok, decide_eq_true h]
  rw [semK_eq g_are_breaks_of]
  rcases br3 h with rfl | ⟨⟨a, b⟩, rfl⟩ | ⟨⟨a, b⟩, ⟨c, d⟩, rfl⟩
  · simp [ev_var, ev_cst, ev_glb, ev_fnv, ev_tup, ev_lst, ev_lmul, ev_dic_false, ev_dic_true, ev_dic1, ev_bin, ev_neg, ev_cmp, ev_chain, ev_and, ev_or, ev_not, ev_ite, ev_idx, ev_slc, ev_rev, ev_call, ev_callv, ev_bi, ev_inst, ev_get, ev_lrng, ev_dcp, ev_dprs, ev_lc, ev_lc2, ev_lc3, evT_and, evT_or, evT_not, evT_var, evT_cst, evT_glb, evT_fnv, evT_tup, evT_lst, evT_lmul, evT_dic, evT_dic1, evT_bin, evT_neg, evT_cmp, evT_chain, evT_ite, evT_idx, evT_slc, evT_rev, evT_call, evT_callv, evT_bi, evT_inst, evT_get, evT_lrng, evT_dcp, evT_dprs, evT_lc, evT_lc2, evT_lc3, opd_var, opd_cst, opd_glb, opd_fnv, opd_tup, opd_lst, opd_lmul, opd_dic, opd_dic1, opd_bin, opd_neg, opd_cmp, opd_chain, opd_and, opd_or, opd_not, opd_ite, opd_idx, opd_slc, opd_rev, opd_call, opd_callv, opd_bi, opd_inst, opd_get, opd_lrng, opd_dcp, opd_dprs, opd_lc, opd_lc2, opd_lc3, exS_set, exS_unp, exS_par, exS_parO, exS_store, exS_app, exS_expr, exS_ifs, exS_for_, exS_whil, exS_ret, exS_retv, exS_retN, exS_brk, exS_cont, exS_pass, exS_never, exSs_nil, exSs_cons, part_none, part_some, evIt, opds, vals, op2, cont, conts, Res.bind, Res.bindN, Res.sb, SRes.sq, lift, cmpP, binP, idxP, callP, finF, endF, backOf, isLent, SV.d, SV.lent, callR, lentOf, sharedSl, shLst, freezeSl, putBack, D.flat, tru, unpS, asg_tup, asg_ktup, asg_lst, asgs_cons, asgs_nil, setS_eq, asg_nm, free_none, free_dat, free_own, D.seq?, Z24, hasSlot, hasLst, modS, putAt, pushAt, retvS, lcFin, testO, DL.isP, keepO, List.replicate, F_are_breaks_of, instP, forGo]
  · have e1 := e a 1 96 h.1
    have e2 := e b 1 8 h.2
    simp [ev_var, ev_cst, ev_glb, ev_fnv, ev_tup, ev_lst, ev_lmul, ev_dic_false, ev_dic_true, ev_dic1, ev_bin, ev_neg, ev_cmp, ev_chain, ev_and, ev_or, ev_not, ev_ite, ev_idx, ev_slc, ev_rev, ev_call, ev_callv, ev_bi, ev_inst, ev_get, ev_lrng, ev_dcp, ev_dprs, ev_lc, ev_lc2, ev_lc3, evT_and, evT_or, evT_not, evT_var, evT_cst, evT_glb, evT_fnv, evT_tup, evT_lst, evT_lmul, evT_dic, evT_dic1, evT_bin, evT_neg, evT_cmp, evT_chain, evT_ite, evT_idx, evT_slc, evT_rev, evT_call, evT_callv, evT_bi, evT_inst, evT_get, evT_lrng, evT_dcp, evT_dprs, evT_lc, evT_lc2, evT_lc3, opd_var, opd_cst, opd_glb, opd_fnv, opd_tup, opd_lst, opd_lmul, opd_dic, opd_dic1, opd_bin, opd_neg, opd_cmp, opd_chain, opd_and, opd_or, opd_not, opd_ite, opd_idx, opd_slc, opd_rev, opd_call, opd_callv, opd_bi, opd_inst, opd_get, opd_lrng, opd_dcp, opd_dprs, opd_lc, opd_lc2, opd_lc3, exS_set, exS_unp, exS_par, exS_parO, exS_store, exS_app, exS_expr, exS_ifs, exS_for_, exS_whil, exS_ret, exS_retv, exS_retN, exS_brk, exS_cont, exS_pass, exS_never, exSs_nil, exSs_cons, part_none, part_some, evIt, opds, vals, op2, cont, conts, Res.bind, Res.bindN, Res.sb, SRes.sq, lift, cmpP, binP, idxP, callP, finF, endF, backOf, isLent, SV.d, SV.lent, callR, lentOf, sharedSl, shLst, freezeSl, putBack, D.flat, tru, unpS, asg_tup, asg_ktup, asg_lst, asgs_cons, asgs_nil, setS_eq, asg_nm, free_none, free_dat, free_own, D.seq?, Z24, hasSlot, hasLst, modS, putAt, pushAt, retvS, lcFin, testO, DL.isP, keepO, List.replicate, F_are_breaks_of, prD, instP, forGo, at20, at21, e1, e2, g96, g8]
  · obtain ⟨h1, h2, h3⟩ := h
    have e1 := e a 1 96 h1.1
    have e2 := e b 1 8 h1.2
    have e3 := e c 1 96 h2.1
    have e4 := e d 1 8 h2.2
    simp only at h3
    simp [ev_var, ev_cst, ev_glb, ev_fnv, ev_tup, ev_lst, ev_lmul, ev_dic_false, ev_dic_true, ev_dic1, ev_bin, ev_neg, ev_cmp, ev_chain, ev_and, ev_or, ev_not, ev_ite, ev_idx, ev_slc, ev_rev, ev_call, ev_callv, ev_bi, ev_inst, ev_get, ev_lrng, ev_dcp, ev_dprs, ev_lc, ev_lc2, ev_lc3, evT_and, evT_or, evT_not, evT_var, evT_cst, evT_glb, evT_fnv, evT_tup, evT_lst, evT_lmul, evT_dic, evT_dic1, evT_bin, evT_neg, evT_cmp, evT_chain, evT_ite, evT_idx, evT_slc, evT_rev, evT_call, evT_callv, evT_bi, evT_inst, evT_get, evT_lrng, evT_dcp, evT_dprs, evT_lc, evT_lc2, evT_lc3, opd_var, opd_cst, opd_glb, opd_fnv, opd_tup, opd_lst, opd_lmul, opd_dic, opd_dic1, opd_bin, opd_neg, opd_cmp, opd_chain, opd_and, opd_or, opd_not, opd_ite, opd_idx, opd_slc, opd_rev, opd_call, opd_callv, opd_bi, opd_inst, opd_get, opd_lrng, opd_dcp, opd_dprs, opd_lc, opd_lc2, opd_lc3, exS_set, exS_unp, exS_par, exS_parO, exS_store, exS_app, exS_expr, exS_ifs, exS_for_, exS_whil, exS_ret, exS_retv, exS_retN, exS_brk, exS_cont, exS_pass, exS_never, exSs_nil, exSs_cons, part_none, part_some, evIt, opds, vals, op2, cont, conts, Res.bind, Res.bindN, Res.sb, SRes.sq, lift, cmpP, binP, idxP, callP, finF, endF, backOf, isLent, SV.d, SV.lent, callR, lentOf, sharedSl, shLst, freezeSl, putBack, D.flat, tru, unpS, asg_tup, asg_ktup, asg_lst, asgs_cons, asgs_nil, setS_eq, asg_nm, free_none, free_dat, free_own, D.seq?, Z24, hasSlot, hasLst, modS, putAt, pushAt, retvS, lcFin, testO, DL.isP, keepO, List.replicate, F_are_breaks_of, prD, instP, forGo, at20, at21, e1, e2, e3, e4, g96, g8, h3]
theorem ism_ok (k : Nat) {m : Mn} (h : m.ok) : semK glob gvG 100 (k + 3) 3 [.dat m.d] = .ok (.dat (.bl true)) none := by
  have g96 : gvG 2 = some (.int 96) := rfl
  have g5 : gvG 4 = some (.int 5) := rfl
  have e1 := isr_ok k h.i
  have e2 := isr_ok k h.o
  have e3 := isb_ok k h.br
  have e : ∀ i lo hi : Int, lo ≤ i ∧ i ≤ hi → semK glob gvG 100 (k + 2) 0 [.dat (.int i), .dat (.int lo), .dat (.int hi)] = .ok (.dat (.bl true)) none := fun i lo hi h => by
    rw [from_ok, decide_eq_true h]
  rw [semK_eq g_is_manner_of]
  obtain ⟨mi, mo, br, dl, wl⟩ := m
  have hd := h.dl
  have hw := h.wl
  simp only at hd hw e1 e2 e3
  cases dl with
  | none =>
    cases wl with
    | none => simp [ev_var, ev_cst, ev_glb, ev_fnv, ev_tup, ev_lst, ev_lmul, ev_dic_false, ev_dic_true, ev_dic1, ev_bin, ev_neg, ev_cmp, ev_chain, ev_and, ev_or, ev_not, ev_ite, ev_idx, ev_slc, ev_rev, ev_call, ev_callv, ev_bi, ev_inst, ev_get, ev_lrng, ev_dcp, ev_dprs, ev_lc, ev_lc2, ev_lc3, evT_and, evT_or, evT_not, evT_var, evT_cst, evT_glb, evT_fnv, evT_tup, evT_lst, evT_lmul, evT_dic, evT_dic1, evT_bin, evT_neg, evT_cmp, evT_chain, evT_ite, evT_idx, evT_slc, evT_rev, evT_call, evT_callv, evT_bi, evT_inst, evT_get, evT_lrng, evT_dcp, evT_dprs, evT_lc, evT_lc2, evT_lc3, opd_var, opd_cst, opd_glb, opd_fnv, opd_tup, opd_lst, opd_lmul, opd_dic, opd_dic1, opd_bin, opd_neg, opd_cmp, opd_chain, opd_and, opd_or, opd_not, opd_ite, opd_idx, opd_slc, opd_rev, opd_call, opd_callv, opd_bi, opd_inst, opd_get, opd_lrng, opd_dcp, opd_dprs, opd_lc, opd_lc2, opd_lc3, exS_set, exS_unp, exS_par, exS_parO, exS_store, exS_app, exS_expr, exS_ifs, exS_for_, exS_whil, exS_ret, exS_retv, exS_retN, exS_brk, exS_cont, exS_pass, exS_never, exSs_nil, exSs_cons, part_none, part_some, evIt, opds, vals, op2, cont, conts, Res.bind, Res.bindN, Res.sb, SRes.sq, lift, cmpP, binP, idxP, callP, finF, endF, backOf, isLent, SV.d, SV.lent, callR, lentOf, sharedSl, shLst, freezeSl, putBack, D.flat, tru, unpS, asg_tup, asg_ktup, asg_lst, asgs_cons, asgs_nil, setS_eq, asg_nm, free_none, free_dat, free_own, D.seq?, Z24, hasSlot, hasLst, modS, putAt, pushAt, retvS, lcFin, testO, DL.isP, keepO, List.replicate, F_is_manner_of, Mn.d, optD_none, instP, e1, e2, e3]
    | some y =>
      have e5 := e y 1 480 (hw y rfl)
      simp [ev_var, ev_cst, ev_glb, ev_fnv, ev_tup, ev_lst, ev_lmul, ev_dic_false, ev_dic_true, ev_dic1, ev_bin, ev_neg, ev_cmp, ev_chain, ev_and, ev_or, ev_not, ev_ite, ev_idx, ev_slc, ev_rev, ev_call, ev_callv, ev_bi, ev_inst, ev_get, ev_lrng, ev_dcp, ev_dprs, ev_lc, ev_lc2, ev_lc3, evT_and, evT_or, evT_not, evT_var, evT_cst, evT_glb, evT_fnv, evT_tup, evT_lst, evT_lmul, evT_dic, evT_dic1, evT_bin, evT_neg, evT_cmp, evT_chain, evT_ite, evT_idx, evT_slc, evT_rev, evT_call, evT_callv, evT_bi, evT_inst, evT_get, evT_lrng, evT_dcp, evT_dprs, evT_lc, evT_lc2, evT_lc3, opd_var, opd_cst, opd_glb, opd_fnv, opd_tup, opd_lst, opd_lmul, opd_dic, opd_dic1, opd_bin, opd_neg, opd_cmp, opd_chain, opd_and, opd_or, opd_not, opd_ite, opd_idx, opd_slc, opd_rev, opd_call, opd_callv, opd_bi, opd_inst, opd_get, opd_lrng, opd_dcp, opd_dprs, opd_lc, opd_lc2, opd_lc3, exS_set, exS_unp, exS_par, exS_parO, exS_store, exS_app, exS_expr, exS_ifs, exS_for_, exS_whil, exS_ret, exS_retv, exS_retN, exS_brk, exS_cont, exS_pass, exS_never, exSs_nil, exSs_cons, part_none, part_some, evIt, opds, vals, op2, cont, conts, Res.bind, Res.bindN, Res.sb, SRes.sq, lift, cmpP, binP, idxP, callP, finF, endF, backOf, isLent, SV.d, SV.lent, callR, lentOf, sharedSl, shLst, freezeSl, putBack, D.flat, tru, unpS, asg_tup, asg_ktup, asg_lst, asgs_cons, asgs_nil, setS_eq, asg_nm, free_none, free_dat, free_own, D.seq?, Z24, hasSlot, hasLst, modS, putAt, pushAt, retvS, lcFin, testO, DL.isP, keepO, List.replicate, F_is_manner_of, Mn.d, optD_none, optD_some, instP, e1, e2, e3, e5, g96, g5]
  | some x =>
    have e4 := e x 1 96 (hd x rfl)
    cases wl with
    | none => simp [ev_var, ev_cst, ev_glb, ev_fnv, ev_tup, ev_lst, ev_lmul, ev_dic_false, ev_dic_true, ev_dic1, ev_bin, ev_neg, ev_cmp, ev_chain, ev_and, ev_or, ev_not, ev_ite, ev_idx, ev_slc, ev_rev, ev_call, ev_callv, ev_bi, ev_inst, ev_get, ev_lrng, ev_dcp, ev_dprs, ev_lc, ev_lc2, ev_lc3, evT_and, evT_or, evT_not, evT_var, evT_cst, evT_glb, evT_fnv, evT_tup, evT_lst, evT_lmul, evT_dic, evT_dic1, evT_bin, evT_neg, evT_cmp, evT_chain, evT_ite, evT_idx, evT_slc, evT_rev, evT_call, evT_callv, evT_bi, evT_inst, evT_get, evT_lrng, evT_dcp, evT_dprs, evT_lc, evT_lc2, evT_lc3, opd_var, opd_cst, opd_glb, opd_fnv, opd_tup, opd_lst, opd_lmul, opd_dic, opd_dic1, opd_bin, opd_neg, opd_cmp, opd_chain, opd_and, opd_or, opd_not, opd_ite, opd_idx, opd_slc, opd_rev, opd_call, opd_callv, opd_bi, opd_inst, opd_get, opd_lrng, opd_dcp, opd_dprs, opd_lc, opd_lc2, opd_lc3, exS_set, exS_unp, exS_par, exS_parO, exS_store, exS_app, exS_expr, exS_ifs, exS_for_, exS_whil, exS_ret, exS_retv, exS_retN, exS_brk, exS_cont, exS_pass, exS_never, exSs_nil, exSs_cons, part_none, part_some, evIt, opds, vals, op2, cont, conts, Res.bind, Res.bindN, Res.sb, SRes.sq, lift, cmpP, binP, idxP, callP, finF, endF, backOf, isLent, SV.d, SV.lent, callR, lentOf, sharedSl, shLst, freezeSl, putBack, D.flat, tru, unpS, asg_tup, asg_ktup, asg_lst, asgs_cons, asgs_nil, setS_eq, asg_nm, free_none, free_dat, free_own, D.seq?, Z24, hasSlot, hasLst, modS, putAt, pushAt, retvS, lcFin, testO, DL.isP, keepO, List.replicate, F_is_manner_of, Mn.d, optD_none, optD_some, instP, e1, e2, e3, e4, g96, g5]
    | some y =>
      have e5 := e y 1 480 (hw y rfl)
      simp [ev_var, ev_cst, ev_glb, ev_fnv, ev_tup, ev_lst, ev_lmul, ev_dic_false, ev_dic_true, ev_dic1, ev_bin, ev_neg, ev_cmp, ev_chain, ev_and, ev_or, ev_not, ev_ite, ev_idx, ev_slc, ev_rev, ev_call, ev_callv, ev_bi, ev_inst, ev_get, ev_lrng, ev_dcp, ev_dprs, ev_lc, ev_lc2, ev_lc3, evT_and, evT_or, evT_not, evT_var, evT_cst, evT_glb, evT_fnv, evT_tup, evT_lst, evT_lmul, evT_dic, evT_dic1, evT_bin, evT_neg, evT_cmp, evT_chain, evT_ite, evT_idx, evT_slc, evT_rev, evT_call, evT_callv, evT_bi, evT_inst, evT_get, evT_lrng, evT_dcp, evT_dprs, evT_lc, evT_lc2, evT_lc3, opd_var, opd_cst, opd_glb, opd_fnv, opd_tup, opd_lst, opd_lmul, opd_dic, opd_dic1, opd_bin, opd_neg, opd_cmp, opd_chain, opd_and, opd_or, opd_not, opd_ite, opd_idx, opd_slc, opd_rev, opd_call, opd_callv, opd_bi, opd_inst, opd_get, opd_lrng, opd_dcp, opd_dprs, opd_lc, opd_lc2, opd_lc3, exS_set, exS_unp, exS_par, exS_parO, exS_store, exS_app, exS_expr, exS_ifs, exS_for_, exS_whil, exS_ret, exS_retv, exS_retN, exS_brk, exS_cont, exS_pass, exS_never, exSs_nil, exSs_cons, part_none, part_some, evIt, opds, vals, op2, cont, conts, Res.bind, Res.bindN, Res.sb, SRes.sq, lift, cmpP, binP, idxP, callP, finF, endF, backOf, isLent, SV.d, SV.lent, callR, lentOf, sharedSl, shLst, freezeSl, putBack, D.flat, tru, unpS, asg_tup, asg_ktup, asg_lst, asgs_cons, asgs_nil, setS_eq, asg_nm, free_none, free_dat, free_own, D.seq?, Z24, hasSlot, hasLst, modS, putAt, pushAt, retvS, lcFin, testO, DL.isP, keepO, List.replicate, F_is_manner_of, Mn.d, optD_none, optD_some, instP, e1, e2, e3, e4, e5, g96, g5]
theorem needm_ok (k : Nat) {m : Mn} (h : m.ok) : semK glob gvG 100 (k + 4) 16 [.dat m.d] = .ok (.dat .non) none := by
  have e1 := ism_ok k h
  rw [semK_eq g_need_manner]
  simp [ev_var, ev_cst, ev_glb, ev_fnv, ev_tup, ev_lst, ev_lmul, ev_dic_false, ev_dic_true, ev_dic1, ev_bin, ev_neg, ev_cmp, ev_chain, ev_and, ev_or, ev_not, ev_ite, ev_idx, ev_slc, ev_rev, ev_call, ev_callv, ev_bi, ev_inst, ev_get, ev_lrng, ev_dcp, ev_dprs, ev_lc, ev_lc2, ev_lc3, evT_and, evT_or, evT_not, evT_var, evT_cst, evT_glb, evT_fnv, evT_tup, evT_lst, evT_lmul, evT_dic, evT_dic1, evT_bin, evT_neg, evT_cmp, evT_chain, evT_ite, evT_idx, evT_slc, evT_rev, evT_call, evT_callv, evT_bi, evT_inst, evT_get, evT_lrng, evT_dcp, evT_dprs, evT_lc, evT_lc2, evT_lc3, opd_var, opd_cst, opd_glb, opd_fnv, opd_tup, opd_lst, opd_lmul, opd_dic, opd_dic1, opd_bin, opd_neg, opd_cmp, opd_chain, opd_and, opd_or, opd_not, opd_ite, opd_idx, opd_slc, opd_rev, opd_call, opd_callv, opd_bi, opd_inst, opd_get, opd_lrng, opd_dcp, opd_dprs, opd_lc, opd_lc2, opd_lc3, exS_set, exS_unp, exS_par, exS_parO, exS_store, exS_app, exS_expr, exS_ifs, exS_for_, exS_whil, exS_ret, exS_retv, exS_retN, exS_brk, exS_cont, exS_pass, exS_never, exSs_nil, exSs_cons, part_none, part_some, evIt, opds, vals, op2, cont, conts, Res.bind, Res.bindN, Res.sb, SRes.sq, lift, cmpP, binP, idxP, callP, finF, endF, backOf, isLent, SV.d, SV.lent, callR, lentOf, sharedSl, shLst, freezeSl, putBack, D.flat, tru, unpS, asg_tup, asg_ktup, asg_lst, asgs_cons, asgs_nil, setS_eq, asg_nm, free_none, free_dat, free_own, D.seq?, Z24, hasSlot, hasLst, modS, putAt, pushAt, retvS, lcFin, testO, DL.isP, keepO, List.replicate, F_need_manner, e1]
/-- a day -/
def dayOk (p : Int × Int) : Prop := 0 ≤ p.1 ∧ p.1 < p.2 ∧ p.2 ≤ 96
theorem isd_ok (k : Nat) {p : Int × Int} (h : dayOk p) : semK glob gvG 100 (k + 2) 28 [.dat (prD p)] = .ok (.dat (.bl true)) none := by
  have g96 : gvG 2 = some (.int 96) := rfl
  obtain ⟨a, b⟩ := p
  obtain ⟨h1, h2, h3⟩ := h
  simp only at h1 h2 h3
  have e1 : semK glob gvG 100 (k + 1) 0 [.dat (.int a), .dat (.int 0), .dat (.int 96)] = .ok (.dat (.bl true)) none := by rw [from_ok, decide_eq_true ⟨h1, by omega⟩]
  have e2 : semK glob gvG 100 (k + 1) 0 [.dat (.int b), .dat (.int 0), .dat (.int 96)] = .ok (.dat (.bl true)) none := by rw [from_ok, decide_eq_true ⟨by omega, h3⟩]
  rw [semK_eq g_is_day_of]
  simp [ev_var, ev_cst, ev_glb, ev_fnv, ev_tup, ev_lst, ev_lmul, ev_dic_false, ev_dic_true, ev_dic1, ev_bin, ev_neg, ev_cmp, ev_chain, ev_and, ev_or, ev_not, ev_ite, ev_idx, ev_slc, ev_rev, ev_call, ev_callv, ev_bi, ev_inst, ev_get, ev_lrng, ev_dcp, ev_dprs, ev_lc, ev_lc2, ev_lc3, evT_and, evT_or, evT_not, evT_var, evT_cst, evT_glb, evT_fnv, evT_tup, evT_lst, evT_lmul, evT_dic, evT_dic1, evT_bin, evT_neg, evT_cmp, evT_chain, evT_ite, evT_idx, evT_slc, evT_rev, evT_call, evT_callv, evT_bi, evT_inst, evT_get, evT_lrng, evT_dcp, evT_dprs, evT_lc, evT_lc2, evT_lc3, opd_var, opd_cst, opd_glb, opd_fnv, opd_tup, opd_lst, opd_lmul, opd_dic, opd_dic1, opd_bin, opd_neg, opd_cmp, opd_chain, opd_and, opd_or, opd_not, opd_ite, opd_idx, opd_slc, opd_rev, opd_call, opd_callv, opd_bi, opd_inst, opd_get, opd_lrng, opd_dcp, opd_dprs, opd_lc, opd_lc2, opd_lc3, exS_set, exS_unp, exS_par, exS_parO, exS_store, exS_app, exS_expr, exS_ifs, exS_for_, exS_whil, exS_ret, exS_retv, exS_retN, exS_brk, exS_cont, exS_pass, exS_never, exSs_nil, exSs_cons, part_none, part_some, evIt, opds, vals, op2, cont, conts, Res.bind, Res.bindN, Res.sb, SRes.sq, lift, cmpP, binP, idxP, callP, finF, endF, backOf, isLent, SV.d, SV.lent, callR, lentOf, sharedSl, shLst, freezeSl, putBack, D.flat, tru, unpS, asg_tup, asg_ktup, asg_lst, asgs_cons, asgs_nil, setS_eq, asg_nm, free_none, free_dat, free_own, D.seq?, Z24, hasSlot, hasLst, modS, putAt, pushAt, retvS, lcFin, testO, DL.isP, keepO, List.replicate, F_is_day_of, prD, instP, lcGo, tame, wipeR, backR, e1, e2, g96, boolsOf, at20, at21, h2]
theorem needd_ok (k : Nat) {p : Int × Int} (h : dayOk p) : semK glob gvG 100 (k + 3) 30 [.dat (prD p)] = .ok (.dat .non) none := by
  have e1 := isd_ok k h
  rw [semK_eq g_need_day]
  simp [ev_var, ev_cst, ev_glb, ev_fnv, ev_tup, ev_lst, ev_lmul, ev_dic_false, ev_dic_true, ev_dic1, ev_bin, ev_neg, ev_cmp, ev_chain, ev_and, ev_or, ev_not, ev_ite, ev_idx, ev_slc, ev_rev, ev_call, ev_callv, ev_bi, ev_inst, ev_get, ev_lrng, ev_dcp, ev_dprs, ev_lc, ev_lc2, ev_lc3, evT_and, evT_or, evT_not, evT_var, evT_cst, evT_glb, evT_fnv, evT_tup, evT_lst, evT_lmul, evT_dic, evT_dic1, evT_bin, evT_neg, evT_cmp, evT_chain, evT_ite, evT_idx, evT_slc, evT_rev, evT_call, evT_callv, evT_bi, evT_inst, evT_get, evT_lrng, evT_dcp, evT_dprs, evT_lc, evT_lc2, evT_lc3, opd_var, opd_cst, opd_glb, opd_fnv, opd_tup, opd_lst, opd_lmul, opd_dic, opd_dic1, opd_bin, opd_neg, opd_cmp, opd_chain, opd_and, opd_or, opd_not, opd_ite, opd_idx, opd_slc, opd_rev, opd_call, opd_callv, opd_bi, opd_inst, opd_get, opd_lrng, opd_dcp, opd_dprs, opd_lc, opd_lc2, opd_lc3, exS_set, exS_unp, exS_par, exS_parO, exS_store, exS_app, exS_expr, exS_ifs, exS_for_, exS_whil, exS_ret, exS_retv, exS_retN, exS_brk, exS_cont, exS_pass, exS_never, exSs_nil, exSs_cons, part_none, part_some, evIt, opds, vals, op2, cont, conts, Res.bind, Res.bindN, Res.sb, SRes.sq, lift, cmpP, binP, idxP, callP, finF, endF, backOf, isLent, SV.d, SV.lent, callR, lentOf, sharedSl, shLst, freezeSl, putBack, D.flat, tru, unpS, asg_tup, asg_ktup, asg_lst, asgs_cons, asgs_nil, setS_eq, asg_nm, free_none, free_dat, free_own, D.seq?, Z24, hasSlot, hasLst, modS, putAt, pushAt, retvS, lcFin, testO, DL.isP, keepO, List.replicate, F_need_day, e1]
theorem counted_ok (k : Nat) {m : Mn} (h : m.ok) {p : Int × Int} (hp : dayOk p) : semK glob gvG 100 (k + 5) 37 [.dat m.d, .dat (prD p)] = .ok (.dat (.int (countI m p))) none := by
  have e1 := needm_ok k h
  have e2 := needd_ok (k + 1) hp
  have e3 := count_ok (k + 2) h p
  rw [semK_eq g_counted]
  simp only [Mn.d, prD] at e1 e2 e3 ⊢
  simp [ev_var, ev_cst, ev_glb, ev_fnv, ev_tup, ev_lst, ev_lmul, ev_dic_false, ev_dic_true, ev_dic1, ev_bin, ev_neg, ev_cmp, ev_chain, ev_and, ev_or, ev_not, ev_ite, ev_idx, ev_slc, ev_rev, ev_call, ev_callv, ev_bi, ev_inst, ev_get, ev_lrng, ev_dcp, ev_dprs, ev_lc, ev_lc2, ev_lc3, evT_and, evT_or, evT_not, evT_var, evT_cst, evT_glb, evT_fnv, evT_tup, evT_lst, evT_lmul, evT_dic, evT_dic1, evT_bin, evT_neg, evT_cmp, evT_chain, evT_ite, evT_idx, evT_slc, evT_rev, evT_call, evT_callv, evT_bi, evT_inst, evT_get, evT_lrng, evT_dcp, evT_dprs, evT_lc, evT_lc2, evT_lc3, opd_var, opd_cst, opd_glb, opd_fnv, opd_tup, opd_lst, opd_lmul, opd_dic, opd_dic1, opd_bin, opd_neg, opd_cmp, opd_chain, opd_and, opd_or, opd_not, opd_ite, opd_idx, opd_slc, opd_rev, opd_call, opd_callv, opd_bi, opd_inst, opd_get, opd_lrng, opd_dcp, opd_dprs, opd_lc, opd_lc2, opd_lc3, exS_set, exS_unp, exS_par, exS_parO, exS_store, exS_app, exS_expr, exS_ifs, exS_for_, exS_whil, exS_ret, exS_retv, exS_retN, exS_brk, exS_cont, exS_pass, exS_never, exSs_nil, exSs_cons, part_none, part_some, evIt, opds, vals, op2, cont, conts, Res.bind, Res.bindN, Res.sb, SRes.sq, lift, cmpP, binP, idxP, callP, finF, endF, backOf, isLent, SV.d, SV.lent, callR, lentOf, sharedSl, shLst, freezeSl, putBack, D.flat, tru, unpS, asg_tup, asg_ktup, asg_lst, asgs_cons, asgs_nil, setS_eq, asg_nm, free_none, free_dat, free_own, D.seq?, Z24, hasSlot, hasLst, modS, putAt, pushAt, retvS, lcFin, testO, DL.isP, keepO, List.replicate, F_counted, e1, e2, e3]
end DL

namespace DL
open PySem PySem.Spec PyProof.Rows L2

/-! ### comprehensions that map and filter -/
theorem lcGo_ok {α : Type} {fe : Env' → Res SV} {ft : Env' → Res Bool} {vs : List Nat} {T : Tg} {ρ : Env'} (g f : α → D) (p : α → Bool) : ∀ (xs : List α) (acc : List D),
    (∀ a ∈ xs, ∃ ρ1, asg T (g a) ρ = some ρ1 ∧ ft ρ1 = .ok (p a) ρ1 ∧ (p a = true → ∃ sv, fe ρ1 = .ok sv ρ1 ∧ sv.d = f a) ∧ tame ρ1 vs = true ∧ wipeR ρ1 vs = ρ) → acc.length + xs.length ≤ Z24 →
    lcGo fe ft vs T (xs.map g) acc ρ = .ok (acc ++ (xs.filter p).map f) ρ
  | [], acc, _, _ => by simp [lcGo]
  | a :: xs, acc, h, hl => by
    obtain ⟨ρ1, h1, h2, h3, h4, h5⟩ := h a List.mem_cons_self
    have hr := fun x hx => h x (List.mem_cons_of_mem _ hx)
    rw [List.length_cons] at hl
    rw [List.map_cons]
    unfold lcGo
    rw [h1]
    dsimp only
    rw [h2]
    dsimp only [Res.bindN]
    cases e : p a with
    | false =>
      rw [if_neg Bool.false_ne_true, if_pos h4, h5, lcGo_ok g f p xs acc hr (by omega), List.filter_cons_of_neg (by rw [e]; exact Bool.false_ne_true)]
    | true =>
      obtain ⟨sv, h6, h7⟩ := h3 e
      rw [if_pos rfl, h6]
      dsimp only [Res.bindN]
      rw [if_pos ⟨by omega, h4⟩, h5, lcGo_ok g f p xs _ hr (by rw [List.length_append]; simp; omega), List.filter_cons_of_pos (by rw [e]), h7]
      simp
/-- no test -/
theorem lcGo_map {α : Type} {fe : Env' → Res SV} {ev1 : Q → Env' → Res Bool} {vs : List Nat} {T : Tg} {ρ : Env'} (g f : α → D) (xs : List α)
    (h : ∀ a ∈ xs, ∃ ρ1, asg T (g a) ρ = some ρ1 ∧ (∃ sv, fe ρ1 = .ok sv ρ1 ∧ sv.d = f a) ∧ tame ρ1 vs = true ∧ wipeR ρ1 vs = ρ) (hl : xs.length ≤ Z24) : lcGo fe (testO ev1 none) vs T (xs.map g) [] ρ = .ok (xs.map f) ρ := by
  have := lcGo_ok (fe := fe) (ft := testO ev1 none) (vs := vs) (T := T) (ρ := ρ) g f (fun _ => true) xs [] (fun a ha => by
    obtain ⟨ρ1, h1, h2, h3, h4⟩ := h a ha
    exact ⟨ρ1, h1, rfl, fun _ => h2, h3, h4⟩) (by simpa using hl)
  rw [List.filter_eq_self.mpr (fun _ _ => rfl), List.nil_append] at this
  exact this
theorem rng_map (lo : Int) (n : Nat) : rangeD lo n = (List.range n).map fun i : Nat => D.int (lo + (i : Nat)) := rfl
theorem r97 : (rangeD 0 97) = (List.range 97).map fun i : Nat => D.int (0 + (i : Nat)) := rfl

/-! ### lists_of -/
def insL (m : Mn) : List D := (List.range 97).map fun i : Nat => D.int (cameI m.i (i : Nat))
def outsL (m : Mn) : List D := (List.range 97).map fun i : Nat => D.int (wentI m.o (i : Nat))
def splitsL (m : Mn) : List D := (List.range 97).map fun i : Nat => prD (splitI m (i : Nat))
theorem lists_ok (k : Nat) {m : Mn} (h : m.ok) : semK glob gvG 100 (k + 3) 47 [.dat m.d] = .ok (.dat (.tup [.lst (insL m), .lst (outsL m), .lst (splitsL m)])) none := by
  have g96 : gvG 2 = some (.int 96) := rfl
  obtain ⟨R, hR⟩ : ∃ R, rangeD 0 97 = R := ⟨_, rfl⟩
  have hR2 : R = (List.range 97).map fun i : Nat => D.int (0 + (i : Nat)) := hR.symm
  have hl : (List.range 97).length ≤ Z24 := by rw [List.length_range]; decide
  have e1 : lcGo (ev (cfk (k + 2)) 96 (.call 34 [.var 0, .var 3])) (testO (evT (cfk (k + 2)) 96) none) [3] (.nm 3) R [] [some (.dat m.d), some (.dat (.lst R)), none, none, none] = .ok (splitsL m) [some (.dat m.d), some (.dat (.lst R)), none, none, none] := by
    rw [show lcGo (ev (cfk (k + 2)) 96 (.call 34 [.var 0, .var 3])) (testO (evT (cfk (k + 2)) 96) none) [3] (.nm 3) R = lcGo (ev (cfk (k + 2)) 96 (.call 34 [.var 0, .var 3])) (testO (evT (cfk (k + 2)) 96) none) [3] (.nm 3) ((List.range 97).map fun i : Nat => D.int (0 + (i : Nat))) by rw [hR2]]
    refine lcGo_map _ _ _ (fun i hi => ⟨[some (.dat m.d), some (.dat (.lst R)), none, some (.dat (.int (0 + (i : Nat)))), none], by simp [ev_var, ev_cst, ev_glb, ev_fnv, ev_tup, ev_lst, ev_lmul, ev_dic_false, ev_dic_true, ev_dic1, ev_bin, ev_neg, ev_cmp, ev_chain, ev_and, ev_or, ev_not, ev_ite, ev_idx, ev_slc, ev_rev, ev_call, ev_callv, ev_bi, ev_inst, ev_get, ev_lrng, ev_dcp, ev_dprs, ev_lc, ev_lc2, ev_lc3, evT_and, evT_or, evT_not, evT_var, evT_cst, evT_glb, evT_fnv, evT_tup, evT_lst, evT_lmul, evT_dic, evT_dic1, evT_bin, evT_neg, evT_cmp, evT_chain, evT_ite, evT_idx, evT_slc, evT_rev, evT_call, evT_callv, evT_bi, evT_inst, evT_get, evT_lrng, evT_dcp, evT_dprs, evT_lc, evT_lc2, evT_lc3, opd_var, opd_cst, opd_glb, opd_fnv, opd_tup, opd_lst, opd_lmul, opd_dic, opd_dic1, opd_bin, opd_neg, opd_cmp, opd_chain, opd_and, opd_or, opd_not, opd_ite, opd_idx, opd_slc, opd_rev, opd_call, opd_callv, opd_bi, opd_inst, opd_get, opd_lrng, opd_dcp, opd_dprs, opd_lc, opd_lc2, opd_lc3, exS_set, exS_unp, exS_par, exS_parO, exS_store, exS_app, exS_expr, exS_ifs, exS_for_, exS_whil, exS_ret, exS_retv, exS_retN, exS_brk, exS_cont, exS_pass, exS_never, exSs_nil, exSs_cons, part_none, part_some, evIt, opds, vals, op2, cont, conts, Res.bind, Res.bindN, Res.sb, SRes.sq, lift, cmpP, binP, idxP, callP, finF, endF, backOf, isLent, SV.d, SV.lent, callR, lentOf, sharedSl, shLst, freezeSl, putBack, D.flat, tru, unpS, asg_tup, asg_ktup, asg_lst, asgs_cons, asgs_nil, setS_eq, asg_nm, free_none, free_dat, free_own, D.seq?, Z24, hasSlot, hasLst, modS, putAt, pushAt, retvS, lcFin, testO, DL.isP, keepO, List.replicate], ⟨.dat (prD (splitI m i)), ?_, rfl⟩, rfl, rfl⟩) hl
    have e := split_ok k h (i : Int)
    simp [ev_var, ev_cst, ev_glb, ev_fnv, ev_tup, ev_lst, ev_lmul, ev_dic_false, ev_dic_true, ev_dic1, ev_bin, ev_neg, ev_cmp, ev_chain, ev_and, ev_or, ev_not, ev_ite, ev_idx, ev_slc, ev_rev, ev_call, ev_callv, ev_bi, ev_inst, ev_get, ev_lrng, ev_dcp, ev_dprs, ev_lc, ev_lc2, ev_lc3, evT_and, evT_or, evT_not, evT_var, evT_cst, evT_glb, evT_fnv, evT_tup, evT_lst, evT_lmul, evT_dic, evT_dic1, evT_bin, evT_neg, evT_cmp, evT_chain, evT_ite, evT_idx, evT_slc, evT_rev, evT_call, evT_callv, evT_bi, evT_inst, evT_get, evT_lrng, evT_dcp, evT_dprs, evT_lc, evT_lc2, evT_lc3, opd_var, opd_cst, opd_glb, opd_fnv, opd_tup, opd_lst, opd_lmul, opd_dic, opd_dic1, opd_bin, opd_neg, opd_cmp, opd_chain, opd_and, opd_or, opd_not, opd_ite, opd_idx, opd_slc, opd_rev, opd_call, opd_callv, opd_bi, opd_inst, opd_get, opd_lrng, opd_dcp, opd_dprs, opd_lc, opd_lc2, opd_lc3, exS_set, exS_unp, exS_par, exS_parO, exS_store, exS_app, exS_expr, exS_ifs, exS_for_, exS_whil, exS_ret, exS_retv, exS_retN, exS_brk, exS_cont, exS_pass, exS_never, exSs_nil, exSs_cons, part_none, part_some, evIt, opds, vals, op2, cont, conts, Res.bind, Res.bindN, Res.sb, SRes.sq, lift, cmpP, binP, idxP, callP, finF, endF, backOf, isLent, SV.d, SV.lent, callR, lentOf, sharedSl, shLst, freezeSl, putBack, D.flat, tru, unpS, asg_tup, asg_ktup, asg_lst, asgs_cons, asgs_nil, setS_eq, asg_nm, free_none, free_dat, free_own, D.seq?, Z24, hasSlot, hasLst, modS, putAt, pushAt, retvS, lcFin, testO, DL.isP, keepO, List.replicate, e, prD]
  have e2 : lcGo (ev (cfk (k + 2)) 94 (.call 18 [.idx (.var 0) (.cst (.int 0)), .var 4])) (testO (evT (cfk (k + 2)) 94) none) [4] (.nm 4) R [] [some (.dat m.d), some (.dat (.lst R)), some (.own (.lst (splitsL m))), none, none] = .ok (insL m) [some (.dat m.d), some (.dat (.lst R)), some (.own (.lst (splitsL m))), none, none] := by
    rw [show lcGo (ev (cfk (k + 2)) 94 (.call 18 [.idx (.var 0) (.cst (.int 0)), .var 4])) (testO (evT (cfk (k + 2)) 94) none) [4] (.nm 4) R = lcGo (ev (cfk (k + 2)) 94 (.call 18 [.idx (.var 0) (.cst (.int 0)), .var 4])) (testO (evT (cfk (k + 2)) 94) none) [4] (.nm 4) ((List.range 97).map fun i : Nat => D.int (0 + (i : Nat))) by rw [hR2]]
    refine lcGo_map _ _ _ (fun i hi => ⟨[some (.dat m.d), some (.dat (.lst R)), some (.own (.lst (splitsL m))), none, some (.dat (.int (0 + (i : Nat))))], by simp [ev_var, ev_cst, ev_glb, ev_fnv, ev_tup, ev_lst, ev_lmul, ev_dic_false, ev_dic_true, ev_dic1, ev_bin, ev_neg, ev_cmp, ev_chain, ev_and, ev_or, ev_not, ev_ite, ev_idx, ev_slc, ev_rev, ev_call, ev_callv, ev_bi, ev_inst, ev_get, ev_lrng, ev_dcp, ev_dprs, ev_lc, ev_lc2, ev_lc3, evT_and, evT_or, evT_not, evT_var, evT_cst, evT_glb, evT_fnv, evT_tup, evT_lst, evT_lmul, evT_dic, evT_dic1, evT_bin, evT_neg, evT_cmp, evT_chain, evT_ite, evT_idx, evT_slc, evT_rev, evT_call, evT_callv, evT_bi, evT_inst, evT_get, evT_lrng, evT_dcp, evT_dprs, evT_lc, evT_lc2, evT_lc3, opd_var, opd_cst, opd_glb, opd_fnv, opd_tup, opd_lst, opd_lmul, opd_dic, opd_dic1, opd_bin, opd_neg, opd_cmp, opd_chain, opd_and, opd_or, opd_not, opd_ite, opd_idx, opd_slc, opd_rev, opd_call, opd_callv, opd_bi, opd_inst, opd_get, opd_lrng, opd_dcp, opd_dprs, opd_lc, opd_lc2, opd_lc3, exS_set, exS_unp, exS_par, exS_parO, exS_store, exS_app, exS_expr, exS_ifs, exS_for_, exS_whil, exS_ret, exS_retv, exS_retN, exS_brk, exS_cont, exS_pass, exS_never, exSs_nil, exSs_cons, part_none, part_some, evIt, opds, vals, op2, cont, conts, Res.bind, Res.bindN, Res.sb, SRes.sq, lift, cmpP, binP, idxP, callP, finF, endF, backOf, isLent, SV.d, SV.lent, callR, lentOf, sharedSl, shLst, freezeSl, putBack, D.flat, tru, unpS, asg_tup, asg_ktup, asg_lst, asgs_cons, asgs_nil, setS_eq, asg_nm, free_none, free_dat, free_own, D.seq?, Z24, hasSlot, hasLst, modS, putAt, pushAt, retvS, lcFin, testO, DL.isP, keepO, List.replicate], ⟨.dat (.int (cameI m.i i)), ?_, rfl⟩, rfl, rfl⟩) hl
    have e := came_ok (k + 1) h.i (i : Int)
    simp [ev_var, ev_cst, ev_glb, ev_fnv, ev_tup, ev_lst, ev_lmul, ev_dic_false, ev_dic_true, ev_dic1, ev_bin, ev_neg, ev_cmp, ev_chain, ev_and, ev_or, ev_not, ev_ite, ev_idx, ev_slc, ev_rev, ev_call, ev_callv, ev_bi, ev_inst, ev_get, ev_lrng, ev_dcp, ev_dprs, ev_lc, ev_lc2, ev_lc3, evT_and, evT_or, evT_not, evT_var, evT_cst, evT_glb, evT_fnv, evT_tup, evT_lst, evT_lmul, evT_dic, evT_dic1, evT_bin, evT_neg, evT_cmp, evT_chain, evT_ite, evT_idx, evT_slc, evT_rev, evT_call, evT_callv, evT_bi, evT_inst, evT_get, evT_lrng, evT_dcp, evT_dprs, evT_lc, evT_lc2, evT_lc3, opd_var, opd_cst, opd_glb, opd_fnv, opd_tup, opd_lst, opd_lmul, opd_dic, opd_dic1, opd_bin, opd_neg, opd_cmp, opd_chain, opd_and, opd_or, opd_not, opd_ite, opd_idx, opd_slc, opd_rev, opd_call, opd_callv, opd_bi, opd_inst, opd_get, opd_lrng, opd_dcp, opd_dprs, opd_lc, opd_lc2, opd_lc3, exS_set, exS_unp, exS_par, exS_parO, exS_store, exS_app, exS_expr, exS_ifs, exS_for_, exS_whil, exS_ret, exS_retv, exS_retN, exS_brk, exS_cont, exS_pass, exS_never, exSs_nil, exSs_cons, part_none, part_some, evIt, opds, vals, op2, cont, conts, Res.bind, Res.bindN, Res.sb, SRes.sq, lift, cmpP, binP, idxP, callP, finF, endF, backOf, isLent, SV.d, SV.lent, callR, lentOf, sharedSl, shLst, freezeSl, putBack, D.flat, tru, unpS, asg_tup, asg_ktup, asg_lst, asgs_cons, asgs_nil, setS_eq, asg_nm, free_none, free_dat, free_own, D.seq?, Z24, hasSlot, hasLst, modS, putAt, pushAt, retvS, lcFin, testO, DL.isP, keepO, List.replicate, Mn.d, at0, e]
  have e3 : lcGo (ev (cfk (k + 2)) 94 (.call 19 [.idx (.var 0) (.cst (.int 1)), .var 4])) (testO (evT (cfk (k + 2)) 94) none) [4] (.nm 4) R [] [some (.dat m.d), some (.dat (.lst R)), some (.own (.lst (splitsL m))), none, none] = .ok (outsL m) [some (.dat m.d), some (.dat (.lst R)), some (.own (.lst (splitsL m))), none, none] := by
    rw [show lcGo (ev (cfk (k + 2)) 94 (.call 19 [.idx (.var 0) (.cst (.int 1)), .var 4])) (testO (evT (cfk (k + 2)) 94) none) [4] (.nm 4) R = lcGo (ev (cfk (k + 2)) 94 (.call 19 [.idx (.var 0) (.cst (.int 1)), .var 4])) (testO (evT (cfk (k + 2)) 94) none) [4] (.nm 4) ((List.range 97).map fun i : Nat => D.int (0 + (i : Nat))) by rw [hR2]]
    refine lcGo_map _ _ _ (fun i hi => ⟨[some (.dat m.d), some (.dat (.lst R)), some (.own (.lst (splitsL m))), none, some (.dat (.int (0 + (i : Nat))))], by simp [ev_var, ev_cst, ev_glb, ev_fnv, ev_tup, ev_lst, ev_lmul, ev_dic_false, ev_dic_true, ev_dic1, ev_bin, ev_neg, ev_cmp, ev_chain, ev_and, ev_or, ev_not, ev_ite, ev_idx, ev_slc, ev_rev, ev_call, ev_callv, ev_bi, ev_inst, ev_get, ev_lrng, ev_dcp, ev_dprs, ev_lc, ev_lc2, ev_lc3, evT_and, evT_or, evT_not, evT_var, evT_cst, evT_glb, evT_fnv, evT_tup, evT_lst, evT_lmul, evT_dic, evT_dic1, evT_bin, evT_neg, evT_cmp, evT_chain, evT_ite, evT_idx, evT_slc, evT_rev, evT_call, evT_callv, evT_bi, evT_inst, evT_get, evT_lrng, evT_dcp, evT_dprs, evT_lc, evT_lc2, evT_lc3, opd_var, opd_cst, opd_glb, opd_fnv, opd_tup, opd_lst, opd_lmul, opd_dic, opd_dic1, opd_bin, opd_neg, opd_cmp, opd_chain, opd_and, opd_or, opd_not, opd_ite, opd_idx, opd_slc, opd_rev, opd_call, opd_callv, opd_bi, opd_inst, opd_get, opd_lrng, opd_dcp, opd_dprs, opd_lc, opd_lc2, opd_lc3, exS_set, exS_unp, exS_par, exS_parO, exS_store, exS_app, exS_expr, exS_ifs, exS_for_, exS_whil, exS_ret, exS_retv, exS_retN, exS_brk, exS_cont, exS_pass, exS_never, exSs_nil, exSs_cons, part_none, part_some, evIt, opds, vals, op2, cont, conts, Res.bind, Res.bindN, Res.sb, SRes.sq, lift, cmpP, binP, idxP, callP, finF, endF, backOf, isLent, SV.d, SV.lent, callR, lentOf, sharedSl, shLst, freezeSl, putBack, D.flat, tru, unpS, asg_tup, asg_ktup, asg_lst, asgs_cons, asgs_nil, setS_eq, asg_nm, free_none, free_dat, free_own, D.seq?, Z24, hasSlot, hasLst, modS, putAt, pushAt, retvS, lcFin, testO, DL.isP, keepO, List.replicate], ⟨.dat (.int (wentI m.o i)), ?_, rfl⟩, rfl, rfl⟩) hl
    have e := went_ok (k + 1) h.o (i : Int)
    simp [ev_var, ev_cst, ev_glb, ev_fnv, ev_tup, ev_lst, ev_lmul, ev_dic_false, ev_dic_true, ev_dic1, ev_bin, ev_neg, ev_cmp, ev_chain, ev_and, ev_or, ev_not, ev_ite, ev_idx, ev_slc, ev_rev, ev_call, ev_callv, ev_bi, ev_inst, ev_get, ev_lrng, ev_dcp, ev_dprs, ev_lc, ev_lc2, ev_lc3, evT_and, evT_or, evT_not, evT_var, evT_cst, evT_glb, evT_fnv, evT_tup, evT_lst, evT_lmul, evT_dic, evT_dic1, evT_bin, evT_neg, evT_cmp, evT_chain, evT_ite, evT_idx, evT_slc, evT_rev, evT_call, evT_callv, evT_bi, evT_inst, evT_get, evT_lrng, evT_dcp, evT_dprs, evT_lc, evT_lc2, evT_lc3, opd_var, opd_cst, opd_glb, opd_fnv, opd_tup, opd_lst, opd_lmul, opd_dic, opd_dic1, opd_bin, opd_neg, opd_cmp, opd_chain, opd_and, opd_or, opd_not, opd_ite, opd_idx, opd_slc, opd_rev, opd_call, opd_callv, opd_bi, opd_inst, opd_get, opd_lrng, opd_dcp, opd_dprs, opd_lc, opd_lc2, opd_lc3, exS_set, exS_unp, exS_par, exS_parO, exS_store, exS_app, exS_expr, exS_ifs, exS_for_, exS_whil, exS_ret, exS_retv, exS_retN, exS_brk, exS_cont, exS_pass, exS_never, exSs_nil, exSs_cons, part_none, part_some, evIt, opds, vals, op2, cont, conts, Res.bind, Res.bindN, Res.sb, SRes.sq, lift, cmpP, binP, idxP, callP, finF, endF, backOf, isLent, SV.d, SV.lent, callR, lentOf, sharedSl, shLst, freezeSl, putBack, D.flat, tru, unpS, asg_tup, asg_ktup, asg_lst, asgs_cons, asgs_nil, setS_eq, asg_nm, free_none, free_dat, free_own, D.seq?, Z24, hasSlot, hasLst, modS, putAt, pushAt, retvS, lcFin, testO, DL.isP, keepO, List.replicate, Mn.d, at1, e]
  rw [semK_eq g_lists_of]
  simp [ev_var, ev_cst, ev_glb, ev_fnv, ev_tup, ev_lst, ev_lmul, ev_dic_false, ev_dic_true, ev_dic1, ev_bin, ev_neg, ev_cmp, ev_chain, ev_and, ev_or, ev_not, ev_ite, ev_idx, ev_slc, ev_rev, ev_call, ev_callv, ev_bi, ev_inst, ev_get, ev_lrng, ev_dcp, ev_dprs, ev_lc, ev_lc2, ev_lc3, evT_and, evT_or, evT_not, evT_var, evT_cst, evT_glb, evT_fnv, evT_tup, evT_lst, evT_lmul, evT_dic, evT_dic1, evT_bin, evT_neg, evT_cmp, evT_chain, evT_ite, evT_idx, evT_slc, evT_rev, evT_call, evT_callv, evT_bi, evT_inst, evT_get, evT_lrng, evT_dcp, evT_dprs, evT_lc, evT_lc2, evT_lc3, opd_var, opd_cst, opd_glb, opd_fnv, opd_tup, opd_lst, opd_lmul, opd_dic, opd_dic1, opd_bin, opd_neg, opd_cmp, opd_chain, opd_and, opd_or, opd_not, opd_ite, opd_idx, opd_slc, opd_rev, opd_call, opd_callv, opd_bi, opd_inst, opd_get, opd_lrng, opd_dcp, opd_dprs, opd_lc, opd_lc2, opd_lc3, exS_set, exS_unp, exS_par, exS_parO, exS_store, exS_app, exS_expr, exS_ifs, exS_for_, exS_whil, exS_ret, exS_retv, exS_retN, exS_brk, exS_cont, exS_pass, exS_never, exSs_nil, exSs_cons, part_none, part_some, evIt, opds, vals, op2, cont, conts, Res.bind, Res.bindN, Res.sb, SRes.sq, lift, cmpP, binP, idxP, callP, finF, endF, backOf, isLent, SV.d, SV.lent, callR, lentOf, sharedSl, shLst, freezeSl, putBack, D.flat, tru, unpS, asg_tup, asg_ktup, asg_lst, asgs_cons, asgs_nil, setS_eq, asg_nm, free_none, free_dat, free_own, D.seq?, Z24, hasSlot, hasLst, modS, putAt, pushAt, retvS, lcFin, testO, DL.isP, keepO, List.replicate, F_lists_of, g96, tame, wipeR, backR, hR, e1, e2, e3]
end DL

namespace DL
open PySem PySem.Spec PyProof.Rows L2

/-! ### what the laws draw -/
theorem gp : glob 6 = some F_pick := rfl
theorem gd5 : glob 5 = some F_deck := rfl
theorem g7 : glob 7 = some (F_one 6) := rfl
theorem g9 : glob 9 = some (F_rounding 6) := rfl
theorem pick' (k m : Nat) {dk : D} (h : DeckOk (m + 1) dk) {n : Int} (hn : 0 < n ∧ n < 1000000) : ∃ p dk', semK glob gvG 100 (k + 1) 6 [.bor dk, .dat (.int n)] = .ok (.dat (.int p)) (some dk') ∧ (0 ≤ p ∧ p < n) ∧ DeckOk m dk' := pick_ok gp k m h hn
theorem rnd_of {d : D} (h : RoundOk d) : ∃ r : Rnd, d = r.d ∧ r.ok := by
  obtain ⟨s, x, g, rfl, hs, hx, hg⟩ := h
  simp only [List.mem_cons, List.not_mem_nil, or_false] at hx
  rcases hx with rfl | rfl | rfl
  · exact ⟨⟨s, .down, g⟩, rfl, hs, hg⟩
  · exact ⟨⟨s, .near, g⟩, rfl, hs, hg⟩
  · exact ⟨⟨s, .up, g⟩, rfl, hs, hg⟩
theorem rnd' (k m : Nat) {dk : D} (h : DeckOk (m + 3) dk) : ∃ (r : Rnd) (dk' : D), semK glob gvG 100 (k + 2) 9 [.bor dk] = .ok (.dat r.d) (some dk') ∧ r.ok ∧ DeckOk m dk' := by
  obtain ⟨d, dk', e, hr, ok⟩ := rounding_ok (gv := gvG) gp g9 k m h
  obtain ⟨r, rfl, h2⟩ := rnd_of hr
  exact ⟨r, dk', e, h2, ok⟩
theorem one' (k m : Nat) {dk : D} (h : DeckOk (m + 1) dk) {ds : List D} (hn : 0 < ds.length ∧ ds.length < 1000000) : ∃ d dk', semK glob gvG 100 (k + 2) 7 [.bor dk, .dat (.lst ds)] = .ok (.dat d) (some dk') ∧ d ∈ ds ∧ DeckOk m dk' := one_ok gp g7 k m h hn
theorem deck' (k : Nat) (x t : Int) (m : Nat) (ht : 0 ≤ t ∧ t + m ≤ 1000000) : ∃ dk, semK glob gvG 100 (k + 1) 5 [.dat (.int x), .dat (.int t)] = .ok (.own dk) none ∧ DeckOk m dk := deck_ok gd5 k x t m ht
theorem r0 : rangeD 0 0 = [] := rfl
theorem r1 : rangeD 0 1 = [.int 0] := rfl
theorem r2 : rangeD 0 2 = [.int 0, .int 1] := rfl
theorem s0 : small62 0 = true := by decide
theorem s1 : small62 1 = true := by decide
theorem s2 : small62 2 = true := by decide
theorem in2 {p : Int} (h : 0 ≤ p ∧ p < 2) : p = 0 ∨ p = 1 := by omega
theorem deck_nf {m : Nat} {dk : D} (h : DeckOk m dk) : dk.flat = false := by obtain ⟨a, b, c, rfl, _⟩ := h; rfl
theorem pair_ok (k m : Nat) {dk : D} (h : DeckOk (m + 2) dk) : ∃ (p : Int × Int) (dk' : D), semK glob gvG 100 (k + 2) 43 [.bor dk] = .ok (.dat (prD p)) (some dk') ∧ dayOk p ∧ DeckOk m dk' := by
  obtain ⟨a, dk1, e1, ha, ok⟩ := pick' k (m + 1) h (n := 96) (by decide)
  obtain ⟨b, dk2, e2, hb, ok⟩ := pick' k m ok (n := 96 - a) (by omega)
  refine ⟨(a, a + 1 + b), dk2, ?_, ⟨ha.1, by simp only; omega, by simp only; omega⟩, ok⟩
  rw [semK_eq g__law_pair]
  simp [ev_var, ev_cst, ev_glb, ev_fnv, ev_tup, ev_lst, ev_lmul, ev_dic_false, ev_dic_true, ev_dic1, ev_bin, ev_neg, ev_cmp, ev_chain, ev_and, ev_or, ev_not, ev_ite, ev_idx, ev_slc, ev_rev, ev_call, ev_callv, ev_bi, ev_inst, ev_get, ev_lrng, ev_dcp, ev_dprs, ev_lc, ev_lc2, ev_lc3, evT_and, evT_or, evT_not, evT_var, evT_cst, evT_glb, evT_fnv, evT_tup, evT_lst, evT_lmul, evT_dic, evT_dic1, evT_bin, evT_neg, evT_cmp, evT_chain, evT_ite, evT_idx, evT_slc, evT_rev, evT_call, evT_callv, evT_bi, evT_inst, evT_get, evT_lrng, evT_dcp, evT_dprs, evT_lc, evT_lc2, evT_lc3, opd_var, opd_cst, opd_glb, opd_fnv, opd_tup, opd_lst, opd_lmul, opd_dic, opd_dic1, opd_bin, opd_neg, opd_cmp, opd_chain, opd_and, opd_or, opd_not, opd_ite, opd_idx, opd_slc, opd_rev, opd_call, opd_callv, opd_bi, opd_inst, opd_get, opd_lrng, opd_dcp, opd_dprs, opd_lc, opd_lc2, opd_lc3, exS_set, exS_unp, exS_par, exS_parO, exS_store, exS_app, exS_expr, exS_ifs, exS_for_, exS_whil, exS_ret, exS_retv, exS_retN, exS_brk, exS_cont, exS_pass, exS_never, exSs_nil, exSs_cons, part_none, part_some, evIt, opds, vals, op2, cont, conts, Res.bind, Res.bindN, Res.sb, SRes.sq, lift, cmpP, binP, idxP, callP, finF, endF, backOf, isLent, SV.d, SV.lent, callR, lentOf, sharedSl, shLst, freezeSl, putBack, D.flat, tru, unpS, asg_tup, asg_ktup, asg_lst, asgs_cons, asgs_nil, setS_eq, asg_nm, free_none, free_dat, free_own, D.seq?, Z24, hasSlot, hasLst, modS, putAt, pushAt, retvS, lcFin, testO, DL.isP, keepO, List.replicate, F__law_pair, e1, e2, prD]
theorem manner_ok (k m : Nat) {dk : D} (h : DeckOk (m + 15) dk) : ∃ (r : Mn) (dk' : D), semK glob gvG 100 (k + 3) 10 [.bor dk] = .ok (.dat r.d) (some dk') ∧ r.ok ∧ DeckOk m dk' := by
  obtain ⟨p, dk1, e1, hp1, ok⟩ := pick' (k + 1) (m + 14) h (n := 3) (by decide)
  rcases in3 hp1 with rfl | rfl | rfl
  · skip
    have hb : brOk [] := by
      trivial
    obtain ⟨q, dk2, e2, hq, ok⟩ := pick' (k + 1) (m + 13) ok (n := 2) (by decide)
    rcases in2 hq with rfl | rfl
    · skip
      obtain ⟨q2, dk3, e3, hq2, ok⟩ := pick' (k + 1) (m + 12) ok (n := 2) (by decide)
      rcases in2 hq2 with rfl | rfl
      · skip
        obtain ⟨ra, dka, ea, hra, ok⟩ := rnd' k (m + 9) ok
        obtain ⟨rb, dkb, eb, hrb, ok⟩ := rnd' k (m + 6) ok
        refine ⟨⟨ra, rb, [], none, none⟩, dkb, ?_, ⟨hra, hrb, hb, (fun _ z => by cases z), (fun _ z => by cases z)⟩, ok.le (by omega)⟩
        rw [semK_eq g__law_manner]
        simp only [Rnd.d] at ea eb
        simp [ev_var, ev_cst, ev_glb, ev_fnv, ev_tup, ev_lst, ev_lmul, ev_dic_false, ev_dic_true, ev_dic1, ev_bin, ev_neg, ev_cmp, ev_chain, ev_and, ev_or, ev_not, ev_ite, ev_idx, ev_slc, ev_rev, ev_call, ev_callv, ev_bi, ev_inst, ev_get, ev_lrng, ev_dcp, ev_dprs, ev_lc, ev_lc2, ev_lc3, evT_and, evT_or, evT_not, evT_var, evT_cst, evT_glb, evT_fnv, evT_tup, evT_lst, evT_lmul, evT_dic, evT_dic1, evT_bin, evT_neg, evT_cmp, evT_chain, evT_ite, evT_idx, evT_slc, evT_rev, evT_call, evT_callv, evT_bi, evT_inst, evT_get, evT_lrng, evT_dcp, evT_dprs, evT_lc, evT_lc2, evT_lc3, opd_var, opd_cst, opd_glb, opd_fnv, opd_tup, opd_lst, opd_lmul, opd_dic, opd_dic1, opd_bin, opd_neg, opd_cmp, opd_chain, opd_and, opd_or, opd_not, opd_ite, opd_idx, opd_slc, opd_rev, opd_call, opd_callv, opd_bi, opd_inst, opd_get, opd_lrng, opd_dcp, opd_dprs, opd_lc, opd_lc2, opd_lc3, exS_set, exS_unp, exS_par, exS_parO, exS_store, exS_app, exS_expr, exS_ifs, exS_for_, exS_whil, exS_ret, exS_retv, exS_retN, exS_brk, exS_cont, exS_pass, exS_never, exSs_nil, exSs_cons, part_none, part_some, evIt, opds, vals, op2, cont, conts, Res.bind, Res.bindN, Res.sb, SRes.sq, lift, cmpP, binP, idxP, callP, finF, endF, backOf, isLent, SV.d, SV.lent, callR, lentOf, sharedSl, shLst, freezeSl, putBack, D.flat, tru, unpS, asg_tup, asg_ktup, asg_lst, asgs_cons, asgs_nil, setS_eq, asg_nm, free_none, free_dat, free_own, D.seq?, Z24, hasSlot, hasLst, modS, putAt, pushAt, retvS, lcFin, testO, DL.isP, keepO, List.replicate, F__law_manner, forGo, Mn.d, prD, Rnd.d, optD_none, optD_some, r0, r1, r2, s0, s1, s2, e1, e2, e3, ea, eb]
      · skip
        obtain ⟨y, dk4, e4, hy, ok⟩ := pick' (k + 1) (m + 11) ok (n := 300) (by decide)
        obtain ⟨ra, dka, ea, hra, ok⟩ := rnd' k (m + 8) ok
        obtain ⟨rb, dkb, eb, hrb, ok⟩ := rnd' k (m + 5) ok
        refine ⟨⟨ra, rb, [], none, (some (1 + y))⟩, dkb, ?_, ⟨hra, hrb, hb, (fun _ z => by cases z), (fun _ z => by cases z; omega)⟩, ok.le (by omega)⟩
        rw [semK_eq g__law_manner]
        simp only [Rnd.d] at ea eb
        simp [ev_var, ev_cst, ev_glb, ev_fnv, ev_tup, ev_lst, ev_lmul, ev_dic_false, ev_dic_true, ev_dic1, ev_bin, ev_neg, ev_cmp, ev_chain, ev_and, ev_or, ev_not, ev_ite, ev_idx, ev_slc, ev_rev, ev_call, ev_callv, ev_bi, ev_inst, ev_get, ev_lrng, ev_dcp, ev_dprs, ev_lc, ev_lc2, ev_lc3, evT_and, evT_or, evT_not, evT_var, evT_cst, evT_glb, evT_fnv, evT_tup, evT_lst, evT_lmul, evT_dic, evT_dic1, evT_bin, evT_neg, evT_cmp, evT_chain, evT_ite, evT_idx, evT_slc, evT_rev, evT_call, evT_callv, evT_bi, evT_inst, evT_get, evT_lrng, evT_dcp, evT_dprs, evT_lc, evT_lc2, evT_lc3, opd_var, opd_cst, opd_glb, opd_fnv, opd_tup, opd_lst, opd_lmul, opd_dic, opd_dic1, opd_bin, opd_neg, opd_cmp, opd_chain, opd_and, opd_or, opd_not, opd_ite, opd_idx, opd_slc, opd_rev, opd_call, opd_callv, opd_bi, opd_inst, opd_get, opd_lrng, opd_dcp, opd_dprs, opd_lc, opd_lc2, opd_lc3, exS_set, exS_unp, exS_par, exS_parO, exS_store, exS_app, exS_expr, exS_ifs, exS_for_, exS_whil, exS_ret, exS_retv, exS_retN, exS_brk, exS_cont, exS_pass, exS_never, exSs_nil, exSs_cons, part_none, part_some, evIt, opds, vals, op2, cont, conts, Res.bind, Res.bindN, Res.sb, SRes.sq, lift, cmpP, binP, idxP, callP, finF, endF, backOf, isLent, SV.d, SV.lent, callR, lentOf, sharedSl, shLst, freezeSl, putBack, D.flat, tru, unpS, asg_tup, asg_ktup, asg_lst, asgs_cons, asgs_nil, setS_eq, asg_nm, free_none, free_dat, free_own, D.seq?, Z24, hasSlot, hasLst, modS, putAt, pushAt, retvS, lcFin, testO, DL.isP, keepO, List.replicate, F__law_manner, forGo, Mn.d, prD, Rnd.d, optD_none, optD_some, r0, r1, r2, s0, s1, s2, e1, e2, e3, e4, ea, eb]
    · skip
      obtain ⟨x, dk3, e3, hx, ok⟩ := pick' (k + 1) (m + 12) ok (n := 60) (by decide)
      obtain ⟨q2, dk4, e4, hq2, ok⟩ := pick' (k + 1) (m + 11) ok (n := 2) (by decide)
      rcases in2 hq2 with rfl | rfl
      · skip
        obtain ⟨ra, dka, ea, hra, ok⟩ := rnd' k (m + 8) ok
        obtain ⟨rb, dkb, eb, hrb, ok⟩ := rnd' k (m + 5) ok
        refine ⟨⟨ra, rb, [], (some (1 + x)), none⟩, dkb, ?_, ⟨hra, hrb, hb, (fun _ z => by cases z; omega), (fun _ z => by cases z)⟩, ok.le (by omega)⟩
        rw [semK_eq g__law_manner]
        simp only [Rnd.d] at ea eb
        simp [ev_var, ev_cst, ev_glb, ev_fnv, ev_tup, ev_lst, ev_lmul, ev_dic_false, ev_dic_true, ev_dic1, ev_bin, ev_neg, ev_cmp, ev_chain, ev_and, ev_or, ev_not, ev_ite, ev_idx, ev_slc, ev_rev, ev_call, ev_callv, ev_bi, ev_inst, ev_get, ev_lrng, ev_dcp, ev_dprs, ev_lc, ev_lc2, ev_lc3, evT_and, evT_or, evT_not, evT_var, evT_cst, evT_glb, evT_fnv, evT_tup, evT_lst, evT_lmul, evT_dic, evT_dic1, evT_bin, evT_neg, evT_cmp, evT_chain, evT_ite, evT_idx, evT_slc, evT_rev, evT_call, evT_callv, evT_bi, evT_inst, evT_get, evT_lrng, evT_dcp, evT_dprs, evT_lc, evT_lc2, evT_lc3, opd_var, opd_cst, opd_glb, opd_fnv, opd_tup, opd_lst, opd_lmul, opd_dic, opd_dic1, opd_bin, opd_neg, opd_cmp, opd_chain, opd_and, opd_or, opd_not, opd_ite, opd_idx, opd_slc, opd_rev, opd_call, opd_callv, opd_bi, opd_inst, opd_get, opd_lrng, opd_dcp, opd_dprs, opd_lc, opd_lc2, opd_lc3, exS_set, exS_unp, exS_par, exS_parO, exS_store, exS_app, exS_expr, exS_ifs, exS_for_, exS_whil, exS_ret, exS_retv, exS_retN, exS_brk, exS_cont, exS_pass, exS_never, exSs_nil, exSs_cons, part_none, part_some, evIt, opds, vals, op2, cont, conts, Res.bind, Res.bindN, Res.sb, SRes.sq, lift, cmpP, binP, idxP, callP, finF, endF, backOf, isLent, SV.d, SV.lent, callR, lentOf, sharedSl, shLst, freezeSl, putBack, D.flat, tru, unpS, asg_tup, asg_ktup, asg_lst, asgs_cons, asgs_nil, setS_eq, asg_nm, free_none, free_dat, free_own, D.seq?, Z24, hasSlot, hasLst, modS, putAt, pushAt, retvS, lcFin, testO, DL.isP, keepO, List.replicate, F__law_manner, forGo, Mn.d, prD, Rnd.d, optD_none, optD_some, r0, r1, r2, s0, s1, s2, e1, e2, e3, e4, ea, eb]
      · skip
        obtain ⟨y, dk5, e5, hy, ok⟩ := pick' (k + 1) (m + 10) ok (n := 300) (by decide)
        obtain ⟨ra, dka, ea, hra, ok⟩ := rnd' k (m + 7) ok
        obtain ⟨rb, dkb, eb, hrb, ok⟩ := rnd' k (m + 4) ok
        refine ⟨⟨ra, rb, [], (some (1 + x)), (some (1 + y))⟩, dkb, ?_, ⟨hra, hrb, hb, (fun _ z => by cases z; omega), (fun _ z => by cases z; omega)⟩, ok.le (by omega)⟩
        rw [semK_eq g__law_manner]
        simp only [Rnd.d] at ea eb
        simp [ev_var, ev_cst, ev_glb, ev_fnv, ev_tup, ev_lst, ev_lmul, ev_dic_false, ev_dic_true, ev_dic1, ev_bin, ev_neg, ev_cmp, ev_chain, ev_and, ev_or, ev_not, ev_ite, ev_idx, ev_slc, ev_rev, ev_call, ev_callv, ev_bi, ev_inst, ev_get, ev_lrng, ev_dcp, ev_dprs, ev_lc, ev_lc2, ev_lc3, evT_and, evT_or, evT_not, evT_var, evT_cst, evT_glb, evT_fnv, evT_tup, evT_lst, evT_lmul, evT_dic, evT_dic1, evT_bin, evT_neg, evT_cmp, evT_chain, evT_ite, evT_idx, evT_slc, evT_rev, evT_call, evT_callv, evT_bi, evT_inst, evT_get, evT_lrng, evT_dcp, evT_dprs, evT_lc, evT_lc2, evT_lc3, opd_var, opd_cst, opd_glb, opd_fnv, opd_tup, opd_lst, opd_lmul, opd_dic, opd_dic1, opd_bin, opd_neg, opd_cmp, opd_chain, opd_and, opd_or, opd_not, opd_ite, opd_idx, opd_slc, opd_rev, opd_call, opd_callv, opd_bi, opd_inst, opd_get, opd_lrng, opd_dcp, opd_dprs, opd_lc, opd_lc2, opd_lc3, exS_set, exS_unp, exS_par, exS_parO, exS_store, exS_app, exS_expr, exS_ifs, exS_for_, exS_whil, exS_ret, exS_retv, exS_retN, exS_brk, exS_cont, exS_pass, exS_never, exSs_nil, exSs_cons, part_none, part_some, evIt, opds, vals, op2, cont, conts, Res.bind, Res.bindN, Res.sb, SRes.sq, lift, cmpP, binP, idxP, callP, finF, endF, backOf, isLent, SV.d, SV.lent, callR, lentOf, sharedSl, shLst, freezeSl, putBack, D.flat, tru, unpS, asg_tup, asg_ktup, asg_lst, asgs_cons, asgs_nil, setS_eq, asg_nm, free_none, free_dat, free_own, D.seq?, Z24, hasSlot, hasLst, modS, putAt, pushAt, retvS, lcFin, testO, DL.isP, keepO, List.replicate, F__law_manner, forGo, Mn.d, prD, Rnd.d, optD_none, optD_some, r0, r1, r2, s0, s1, s2, e1, e2, e3, e4, e5, ea, eb]
  · skip
    obtain ⟨u0, dk2, e2, hu0, ok⟩ := pick' (k + 1) (m + 13) ok (n := 40) (by decide)
    obtain ⟨v0, dk3, e3, hv0, ok⟩ := pick' (k + 1) (m + 12) ok (n := 8) (by decide)
    have hb : brOk [(0 + 1 + u0, 1 + v0)] := by
      exact ⟨by simp only; omega, by simp only; omega⟩
    obtain ⟨q, dk4, e4, hq, ok⟩ := pick' (k + 1) (m + 11) ok (n := 2) (by decide)
    rcases in2 hq with rfl | rfl
    · skip
      obtain ⟨q2, dk5, e5, hq2, ok⟩ := pick' (k + 1) (m + 10) ok (n := 2) (by decide)
      rcases in2 hq2 with rfl | rfl
      · skip
        obtain ⟨ra, dka, ea, hra, ok⟩ := rnd' k (m + 7) ok
        obtain ⟨rb, dkb, eb, hrb, ok⟩ := rnd' k (m + 4) ok
        refine ⟨⟨ra, rb, [(0 + 1 + u0, 1 + v0)], none, none⟩, dkb, ?_, ⟨hra, hrb, hb, (fun _ z => by cases z), (fun _ z => by cases z)⟩, ok.le (by omega)⟩
        rw [semK_eq g__law_manner]
        simp only [Rnd.d] at ea eb
        simp [ev_var, ev_cst, ev_glb, ev_fnv, ev_tup, ev_lst, ev_lmul, ev_dic_false, ev_dic_true, ev_dic1, ev_bin, ev_neg, ev_cmp, ev_chain, ev_and, ev_or, ev_not, ev_ite, ev_idx, ev_slc, ev_rev, ev_call, ev_callv, ev_bi, ev_inst, ev_get, ev_lrng, ev_dcp, ev_dprs, ev_lc, ev_lc2, ev_lc3, evT_and, evT_or, evT_not, evT_var, evT_cst, evT_glb, evT_fnv, evT_tup, evT_lst, evT_lmul, evT_dic, evT_dic1, evT_bin, evT_neg, evT_cmp, evT_chain, evT_ite, evT_idx, evT_slc, evT_rev, evT_call, evT_callv, evT_bi, evT_inst, evT_get, evT_lrng, evT_dcp, evT_dprs, evT_lc, evT_lc2, evT_lc3, opd_var, opd_cst, opd_glb, opd_fnv, opd_tup, opd_lst, opd_lmul, opd_dic, opd_dic1, opd_bin, opd_neg, opd_cmp, opd_chain, opd_and, opd_or, opd_not, opd_ite, opd_idx, opd_slc, opd_rev, opd_call, opd_callv, opd_bi, opd_inst, opd_get, opd_lrng, opd_dcp, opd_dprs, opd_lc, opd_lc2, opd_lc3, exS_set, exS_unp, exS_par, exS_parO, exS_store, exS_app, exS_expr, exS_ifs, exS_for_, exS_whil, exS_ret, exS_retv, exS_retN, exS_brk, exS_cont, exS_pass, exS_never, exSs_nil, exSs_cons, part_none, part_some, evIt, opds, vals, op2, cont, conts, Res.bind, Res.bindN, Res.sb, SRes.sq, lift, cmpP, binP, idxP, callP, finF, endF, backOf, isLent, SV.d, SV.lent, callR, lentOf, sharedSl, shLst, freezeSl, putBack, D.flat, tru, unpS, asg_tup, asg_ktup, asg_lst, asgs_cons, asgs_nil, setS_eq, asg_nm, free_none, free_dat, free_own, D.seq?, Z24, hasSlot, hasLst, modS, putAt, pushAt, retvS, lcFin, testO, DL.isP, keepO, List.replicate, F__law_manner, forGo, Mn.d, prD, Rnd.d, optD_none, optD_some, r0, r1, r2, s0, s1, s2, e1, e2, e3, e4, e5, ea, eb]
      · skip
        obtain ⟨y, dk6, e6, hy, ok⟩ := pick' (k + 1) (m + 9) ok (n := 300) (by decide)
        obtain ⟨ra, dka, ea, hra, ok⟩ := rnd' k (m + 6) ok
        obtain ⟨rb, dkb, eb, hrb, ok⟩ := rnd' k (m + 3) ok
        refine ⟨⟨ra, rb, [(0 + 1 + u0, 1 + v0)], none, (some (1 + y))⟩, dkb, ?_, ⟨hra, hrb, hb, (fun _ z => by cases z), (fun _ z => by cases z; omega)⟩, ok.le (by omega)⟩
        rw [semK_eq g__law_manner]
        simp only [Rnd.d] at ea eb
        simp [ev_var, ev_cst, ev_glb, ev_fnv, ev_tup, ev_lst, ev_lmul, ev_dic_false, ev_dic_true, ev_dic1, ev_bin, ev_neg, ev_cmp, ev_chain, ev_and, ev_or, ev_not, ev_ite, ev_idx, ev_slc, ev_rev, ev_call, ev_callv, ev_bi, ev_inst, ev_get, ev_lrng, ev_dcp, ev_dprs, ev_lc, ev_lc2, ev_lc3, evT_and, evT_or, evT_not, evT_var, evT_cst, evT_glb, evT_fnv, evT_tup, evT_lst, evT_lmul, evT_dic, evT_dic1, evT_bin, evT_neg, evT_cmp, evT_chain, evT_ite, evT_idx, evT_slc, evT_rev, evT_call, evT_callv, evT_bi, evT_inst, evT_get, evT_lrng, evT_dcp, evT_dprs, evT_lc, evT_lc2, evT_lc3, opd_var, opd_cst, opd_glb, opd_fnv, opd_tup, opd_lst, opd_lmul, opd_dic, opd_dic1, opd_bin, opd_neg, opd_cmp, opd_chain, opd_and, opd_or, opd_not, opd_ite, opd_idx, opd_slc, opd_rev, opd_call, opd_callv, opd_bi, opd_inst, opd_get, opd_lrng, opd_dcp, opd_dprs, opd_lc, opd_lc2, opd_lc3, exS_set, exS_unp, exS_par, exS_parO, exS_store, exS_app, exS_expr, exS_ifs, exS_for_, exS_whil, exS_ret, exS_retv, exS_retN, exS_brk, exS_cont, exS_pass, exS_never, exSs_nil, exSs_cons, part_none, part_some, evIt, opds, vals, op2, cont, conts, Res.bind, Res.bindN, Res.sb, SRes.sq, lift, cmpP, binP, idxP, callP, finF, endF, backOf, isLent, SV.d, SV.lent, callR, lentOf, sharedSl, shLst, freezeSl, putBack, D.flat, tru, unpS, asg_tup, asg_ktup, asg_lst, asgs_cons, asgs_nil, setS_eq, asg_nm, free_none, free_dat, free_own, D.seq?, Z24, hasSlot, hasLst, modS, putAt, pushAt, retvS, lcFin, testO, DL.isP, keepO, List.replicate, F__law_manner, forGo, Mn.d, prD, Rnd.d, optD_none, optD_some, r0, r1, r2, s0, s1, s2, e1, e2, e3, e4, e5, e6, ea, eb]
    · skip
      obtain ⟨x, dk5, e5, hx, ok⟩ := pick' (k + 1) (m + 10) ok (n := 60) (by decide)
      obtain ⟨q2, dk6, e6, hq2, ok⟩ := pick' (k + 1) (m + 9) ok (n := 2) (by decide)
      rcases in2 hq2 with rfl | rfl
      · skip
        obtain ⟨ra, dka, ea, hra, ok⟩ := rnd' k (m + 6) ok
        obtain ⟨rb, dkb, eb, hrb, ok⟩ := rnd' k (m + 3) ok
        refine ⟨⟨ra, rb, [(0 + 1 + u0, 1 + v0)], (some (1 + x)), none⟩, dkb, ?_, ⟨hra, hrb, hb, (fun _ z => by cases z; omega), (fun _ z => by cases z)⟩, ok.le (by omega)⟩
        rw [semK_eq g__law_manner]
        simp only [Rnd.d] at ea eb
        simp [ev_var, ev_cst, ev_glb, ev_fnv, ev_tup, ev_lst, ev_lmul, ev_dic_false, ev_dic_true, ev_dic1, ev_bin, ev_neg, ev_cmp, ev_chain, ev_and, ev_or, ev_not, ev_ite, ev_idx, ev_slc, ev_rev, ev_call, ev_callv, ev_bi, ev_inst, ev_get, ev_lrng, ev_dcp, ev_dprs, ev_lc, ev_lc2, ev_lc3, evT_and, evT_or, evT_not, evT_var, evT_cst, evT_glb, evT_fnv, evT_tup, evT_lst, evT_lmul, evT_dic, evT_dic1, evT_bin, evT_neg, evT_cmp, evT_chain, evT_ite, evT_idx, evT_slc, evT_rev, evT_call, evT_callv, evT_bi, evT_inst, evT_get, evT_lrng, evT_dcp, evT_dprs, evT_lc, evT_lc2, evT_lc3, opd_var, opd_cst, opd_glb, opd_fnv, opd_tup, opd_lst, opd_lmul, opd_dic, opd_dic1, opd_bin, opd_neg, opd_cmp, opd_chain, opd_and, opd_or, opd_not, opd_ite, opd_idx, opd_slc, opd_rev, opd_call, opd_callv, opd_bi, opd_inst, opd_get, opd_lrng, opd_dcp, opd_dprs, opd_lc, opd_lc2, opd_lc3, exS_set, exS_unp, exS_par, exS_parO, exS_store, exS_app, exS_expr, exS_ifs, exS_for_, exS_whil, exS_ret, exS_retv, exS_retN, exS_brk, exS_cont, exS_pass, exS_never, exSs_nil, exSs_cons, part_none, part_some, evIt, opds, vals, op2, cont, conts, Res.bind, Res.bindN, Res.sb, SRes.sq, lift, cmpP, binP, idxP, callP, finF, endF, backOf, isLent, SV.d, SV.lent, callR, lentOf, sharedSl, shLst, freezeSl, putBack, D.flat, tru, unpS, asg_tup, asg_ktup, asg_lst, asgs_cons, asgs_nil, setS_eq, asg_nm, free_none, free_dat, free_own, D.seq?, Z24, hasSlot, hasLst, modS, putAt, pushAt, retvS, lcFin, testO, DL.isP, keepO, List.replicate, F__law_manner, forGo, Mn.d, prD, Rnd.d, optD_none, optD_some, r0, r1, r2, s0, s1, s2, e1, e2, e3, e4, e5, e6, ea, eb]
      · skip
        obtain ⟨y, dk7, e7, hy, ok⟩ := pick' (k + 1) (m + 8) ok (n := 300) (by decide)
        obtain ⟨ra, dka, ea, hra, ok⟩ := rnd' k (m + 5) ok
        obtain ⟨rb, dkb, eb, hrb, ok⟩ := rnd' k (m + 2) ok
        refine ⟨⟨ra, rb, [(0 + 1 + u0, 1 + v0)], (some (1 + x)), (some (1 + y))⟩, dkb, ?_, ⟨hra, hrb, hb, (fun _ z => by cases z; omega), (fun _ z => by cases z; omega)⟩, ok.le (by omega)⟩
        rw [semK_eq g__law_manner]
        simp only [Rnd.d] at ea eb
        simp [ev_var, ev_cst, ev_glb, ev_fnv, ev_tup, ev_lst, ev_lmul, ev_dic_false, ev_dic_true, ev_dic1, ev_bin, ev_neg, ev_cmp, ev_chain, ev_and, ev_or, ev_not, ev_ite, ev_idx, ev_slc, ev_rev, ev_call, ev_callv, ev_bi, ev_inst, ev_get, ev_lrng, ev_dcp, ev_dprs, ev_lc, ev_lc2, ev_lc3, evT_and, evT_or, evT_not, evT_var, evT_cst, evT_glb, evT_fnv, evT_tup, evT_lst, evT_lmul, evT_dic, evT_dic1, evT_bin, evT_neg, evT_cmp, evT_chain, evT_ite, evT_idx, evT_slc, evT_rev, evT_call, evT_callv, evT_bi, evT_inst, evT_get, evT_lrng, evT_dcp, evT_dprs, evT_lc, evT_lc2, evT_lc3, opd_var, opd_cst, opd_glb, opd_fnv, opd_tup, opd_lst, opd_lmul, opd_dic, opd_dic1, opd_bin, opd_neg, opd_cmp, opd_chain, opd_and, opd_or, opd_not, opd_ite, opd_idx, opd_slc, opd_rev, opd_call, opd_callv, opd_bi, opd_inst, opd_get, opd_lrng, opd_dcp, opd_dprs, opd_lc, opd_lc2, opd_lc3, exS_set, exS_unp, exS_par, exS_parO, exS_store, exS_app, exS_expr, exS_ifs, exS_for_, exS_whil, exS_ret, exS_retv, exS_retN, exS_brk, exS_cont, exS_pass, exS_never, exSs_nil, exSs_cons, part_none, part_some, evIt, opds, vals, op2, cont, conts, Res.bind, Res.bindN, Res.sb, SRes.sq, lift, cmpP, binP, idxP, callP, finF, endF, backOf, isLent, SV.d, SV.lent, callR, lentOf, sharedSl, shLst, freezeSl, putBack, D.flat, tru, unpS, asg_tup, asg_ktup, asg_lst, asgs_cons, asgs_nil, setS_eq, asg_nm, free_none, free_dat, free_own, D.seq?, Z24, hasSlot, hasLst, modS, putAt, pushAt, retvS, lcFin, testO, DL.isP, keepO, List.replicate, F__law_manner, forGo, Mn.d, prD, Rnd.d, optD_none, optD_some, r0, r1, r2, s0, s1, s2, e1, e2, e3, e4, e5, e6, e7, ea, eb]
  · skip
    obtain ⟨u0, dk2, e2, hu0, ok⟩ := pick' (k + 1) (m + 13) ok (n := 40) (by decide)
    obtain ⟨v0, dk3, e3, hv0, ok⟩ := pick' (k + 1) (m + 12) ok (n := 8) (by decide)
    obtain ⟨u1, dk4, e4, hu1, ok⟩ := pick' (k + 1) (m + 11) ok (n := 40) (by decide)
    obtain ⟨v1, dk5, e5, hv1, ok⟩ := pick' (k + 1) (m + 10) ok (n := 8) (by decide)
    have hb : brOk [(0 + 1 + u0, 1 + v0), (0 + 1 + u0 + 1 + u1, 1 + v1)] := by
      exact ⟨⟨by simp only; omega, by simp only; omega⟩, ⟨by simp only; omega, by simp only; omega⟩, by simp only; omega⟩
    obtain ⟨q, dk6, e6, hq, ok⟩ := pick' (k + 1) (m + 9) ok (n := 2) (by decide)
    rcases in2 hq with rfl | rfl
    · skip
      obtain ⟨q2, dk7, e7, hq2, ok⟩ := pick' (k + 1) (m + 8) ok (n := 2) (by decide)
      rcases in2 hq2 with rfl | rfl
      · skip
        obtain ⟨ra, dka, ea, hra, ok⟩ := rnd' k (m + 5) ok
        obtain ⟨rb, dkb, eb, hrb, ok⟩ := rnd' k (m + 2) ok
        refine ⟨⟨ra, rb, [(0 + 1 + u0, 1 + v0), (0 + 1 + u0 + 1 + u1, 1 + v1)], none, none⟩, dkb, ?_, ⟨hra, hrb, hb, (fun _ z => by cases z), (fun _ z => by cases z)⟩, ok.le (by omega)⟩
        rw [semK_eq g__law_manner]
        simp only [Rnd.d] at ea eb
        simp [ev_var, ev_cst, ev_glb, ev_fnv, ev_tup, ev_lst, ev_lmul, ev_dic_false, ev_dic_true, ev_dic1, ev_bin, ev_neg, ev_cmp, ev_chain, ev_and, ev_or, ev_not, ev_ite, ev_idx, ev_slc, ev_rev, ev_call, ev_callv, ev_bi, ev_inst, ev_get, ev_lrng, ev_dcp, ev_dprs, ev_lc, ev_lc2, ev_lc3, evT_and, evT_or, evT_not, evT_var, evT_cst, evT_glb, evT_fnv, evT_tup, evT_lst, evT_lmul, evT_dic, evT_dic1, evT_bin, evT_neg, evT_cmp, evT_chain, evT_ite, evT_idx, evT_slc, evT_rev, evT_call, evT_callv, evT_bi, evT_inst, evT_get, evT_lrng, evT_dcp, evT_dprs, evT_lc, evT_lc2, evT_lc3, opd_var, opd_cst, opd_glb, opd_fnv, opd_tup, opd_lst, opd_lmul, opd_dic, opd_dic1, opd_bin, opd_neg, opd_cmp, opd_chain, opd_and, opd_or, opd_not, opd_ite, opd_idx, opd_slc, opd_rev, opd_call, opd_callv, opd_bi, opd_inst, opd_get, opd_lrng, opd_dcp, opd_dprs, opd_lc, opd_lc2, opd_lc3, exS_set, exS_unp, exS_par, exS_parO, exS_store, exS_app, exS_expr, exS_ifs, exS_for_, exS_whil, exS_ret, exS_retv, exS_retN, exS_brk, exS_cont, exS_pass, exS_never, exSs_nil, exSs_cons, part_none, part_some, evIt, opds, vals, op2, cont, conts, Res.bind, Res.bindN, Res.sb, SRes.sq, lift, cmpP, binP, idxP, callP, finF, endF, backOf, isLent, SV.d, SV.lent, callR, lentOf, sharedSl, shLst, freezeSl, putBack, D.flat, tru, unpS, asg_tup, asg_ktup, asg_lst, asgs_cons, asgs_nil, setS_eq, asg_nm, free_none, free_dat, free_own, D.seq?, Z24, hasSlot, hasLst, modS, putAt, pushAt, retvS, lcFin, testO, DL.isP, keepO, List.replicate, F__law_manner, forGo, Mn.d, prD, Rnd.d, optD_none, optD_some, r0, r1, r2, s0, s1, s2, e1, e2, e3, e4, e5, e6, e7, ea, eb]
      · skip
        obtain ⟨y, dk8, e8, hy, ok⟩ := pick' (k + 1) (m + 7) ok (n := 300) (by decide)
        obtain ⟨ra, dka, ea, hra, ok⟩ := rnd' k (m + 4) ok
        obtain ⟨rb, dkb, eb, hrb, ok⟩ := rnd' k (m + 1) ok
        refine ⟨⟨ra, rb, [(0 + 1 + u0, 1 + v0), (0 + 1 + u0 + 1 + u1, 1 + v1)], none, (some (1 + y))⟩, dkb, ?_, ⟨hra, hrb, hb, (fun _ z => by cases z), (fun _ z => by cases z; omega)⟩, ok.le (by omega)⟩
        rw [semK_eq g__law_manner]
        simp only [Rnd.d] at ea eb
        simp [ev_var, ev_cst, ev_glb, ev_fnv, ev_tup, ev_lst, ev_lmul, ev_dic_false, ev_dic_true, ev_dic1, ev_bin, ev_neg, ev_cmp, ev_chain, ev_and, ev_or, ev_not, ev_ite, ev_idx, ev_slc, ev_rev, ev_call, ev_callv, ev_bi, ev_inst, ev_get, ev_lrng, ev_dcp, ev_dprs, ev_lc, ev_lc2, ev_lc3, evT_and, evT_or, evT_not, evT_var, evT_cst, evT_glb, evT_fnv, evT_tup, evT_lst, evT_lmul, evT_dic, evT_dic1, evT_bin, evT_neg, evT_cmp, evT_chain, evT_ite, evT_idx, evT_slc, evT_rev, evT_call, evT_callv, evT_bi, evT_inst, evT_get, evT_lrng, evT_dcp, evT_dprs, evT_lc, evT_lc2, evT_lc3, opd_var, opd_cst, opd_glb, opd_fnv, opd_tup, opd_lst, opd_lmul, opd_dic, opd_dic1, opd_bin, opd_neg, opd_cmp, opd_chain, opd_and, opd_or, opd_not, opd_ite, opd_idx, opd_slc, opd_rev, opd_call, opd_callv, opd_bi, opd_inst, opd_get, opd_lrng, opd_dcp, opd_dprs, opd_lc, opd_lc2, opd_lc3, exS_set, exS_unp, exS_par, exS_parO, exS_store, exS_app, exS_expr, exS_ifs, exS_for_, exS_whil, exS_ret, exS_retv, exS_retN, exS_brk, exS_cont, exS_pass, exS_never, exSs_nil, exSs_cons, part_none, part_some, evIt, opds, vals, op2, cont, conts, Res.bind, Res.bindN, Res.sb, SRes.sq, lift, cmpP, binP, idxP, callP, finF, endF, backOf, isLent, SV.d, SV.lent, callR, lentOf, sharedSl, shLst, freezeSl, putBack, D.flat, tru, unpS, asg_tup, asg_ktup, asg_lst, asgs_cons, asgs_nil, setS_eq, asg_nm, free_none, free_dat, free_own, D.seq?, Z24, hasSlot, hasLst, modS, putAt, pushAt, retvS, lcFin, testO, DL.isP, keepO, List.replicate, F__law_manner, forGo, Mn.d, prD, Rnd.d, optD_none, optD_some, r0, r1, r2, s0, s1, s2, e1, e2, e3, e4, e5, e6, e7, e8, ea, eb]
    · skip
      obtain ⟨x, dk7, e7, hx, ok⟩ := pick' (k + 1) (m + 8) ok (n := 60) (by decide)
      obtain ⟨q2, dk8, e8, hq2, ok⟩ := pick' (k + 1) (m + 7) ok (n := 2) (by decide)
      rcases in2 hq2 with rfl | rfl
      · skip
        obtain ⟨ra, dka, ea, hra, ok⟩ := rnd' k (m + 4) ok
        obtain ⟨rb, dkb, eb, hrb, ok⟩ := rnd' k (m + 1) ok
        refine ⟨⟨ra, rb, [(0 + 1 + u0, 1 + v0), (0 + 1 + u0 + 1 + u1, 1 + v1)], (some (1 + x)), none⟩, dkb, ?_, ⟨hra, hrb, hb, (fun _ z => by cases z; omega), (fun _ z => by cases z)⟩, ok.le (by omega)⟩
        rw [semK_eq g__law_manner]
        simp only [Rnd.d] at ea eb
        simp [ev_var, ev_cst, ev_glb, ev_fnv, ev_tup, ev_lst, ev_lmul, ev_dic_false, ev_dic_true, ev_dic1, ev_bin, ev_neg, ev_cmp, ev_chain, ev_and, ev_or, ev_not, ev_ite, ev_idx, ev_slc, ev_rev, ev_call, ev_callv, ev_bi, ev_inst, ev_get, ev_lrng, ev_dcp, ev_dprs, ev_lc, ev_lc2, ev_lc3, evT_and, evT_or, evT_not, evT_var, evT_cst, evT_glb, evT_fnv, evT_tup, evT_lst, evT_lmul, evT_dic, evT_dic1, evT_bin, evT_neg, evT_cmp, evT_chain, evT_ite, evT_idx, evT_slc, evT_rev, evT_call, evT_callv, evT_bi, evT_inst, evT_get, evT_lrng, evT_dcp, evT_dprs, evT_lc, evT_lc2, evT_lc3, opd_var, opd_cst, opd_glb, opd_fnv, opd_tup, opd_lst, opd_lmul, opd_dic, opd_dic1, opd_bin, opd_neg, opd_cmp, opd_chain, opd_and, opd_or, opd_not, opd_ite, opd_idx, opd_slc, opd_rev, opd_call, opd_callv, opd_bi, opd_inst, opd_get, opd_lrng, opd_dcp, opd_dprs, opd_lc, opd_lc2, opd_lc3, exS_set, exS_unp, exS_par, exS_parO, exS_store, exS_app, exS_expr, exS_ifs, exS_for_, exS_whil, exS_ret, exS_retv, exS_retN, exS_brk, exS_cont, exS_pass, exS_never, exSs_nil, exSs_cons, part_none, part_some, evIt, opds, vals, op2, cont, conts, Res.bind, Res.bindN, Res.sb, SRes.sq, lift, cmpP, binP, idxP, callP, finF, endF, backOf, isLent, SV.d, SV.lent, callR, lentOf, sharedSl, shLst, freezeSl, putBack, D.flat, tru, unpS, asg_tup, asg_ktup, asg_lst, asgs_cons, asgs_nil, setS_eq, asg_nm, free_none, free_dat, free_own, D.seq?, Z24, hasSlot, hasLst, modS, putAt, pushAt, retvS, lcFin, testO, DL.isP, keepO, List.replicate, F__law_manner, forGo, Mn.d, prD, Rnd.d, optD_none, optD_some, r0, r1, r2, s0, s1, s2, e1, e2, e3, e4, e5, e6, e7, e8, ea, eb]
      · skip
        obtain ⟨y, dk9, e9, hy, ok⟩ := pick' (k + 1) (m + 6) ok (n := 300) (by decide)
        obtain ⟨ra, dka, ea, hra, ok⟩ := rnd' k (m + 3) ok
        obtain ⟨rb, dkb, eb, hrb, ok⟩ := rnd' k (m + 0) ok
        refine ⟨⟨ra, rb, [(0 + 1 + u0, 1 + v0), (0 + 1 + u0 + 1 + u1, 1 + v1)], (some (1 + x)), (some (1 + y))⟩, dkb, ?_, ⟨hra, hrb, hb, (fun _ z => by cases z; omega), (fun _ z => by cases z; omega)⟩, ok.le (by omega)⟩
        rw [semK_eq g__law_manner]
        simp only [Rnd.d] at ea eb
        simp [ev_var, ev_cst, ev_glb, ev_fnv, ev_tup, ev_lst, ev_lmul, ev_dic_false, ev_dic_true, ev_dic1, ev_bin, ev_neg, ev_cmp, ev_chain, ev_and, ev_or, ev_not, ev_ite, ev_idx, ev_slc, ev_rev, ev_call, ev_callv, ev_bi, ev_inst, ev_get, ev_lrng, ev_dcp, ev_dprs, ev_lc, ev_lc2, ev_lc3, evT_and, evT_or, evT_not, evT_var, evT_cst, evT_glb, evT_fnv, evT_tup, evT_lst, evT_lmul, evT_dic, evT_dic1, evT_bin, evT_neg, evT_cmp, evT_chain, evT_ite, evT_idx, evT_slc, evT_rev, evT_call, evT_callv, evT_bi, evT_inst, evT_get, evT_lrng, evT_dcp, evT_dprs, evT_lc, evT_lc2, evT_lc3, opd_var, opd_cst, opd_glb, opd_fnv, opd_tup, opd_lst, opd_lmul, opd_dic, opd_dic1, opd_bin, opd_neg, opd_cmp, opd_chain, opd_and, opd_or, opd_not, opd_ite, opd_idx, opd_slc, opd_rev, opd_call, opd_callv, opd_bi, opd_inst, opd_get, opd_lrng, opd_dcp, opd_dprs, opd_lc, opd_lc2, opd_lc3, exS_set, exS_unp, exS_par, exS_parO, exS_store, exS_app, exS_expr, exS_ifs, exS_for_, exS_whil, exS_ret, exS_retv, exS_retN, exS_brk, exS_cont, exS_pass, exS_never, exSs_nil, exSs_cons, part_none, part_some, evIt, opds, vals, op2, cont, conts, Res.bind, Res.bindN, Res.sb, SRes.sq, lift, cmpP, binP, idxP, callP, finF, endF, backOf, isLent, SV.d, SV.lent, callR, lentOf, sharedSl, shLst, freezeSl, putBack, D.flat, tru, unpS, asg_tup, asg_ktup, asg_lst, asgs_cons, asgs_nil, setS_eq, asg_nm, free_none, free_dat, free_own, D.seq?, Z24, hasSlot, hasLst, modS, putAt, pushAt, retvS, lcFin, testO, DL.isP, keepO, List.replicate, F__law_manner, forGo, Mn.d, prD, Rnd.d, optD_none, optD_some, r0, r1, r2, s0, s1, s2, e1, e2, e3, e4, e5, e6, e7, e8, e9, ea, eb]
end DL

namespace DL
open PySem PySem.Spec PyProof.Rows L2

/-! ### _law_same of a value and itself -/
def sortN : D → Option Int
  | .bl _ => some 1
  | .int _ => some 2
  | .str _ => some 3
  | .lst _ => some 4
  | .tup _ => some 5
  | .ktup _ => some 5
  | .non => some 6
  | _ => none
theorem sort_ok (k : Nat) {d : D} {i : Int} (h : sortN d = some i) : semK glob gvG 100 (k + 1) 24 [.dat d] = .ok (.dat (.int i)) none := by
  rw [semK_eq g__law_sort]
  cases d <;> cases h <;> simp [ev_var, ev_cst, ev_glb, ev_fnv, ev_tup, ev_lst, ev_lmul, ev_dic_false, ev_dic_true, ev_dic1, ev_bin, ev_neg, ev_cmp, ev_chain, ev_and, ev_or, ev_not, ev_ite, ev_idx, ev_slc, ev_rev, ev_call, ev_callv, ev_bi, ev_inst, ev_get, ev_lrng, ev_dcp, ev_dprs, ev_lc, ev_lc2, ev_lc3, evT_and, evT_or, evT_not, evT_var, evT_cst, evT_glb, evT_fnv, evT_tup, evT_lst, evT_lmul, evT_dic, evT_dic1, evT_bin, evT_neg, evT_cmp, evT_chain, evT_ite, evT_idx, evT_slc, evT_rev, evT_call, evT_callv, evT_bi, evT_inst, evT_get, evT_lrng, evT_dcp, evT_dprs, evT_lc, evT_lc2, evT_lc3, opd_var, opd_cst, opd_glb, opd_fnv, opd_tup, opd_lst, opd_lmul, opd_dic, opd_dic1, opd_bin, opd_neg, opd_cmp, opd_chain, opd_and, opd_or, opd_not, opd_ite, opd_idx, opd_slc, opd_rev, opd_call, opd_callv, opd_bi, opd_inst, opd_get, opd_lrng, opd_dcp, opd_dprs, opd_lc, opd_lc2, opd_lc3, exS_set, exS_unp, exS_par, exS_parO, exS_store, exS_app, exS_expr, exS_ifs, exS_for_, exS_whil, exS_ret, exS_retv, exS_retN, exS_brk, exS_cont, exS_pass, exS_never, exSs_nil, exSs_cons, part_none, part_some, evIt, opds, vals, op2, cont, conts, Res.bind, Res.bindN, Res.sb, SRes.sq, lift, cmpP, binP, idxP, callP, finF, endF, backOf, isLent, SV.d, SV.lent, callR, lentOf, sharedSl, shLst, freezeSl, putBack, D.flat, tru, unpS, asg_tup, asg_ktup, asg_lst, asgs_cons, asgs_nil, setS_eq, asg_nm, free_none, free_dat, free_own, D.seq?, Z24, hasSlot, hasLst, modS, putAt, pushAt, retvS, lcFin, testO, DL.isP, keepO, List.replicate, F__law_sort, instP]
theorem enum_zip : ∀ (ds : List D) (n : Nat), enumD n ds = (ds.zipIdx n).map fun p => D.tup [.int (p.2 : Nat), p.1]
  | [], _ => rfl
  | d :: ds, n => by rw [enumD, List.zipIdx_cons, List.map_cons, enum_zip ds (n + 1)]
/-- what the laws compare: no dict, no def, short lists -/
def cmpB : Nat → D → Bool
  | 0, _ => false
  | n + 1, d => match d with
    | .non => true
    | .bl _ => true
    | .int _ => true
    | .str x => PyData.strOk x
    | .tup ds => decide (ds.length ≤ 16777216) && ds.all (cmpB n)
    | .lst ds => decide (ds.length ≤ 16777216) && ds.all (cmpB n)
    | _ => false
theorem cmp_shp : ∀ {n : Nat} {d : D}, cmpB n d = true → shp n d = true
  | 0, _, h => by cases h
  | n + 1, d, h => by
    cases d with
    | tup ds =>
      have := (Bool.and_eq_true_iff.mp (show (decide (ds.length ≤ 16777216) && ds.all (cmpB n)) = true from h)).2
      exact List.all_eq_true.mpr fun x hx => cmp_shp (List.all_eq_true.mp this x hx)
    | lst ds =>
      have := (Bool.and_eq_true_iff.mp (show (decide (ds.length ≤ 16777216) && ds.all (cmpB n)) = true from h)).2
      exact List.all_eq_true.mpr fun x hx => cmp_shp (List.all_eq_true.mp this x hx)
    | _ => first | exact h | cases h
theorem at_nat {ds : List D} {i : Nat} {d : D} (h : ds[i]? = some d) : L2.atI ds ((i : Nat) : Int) = some d := by
  have hl := (List.getElem?_eq_some_iff.mp h).1
  unfold L2.atI ixN
  rw [if_pos (by omega), if_pos (by omega)]
  simpa using h
theorem filter_no {α : Type} (l : List α) : l.filter (fun _ => false) = [] := by induction l <;> simp_all
def lsLc : Q := .lc [2, 3] (.tup [.nm 2, .nm 3]) (.enum (.var 0)) (some (.not (.call 25 [.var 3, .idx (.var 1) (.var 2)]))) (.var 2)
theorem lsame_ok (k : Nat) : ∀ (n : Nat) (d : D), n ≤ 60 → cmpB n d = true → semK glob gvG 100 (k + n + 1) 25 [.dat d, .dat d] = .ok (.dat (.bl true)) none
  | 0, _, _, h => by cases h
  | n + 1, d, hn, h => by
    have sh := cmp_shp h
    have es := eqD_self sh (by omega)
    have seq : ∀ ds : List D, d.seq? = some ds → (∀ i : Nat, ∀ x : D, ds[i]? = some x → idxP d (.int i) = some x) → (d = .tup ds ∨ d = .lst ds) → ds.length ≤ 16777216 → (∀ x ∈ ds, cmpB n x = true) → ∀ s : Int, sortN d = some s → (3 < s ∧ s < 6) → semK glob gvG 100 (k + (n + 1) + 1) 25 [.dat d, .dat d] = .ok (.dat (.bl true)) none := by
      intro ds eq ix hd hl hx s hs h36
      have e0 := sort_ok (k + n) hs
      have el : lcGo (ev (cfk (k + n + 1)) 92 (.var 2)) (testO (evT (cfk (k + n + 1)) 92) (some (.not (.call 25 [.var 3, .idx (.var 1) (.var 2)])))) [2, 3] (.tup [.nm 2, .nm 3]) (enumD 0 ds) [] [some (.dat d), some (.dat d), none, none] = .ok [] [some (.dat d), some (.dat d), none, none] := by
        rw [enum_zip]
        have := lcGo_ok (fe := ev (cfk (k + n + 1)) 92 (.var 2)) (ft := testO (evT (cfk (k + n + 1)) 92) (some (.not (.call 25 [.var 3, .idx (.var 1) (.var 2)])))) (vs := [2, 3]) (T := .tup [.nm 2, .nm 3]) (ρ := [some (.dat d), some (.dat d), none, none]) (fun p : D × Nat => D.tup [.int (p.2 : Nat), p.1]) (fun _ => .non) (fun _ => false) (ds.zipIdx 0) [] (fun p hp => by
          obtain ⟨x, i⟩ := p
          have hi := List.mem_zipIdx_iff_getElem?.mp hp
          have ih := lsame_ok k n x (by omega) (hx x (List.mem_of_getElem? hi))
          have ei := ix i x hi
          refine ⟨[some (.dat d), some (.dat d), some (.dat (.int (i : Nat))), some (.dat x)], by simp [ev_var, ev_cst, ev_glb, ev_fnv, ev_tup, ev_lst, ev_lmul, ev_dic_false, ev_dic_true, ev_dic1, ev_bin, ev_neg, ev_cmp, ev_chain, ev_and, ev_or, ev_not, ev_ite, ev_idx, ev_slc, ev_rev, ev_call, ev_callv, ev_bi, ev_inst, ev_get, ev_lrng, ev_dcp, ev_dprs, ev_lc, ev_lc2, ev_lc3, evT_and, evT_or, evT_not, evT_var, evT_cst, evT_glb, evT_fnv, evT_tup, evT_lst, evT_lmul, evT_dic, evT_dic1, evT_bin, evT_neg, evT_cmp, evT_chain, evT_ite, evT_idx, evT_slc, evT_rev, evT_call, evT_callv, evT_bi, evT_inst, evT_get, evT_lrng, evT_dcp, evT_dprs, evT_lc, evT_lc2, evT_lc3, opd_var, opd_cst, opd_glb, opd_fnv, opd_tup, opd_lst, opd_lmul, opd_dic, opd_dic1, opd_bin, opd_neg, opd_cmp, opd_chain, opd_and, opd_or, opd_not, opd_ite, opd_idx, opd_slc, opd_rev, opd_call, opd_callv, opd_bi, opd_inst, opd_get, opd_lrng, opd_dcp, opd_dprs, opd_lc, opd_lc2, opd_lc3, exS_set, exS_unp, exS_par, exS_parO, exS_store, exS_app, exS_expr, exS_ifs, exS_for_, exS_whil, exS_ret, exS_retv, exS_retN, exS_brk, exS_cont, exS_pass, exS_never, exSs_nil, exSs_cons, part_none, part_some, evIt, opds, vals, op2, cont, conts, Res.bind, Res.bindN, Res.sb, SRes.sq, lift, cmpP, binP, idxP, callP, finF, endF, backOf, isLent, SV.d, SV.lent, callR, lentOf, sharedSl, shLst, freezeSl, putBack, D.flat, tru, unpS, asg_tup, asg_ktup, asg_lst, asgs_cons, asgs_nil, setS_eq, asg_nm, free_none, free_dat, free_own, D.seq?, Z24, hasSlot, hasLst, modS, putAt, pushAt, retvS, lcFin, testO, DL.isP, keepO, List.replicate], ?_, fun z => (by cases z), rfl, rfl⟩
          rcases hd with rfl | rfl
          · have ei : atI ds (i : Int) = some x := ei
            simp [ev_var, ev_cst, ev_glb, ev_fnv, ev_tup, ev_lst, ev_lmul, ev_dic_false, ev_dic_true, ev_dic1, ev_bin, ev_neg, ev_cmp, ev_chain, ev_and, ev_or, ev_not, ev_ite, ev_idx, ev_slc, ev_rev, ev_call, ev_callv, ev_bi, ev_inst, ev_get, ev_lrng, ev_dcp, ev_dprs, ev_lc, ev_lc2, ev_lc3, evT_and, evT_or, evT_not, evT_var, evT_cst, evT_glb, evT_fnv, evT_tup, evT_lst, evT_lmul, evT_dic, evT_dic1, evT_bin, evT_neg, evT_cmp, evT_chain, evT_ite, evT_idx, evT_slc, evT_rev, evT_call, evT_callv, evT_bi, evT_inst, evT_get, evT_lrng, evT_dcp, evT_dprs, evT_lc, evT_lc2, evT_lc3, opd_var, opd_cst, opd_glb, opd_fnv, opd_tup, opd_lst, opd_lmul, opd_dic, opd_dic1, opd_bin, opd_neg, opd_cmp, opd_chain, opd_and, opd_or, opd_not, opd_ite, opd_idx, opd_slc, opd_rev, opd_call, opd_callv, opd_bi, opd_inst, opd_get, opd_lrng, opd_dcp, opd_dprs, opd_lc, opd_lc2, opd_lc3, exS_set, exS_unp, exS_par, exS_parO, exS_store, exS_app, exS_expr, exS_ifs, exS_for_, exS_whil, exS_ret, exS_retv, exS_retN, exS_brk, exS_cont, exS_pass, exS_never, exSs_nil, exSs_cons, part_none, part_some, evIt, opds, vals, op2, cont, conts, Res.bind, Res.bindN, Res.sb, SRes.sq, lift, cmpP, binP, idxP, callP, finF, endF, backOf, isLent, SV.d, SV.lent, callR, lentOf, sharedSl, shLst, freezeSl, putBack, D.flat, tru, unpS, asg_tup, asg_ktup, asg_lst, asgs_cons, asgs_nil, setS_eq, asg_nm, free_none, free_dat, free_own, D.seq?, Z24, hasSlot, hasLst, modS, putAt, pushAt, retvS, lcFin, testO, DL.isP, keepO, List.replicate, ei, ih]
          · have ei : atI ds (i : Int) = some x := ei
            simp [ev_var, ev_cst, ev_glb, ev_fnv, ev_tup, ev_lst, ev_lmul, ev_dic_false, ev_dic_true, ev_dic1, ev_bin, ev_neg, ev_cmp, ev_chain, ev_and, ev_or, ev_not, ev_ite, ev_idx, ev_slc, ev_rev, ev_call, ev_callv, ev_bi, ev_inst, ev_get, ev_lrng, ev_dcp, ev_dprs, ev_lc, ev_lc2, ev_lc3, evT_and, evT_or, evT_not, evT_var, evT_cst, evT_glb, evT_fnv, evT_tup, evT_lst, evT_lmul, evT_dic, evT_dic1, evT_bin, evT_neg, evT_cmp, evT_chain, evT_ite, evT_idx, evT_slc, evT_rev, evT_call, evT_callv, evT_bi, evT_inst, evT_get, evT_lrng, evT_dcp, evT_dprs, evT_lc, evT_lc2, evT_lc3, opd_var, opd_cst, opd_glb, opd_fnv, opd_tup, opd_lst, opd_lmul, opd_dic, opd_dic1, opd_bin, opd_neg, opd_cmp, opd_chain, opd_and, opd_or, opd_not, opd_ite, opd_idx, opd_slc, opd_rev, opd_call, opd_callv, opd_bi, opd_inst, opd_get, opd_lrng, opd_dcp, opd_dprs, opd_lc, opd_lc2, opd_lc3, exS_set, exS_unp, exS_par, exS_parO, exS_store, exS_app, exS_expr, exS_ifs, exS_for_, exS_whil, exS_ret, exS_retv, exS_retN, exS_brk, exS_cont, exS_pass, exS_never, exSs_nil, exSs_cons, part_none, part_some, evIt, opds, vals, op2, cont, conts, Res.bind, Res.bindN, Res.sb, SRes.sq, lift, cmpP, binP, idxP, callP, finF, endF, backOf, isLent, SV.d, SV.lent, callR, lentOf, sharedSl, shLst, freezeSl, putBack, D.flat, tru, unpS, asg_tup, asg_ktup, asg_lst, asgs_cons, asgs_nil, setS_eq, asg_nm, free_none, free_dat, free_own, D.seq?, Z24, hasSlot, hasLst, modS, putAt, pushAt, retvS, lcFin, testO, DL.isP, keepO, List.replicate, ei, ih]) (by simp [Z24]; exact hl)
        rw [filter_no] at this
        exact this
      show semK glob gvG 100 ((k + n + 1) + 1) 25 _ = _
      rw [semK_eq g__law_same]
      rcases hd with rfl | rfl
      · simp [ev_var, ev_cst, ev_glb, ev_fnv, ev_tup, ev_lst, ev_lmul, ev_dic_false, ev_dic_true, ev_dic1, ev_bin, ev_neg, ev_cmp, ev_chain, ev_and, ev_or, ev_not, ev_ite, ev_idx, ev_slc, ev_rev, ev_call, ev_callv, ev_bi, ev_inst, ev_get, ev_lrng, ev_dcp, ev_dprs, ev_lc, ev_lc2, ev_lc3, evT_and, evT_or, evT_not, evT_var, evT_cst, evT_glb, evT_fnv, evT_tup, evT_lst, evT_lmul, evT_dic, evT_dic1, evT_bin, evT_neg, evT_cmp, evT_chain, evT_ite, evT_idx, evT_slc, evT_rev, evT_call, evT_callv, evT_bi, evT_inst, evT_get, evT_lrng, evT_dcp, evT_dprs, evT_lc, evT_lc2, evT_lc3, opd_var, opd_cst, opd_glb, opd_fnv, opd_tup, opd_lst, opd_lmul, opd_dic, opd_dic1, opd_bin, opd_neg, opd_cmp, opd_chain, opd_and, opd_or, opd_not, opd_ite, opd_idx, opd_slc, opd_rev, opd_call, opd_callv, opd_bi, opd_inst, opd_get, opd_lrng, opd_dcp, opd_dprs, opd_lc, opd_lc2, opd_lc3, exS_set, exS_unp, exS_par, exS_parO, exS_store, exS_app, exS_expr, exS_ifs, exS_for_, exS_whil, exS_ret, exS_retv, exS_retN, exS_brk, exS_cont, exS_pass, exS_never, exSs_nil, exSs_cons, part_none, part_some, evIt, opds, vals, op2, cont, conts, Res.bind, Res.bindN, Res.sb, SRes.sq, lift, cmpP, binP, idxP, callP, finF, endF, backOf, isLent, SV.d, SV.lent, callR, lentOf, sharedSl, shLst, freezeSl, putBack, D.flat, tru, unpS, asg_tup, asg_ktup, asg_lst, asgs_cons, asgs_nil, setS_eq, asg_nm, free_none, free_dat, free_own, D.seq?, Z24, hasSlot, hasLst, modS, putAt, pushAt, retvS, lcFin, testO, DL.isP, keepO, List.replicate, F__law_same, e0, h36.1, h36.2, tame, wipeR, backR, el, eqI0]
      · simp [ev_var, ev_cst, ev_glb, ev_fnv, ev_tup, ev_lst, ev_lmul, ev_dic_false, ev_dic_true, ev_dic1, ev_bin, ev_neg, ev_cmp, ev_chain, ev_and, ev_or, ev_not, ev_ite, ev_idx, ev_slc, ev_rev, ev_call, ev_callv, ev_bi, ev_inst, ev_get, ev_lrng, ev_dcp, ev_dprs, ev_lc, ev_lc2, ev_lc3, evT_and, evT_or, evT_not, evT_var, evT_cst, evT_glb, evT_fnv, evT_tup, evT_lst, evT_lmul, evT_dic, evT_dic1, evT_bin, evT_neg, evT_cmp, evT_chain, evT_ite, evT_idx, evT_slc, evT_rev, evT_call, evT_callv, evT_bi, evT_inst, evT_get, evT_lrng, evT_dcp, evT_dprs, evT_lc, evT_lc2, evT_lc3, opd_var, opd_cst, opd_glb, opd_fnv, opd_tup, opd_lst, opd_lmul, opd_dic, opd_dic1, opd_bin, opd_neg, opd_cmp, opd_chain, opd_and, opd_or, opd_not, opd_ite, opd_idx, opd_slc, opd_rev, opd_call, opd_callv, opd_bi, opd_inst, opd_get, opd_lrng, opd_dcp, opd_dprs, opd_lc, opd_lc2, opd_lc3, exS_set, exS_unp, exS_par, exS_parO, exS_store, exS_app, exS_expr, exS_ifs, exS_for_, exS_whil, exS_ret, exS_retv, exS_retN, exS_brk, exS_cont, exS_pass, exS_never, exSs_nil, exSs_cons, part_none, part_some, evIt, opds, vals, op2, cont, conts, Res.bind, Res.bindN, Res.sb, SRes.sq, lift, cmpP, binP, idxP, callP, finF, endF, backOf, isLent, SV.d, SV.lent, callR, lentOf, sharedSl, shLst, freezeSl, putBack, D.flat, tru, unpS, asg_tup, asg_ktup, asg_lst, asgs_cons, asgs_nil, setS_eq, asg_nm, free_none, free_dat, free_own, D.seq?, Z24, hasSlot, hasLst, modS, putAt, pushAt, retvS, lcFin, testO, DL.isP, keepO, List.replicate, F__law_same, e0, h36.1, h36.2, tame, wipeR, backR, el, eqI0]
    have at_ : ∀ (ds : List D) (i : Nat) (x : D), ds[i]? = some x → idxP (.tup ds) (.int i) = some x := fun ds i x e => at_nat e
    have at2_ : ∀ (ds : List D) (i : Nat) (x : D), ds[i]? = some x → idxP (.lst ds) (.int i) = some x := fun ds i x e => at_nat e
    have flat : ∀ s : Int, sortN d = some s → (s ≤ 3 ∨ 6 ≤ s) → semK glob gvG 100 (k + (n + 1) + 1) 25 [.dat d, .dat d] = .ok (.dat (.bl true)) none := fun s hs h36 => by
      have e0 := sort_ok (k + n) hs
      show semK glob gvG 100 ((k + n + 1) + 1) 25 _ = _
      rw [semK_eq g__law_same]
      rcases h36 with h3 | h6
      · have h3' : ¬ 3 < s := by omega
        simp [ev_var, ev_cst, ev_glb, ev_fnv, ev_tup, ev_lst, ev_lmul, ev_dic_false, ev_dic_true, ev_dic1, ev_bin, ev_neg, ev_cmp, ev_chain, ev_and, ev_or, ev_not, ev_ite, ev_idx, ev_slc, ev_rev, ev_call, ev_callv, ev_bi, ev_inst, ev_get, ev_lrng, ev_dcp, ev_dprs, ev_lc, ev_lc2, ev_lc3, evT_and, evT_or, evT_not, evT_var, evT_cst, evT_glb, evT_fnv, evT_tup, evT_lst, evT_lmul, evT_dic, evT_dic1, evT_bin, evT_neg, evT_cmp, evT_chain, evT_ite, evT_idx, evT_slc, evT_rev, evT_call, evT_callv, evT_bi, evT_inst, evT_get, evT_lrng, evT_dcp, evT_dprs, evT_lc, evT_lc2, evT_lc3, opd_var, opd_cst, opd_glb, opd_fnv, opd_tup, opd_lst, opd_lmul, opd_dic, opd_dic1, opd_bin, opd_neg, opd_cmp, opd_chain, opd_and, opd_or, opd_not, opd_ite, opd_idx, opd_slc, opd_rev, opd_call, opd_callv, opd_bi, opd_inst, opd_get, opd_lrng, opd_dcp, opd_dprs, opd_lc, opd_lc2, opd_lc3, exS_set, exS_unp, exS_par, exS_parO, exS_store, exS_app, exS_expr, exS_ifs, exS_for_, exS_whil, exS_ret, exS_retv, exS_retN, exS_brk, exS_cont, exS_pass, exS_never, exSs_nil, exSs_cons, part_none, part_some, evIt, opds, vals, op2, cont, conts, Res.bind, Res.bindN, Res.sb, SRes.sq, lift, cmpP, binP, idxP, callP, finF, endF, backOf, isLent, SV.d, SV.lent, callR, lentOf, sharedSl, shLst, freezeSl, putBack, D.flat, tru, unpS, asg_tup, asg_ktup, asg_lst, asgs_cons, asgs_nil, setS_eq, asg_nm, free_none, free_dat, free_own, D.seq?, Z24, hasSlot, hasLst, modS, putAt, pushAt, retvS, lcFin, testO, DL.isP, keepO, List.replicate, F__law_same, e0, h3', es]
      · have h3' : 3 < s := by omega
        have h6' : ¬ s < 6 := by omega
        simp [ev_var, ev_cst, ev_glb, ev_fnv, ev_tup, ev_lst, ev_lmul, ev_dic_false, ev_dic_true, ev_dic1, ev_bin, ev_neg, ev_cmp, ev_chain, ev_and, ev_or, ev_not, ev_ite, ev_idx, ev_slc, ev_rev, ev_call, ev_callv, ev_bi, ev_inst, ev_get, ev_lrng, ev_dcp, ev_dprs, ev_lc, ev_lc2, ev_lc3, evT_and, evT_or, evT_not, evT_var, evT_cst, evT_glb, evT_fnv, evT_tup, evT_lst, evT_lmul, evT_dic, evT_dic1, evT_bin, evT_neg, evT_cmp, evT_chain, evT_ite, evT_idx, evT_slc, evT_rev, evT_call, evT_callv, evT_bi, evT_inst, evT_get, evT_lrng, evT_dcp, evT_dprs, evT_lc, evT_lc2, evT_lc3, opd_var, opd_cst, opd_glb, opd_fnv, opd_tup, opd_lst, opd_lmul, opd_dic, opd_dic1, opd_bin, opd_neg, opd_cmp, opd_chain, opd_and, opd_or, opd_not, opd_ite, opd_idx, opd_slc, opd_rev, opd_call, opd_callv, opd_bi, opd_inst, opd_get, opd_lrng, opd_dcp, opd_dprs, opd_lc, opd_lc2, opd_lc3, exS_set, exS_unp, exS_par, exS_parO, exS_store, exS_app, exS_expr, exS_ifs, exS_for_, exS_whil, exS_ret, exS_retv, exS_retN, exS_brk, exS_cont, exS_pass, exS_never, exSs_nil, exSs_cons, part_none, part_some, evIt, opds, vals, op2, cont, conts, Res.bind, Res.bindN, Res.sb, SRes.sq, lift, cmpP, binP, idxP, callP, finF, endF, backOf, isLent, SV.d, SV.lent, callR, lentOf, sharedSl, shLst, freezeSl, putBack, D.flat, tru, unpS, asg_tup, asg_ktup, asg_lst, asgs_cons, asgs_nil, setS_eq, asg_nm, free_none, free_dat, free_own, D.seq?, Z24, hasSlot, hasLst, modS, putAt, pushAt, retvS, lcFin, testO, DL.isP, keepO, List.replicate, F__law_same, e0, h3', h6', es]
    cases d with
    | tup ds =>
      have h' := Bool.and_eq_true_iff.mp (show (decide (ds.length ≤ 16777216) && ds.all (cmpB n)) = true from h)
      exact seq ds rfl (at_ ds) (.inl rfl) (of_decide_eq_true h'.1) (List.all_eq_true.mp h'.2) 5 rfl (by decide)
    | lst ds =>
      have h' := Bool.and_eq_true_iff.mp (show (decide (ds.length ≤ 16777216) && ds.all (cmpB n)) = true from h)
      exact seq ds rfl (at2_ ds) (.inr rfl) (of_decide_eq_true h'.1) (List.all_eq_true.mp h'.2) 4 rfl (by decide)
    | non => exact flat 6 rfl (.inr (by decide))
    | bl b => exact flat 1 rfl (.inl (by decide))
    | int i => exact flat 2 rfl (.inl (by decide))
    | str x => exact flat 3 rfl (.inl (by decide))
    | _ => cases h

/-! ### same_punches -/
def firstL (m : Mn) (p : Int × Int) : List Int := ((List.range p.2.toNat).filter fun i : Nat => decide (cameI m.i ((i : Nat) : Int) = cameI m.i p.1)).map fun i : Nat => ((i : Nat) : Int)
def secondL (m : Mn) (p : Int × Int) : List Int := ((List.range (96 - p.1.toNat)).filter fun i : Nat => decide (wentI m.o (p.1 + 1 + ((i : Nat) : Int)) = wentI m.o p.2)).map fun i : Nat => p.1 + 1 + ((i : Nat) : Int)
theorem ends_of {l : List Int} {a : Int} (h : a ∈ l) : ∃ x y, L2.atI (l.map D.int) 0 = some (.int x) ∧ L2.atI (l.map D.int) (-1) = some (.int y) ∧ x ∈ l ∧ y ∈ l := by
  have hl : 0 < l.length := List.length_pos_of_mem h
  refine ⟨l[0], l[l.length - 1], ?_, ?_, List.getElem_mem _, List.getElem_mem _⟩
  · unfold L2.atI ixN
    rw [if_pos (by decide), if_pos (by rw [List.length_map]; exact_mod_cast hl)]
    simp [hl]
  · unfold L2.atI ixN
    rw [if_neg (by decide), if_pos (by rw [List.length_map]; omega)]
    have e : (-1 + ((l.map D.int).length : Int)).toNat = l.length - 1 := by rw [List.length_map]; omega
    simp only [Option.bind_some]
    rw [e, List.getElem?_map, List.getElem?_eq_getElem (by omega)]
    rfl
theorem ins_at (m : Mn) {i : Nat} (h : i < 97) : L2.atI (insL m) ((i : Nat) : Int) = some (.int (cameI m.i (i : Nat))) := by
  refine at_nat ?_
  unfold insL
  rw [List.getElem?_map, List.getElem?_range h]; rfl
theorem outs_at (m : Mn) {i : Nat} (h : i < 97) : L2.atI (outsL m) ((i : Nat) : Int) = some (.int (wentI m.o (i : Nat))) := by
  refine at_nat ?_
  unfold outsL
  rw [List.getElem?_map, List.getElem?_range h]; rfl
theorem first_mem {m : Mn} {p : Int × Int} (h : dayOk p) : p.1 ∈ firstL m p := by
  obtain ⟨h1, h2, h3⟩ := h
  refine List.mem_map.mpr ⟨p.1.toNat, List.mem_filter.mpr ⟨List.mem_range.mpr (by omega), ?_⟩, by omega⟩
  rw [show ((p.1.toNat : Nat) : Int) = p.1 by omega]
  exact decide_eq_true rfl
theorem second_mem {m : Mn} {p : Int × Int} (h : dayOk p) : p.2 ∈ secondL m p := by
  obtain ⟨h1, h2, h3⟩ := h
  refine List.mem_map.mpr ⟨(p.2 - p.1 - 1).toNat, List.mem_filter.mpr ⟨List.mem_range.mpr (by omega), ?_⟩, by omega⟩
  rw [show p.1 + 1 + (((p.2 - p.1 - 1).toNat : Nat) : Int) = p.2 by omega]
  exact decide_eq_true rfl

/-! ### times never go back -/
theorem came_mono {r : Rnd} (h : r.ok) {t u : Int} (l : t ≤ u) : cameI r t ≤ cameI r u := by
  obtain ⟨s, x, g⟩ := r
  obtain ⟨h1, h2, h3⟩ := h
  simp only [List.mem_cons, List.not_mem_nil, or_false] at h1 h2 h3
  unfold cameI
  rcases h1 with rfl | rfl | rfl | rfl | rfl | rfl | rfl <;> (simp only [Int.fmod_eq_emod_of_nonneg _ (show (0 : Int) ≤ 1 by decide), Int.fmod_eq_emod_of_nonneg _ (show (0 : Int) ≤ 2 by decide), Int.fmod_eq_emod_of_nonneg _ (show (0 : Int) ≤ 3 by decide), Int.fmod_eq_emod_of_nonneg _ (show (0 : Int) ≤ 4 by decide), Int.fmod_eq_emod_of_nonneg _ (show (0 : Int) ≤ 6 by decide), Int.fmod_eq_emod_of_nonneg _ (show (0 : Int) ≤ 8 by decide), Int.fmod_eq_emod_of_nonneg _ (show (0 : Int) ≤ 12 by decide)]; cases x <;> simp <;> (repeat (split)) <;> omega)
theorem went_mono {r : Rnd} (h : r.ok) {t u : Int} (l : t ≤ u) : wentI r t ≤ wentI r u := by
  obtain ⟨s, x, g⟩ := r
  obtain ⟨h1, h2, h3⟩ := h
  simp only [List.mem_cons, List.not_mem_nil, or_false] at h1 h2 h3
  unfold wentI
  rcases h1 with rfl | rfl | rfl | rfl | rfl | rfl | rfl <;> (simp only [Int.fmod_eq_emod_of_nonneg _ (show (0 : Int) ≤ 1 by decide), Int.fmod_eq_emod_of_nonneg _ (show (0 : Int) ≤ 2 by decide), Int.fmod_eq_emod_of_nonneg _ (show (0 : Int) ≤ 3 by decide), Int.fmod_eq_emod_of_nonneg _ (show (0 : Int) ≤ 4 by decide), Int.fmod_eq_emod_of_nonneg _ (show (0 : Int) ≤ 6 by decide), Int.fmod_eq_emod_of_nonneg _ (show (0 : Int) ≤ 8 by decide), Int.fmod_eq_emod_of_nonneg _ (show (0 : Int) ≤ 12 by decide)]; cases x <;> simp <;> (repeat (split)) <;> omega)
/-! ### loops -/
theorem for_cnt {body : Env' → SRes} {T : Tg} (P : Nat → Env' → Prop) : ∀ (ds : List D) (ρ : Env'), P ds.length ρ → (∀ d ∈ ds, ∀ (n : Nat) (ρ : Env'), P (n + 1) ρ → ∃ ρ1, asg T d ρ = some ρ1 ∧ ∃ ρ2, body ρ1 = .nx ρ2 ∧ P n ρ2) → ∃ ρ2, forGo body T ds ρ = .nx ρ2 ∧ P 0 ρ2
  | [], ρ, h, _ => ⟨ρ, rfl, h⟩
  | d :: ds, ρ, h, st => by
    obtain ⟨ρ1, e1, ρ2, e2, h2⟩ := st d List.mem_cons_self ds.length ρ h
    obtain ⟨ρ3, e3, h3⟩ := for_cnt P ds ρ2 h2 (fun e he => st e (List.mem_cons_of_mem _ he))
    refine ⟨ρ3, ?_, h3⟩
    unfold forGo
    rw [e1]
    dsimp only
    rw [e2]
    exact e3
def Fr (l : List (Option SV)) : Prop := ∀ x ∈ l, free x = true
theorem Fr.nil : Fr [] := fun _ h => by cases h
theorem Fr.cons {x : Option SV} {l : List (Option SV)} (h : free x = true) (t : Fr l) : Fr (x :: l) := fun y hy => by
  rcases List.mem_cons.mp hy with rfl | hy
  · exact h
  · exact t y hy
/-- a cell of the script -/
theorem cell_at (ns : List Int) {n j : Nat} (hj : j < n) : ∃ x, L2.atI (ns.map D.int ++ (List.replicate n [D.int 0]).flatten) ((j : Nat) : Int) = some (.int x) := by
  have e : ns.map D.int ++ (List.replicate n [D.int 0]).flatten = (ns ++ List.replicate n 0).map D.int := by
    rw [List.map_append]
    congr 1
    induction n with
    | zero => rfl
    | succ n ih =>
      clear ih hj
      induction n with
      | zero => rfl
      | succ n ih => rw [List.replicate_succ, List.flatten_cons, ih]; rfl
  rw [e]
  have hl : j < (ns ++ List.replicate n 0).length := by rw [List.length_append, List.length_replicate]; omega
  refine ⟨(ns ++ List.replicate n 0)[j], at_nat ?_⟩
  rw [List.getElem?_map, List.getElem?_eq_getElem hl]
  rfl
theorem small_day {i : Int} (h : 0 ≤ i ∧ i ≤ 200) : small62 i = true := by
  unfold small62
  simp
  omega
end DL

namespace DL
open PySem PySem.Spec PyProof.Rows L2

/-! ### lists of whole numbers -/
theorem intsOf_map (ns : List Int) : intsOf (ns.map D.int) = some ns := by
  induction ns with
  | nil => rfl
  | cons n ns ih => rw [List.map_cons, intsOf, ih]; rfl
def maxL : List Int → Int
  | [] => 0
  | n :: r => maxI n r
def minL : List Int → Int
  | [] => 0
  | n :: r => minI n r
theorem call_sum (ns : List Int) : callP .sum [.lst (ns.map D.int)] = some (.dat (.int ns.sum)) := by
  show (intsOf _).map _ = _
  rw [intsOf_map]; rfl
theorem call_len (ds : List D) : callP .len [.lst ds] = some (.dat (.int ds.length)) := rfl
theorem call_max {ns : List Int} (h : ns ≠ []) : callP .max [.lst (ns.map D.int)] = some (.dat (.int (maxL ns))) := by
  show (intsOf _).bind _ = _
  rw [intsOf_map]
  cases ns with
  | nil => exact absurd rfl h
  | cons n r => rfl
theorem call_min {ns : List Int} (h : ns ≠ []) : callP .min [.lst (ns.map D.int)] = some (.dat (.int (minL ns))) := by
  show (intsOf _).bind _ = _
  rw [intsOf_map]
  cases ns with
  | nil => exact absurd rfl h
  | cons n r => rfl

theorem mulP (i : Int) {j : Int} (h : -1000 < j ∧ j < 1000) : binP .Mult (.int i) (.int j) = some (.dat (.int (i * j))) := by
  have p : -18446744073709551616 < j ∧ j < 18446744073709551616 := by omega
  simp [binP, p]
theorem addP (i j : Int) : binP .Add (.int i) (.int j) = some (.dat (.int (i + j))) := by simp [binP]
theorem mm {cf : Cf} {n : Nat} {q q' : Q} {i j : Int} {ρ : Env'} (h1 : opd (ev cf n) q ρ = .ok (.dd (.int i)) ρ) (h2 : opd (ev cf n) q' ρ = .ok (.dd (.int j)) ρ) (h3 : -1000 < j ∧ j < 1000) : opd (ev cf (n + 1)) (.bin .Mult q q') ρ = .ok (.dd (.int (i * j))) ρ := by
  have := mulP i h3
  rw [opd_bin, ev_bin]
  unfold op2
  rw [h1]
  generalize hb : binP .Mult = bp at this ⊢
  simp only [Res.bind, h2, cont, this, lift, SV.d]
theorem ma {cf : Cf} {n : Nat} {q q' : Q} {i j : Int} {ρ : Env'} (h1 : opd (ev cf n) q ρ = .ok (.dd (.int i)) ρ) (h2 : opd (ev cf n) q' ρ = .ok (.dd (.int j)) ρ) : opd (ev cf (n + 1)) (.bin .Add q q') ρ = .ok (.dd (.int (i + j))) ρ := by
  have := addP i j
  rw [opd_bin, ev_bin]
  unfold op2
  rw [h1]
  generalize hb : binP .Add = bp at this ⊢
  simp only [Res.bind, h2, cont, this, lift, SV.d]
theorem call2 {cf : Cf} {n j : Nat} {q q' : Q} {ρ : Env'} {d e u v : D} (g : cf.lend j = false) (h1 : opd (ev cf n) q ρ = .ok (.dd d) ρ) (h2 : opd (ev cf n) q' ρ = .ok (.dd e) ρ) (h : cf.run j [.dat d, .dat e] = .ok (.dat (.tup [u, v])) none) : ev cf (n + 1) (.call j [q, q']) ρ = .ok (.dat (.tup [u, v])) ρ := by
  simp [ev_var, ev_cst, ev_glb, ev_fnv, ev_tup, ev_lst, ev_lmul, ev_dic_false, ev_dic_true, ev_dic1, ev_bin, ev_neg, ev_cmp, ev_chain, ev_and, ev_or, ev_not, ev_ite, ev_idx, ev_slc, ev_rev, ev_call, ev_callv, ev_bi, ev_inst, ev_get, ev_lrng, ev_dcp, ev_dprs, ev_lc, ev_lc2, ev_lc3, evT_and, evT_or, evT_not, evT_var, evT_cst, evT_glb, evT_fnv, evT_tup, evT_lst, evT_lmul, evT_dic, evT_dic1, evT_bin, evT_neg, evT_cmp, evT_chain, evT_ite, evT_idx, evT_slc, evT_rev, evT_call, evT_callv, evT_bi, evT_inst, evT_get, evT_lrng, evT_dcp, evT_dprs, evT_lc, evT_lc2, evT_lc3, opd_var, opd_cst, opd_glb, opd_fnv, opd_tup, opd_lst, opd_lmul, opd_dic, opd_dic1, opd_bin, opd_neg, opd_cmp, opd_chain, opd_and, opd_or, opd_not, opd_ite, opd_idx, opd_slc, opd_rev, opd_call, opd_callv, opd_bi, opd_inst, opd_get, opd_lrng, opd_dcp, opd_dprs, opd_lc, opd_lc2, opd_lc3, exS_set, exS_unp, exS_par, exS_parO, exS_store, exS_app, exS_expr, exS_ifs, exS_for_, exS_whil, exS_ret, exS_retv, exS_retN, exS_brk, exS_cont, exS_pass, exS_never, exSs_nil, exSs_cons, part_none, part_some, evIt, opds, vals, op2, cont, conts, Res.bind, Res.bindN, Res.sb, SRes.sq, lift, cmpP, idxP, finF, endF, backOf, isLent, SV.d, SV.lent, callR, lentOf, sharedSl, shLst, freezeSl, putBack, D.flat, tru, unpS, asg_tup, asg_ktup, asg_lst, asgs_cons, asgs_nil, setS_eq, asg_nm, free_none, free_dat, free_own, D.seq?, Z24, hasSlot, hasLst, modS, putAt, pushAt, retvS, lcFin, testO, DL.isP, keepO, List.replicate, h1, h2, h, g]
/-! ### ends_of -/
def gainsA (r : Rnd) : List Int := (List.range r.st.toNat).map fun i => ((i : Nat) : Int) - cameI r ((i : Nat) : Int)
def gainsB (r : Rnd) : List Int := (List.range r.st.toNat).map fun i => wentI r ((i : Nat) : Int) - ((i : Nat) : Int)
theorem at30 {a b c : D} : L2.atI [a, b, c] 0 = some a := rfl
theorem endsA_ok (k : Nat) {r : Rnd} (h : r.ok) : semK glob gvG 100 (k + 2) 75 [.dat r.d, .dat (.bl true)] = .ok (.own (.lst ((gainsA r).map D.int))) none := by
  have hs := h.st
  rw [semK_eq g_ends_of]
  have s1 := small_day (i := r.st) (by omega)
  have e1 : lcGo (ev (cfk (k + 1)) 95 (.bin .Sub (.var 2) (.call 18 [.var 0, .var 2]))) (testO (evT (cfk (k + 1)) 95) none) [2] (.nm 2) (rangeD 0 r.st.toNat) [] [some (.dat r.d), some (.dat (.bl true)), none] = .ok ((gainsA r).map D.int) [some (.dat r.d), some (.dat (.bl true)), none] := by
    rw [rng_map]
    unfold gainsA
    rw [List.map_map]
    refine lcGo_map _ _ _ (fun i hi => ⟨[some (.dat r.d), some (.dat (.bl true)), some (.dat (.int (0 + (i : Nat))))], by simp [ev_var, ev_cst, ev_glb, ev_fnv, ev_tup, ev_lst, ev_lmul, ev_dic_false, ev_dic_true, ev_dic1, ev_bin, ev_neg, ev_cmp, ev_chain, ev_and, ev_or, ev_not, ev_ite, ev_idx, ev_slc, ev_rev, ev_call, ev_callv, ev_bi, ev_inst, ev_get, ev_lrng, ev_dcp, ev_dprs, ev_lc, ev_lc2, ev_lc3, evT_and, evT_or, evT_not, evT_var, evT_cst, evT_glb, evT_fnv, evT_tup, evT_lst, evT_lmul, evT_dic, evT_dic1, evT_bin, evT_neg, evT_cmp, evT_chain, evT_ite, evT_idx, evT_slc, evT_rev, evT_call, evT_callv, evT_bi, evT_inst, evT_get, evT_lrng, evT_dcp, evT_dprs, evT_lc, evT_lc2, evT_lc3, opd_var, opd_cst, opd_glb, opd_fnv, opd_tup, opd_lst, opd_lmul, opd_dic, opd_dic1, opd_bin, opd_neg, opd_cmp, opd_chain, opd_and, opd_or, opd_not, opd_ite, opd_idx, opd_slc, opd_rev, opd_call, opd_callv, opd_bi, opd_inst, opd_get, opd_lrng, opd_dcp, opd_dprs, opd_lc, opd_lc2, opd_lc3, exS_set, exS_unp, exS_par, exS_parO, exS_store, exS_app, exS_expr, exS_ifs, exS_for_, exS_whil, exS_ret, exS_retv, exS_retN, exS_brk, exS_cont, exS_pass, exS_never, exSs_nil, exSs_cons, part_none, part_some, evIt, opds, vals, op2, cont, conts, Res.bind, Res.bindN, Res.sb, SRes.sq, lift, cmpP, binP, idxP, callP, finF, endF, backOf, isLent, SV.d, SV.lent, callR, lentOf, sharedSl, shLst, freezeSl, putBack, D.flat, tru, unpS, asg_tup, asg_ktup, asg_lst, asgs_cons, asgs_nil, setS_eq, asg_nm, free_none, free_dat, free_own, D.seq?, Z24, hasSlot, hasLst, modS, putAt, pushAt, retvS, lcFin, testO, DL.isP, keepO, List.replicate], ⟨.dat (.int (((i : Nat) : Int) - cameI r ((i : Nat) : Int))), ?_, rfl⟩, rfl, rfl⟩) (by rw [List.length_range]; simp [Z24]; omega)
    have e := came_ok k h ((i : Nat) : Int)
    simp [ev_var, ev_cst, ev_glb, ev_fnv, ev_tup, ev_lst, ev_lmul, ev_dic_false, ev_dic_true, ev_dic1, ev_bin, ev_neg, ev_cmp, ev_chain, ev_and, ev_or, ev_not, ev_ite, ev_idx, ev_slc, ev_rev, ev_call, ev_callv, ev_bi, ev_inst, ev_get, ev_lrng, ev_dcp, ev_dprs, ev_lc, ev_lc2, ev_lc3, evT_and, evT_or, evT_not, evT_var, evT_cst, evT_glb, evT_fnv, evT_tup, evT_lst, evT_lmul, evT_dic, evT_dic1, evT_bin, evT_neg, evT_cmp, evT_chain, evT_ite, evT_idx, evT_slc, evT_rev, evT_call, evT_callv, evT_bi, evT_inst, evT_get, evT_lrng, evT_dcp, evT_dprs, evT_lc, evT_lc2, evT_lc3, opd_var, opd_cst, opd_glb, opd_fnv, opd_tup, opd_lst, opd_lmul, opd_dic, opd_dic1, opd_bin, opd_neg, opd_cmp, opd_chain, opd_and, opd_or, opd_not, opd_ite, opd_idx, opd_slc, opd_rev, opd_call, opd_callv, opd_bi, opd_inst, opd_get, opd_lrng, opd_dcp, opd_dprs, opd_lc, opd_lc2, opd_lc3, exS_set, exS_unp, exS_par, exS_parO, exS_store, exS_app, exS_expr, exS_ifs, exS_for_, exS_whil, exS_ret, exS_retv, exS_retN, exS_brk, exS_cont, exS_pass, exS_never, exSs_nil, exSs_cons, part_none, part_some, evIt, opds, vals, op2, cont, conts, Res.bind, Res.bindN, Res.sb, SRes.sq, lift, cmpP, binP, idxP, callP, finF, endF, backOf, isLent, SV.d, SV.lent, callR, lentOf, sharedSl, shLst, freezeSl, putBack, D.flat, tru, unpS, asg_tup, asg_ktup, asg_lst, asgs_cons, asgs_nil, setS_eq, asg_nm, free_none, free_dat, free_own, D.seq?, Z24, hasSlot, hasLst, modS, putAt, pushAt, retvS, lcFin, testO, DL.isP, keepO, List.replicate, e]
  simp only [Rnd.d] at e1 ⊢
  simp [ev_var, ev_cst, ev_glb, ev_fnv, ev_tup, ev_lst, ev_lmul, ev_dic_false, ev_dic_true, ev_dic1, ev_bin, ev_neg, ev_cmp, ev_chain, ev_and, ev_or, ev_not, ev_ite, ev_idx, ev_slc, ev_rev, ev_call, ev_callv, ev_bi, ev_inst, ev_get, ev_lrng, ev_dcp, ev_dprs, ev_lc, ev_lc2, ev_lc3, evT_and, evT_or, evT_not, evT_var, evT_cst, evT_glb, evT_fnv, evT_tup, evT_lst, evT_lmul, evT_dic, evT_dic1, evT_bin, evT_neg, evT_cmp, evT_chain, evT_ite, evT_idx, evT_slc, evT_rev, evT_call, evT_callv, evT_bi, evT_inst, evT_get, evT_lrng, evT_dcp, evT_dprs, evT_lc, evT_lc2, evT_lc3, opd_var, opd_cst, opd_glb, opd_fnv, opd_tup, opd_lst, opd_lmul, opd_dic, opd_dic1, opd_bin, opd_neg, opd_cmp, opd_chain, opd_and, opd_or, opd_not, opd_ite, opd_idx, opd_slc, opd_rev, opd_call, opd_callv, opd_bi, opd_inst, opd_get, opd_lrng, opd_dcp, opd_dprs, opd_lc, opd_lc2, opd_lc3, exS_set, exS_unp, exS_par, exS_parO, exS_store, exS_app, exS_expr, exS_ifs, exS_for_, exS_whil, exS_ret, exS_retv, exS_retN, exS_brk, exS_cont, exS_pass, exS_never, exSs_nil, exSs_cons, part_none, part_some, evIt, opds, vals, op2, cont, conts, Res.bind, Res.bindN, Res.sb, SRes.sq, lift, cmpP, binP, idxP, callP, finF, endF, backOf, isLent, SV.d, SV.lent, callR, lentOf, sharedSl, shLst, freezeSl, putBack, D.flat, tru, unpS, asg_tup, asg_ktup, asg_lst, asgs_cons, asgs_nil, setS_eq, asg_nm, free_none, free_dat, free_own, D.seq?, Z24, hasSlot, hasLst, modS, putAt, pushAt, retvS, lcFin, testO, DL.isP, keepO, List.replicate, F_ends_of, e1, s1, at30, tame, wipeR, backR]
theorem endsB_ok (k : Nat) {r : Rnd} (h : r.ok) : semK glob gvG 100 (k + 2) 75 [.dat r.d, .dat (.bl false)] = .ok (.own (.lst ((gainsB r).map D.int))) none := by
  have hs := h.st
  rw [semK_eq g_ends_of]
  have s1 := small_day (i := r.st) (by omega)
  have e1 : lcGo (ev (cfk (k + 1)) 96 (.bin .Sub (.call 19 [.var 0, .var 2]) (.var 2))) (testO (evT (cfk (k + 1)) 96) none) [2] (.nm 2) (rangeD 0 r.st.toNat) [] [some (.dat r.d), some (.dat (.bl false)), none] = .ok ((gainsB r).map D.int) [some (.dat r.d), some (.dat (.bl false)), none] := by
    rw [rng_map]
    unfold gainsB
    rw [List.map_map]
    refine lcGo_map _ _ _ (fun i hi => ⟨[some (.dat r.d), some (.dat (.bl false)), some (.dat (.int (0 + (i : Nat))))], by simp [ev_var, ev_cst, ev_glb, ev_fnv, ev_tup, ev_lst, ev_lmul, ev_dic_false, ev_dic_true, ev_dic1, ev_bin, ev_neg, ev_cmp, ev_chain, ev_and, ev_or, ev_not, ev_ite, ev_idx, ev_slc, ev_rev, ev_call, ev_callv, ev_bi, ev_inst, ev_get, ev_lrng, ev_dcp, ev_dprs, ev_lc, ev_lc2, ev_lc3, evT_and, evT_or, evT_not, evT_var, evT_cst, evT_glb, evT_fnv, evT_tup, evT_lst, evT_lmul, evT_dic, evT_dic1, evT_bin, evT_neg, evT_cmp, evT_chain, evT_ite, evT_idx, evT_slc, evT_rev, evT_call, evT_callv, evT_bi, evT_inst, evT_get, evT_lrng, evT_dcp, evT_dprs, evT_lc, evT_lc2, evT_lc3, opd_var, opd_cst, opd_glb, opd_fnv, opd_tup, opd_lst, opd_lmul, opd_dic, opd_dic1, opd_bin, opd_neg, opd_cmp, opd_chain, opd_and, opd_or, opd_not, opd_ite, opd_idx, opd_slc, opd_rev, opd_call, opd_callv, opd_bi, opd_inst, opd_get, opd_lrng, opd_dcp, opd_dprs, opd_lc, opd_lc2, opd_lc3, exS_set, exS_unp, exS_par, exS_parO, exS_store, exS_app, exS_expr, exS_ifs, exS_for_, exS_whil, exS_ret, exS_retv, exS_retN, exS_brk, exS_cont, exS_pass, exS_never, exSs_nil, exSs_cons, part_none, part_some, evIt, opds, vals, op2, cont, conts, Res.bind, Res.bindN, Res.sb, SRes.sq, lift, cmpP, binP, idxP, callP, finF, endF, backOf, isLent, SV.d, SV.lent, callR, lentOf, sharedSl, shLst, freezeSl, putBack, D.flat, tru, unpS, asg_tup, asg_ktup, asg_lst, asgs_cons, asgs_nil, setS_eq, asg_nm, free_none, free_dat, free_own, D.seq?, Z24, hasSlot, hasLst, modS, putAt, pushAt, retvS, lcFin, testO, DL.isP, keepO, List.replicate], ⟨.dat (.int (wentI r ((i : Nat) : Int) - ((i : Nat) : Int))), ?_, rfl⟩, rfl, rfl⟩) (by rw [List.length_range]; simp [Z24]; omega)
    have e := went_ok k h ((i : Nat) : Int)
    simp [ev_var, ev_cst, ev_glb, ev_fnv, ev_tup, ev_lst, ev_lmul, ev_dic_false, ev_dic_true, ev_dic1, ev_bin, ev_neg, ev_cmp, ev_chain, ev_and, ev_or, ev_not, ev_ite, ev_idx, ev_slc, ev_rev, ev_call, ev_callv, ev_bi, ev_inst, ev_get, ev_lrng, ev_dcp, ev_dprs, ev_lc, ev_lc2, ev_lc3, evT_and, evT_or, evT_not, evT_var, evT_cst, evT_glb, evT_fnv, evT_tup, evT_lst, evT_lmul, evT_dic, evT_dic1, evT_bin, evT_neg, evT_cmp, evT_chain, evT_ite, evT_idx, evT_slc, evT_rev, evT_call, evT_callv, evT_bi, evT_inst, evT_get, evT_lrng, evT_dcp, evT_dprs, evT_lc, evT_lc2, evT_lc3, opd_var, opd_cst, opd_glb, opd_fnv, opd_tup, opd_lst, opd_lmul, opd_dic, opd_dic1, opd_bin, opd_neg, opd_cmp, opd_chain, opd_and, opd_or, opd_not, opd_ite, opd_idx, opd_slc, opd_rev, opd_call, opd_callv, opd_bi, opd_inst, opd_get, opd_lrng, opd_dcp, opd_dprs, opd_lc, opd_lc2, opd_lc3, exS_set, exS_unp, exS_par, exS_parO, exS_store, exS_app, exS_expr, exS_ifs, exS_for_, exS_whil, exS_ret, exS_retv, exS_retN, exS_brk, exS_cont, exS_pass, exS_never, exSs_nil, exSs_cons, part_none, part_some, evIt, opds, vals, op2, cont, conts, Res.bind, Res.bindN, Res.sb, SRes.sq, lift, cmpP, binP, idxP, callP, finF, endF, backOf, isLent, SV.d, SV.lent, callR, lentOf, sharedSl, shLst, freezeSl, putBack, D.flat, tru, unpS, asg_tup, asg_ktup, asg_lst, asgs_cons, asgs_nil, setS_eq, asg_nm, free_none, free_dat, free_own, D.seq?, Z24, hasSlot, hasLst, modS, putAt, pushAt, retvS, lcFin, testO, DL.isP, keepO, List.replicate, e]
  simp only [Rnd.d] at e1 ⊢
  simp [ev_var, ev_cst, ev_glb, ev_fnv, ev_tup, ev_lst, ev_lmul, ev_dic_false, ev_dic_true, ev_dic1, ev_bin, ev_neg, ev_cmp, ev_chain, ev_and, ev_or, ev_not, ev_ite, ev_idx, ev_slc, ev_rev, ev_call, ev_callv, ev_bi, ev_inst, ev_get, ev_lrng, ev_dcp, ev_dprs, ev_lc, ev_lc2, ev_lc3, evT_and, evT_or, evT_not, evT_var, evT_cst, evT_glb, evT_fnv, evT_tup, evT_lst, evT_lmul, evT_dic, evT_dic1, evT_bin, evT_neg, evT_cmp, evT_chain, evT_ite, evT_idx, evT_slc, evT_rev, evT_call, evT_callv, evT_bi, evT_inst, evT_get, evT_lrng, evT_dcp, evT_dprs, evT_lc, evT_lc2, evT_lc3, opd_var, opd_cst, opd_glb, opd_fnv, opd_tup, opd_lst, opd_lmul, opd_dic, opd_dic1, opd_bin, opd_neg, opd_cmp, opd_chain, opd_and, opd_or, opd_not, opd_ite, opd_idx, opd_slc, opd_rev, opd_call, opd_callv, opd_bi, opd_inst, opd_get, opd_lrng, opd_dcp, opd_dprs, opd_lc, opd_lc2, opd_lc3, exS_set, exS_unp, exS_par, exS_parO, exS_store, exS_app, exS_expr, exS_ifs, exS_for_, exS_whil, exS_ret, exS_retv, exS_retN, exS_brk, exS_cont, exS_pass, exS_never, exSs_nil, exSs_cons, part_none, part_some, evIt, opds, vals, op2, cont, conts, Res.bind, Res.bindN, Res.sb, SRes.sq, lift, cmpP, binP, idxP, callP, finF, endF, backOf, isLent, SV.d, SV.lent, callR, lentOf, sharedSl, shLst, freezeSl, putBack, D.flat, tru, unpS, asg_tup, asg_ktup, asg_lst, asgs_cons, asgs_nil, setS_eq, asg_nm, free_none, free_dat, free_own, D.seq?, Z24, hasSlot, hasLst, modS, putAt, pushAt, retvS, lcFin, testO, DL.isP, keepO, List.replicate, F_ends_of, e1, s1, at30, tame, wipeR, backR]
/-! ### lowest_terms -/
theorem low_wh (k : Nat) (t b : Int) : ∀ (m : Nat) (f s : Nat), s < m → exists g : Nat, whGo (evT (cfk k) 97 (.cmp .Gt (.var 3) (.cst (.int 0)))) (exSs (cfk k) 97 [.par 2 3 (.var 3) (.bin .Mod (.var 2) (.var 3))]) m [some (.dat (.int t)), some (.dat (.int b)), some (.dat (.int f)), some (.dat (.int s))] = .nx [some (.dat (.int t)), some (.dat (.int b)), some (.dat (.int g)), some (.dat (.int 0))] ∧ g = Nat.gcd f s
  | 0, f, s, h => absurd h (Nat.not_lt_zero _)
  | m + 1, f, s, h => by
    unfold whGo
    by_cases h0 : s = 0
    · subst h0
      exact ⟨f, by simp [ev_var, ev_cst, ev_glb, ev_fnv, ev_tup, ev_lst, ev_lmul, ev_dic_false, ev_dic_true, ev_dic1, ev_bin, ev_neg, ev_cmp, ev_chain, ev_and, ev_or, ev_not, ev_ite, ev_idx, ev_slc, ev_rev, ev_call, ev_callv, ev_bi, ev_inst, ev_get, ev_lrng, ev_dcp, ev_dprs, ev_lc, ev_lc2, ev_lc3, evT_and, evT_or, evT_not, evT_var, evT_cst, evT_glb, evT_fnv, evT_tup, evT_lst, evT_lmul, evT_dic, evT_dic1, evT_bin, evT_neg, evT_cmp, evT_chain, evT_ite, evT_idx, evT_slc, evT_rev, evT_call, evT_callv, evT_bi, evT_inst, evT_get, evT_lrng, evT_dcp, evT_dprs, evT_lc, evT_lc2, evT_lc3, opd_var, opd_cst, opd_glb, opd_fnv, opd_tup, opd_lst, opd_lmul, opd_dic, opd_dic1, opd_bin, opd_neg, opd_cmp, opd_chain, opd_and, opd_or, opd_not, opd_ite, opd_idx, opd_slc, opd_rev, opd_call, opd_callv, opd_bi, opd_inst, opd_get, opd_lrng, opd_dcp, opd_dprs, opd_lc, opd_lc2, opd_lc3, exS_set, exS_unp, exS_par, exS_parO, exS_store, exS_app, exS_expr, exS_ifs, exS_for_, exS_whil, exS_ret, exS_retv, exS_retN, exS_brk, exS_cont, exS_pass, exS_never, exSs_nil, exSs_cons, part_none, part_some, evIt, opds, vals, op2, cont, conts, Res.bind, Res.bindN, Res.sb, SRes.sq, lift, cmpP, binP, idxP, callP, finF, endF, backOf, isLent, SV.d, SV.lent, callR, lentOf, sharedSl, shLst, freezeSl, putBack, D.flat, tru, unpS, asg_tup, asg_ktup, asg_lst, asgs_cons, asgs_nil, setS_eq, asg_nm, free_none, free_dat, free_own, D.seq?, Z24, hasSlot, hasLst, modS, putAt, pushAt, retvS, lcFin, testO, DL.isP, keepO, List.replicate], by simp⟩
    · have lt : f % s < s := Nat.mod_lt _ (Nat.pos_of_ne_zero h0)
      obtain ⟨g, e, hg⟩ := low_wh k t b m s (f % s) (by omega)
      refine ⟨g, ?_, ?_⟩
      · have c1 : (0 : Int) < s := by omega
        have c2 : (s : Int) ≠ 0 := by omega
        have c3 : Int.fmod (f : Int) (s : Int) = ((f % s : Nat) : Int) := by rw [Int.fmod_eq_emod_of_nonneg _ (by omega)]; simp
        have hb : (evT (cfk k) 97 (.cmp .Gt (.var 3) (.cst (.int 0)))) [some (.dat (.int t)), some (.dat (.int b)), some (.dat (.int f)), some (.dat (.int s))] = .ok true [some (.dat (.int t)), some (.dat (.int b)), some (.dat (.int f)), some (.dat (.int s))] := by simp [ev_var, ev_cst, ev_glb, ev_fnv, ev_tup, ev_lst, ev_lmul, ev_dic_false, ev_dic_true, ev_dic1, ev_bin, ev_neg, ev_cmp, ev_chain, ev_and, ev_or, ev_not, ev_ite, ev_idx, ev_slc, ev_rev, ev_call, ev_callv, ev_bi, ev_inst, ev_get, ev_lrng, ev_dcp, ev_dprs, ev_lc, ev_lc2, ev_lc3, evT_and, evT_or, evT_not, evT_var, evT_cst, evT_glb, evT_fnv, evT_tup, evT_lst, evT_lmul, evT_dic, evT_dic1, evT_bin, evT_neg, evT_cmp, evT_chain, evT_ite, evT_idx, evT_slc, evT_rev, evT_call, evT_callv, evT_bi, evT_inst, evT_get, evT_lrng, evT_dcp, evT_dprs, evT_lc, evT_lc2, evT_lc3, opd_var, opd_cst, opd_glb, opd_fnv, opd_tup, opd_lst, opd_lmul, opd_dic, opd_dic1, opd_bin, opd_neg, opd_cmp, opd_chain, opd_and, opd_or, opd_not, opd_ite, opd_idx, opd_slc, opd_rev, opd_call, opd_callv, opd_bi, opd_inst, opd_get, opd_lrng, opd_dcp, opd_dprs, opd_lc, opd_lc2, opd_lc3, exS_set, exS_unp, exS_par, exS_parO, exS_store, exS_app, exS_expr, exS_ifs, exS_for_, exS_whil, exS_ret, exS_retv, exS_retN, exS_brk, exS_cont, exS_pass, exS_never, exSs_nil, exSs_cons, part_none, part_some, evIt, opds, vals, op2, cont, conts, Res.bind, Res.bindN, Res.sb, SRes.sq, lift, cmpP, binP, idxP, callP, finF, endF, backOf, isLent, SV.d, SV.lent, callR, lentOf, sharedSl, shLst, freezeSl, putBack, D.flat, tru, unpS, asg_tup, asg_ktup, asg_lst, asgs_cons, asgs_nil, setS_eq, asg_nm, free_none, free_dat, free_own, D.seq?, Z24, hasSlot, hasLst, modS, putAt, pushAt, retvS, lcFin, testO, DL.isP, keepO, List.replicate, c1]; omega
        have hc : exSs (cfk k) 97 [.par 2 3 (.var 3) (.bin .Mod (.var 2) (.var 3))] [some (.dat (.int t)), some (.dat (.int b)), some (.dat (.int f)), some (.dat (.int s))] = .nx [some (.dat (.int t)), some (.dat (.int b)), some (.dat (.int s)), some (.dat (.int ((f % s : Nat) : Int)))] := by simp [ev_var, ev_cst, ev_glb, ev_fnv, ev_tup, ev_lst, ev_lmul, ev_dic_false, ev_dic_true, ev_dic1, ev_bin, ev_neg, ev_cmp, ev_chain, ev_and, ev_or, ev_not, ev_ite, ev_idx, ev_slc, ev_rev, ev_call, ev_callv, ev_bi, ev_inst, ev_get, ev_lrng, ev_dcp, ev_dprs, ev_lc, ev_lc2, ev_lc3, evT_and, evT_or, evT_not, evT_var, evT_cst, evT_glb, evT_fnv, evT_tup, evT_lst, evT_lmul, evT_dic, evT_dic1, evT_bin, evT_neg, evT_cmp, evT_chain, evT_ite, evT_idx, evT_slc, evT_rev, evT_call, evT_callv, evT_bi, evT_inst, evT_get, evT_lrng, evT_dcp, evT_dprs, evT_lc, evT_lc2, evT_lc3, opd_var, opd_cst, opd_glb, opd_fnv, opd_tup, opd_lst, opd_lmul, opd_dic, opd_dic1, opd_bin, opd_neg, opd_cmp, opd_chain, opd_and, opd_or, opd_not, opd_ite, opd_idx, opd_slc, opd_rev, opd_call, opd_callv, opd_bi, opd_inst, opd_get, opd_lrng, opd_dcp, opd_dprs, opd_lc, opd_lc2, opd_lc3, exS_set, exS_unp, exS_par, exS_parO, exS_store, exS_app, exS_expr, exS_ifs, exS_for_, exS_whil, exS_ret, exS_retv, exS_retN, exS_brk, exS_cont, exS_pass, exS_never, exSs_nil, exSs_cons, part_none, part_some, evIt, opds, vals, op2, cont, conts, Res.bind, Res.bindN, Res.sb, SRes.sq, lift, cmpP, binP, idxP, callP, finF, endF, backOf, isLent, SV.d, SV.lent, callR, lentOf, sharedSl, shLst, freezeSl, putBack, D.flat, tru, unpS, asg_tup, asg_ktup, asg_lst, asgs_cons, asgs_nil, setS_eq, asg_nm, free_none, free_dat, free_own, D.seq?, Z24, hasSlot, hasLst, modS, putAt, pushAt, retvS, lcFin, testO, DL.isP, keepO, List.replicate, h0, c3]
        rw [hb]
        simp only [Res.sb, if_true]
        rw [hc]
        exact e
      · rw [hg, Nat.gcd_comm s, ← Nat.gcd_rec, Nat.gcd_comm]
theorem low_ok (k : Nat) (t b : Int) (hb : 0 < b ∧ b < 1000) : semK glob gvG 100 (k + 1) 73 [.dat (.int t), .dat (.int b)] = .ok (.dat (.tup [.int (t.fdiv (Nat.gcd t.natAbs b.natAbs : Nat)), .int (b.fdiv (Nat.gcd t.natAbs b.natAbs : Nat))])) none := by
  rw [semK_eq g_lowest_terms]
  obtain ⟨g, e, hg⟩ := low_wh k t b 1000 t.natAbs b.natAbs (by omega)
  have a1 : (if t < 0 then -t else t) = ((t.natAbs : Nat) : Int) := by split <;> omega
  have a2 : ((b.natAbs : Nat) : Int) = b := by omega
  rw [a2] at e
  have hg0 : g ≠ 0 := by rw [hg]; exact Nat.ne_of_gt (Nat.gcd_pos_of_pos_right _ (by omega))
  have hg1 : g < 1073741824 := by rw [hg]; have := Nat.gcd_le_right t.natAbs (show 0 < b.natAbs by omega); omega
  rw [← hg]
  generalize hN : t.natAbs = N at *
  simp [ev_var, ev_cst, ev_glb, ev_fnv, ev_tup, ev_lst, ev_lmul, ev_dic_false, ev_dic_true, ev_dic1, ev_bin, ev_neg, ev_cmp, ev_chain, ev_and, ev_or, ev_not, ev_ite, ev_idx, ev_slc, ev_rev, ev_call, ev_callv, ev_bi, ev_inst, ev_get, ev_lrng, ev_dcp, ev_dprs, ev_lc, ev_lc2, ev_lc3, evT_and, evT_or, evT_not, evT_var, evT_cst, evT_glb, evT_fnv, evT_tup, evT_lst, evT_lmul, evT_dic, evT_dic1, evT_bin, evT_neg, evT_cmp, evT_chain, evT_ite, evT_idx, evT_slc, evT_rev, evT_call, evT_callv, evT_bi, evT_inst, evT_get, evT_lrng, evT_dcp, evT_dprs, evT_lc, evT_lc2, evT_lc3, opd_var, opd_cst, opd_glb, opd_fnv, opd_tup, opd_lst, opd_lmul, opd_dic, opd_dic1, opd_bin, opd_neg, opd_cmp, opd_chain, opd_and, opd_or, opd_not, opd_ite, opd_idx, opd_slc, opd_rev, opd_call, opd_callv, opd_bi, opd_inst, opd_get, opd_lrng, opd_dcp, opd_dprs, opd_lc, opd_lc2, opd_lc3, exS_set, exS_unp, exS_par, exS_parO, exS_store, exS_app, exS_expr, exS_ifs, exS_for_, exS_whil, exS_ret, exS_retv, exS_retN, exS_brk, exS_cont, exS_pass, exS_never, exSs_nil, exSs_cons, part_none, part_some, evIt, opds, vals, op2, cont, conts, Res.bind, Res.bindN, Res.sb, SRes.sq, lift, cmpP, binP, idxP, callP, finF, endF, backOf, isLent, SV.d, SV.lent, callR, lentOf, sharedSl, shLst, freezeSl, putBack, D.flat, tru, unpS, asg_tup, asg_ktup, asg_lst, asgs_cons, asgs_nil, setS_eq, asg_nm, free_none, free_dat, free_own, D.seq?, Z24, hasSlot, hasLst, modS, putAt, pushAt, retvS, lcFin, testO, DL.isP, keepO, List.replicate, F_lowest_terms, a1, e, hg0, hg1]
theorem eqD_pr (a b c d : Int) : eqD (.tup [.int a, .int b]) (.tup [.int c, .int d]) = some (decide (a = c ∧ b = d)) := by
  unfold eqD
  rw [if_pos ⟨shp_ok (n := 2) rfl (by decide), shp_ok (n := 2) rfl (by decide)⟩]
  show some ((a == c) && ((b == d) && true)) = _
  by_cases h1 : a = c <;> by_cases h2 : b = d <;> simp [h1, h2]
/-- what is won in all, over all pairs of one step -/
def topI (a b : Rnd) : Int := (gainsA a).sum * b.st + (gainsB b).sum * a.st
def meanD (a b : Rnd) : D := .tup [.int ((topI a b).fdiv (Nat.gcd (topI a b).natAbs (a.st * b.st).natAbs : Nat)), .int ((a.st * b.st).fdiv (Nat.gcd (topI a b).natAbs (a.st * b.st).natAbs : Nat))]
theorem lenA (r : Rnd) (h : r.ok) : ((gainsA r).length : Int) = r.st := by
  have := h.st
  unfold gainsA; rw [List.length_map, List.length_range]; omega
theorem lenB (r : Rnd) (h : r.ok) : ((gainsB r).length : Int) = r.st := by
  have := h.st
  unfold gainsB; rw [List.length_map, List.length_range]; omega
theorem mean_ok (k : Nat) {a b : Rnd} (ha : a.ok) (hb : b.ok) (r : List D) : semK glob gvG 100 (k + 3) 78 [.dat (.tup (a.d :: b.d :: r))] = .ok (.dat (meanD a b)) none := by
  rw [semK_eq g_mean_of]
  have e1 := endsA_ok k ha
  have e2 := endsB_ok k hb
  have h1 := ha.st
  have h2 := hb.st
  have hm : 0 < a.st * b.st := Int.mul_pos (by omega) (by omega)
  have hm2 : a.st * b.st ≤ 12 * 12 := Int.mul_le_mul h1.2 h2.2 (by omega) (by decide)
  have e3 : semK glob gvG 100 (k + 2) 73 _ = _ := low_ok (k + 1) (topI a b) (a.st * b.st) ⟨hm, by omega⟩
  have l1 := lenA a ha
  have l2 := lenB b hb
  have s1 := call_sum (gainsA a)
  have s2 := call_sum (gainsB b)
  have c1 : callP .len [.lst ((gainsA a).map D.int)] = some (.dat (.int a.st)) := by rw [call_len, List.length_map, l1]
  have c2 : callP .len [.lst ((gainsB b).map D.int)] = some (.dat (.int b.st)) := by rw [call_len, List.length_map, l2]
  have i0 : L2.atI (a.d :: b.d :: r) 0 = some a.d := at_nat (i := 0) rfl
  have i1 : L2.atI (a.d :: b.d :: r) 1 = some b.d := at_nat (i := 1) rfl
  generalize (gainsA a).map D.int = A at e1 s1 c1
  generalize (gainsB b).map D.int = B at e2 s2 c2
  unfold topI at e3
  unfold meanD topI
  simp only [Rnd.d] at e1 e2 i0 i1 ⊢
  generalize (gainsA a).sum = sa at *
  generalize (gainsB b).sum = sb at *
  generalize D.int ((sa * b.st + sb * a.st).fdiv _) = U at *
  generalize D.int ((a.st * b.st).fdiv _) = V at *
  replace e1 : (cfk (k + 2)).run 75 [SV.dat (.tup [.int a.st, .str a.sd.s, .int a.gr]), .dat (.bl true)] = .ok (.own (.lst A)) none := e1
  replace e2 : (cfk (k + 2)).run 75 [SV.dat (.tup [.int b.st, .str b.sd.s, .int b.gr]), .dat (.bl false)] = .ok (.own (.lst B)) none := e2
  replace e3 : (cfk (k + 2)).run 73 [SV.dat (.int (sa * b.st + sb * a.st)), .dat (.int (a.st * b.st))] = .ok (.dat (.tup [U, V])) none := e3
  have g1 : (cfk (k + 2)).lend 75 = false := l_ends_of
  have g2 : (cfk (k + 2)).lend 73 = false := l_lowest_terms
  generalize cfk (k + 2) = cf at *
  have X : exS cf 99 (.par 1 2 (.call 75 [.idx (.var 0) (.cst (.int 0)), .cst (.bl true)]) (.call 75 [.idx (.var 0) (.cst (.int 1)), .cst (.bl false)])) [some (.dat (.tup (.tup [.int a.st, .str a.sd.s, .int a.gr] :: .tup [.int b.st, .str b.sd.s, .int b.gr] :: r))), none, none] = .nx [some (.dat (.tup (.tup [.int a.st, .str a.sd.s, .int a.gr] :: .tup [.int b.st, .str b.sd.s, .int b.gr] :: r))), some (.dat (.lst A)), some (.dat (.lst B))] := by
    clear s1 s2 c1 c2 e3
    simp [ev_var, ev_cst, ev_glb, ev_fnv, ev_tup, ev_lst, ev_lmul, ev_dic_false, ev_dic_true, ev_dic1, ev_bin, ev_neg, ev_cmp, ev_chain, ev_and, ev_or, ev_not, ev_ite, ev_idx, ev_slc, ev_rev, ev_call, ev_callv, ev_bi, ev_inst, ev_get, ev_lrng, ev_dcp, ev_dprs, ev_lc, ev_lc2, ev_lc3, evT_and, evT_or, evT_not, evT_var, evT_cst, evT_glb, evT_fnv, evT_tup, evT_lst, evT_lmul, evT_dic, evT_dic1, evT_bin, evT_neg, evT_cmp, evT_chain, evT_ite, evT_idx, evT_slc, evT_rev, evT_call, evT_callv, evT_bi, evT_inst, evT_get, evT_lrng, evT_dcp, evT_dprs, evT_lc, evT_lc2, evT_lc3, opd_var, opd_cst, opd_glb, opd_fnv, opd_tup, opd_lst, opd_lmul, opd_dic, opd_dic1, opd_bin, opd_neg, opd_cmp, opd_chain, opd_and, opd_or, opd_not, opd_ite, opd_idx, opd_slc, opd_rev, opd_call, opd_callv, opd_bi, opd_inst, opd_get, opd_lrng, opd_dcp, opd_dprs, opd_lc, opd_lc2, opd_lc3, exS_set, exS_unp, exS_par, exS_parO, exS_store, exS_app, exS_expr, exS_ifs, exS_for_, exS_whil, exS_ret, exS_retv, exS_retN, exS_brk, exS_cont, exS_pass, exS_never, exSs_nil, exSs_cons, part_none, part_some, evIt, opds, vals, op2, cont, conts, Res.bind, Res.bindN, Res.sb, SRes.sq, lift, cmpP, idxP, finF, endF, backOf, isLent, SV.d, SV.lent, callR, lentOf, sharedSl, shLst, freezeSl, putBack, D.flat, tru, unpS, asg_tup, asg_ktup, asg_lst, asgs_cons, asgs_nil, setS_eq, asg_nm, free_none, free_dat, free_own, D.seq?, Z24, hasSlot, hasLst, modS, putAt, pushAt, retvS, lcFin, testO, DL.isP, keepO, List.replicate, idxP, i0, i1, e1, e2, g1]
  have o1 : ∀ n, opd (ev cf (n + 2)) (.bi .sum [.var 1]) [some (.dat (.tup (.tup [.int a.st, .str a.sd.s, .int a.gr] :: .tup [.int b.st, .str b.sd.s, .int b.gr] :: r))), some (.dat (.lst A)), some (.dat (.lst B))] = .ok (.dd (.int sa)) [some (.dat (.tup (.tup [.int a.st, .str a.sd.s, .int a.gr] :: .tup [.int b.st, .str b.sd.s, .int b.gr] :: r))), some (.dat (.lst A)), some (.dat (.lst B))] := fun n => by simp [ev_var, ev_cst, ev_glb, ev_fnv, ev_tup, ev_lst, ev_lmul, ev_dic_false, ev_dic_true, ev_dic1, ev_bin, ev_neg, ev_cmp, ev_chain, ev_and, ev_or, ev_not, ev_ite, ev_idx, ev_slc, ev_rev, ev_call, ev_callv, ev_bi, ev_inst, ev_get, ev_lrng, ev_dcp, ev_dprs, ev_lc, ev_lc2, ev_lc3, evT_and, evT_or, evT_not, evT_var, evT_cst, evT_glb, evT_fnv, evT_tup, evT_lst, evT_lmul, evT_dic, evT_dic1, evT_bin, evT_neg, evT_cmp, evT_chain, evT_ite, evT_idx, evT_slc, evT_rev, evT_call, evT_callv, evT_bi, evT_inst, evT_get, evT_lrng, evT_dcp, evT_dprs, evT_lc, evT_lc2, evT_lc3, opd_var, opd_cst, opd_glb, opd_fnv, opd_tup, opd_lst, opd_lmul, opd_dic, opd_dic1, opd_bin, opd_neg, opd_cmp, opd_chain, opd_and, opd_or, opd_not, opd_ite, opd_idx, opd_slc, opd_rev, opd_call, opd_callv, opd_bi, opd_inst, opd_get, opd_lrng, opd_dcp, opd_dprs, opd_lc, opd_lc2, opd_lc3, exS_set, exS_unp, exS_par, exS_parO, exS_store, exS_app, exS_expr, exS_ifs, exS_for_, exS_whil, exS_ret, exS_retv, exS_retN, exS_brk, exS_cont, exS_pass, exS_never, exSs_nil, exSs_cons, part_none, part_some, evIt, opds, vals, op2, cont, conts, Res.bind, Res.bindN, Res.sb, SRes.sq, lift, cmpP, idxP, finF, endF, backOf, isLent, SV.d, SV.lent, callR, lentOf, sharedSl, shLst, freezeSl, putBack, D.flat, tru, unpS, asg_tup, asg_ktup, asg_lst, asgs_cons, asgs_nil, setS_eq, asg_nm, free_none, free_dat, free_own, D.seq?, Z24, hasSlot, hasLst, modS, putAt, pushAt, retvS, lcFin, testO, DL.isP, keepO, List.replicate, s1]
  have o2 : ∀ n, opd (ev cf (n + 2)) (.bi .sum [.var 2]) [some (.dat (.tup (.tup [.int a.st, .str a.sd.s, .int a.gr] :: .tup [.int b.st, .str b.sd.s, .int b.gr] :: r))), some (.dat (.lst A)), some (.dat (.lst B))] = .ok (.dd (.int sb)) [some (.dat (.tup (.tup [.int a.st, .str a.sd.s, .int a.gr] :: .tup [.int b.st, .str b.sd.s, .int b.gr] :: r))), some (.dat (.lst A)), some (.dat (.lst B))] := fun n => by simp [ev_var, ev_cst, ev_glb, ev_fnv, ev_tup, ev_lst, ev_lmul, ev_dic_false, ev_dic_true, ev_dic1, ev_bin, ev_neg, ev_cmp, ev_chain, ev_and, ev_or, ev_not, ev_ite, ev_idx, ev_slc, ev_rev, ev_call, ev_callv, ev_bi, ev_inst, ev_get, ev_lrng, ev_dcp, ev_dprs, ev_lc, ev_lc2, ev_lc3, evT_and, evT_or, evT_not, evT_var, evT_cst, evT_glb, evT_fnv, evT_tup, evT_lst, evT_lmul, evT_dic, evT_dic1, evT_bin, evT_neg, evT_cmp, evT_chain, evT_ite, evT_idx, evT_slc, evT_rev, evT_call, evT_callv, evT_bi, evT_inst, evT_get, evT_lrng, evT_dcp, evT_dprs, evT_lc, evT_lc2, evT_lc3, opd_var, opd_cst, opd_glb, opd_fnv, opd_tup, opd_lst, opd_lmul, opd_dic, opd_dic1, opd_bin, opd_neg, opd_cmp, opd_chain, opd_and, opd_or, opd_not, opd_ite, opd_idx, opd_slc, opd_rev, opd_call, opd_callv, opd_bi, opd_inst, opd_get, opd_lrng, opd_dcp, opd_dprs, opd_lc, opd_lc2, opd_lc3, exS_set, exS_unp, exS_par, exS_parO, exS_store, exS_app, exS_expr, exS_ifs, exS_for_, exS_whil, exS_ret, exS_retv, exS_retN, exS_brk, exS_cont, exS_pass, exS_never, exSs_nil, exSs_cons, part_none, part_some, evIt, opds, vals, op2, cont, conts, Res.bind, Res.bindN, Res.sb, SRes.sq, lift, cmpP, idxP, finF, endF, backOf, isLent, SV.d, SV.lent, callR, lentOf, sharedSl, shLst, freezeSl, putBack, D.flat, tru, unpS, asg_tup, asg_ktup, asg_lst, asgs_cons, asgs_nil, setS_eq, asg_nm, free_none, free_dat, free_own, D.seq?, Z24, hasSlot, hasLst, modS, putAt, pushAt, retvS, lcFin, testO, DL.isP, keepO, List.replicate, s2]
  have o3 : ∀ n, opd (ev cf (n + 2)) (.bi .len [.var 1]) [some (.dat (.tup (.tup [.int a.st, .str a.sd.s, .int a.gr] :: .tup [.int b.st, .str b.sd.s, .int b.gr] :: r))), some (.dat (.lst A)), some (.dat (.lst B))] = .ok (.dd (.int a.st)) [some (.dat (.tup (.tup [.int a.st, .str a.sd.s, .int a.gr] :: .tup [.int b.st, .str b.sd.s, .int b.gr] :: r))), some (.dat (.lst A)), some (.dat (.lst B))] := fun n => by simp [ev_var, ev_cst, ev_glb, ev_fnv, ev_tup, ev_lst, ev_lmul, ev_dic_false, ev_dic_true, ev_dic1, ev_bin, ev_neg, ev_cmp, ev_chain, ev_and, ev_or, ev_not, ev_ite, ev_idx, ev_slc, ev_rev, ev_call, ev_callv, ev_bi, ev_inst, ev_get, ev_lrng, ev_dcp, ev_dprs, ev_lc, ev_lc2, ev_lc3, evT_and, evT_or, evT_not, evT_var, evT_cst, evT_glb, evT_fnv, evT_tup, evT_lst, evT_lmul, evT_dic, evT_dic1, evT_bin, evT_neg, evT_cmp, evT_chain, evT_ite, evT_idx, evT_slc, evT_rev, evT_call, evT_callv, evT_bi, evT_inst, evT_get, evT_lrng, evT_dcp, evT_dprs, evT_lc, evT_lc2, evT_lc3, opd_var, opd_cst, opd_glb, opd_fnv, opd_tup, opd_lst, opd_lmul, opd_dic, opd_dic1, opd_bin, opd_neg, opd_cmp, opd_chain, opd_and, opd_or, opd_not, opd_ite, opd_idx, opd_slc, opd_rev, opd_call, opd_callv, opd_bi, opd_inst, opd_get, opd_lrng, opd_dcp, opd_dprs, opd_lc, opd_lc2, opd_lc3, exS_set, exS_unp, exS_par, exS_parO, exS_store, exS_app, exS_expr, exS_ifs, exS_for_, exS_whil, exS_ret, exS_retv, exS_retN, exS_brk, exS_cont, exS_pass, exS_never, exSs_nil, exSs_cons, part_none, part_some, evIt, opds, vals, op2, cont, conts, Res.bind, Res.bindN, Res.sb, SRes.sq, lift, cmpP, idxP, finF, endF, backOf, isLent, SV.d, SV.lent, callR, lentOf, sharedSl, shLst, freezeSl, putBack, D.flat, tru, unpS, asg_tup, asg_ktup, asg_lst, asgs_cons, asgs_nil, setS_eq, asg_nm, free_none, free_dat, free_own, D.seq?, Z24, hasSlot, hasLst, modS, putAt, pushAt, retvS, lcFin, testO, DL.isP, keepO, List.replicate, c1]
  have o4 : ∀ n, opd (ev cf (n + 2)) (.bi .len [.var 2]) [some (.dat (.tup (.tup [.int a.st, .str a.sd.s, .int a.gr] :: .tup [.int b.st, .str b.sd.s, .int b.gr] :: r))), some (.dat (.lst A)), some (.dat (.lst B))] = .ok (.dd (.int b.st)) [some (.dat (.tup (.tup [.int a.st, .str a.sd.s, .int a.gr] :: .tup [.int b.st, .str b.sd.s, .int b.gr] :: r))), some (.dat (.lst A)), some (.dat (.lst B))] := fun n => by simp [ev_var, ev_cst, ev_glb, ev_fnv, ev_tup, ev_lst, ev_lmul, ev_dic_false, ev_dic_true, ev_dic1, ev_bin, ev_neg, ev_cmp, ev_chain, ev_and, ev_or, ev_not, ev_ite, ev_idx, ev_slc, ev_rev, ev_call, ev_callv, ev_bi, ev_inst, ev_get, ev_lrng, ev_dcp, ev_dprs, ev_lc, ev_lc2, ev_lc3, evT_and, evT_or, evT_not, evT_var, evT_cst, evT_glb, evT_fnv, evT_tup, evT_lst, evT_lmul, evT_dic, evT_dic1, evT_bin, evT_neg, evT_cmp, evT_chain, evT_ite, evT_idx, evT_slc, evT_rev, evT_call, evT_callv, evT_bi, evT_inst, evT_get, evT_lrng, evT_dcp, evT_dprs, evT_lc, evT_lc2, evT_lc3, opd_var, opd_cst, opd_glb, opd_fnv, opd_tup, opd_lst, opd_lmul, opd_dic, opd_dic1, opd_bin, opd_neg, opd_cmp, opd_chain, opd_and, opd_or, opd_not, opd_ite, opd_idx, opd_slc, opd_rev, opd_call, opd_callv, opd_bi, opd_inst, opd_get, opd_lrng, opd_dcp, opd_dprs, opd_lc, opd_lc2, opd_lc3, exS_set, exS_unp, exS_par, exS_parO, exS_store, exS_app, exS_expr, exS_ifs, exS_for_, exS_whil, exS_ret, exS_retv, exS_retN, exS_brk, exS_cont, exS_pass, exS_never, exSs_nil, exSs_cons, part_none, part_some, evIt, opds, vals, op2, cont, conts, Res.bind, Res.bindN, Res.sb, SRes.sq, lift, cmpP, idxP, finF, endF, backOf, isLent, SV.d, SV.lent, callR, lentOf, sharedSl, shLst, freezeSl, putBack, D.flat, tru, unpS, asg_tup, asg_ktup, asg_lst, asgs_cons, asgs_nil, setS_eq, asg_nm, free_none, free_dat, free_own, D.seq?, Z24, hasSlot, hasLst, modS, putAt, pushAt, retvS, lcFin, testO, DL.isP, keepO, List.replicate, c2]
  have Y := call2 (n := 96) g2 (ma (mm (o1 92) (o4 92) (by omega)) (mm (o2 92) (o3 92) (by omega))) (mm (o3 93) (o4 93) (by omega)) e3
  simp [ev_var, ev_cst, ev_glb, ev_fnv, ev_tup, ev_lst, ev_lmul, ev_dic_false, ev_dic_true, ev_dic1, ev_bin, ev_neg, ev_cmp, ev_chain, ev_and, ev_or, ev_not, ev_ite, ev_idx, ev_slc, ev_rev, ev_call, ev_callv, ev_bi, ev_inst, ev_get, ev_lrng, ev_dcp, ev_dprs, ev_lc, ev_lc2, ev_lc3, evT_and, evT_or, evT_not, evT_var, evT_cst, evT_glb, evT_fnv, evT_tup, evT_lst, evT_lmul, evT_dic, evT_dic1, evT_bin, evT_neg, evT_cmp, evT_chain, evT_ite, evT_idx, evT_slc, evT_rev, evT_call, evT_callv, evT_bi, evT_inst, evT_get, evT_lrng, evT_dcp, evT_dprs, evT_lc, evT_lc2, evT_lc3, opd_var, opd_cst, opd_glb, opd_fnv, opd_tup, opd_lst, opd_lmul, opd_dic, opd_dic1, opd_bin, opd_neg, opd_cmp, opd_chain, opd_and, opd_or, opd_not, opd_ite, opd_idx, opd_slc, opd_rev, opd_call, opd_callv, opd_bi, opd_inst, opd_get, opd_lrng, opd_dcp, opd_dprs, opd_lc, opd_lc2, opd_lc3, exS_set, exS_unp, exS_par, exS_parO, exS_store, exS_app, exS_expr, exS_ifs, exS_for_, exS_whil, exS_ret, exS_retv, exS_retN, exS_brk, exS_cont, exS_pass, exS_never, exSs_nil, exSs_cons, part_none, part_some, evIt, opds, vals, op2, cont, conts, Res.bind, Res.bindN, Res.sb, SRes.sq, lift, cmpP, idxP, finF, endF, backOf, isLent, SV.d, SV.lent, callR, lentOf, sharedSl, shLst, freezeSl, putBack, D.flat, tru, unpS, asg_tup, asg_ktup, asg_lst, asgs_cons, asgs_nil, setS_eq, asg_nm, free_none, free_dat, free_own, D.seq?, Z24, hasSlot, hasLst, modS, putAt, pushAt, retvS, lcFin, testO, DL.isP, keepO, List.replicate, F_mean_of, X, Y]
end DL

namespace DL
open PySem PySem.Spec PyProof.Rows L2
theorem won_ok (k : Nat) {m : Mn} (h : m.ok) : semK glob gvG 100 (k + 5) 79 [.dat m.d] = .ok (.dat (meanD m.i m.o)) none := by
  rw [semK_eq g_mean_won]
  have e1 := needm_ok k h
  have e2 := mean_ok (k + 1) h.i h.o [.tup (m.br.map prD), optD m.dl, optD m.wl]
  simp only [Mn.d] at e1 e2 ⊢
  simp [ev_var, ev_cst, ev_glb, ev_fnv, ev_tup, ev_lst, ev_lmul, ev_dic_false, ev_dic_true, ev_dic1, ev_bin, ev_neg, ev_cmp, ev_chain, ev_and, ev_or, ev_not, ev_ite, ev_idx, ev_slc, ev_rev, ev_call, ev_callv, ev_bi, ev_inst, ev_get, ev_lrng, ev_dcp, ev_dprs, ev_lc, ev_lc2, ev_lc3, evT_and, evT_or, evT_not, evT_var, evT_cst, evT_glb, evT_fnv, evT_tup, evT_lst, evT_lmul, evT_dic, evT_dic1, evT_bin, evT_neg, evT_cmp, evT_chain, evT_ite, evT_idx, evT_slc, evT_rev, evT_call, evT_callv, evT_bi, evT_inst, evT_get, evT_lrng, evT_dcp, evT_dprs, evT_lc, evT_lc2, evT_lc3, opd_var, opd_cst, opd_glb, opd_fnv, opd_tup, opd_lst, opd_lmul, opd_dic, opd_dic1, opd_bin, opd_neg, opd_cmp, opd_chain, opd_and, opd_or, opd_not, opd_ite, opd_idx, opd_slc, opd_rev, opd_call, opd_callv, opd_bi, opd_inst, opd_get, opd_lrng, opd_dcp, opd_dprs, opd_lc, opd_lc2, opd_lc3, exS_set, exS_unp, exS_par, exS_parO, exS_store, exS_app, exS_expr, exS_ifs, exS_for_, exS_whil, exS_ret, exS_retv, exS_retN, exS_brk, exS_cont, exS_pass, exS_never, exSs_nil, exSs_cons, part_none, part_some, evIt, opds, vals, op2, cont, conts, Res.bind, Res.bindN, Res.sb, SRes.sq, lift, cmpP, binP, idxP, callP, finF, endF, backOf, isLent, SV.d, SV.lent, callR, lentOf, sharedSl, shLst, freezeSl, putBack, D.flat, tru, unpS, asg_tup, asg_ktup, asg_lst, asgs_cons, asgs_nil, setS_eq, asg_nm, free_none, free_dat, free_own, D.seq?, Z24, hasSlot, hasLst, modS, putAt, pushAt, retvS, lcFin, testO, DL.isP, keepO, List.replicate, F_mean_won, e1, e2]
theorem neA (r : Rnd) (h : r.ok) : gainsA r ≠ [] := fun e => by
  have := lenA r h; have := h.st; rw [e] at *; simp at *; omega
theorem neB (r : Rnd) (h : r.ok) : gainsB r ≠ [] := fun e => by
  have := lenB r h; have := h.st; rw [e] at *; simp at *; omega
theorem wins_ok (k : Nat) {m : Mn} (h : m.ok) : semK glob gvG 100 (k + 5) 176 [.dat m.d] = .ok (.dat (.bl (decide (maxL (gainsA m.i) + maxL (gainsB m.o) = 0)))) none := by
  rw [semK_eq g_never_wins]
  have e1 := needm_ok k h
  have e2 := endsA_ok (k + 2) h.i
  have e3 := endsB_ok (k + 2) h.o
  have c1 := intsOf_map (gainsA m.i)
  have c2 := intsOf_map (gainsB m.o)
  obtain ⟨a, r, ea⟩ := List.exists_cons_of_ne_nil (neA _ h.i)
  obtain ⟨b, q, eb⟩ := List.exists_cons_of_ne_nil (neB _ h.o)
  rw [ea] at c1 ⊢
  rw [eb] at c2 ⊢
  rw [ea] at e2
  rw [eb] at e3
  generalize (a :: r).map D.int = A at *
  generalize (b :: q).map D.int = B at *
  simp only [Mn.d] at e1 e2 e3 ⊢
  simp [ev_var, ev_cst, ev_glb, ev_fnv, ev_tup, ev_lst, ev_lmul, ev_dic_false, ev_dic_true, ev_dic1, ev_bin, ev_neg, ev_cmp, ev_chain, ev_and, ev_or, ev_not, ev_ite, ev_idx, ev_slc, ev_rev, ev_call, ev_callv, ev_bi, ev_inst, ev_get, ev_lrng, ev_dcp, ev_dprs, ev_lc, ev_lc2, ev_lc3, evT_and, evT_or, evT_not, evT_var, evT_cst, evT_glb, evT_fnv, evT_tup, evT_lst, evT_lmul, evT_dic, evT_dic1, evT_bin, evT_neg, evT_cmp, evT_chain, evT_ite, evT_idx, evT_slc, evT_rev, evT_call, evT_callv, evT_bi, evT_inst, evT_get, evT_lrng, evT_dcp, evT_dprs, evT_lc, evT_lc2, evT_lc3, opd_var, opd_cst, opd_glb, opd_fnv, opd_tup, opd_lst, opd_lmul, opd_dic, opd_dic1, opd_bin, opd_neg, opd_cmp, opd_chain, opd_and, opd_or, opd_not, opd_ite, opd_idx, opd_slc, opd_rev, opd_call, opd_callv, opd_bi, opd_inst, opd_get, opd_lrng, opd_dcp, opd_dprs, opd_lc, opd_lc2, opd_lc3, exS_set, exS_unp, exS_par, exS_parO, exS_store, exS_app, exS_expr, exS_ifs, exS_for_, exS_whil, exS_ret, exS_retv, exS_retN, exS_brk, exS_cont, exS_pass, exS_never, exSs_nil, exSs_cons, part_none, part_some, evIt, opds, vals, op2, cont, conts, Res.bind, Res.bindN, Res.sb, SRes.sq, lift, cmpP, binP, idxP, callP, finF, endF, backOf, isLent, SV.d, SV.lent, callR, lentOf, sharedSl, shLst, freezeSl, putBack, D.flat, tru, unpS, asg_tup, asg_ktup, asg_lst, asgs_cons, asgs_nil, setS_eq, asg_nm, free_none, free_dat, free_own, D.seq?, Z24, hasSlot, hasLst, modS, putAt, pushAt, retvS, lcFin, testO, DL.isP, keepO, List.replicate, F_never_wins, e1, e2, e3, c1, c2, at0, at1, maxL]
  exact decide_eq_decide.mpr Iff.rfl
theorem loses_ok (k : Nat) {m : Mn} (h : m.ok) : semK glob gvG 100 (k + 5) 177 [.dat m.d] = .ok (.dat (.bl (decide (minL (gainsA m.i) + minL (gainsB m.o) = 0)))) none := by
  rw [semK_eq g_never_loses]
  have e1 := needm_ok k h
  have e2 := endsA_ok (k + 2) h.i
  have e3 := endsB_ok (k + 2) h.o
  have c1 := intsOf_map (gainsA m.i)
  have c2 := intsOf_map (gainsB m.o)
  obtain ⟨a, r, ea⟩ := List.exists_cons_of_ne_nil (neA _ h.i)
  obtain ⟨b, q, eb⟩ := List.exists_cons_of_ne_nil (neB _ h.o)
  rw [ea] at c1 ⊢
  rw [eb] at c2 ⊢
  rw [ea] at e2
  rw [eb] at e3
  generalize (a :: r).map D.int = A at *
  generalize (b :: q).map D.int = B at *
  simp only [Mn.d] at e1 e2 e3 ⊢
  simp [ev_var, ev_cst, ev_glb, ev_fnv, ev_tup, ev_lst, ev_lmul, ev_dic_false, ev_dic_true, ev_dic1, ev_bin, ev_neg, ev_cmp, ev_chain, ev_and, ev_or, ev_not, ev_ite, ev_idx, ev_slc, ev_rev, ev_call, ev_callv, ev_bi, ev_inst, ev_get, ev_lrng, ev_dcp, ev_dprs, ev_lc, ev_lc2, ev_lc3, evT_and, evT_or, evT_not, evT_var, evT_cst, evT_glb, evT_fnv, evT_tup, evT_lst, evT_lmul, evT_dic, evT_dic1, evT_bin, evT_neg, evT_cmp, evT_chain, evT_ite, evT_idx, evT_slc, evT_rev, evT_call, evT_callv, evT_bi, evT_inst, evT_get, evT_lrng, evT_dcp, evT_dprs, evT_lc, evT_lc2, evT_lc3, opd_var, opd_cst, opd_glb, opd_fnv, opd_tup, opd_lst, opd_lmul, opd_dic, opd_dic1, opd_bin, opd_neg, opd_cmp, opd_chain, opd_and, opd_or, opd_not, opd_ite, opd_idx, opd_slc, opd_rev, opd_call, opd_callv, opd_bi, opd_inst, opd_get, opd_lrng, opd_dcp, opd_dprs, opd_lc, opd_lc2, opd_lc3, exS_set, exS_unp, exS_par, exS_parO, exS_store, exS_app, exS_expr, exS_ifs, exS_for_, exS_whil, exS_ret, exS_retv, exS_retN, exS_brk, exS_cont, exS_pass, exS_never, exSs_nil, exSs_cons, part_none, part_some, evIt, opds, vals, op2, cont, conts, Res.bind, Res.bindN, Res.sb, SRes.sq, lift, cmpP, binP, idxP, callP, finF, endF, backOf, isLent, SV.d, SV.lent, callR, lentOf, sharedSl, shLst, freezeSl, putBack, D.flat, tru, unpS, asg_tup, asg_ktup, asg_lst, asgs_cons, asgs_nil, setS_eq, asg_nm, free_none, free_dat, free_own, D.seq?, Z24, hasSlot, hasLst, modS, putAt, pushAt, retvS, lcFin, testO, DL.isP, keepO, List.replicate, F_never_loses, e1, e2, e3, c1, c2, at0, at1, minL]
  exact decide_eq_decide.mpr Iff.rfl
end DL

namespace DL
open PySem PySem.Spec PyProof.Rows L2
/-! ### all roundings -/
def stepsL : List Int := [1, 2, 3, 4, 6, 8, 12]
def sidesL : List Side := [.down, .near, .up]
def rndsOf (s : Int) (x : Side) : List Rnd := (List.range s.toNat).map fun g => ⟨s, x, ((g : Nat) : Int)⟩
def rnds : List Rnd := stepsL.flatMap fun s => sidesL.flatMap fun x => rndsOf s x
theorem every_ok (k : Nat) : semK glob gvG 100 (k + 1) 123 [] = .ok (.own (.lst (rnds.map Rnd.d))) none := by
  kernel_rfl
end DL

namespace DL
open PySem PySem.Spec PyProof.Rows L2

/-! ### a loop that carries a value -/
theorem for_acc {α ι : Type} {body : Env' → SRes} {T : Tg} (g : ι → D) (f : α → ι → α) (P : α → Env' → Prop) : ∀ (xs : List ι) (a : α) (ρ : Env'), P a ρ →
    (∀ x ∈ xs, ∀ a ρ, P a ρ → ∃ ρ1, asg T (g x) ρ = some ρ1 ∧ ∃ ρ2, body ρ1 = .nx ρ2 ∧ P (f a x) ρ2) → ∃ ρ2, forGo body T (xs.map g) ρ = .nx ρ2 ∧ P (xs.foldl f a) ρ2
  | [], a, ρ, h, _ => ⟨ρ, rfl, h⟩
  | x :: xs, a, ρ, h, st => by
    obtain ⟨ρ1, e1, ρ2, e2, h2⟩ := st x List.mem_cons_self a ρ h
    obtain ⟨ρ3, e3, h3⟩ := for_acc g f P xs (f a x) ρ2 h2 (fun y hy => st y (List.mem_cons_of_mem _ hy))
    refine ⟨ρ3, ?_, h3⟩
    rw [List.map_cons]
    unfold forGo
    rw [e1]
    dsimp only
    rw [e2]
    exact e3
theorem foldl_add {ι : Type} (h : ι → Int) : ∀ (xs : List ι) (t : Int), xs.foldl (fun t x => t + h x) t = t + (xs.map h).sum
  | [], t => by simp
  | x :: xs, t => by rw [List.foldl_cons, foldl_add h xs, List.map_cons, List.sum_cons]; omega
theorem sum_const {ι : Type} (c : Int) (h : ι → Int) : ∀ (xs : List ι), (xs.map fun x => c + h x).sum = (xs.length : Int) * c + (xs.map h).sum
  | [] => by simp
  | x :: xs => by
    rw [List.map_cons, List.sum_cons, sum_const c h xs, List.map_cons, List.sum_cons, List.length_cons]
    have : ((xs.length + 1 : Nat) : Int) * c = (xs.length : Int) * c + c := by rw [Int.natCast_add, Int.add_mul]; simp
    omega
theorem sum_mul {ι : Type} (n : Int) (h : ι → Int) : ∀ (xs : List ι), (xs.map fun x => h x * n).sum = (xs.map h).sum * n
  | [] => by simp
  | x :: xs => by rw [List.map_cons, List.sum_cons, sum_mul n h xs, List.map_cons, List.sum_cons, Int.add_mul]
def inF (a b : Rnd) (i : Nat) (t : Int) (j : Nat) : Int := t + (((i : Int) - cameI a i) + (wentI b j - (j : Int)))
theorem top_fold (a b : Rnd) (ha : a.ok) (hb : b.ok) : (List.range a.st.toNat).foldl (fun t i => (List.range b.st.toNat).foldl (inF a b i) t) 0 = topI a b := by
  have h1 : ∀ (t : Int) (i : Nat), (List.range b.st.toNat).foldl (inF a b i) t = t + (((gainsB b).sum) + ((i : Int) - cameI a i) * b.st) := fun t i => by
    unfold inF
    rw [foldl_add (fun j : Nat => ((i : Int) - cameI a i) + (wentI b j - (j : Int))), sum_const, List.length_range]
    have : ((b.st.toNat : Nat) : Int) = b.st := by have := hb.st; omega
    rw [this, Int.mul_comm b.st]
    unfold gainsB
    omega
  have h2 : (fun (t : Int) (i : Nat) => (List.range b.st.toNat).foldl (inF a b i) t) = fun (t : Int) (i : Nat) => t + (((gainsB b).sum) + ((i : Int) - cameI a i) * b.st) := by funext t i; exact h1 t i
  rw [h2, foldl_add (fun i : Nat => ((gainsB b).sum) + ((i : Int) - cameI a i) * b.st), sum_const, List.length_range, sum_mul b.st (fun i : Nat => (i : Int) - cameI a i)]
  unfold topI
  have : ((a.st.toNat : Nat) : Int) = a.st := by have := ha.st; omega
  rw [this, Int.mul_comm a.st, show (List.map (fun i : Nat => (i : Int) - cameI a i) (List.range a.st.toNat)).sum = (gainsA a).sum from rfl]
  omega
theorem at30' {a b c : D} : L2.atI [a, b, c] 0 = some a := rfl
theorem lmean_ok (k : Nat) {a b : Rnd} (ha : a.ok) (hb : b.ok) : semK glob gvG 100 (k + 2) 178 [.dat (.tup [a.d, b.d])] = .ok (.dat (.int (topI a b))) none := by
  rw [semK_eq g__law_mean]
  have sa := small_day (i := a.st) (by have := ha.st; omega)
  have sb := small_day (i := b.st) (by have := hb.st; omega)
  have inner : ∀ (i : Nat) (t : Int) (x : Option SV), free x = true → ∃ x', free x' = true ∧ forGo (exSs (cfk (k + 1)) 94 [.set 3 (.bin .Sub (.bin .Add (.bin .Sub (.bin .Add (.var 3) (.var 4)) (.call 26 [.var 1, .var 4, .cst (.bl true)])) (.call 26 [.var 2, .var 5, .cst (.bl false)])) (.var 5))]) (.nm 5) (rangeD 0 b.st.toNat) [some (.dat (.tup [a.d, b.d])), some (.dat a.d), some (.dat b.d), some (.dat (.int t)), some (.dat (.int (0 + (i : Nat)))), x]
      = .nx [some (.dat (.tup [a.d, b.d])), some (.dat a.d), some (.dat b.d), some (.dat (.int ((List.range b.st.toNat).foldl (inF a b i) t))), some (.dat (.int (0 + (i : Nat)))), x'] := fun i t x hx => by
    rw [rng_map]
    obtain ⟨ρ2, e, x', hx', rfl⟩ := for_acc (body := exSs (cfk (k + 1)) 94 [.set 3 (.bin .Sub (.bin .Add (.bin .Sub (.bin .Add (.var 3) (.var 4)) (.call 26 [.var 1, .var 4, .cst (.bl true)])) (.call 26 [.var 2, .var 5, .cst (.bl false)])) (.var 5))]) (T := .nm 5) (fun j : Nat => D.int (0 + (j : Nat))) (inF a b i) (fun t ρ => ∃ x, free x = true ∧ ρ = [some (.dat (.tup [a.d, b.d])), some (.dat a.d), some (.dat b.d), some (.dat (.int t)), some (.dat (.int (0 + (i : Nat)))), x]) (List.range b.st.toNat) t _ ⟨x, hx, rfl⟩ (fun j hj t ρ hρ => by
      obtain ⟨x, hx, rfl⟩ := hρ
      refine ⟨[some (.dat (.tup [a.d, b.d])), some (.dat a.d), some (.dat b.d), some (.dat (.int t)), some (.dat (.int (0 + (i : Nat)))), some (.dat (.int (0 + (j : Nat))))], by simp [ev_var, ev_cst, ev_glb, ev_fnv, ev_tup, ev_lst, ev_lmul, ev_dic_false, ev_dic_true, ev_dic1, ev_bin, ev_neg, ev_cmp, ev_chain, ev_and, ev_or, ev_not, ev_ite, ev_idx, ev_slc, ev_rev, ev_call, ev_callv, ev_bi, ev_inst, ev_get, ev_lrng, ev_dcp, ev_dprs, ev_lc, ev_lc2, ev_lc3, evT_and, evT_or, evT_not, evT_var, evT_cst, evT_glb, evT_fnv, evT_tup, evT_lst, evT_lmul, evT_dic, evT_dic1, evT_bin, evT_neg, evT_cmp, evT_chain, evT_ite, evT_idx, evT_slc, evT_rev, evT_call, evT_callv, evT_bi, evT_inst, evT_get, evT_lrng, evT_dcp, evT_dprs, evT_lc, evT_lc2, evT_lc3, opd_var, opd_cst, opd_glb, opd_fnv, opd_tup, opd_lst, opd_lmul, opd_dic, opd_dic1, opd_bin, opd_neg, opd_cmp, opd_chain, opd_and, opd_or, opd_not, opd_ite, opd_idx, opd_slc, opd_rev, opd_call, opd_callv, opd_bi, opd_inst, opd_get, opd_lrng, opd_dcp, opd_dprs, opd_lc, opd_lc2, opd_lc3, exS_set, exS_unp, exS_par, exS_parO, exS_store, exS_app, exS_expr, exS_ifs, exS_for_, exS_whil, exS_ret, exS_retv, exS_retN, exS_brk, exS_cont, exS_pass, exS_never, exSs_nil, exSs_cons, part_none, part_some, evIt, opds, vals, op2, cont, conts, Res.bind, Res.bindN, Res.sb, SRes.sq, lift, cmpP, binP, idxP, callP, finF, endF, backOf, isLent, SV.d, SV.lent, callR, lentOf, sharedSl, shLst, freezeSl, putBack, D.flat, tru, unpS, asg_tup, asg_ktup, asg_lst, asgs_cons, asgs_nil, setS_eq, asg_nm, free_none, free_dat, free_own, D.seq?, Z24, hasSlot, hasLst, modS, putAt, pushAt, retvS, lcFin, testO, DL.isP, keepO, List.replicate, hx], [some (.dat (.tup [a.d, b.d])), some (.dat a.d), some (.dat b.d), some (.dat (.int (inF a b i t j))), some (.dat (.int (0 + (i : Nat)))), some (.dat (.int (0 + (j : Nat))))], ?_, _, rfl, rfl⟩
      have p1 := punch_in k ha (i : Int)
      have p2 := punch_out k hb (j : Int)
      simp only [Rnd.d] at p1 p2 ⊢
      simp [ev_var, ev_cst, ev_glb, ev_fnv, ev_tup, ev_lst, ev_lmul, ev_dic_false, ev_dic_true, ev_dic1, ev_bin, ev_neg, ev_cmp, ev_chain, ev_and, ev_or, ev_not, ev_ite, ev_idx, ev_slc, ev_rev, ev_call, ev_callv, ev_bi, ev_inst, ev_get, ev_lrng, ev_dcp, ev_dprs, ev_lc, ev_lc2, ev_lc3, evT_and, evT_or, evT_not, evT_var, evT_cst, evT_glb, evT_fnv, evT_tup, evT_lst, evT_lmul, evT_dic, evT_dic1, evT_bin, evT_neg, evT_cmp, evT_chain, evT_ite, evT_idx, evT_slc, evT_rev, evT_call, evT_callv, evT_bi, evT_inst, evT_get, evT_lrng, evT_dcp, evT_dprs, evT_lc, evT_lc2, evT_lc3, opd_var, opd_cst, opd_glb, opd_fnv, opd_tup, opd_lst, opd_lmul, opd_dic, opd_dic1, opd_bin, opd_neg, opd_cmp, opd_chain, opd_and, opd_or, opd_not, opd_ite, opd_idx, opd_slc, opd_rev, opd_call, opd_callv, opd_bi, opd_inst, opd_get, opd_lrng, opd_dcp, opd_dprs, opd_lc, opd_lc2, opd_lc3, exS_set, exS_unp, exS_par, exS_parO, exS_store, exS_app, exS_expr, exS_ifs, exS_for_, exS_whil, exS_ret, exS_retv, exS_retN, exS_brk, exS_cont, exS_pass, exS_never, exSs_nil, exSs_cons, part_none, part_some, evIt, opds, vals, op2, cont, conts, Res.bind, Res.bindN, Res.sb, SRes.sq, lift, cmpP, binP, idxP, callP, finF, endF, backOf, isLent, SV.d, SV.lent, callR, lentOf, sharedSl, shLst, freezeSl, putBack, D.flat, tru, unpS, asg_tup, asg_ktup, asg_lst, asgs_cons, asgs_nil, setS_eq, asg_nm, free_none, free_dat, free_own, D.seq?, Z24, hasSlot, hasLst, modS, putAt, pushAt, retvS, lcFin, testO, DL.isP, keepO, List.replicate, p1, p2, inF]
      omega)
    exact ⟨x', hx', e⟩
  have outer : ∃ x4 x5, forGo (exSs (cfk (k + 1)) 96 [.for_ (.nm 5) (.rng (.idx (.var 2) (.cst (.int 0)))) [.set 3 (.bin .Sub (.bin .Add (.bin .Sub (.bin .Add (.var 3) (.var 4)) (.call 26 [.var 1, .var 4, .cst (.bl true)])) (.call 26 [.var 2, .var 5, .cst (.bl false)])) (.var 5))]]) (.nm 4) (rangeD 0 a.st.toNat) [some (.dat (.tup [a.d, b.d])), some (.dat a.d), some (.dat b.d), some (.dat (.int 0)), none, none]
      = .nx [some (.dat (.tup [a.d, b.d])), some (.dat a.d), some (.dat b.d), some (.dat (.int (topI a b))), x4, x5] := by
    rw [rng_map]
    obtain ⟨ρ2, e, x4, x5, h4, h5, rfl⟩ := for_acc (body := exSs (cfk (k + 1)) 96 [.for_ (.nm 5) (.rng (.idx (.var 2) (.cst (.int 0)))) [.set 3 (.bin .Sub (.bin .Add (.bin .Sub (.bin .Add (.var 3) (.var 4)) (.call 26 [.var 1, .var 4, .cst (.bl true)])) (.call 26 [.var 2, .var 5, .cst (.bl false)])) (.var 5))]]) (T := .nm 4) (fun j : Nat => D.int (0 + (j : Nat))) (fun t i => (List.range b.st.toNat).foldl (inF a b i) t) (fun t ρ => ∃ x4 x5, free x4 = true ∧ free x5 = true ∧ ρ = [some (.dat (.tup [a.d, b.d])), some (.dat a.d), some (.dat b.d), some (.dat (.int t)), x4, x5]) (List.range a.st.toNat) 0 _ ⟨none, none, rfl, rfl, rfl⟩ (fun i hi t ρ hρ => by
      obtain ⟨x4, x5, h4, h5, rfl⟩ := hρ
      obtain ⟨x', hx', e⟩ := inner i t x5 h5
      refine ⟨[some (.dat (.tup [a.d, b.d])), some (.dat a.d), some (.dat b.d), some (.dat (.int t)), some (.dat (.int (0 + (i : Nat)))), x5], by simp [ev_var, ev_cst, ev_glb, ev_fnv, ev_tup, ev_lst, ev_lmul, ev_dic_false, ev_dic_true, ev_dic1, ev_bin, ev_neg, ev_cmp, ev_chain, ev_and, ev_or, ev_not, ev_ite, ev_idx, ev_slc, ev_rev, ev_call, ev_callv, ev_bi, ev_inst, ev_get, ev_lrng, ev_dcp, ev_dprs, ev_lc, ev_lc2, ev_lc3, evT_and, evT_or, evT_not, evT_var, evT_cst, evT_glb, evT_fnv, evT_tup, evT_lst, evT_lmul, evT_dic, evT_dic1, evT_bin, evT_neg, evT_cmp, evT_chain, evT_ite, evT_idx, evT_slc, evT_rev, evT_call, evT_callv, evT_bi, evT_inst, evT_get, evT_lrng, evT_dcp, evT_dprs, evT_lc, evT_lc2, evT_lc3, opd_var, opd_cst, opd_glb, opd_fnv, opd_tup, opd_lst, opd_lmul, opd_dic, opd_dic1, opd_bin, opd_neg, opd_cmp, opd_chain, opd_and, opd_or, opd_not, opd_ite, opd_idx, opd_slc, opd_rev, opd_call, opd_callv, opd_bi, opd_inst, opd_get, opd_lrng, opd_dcp, opd_dprs, opd_lc, opd_lc2, opd_lc3, exS_set, exS_unp, exS_par, exS_parO, exS_store, exS_app, exS_expr, exS_ifs, exS_for_, exS_whil, exS_ret, exS_retv, exS_retN, exS_brk, exS_cont, exS_pass, exS_never, exSs_nil, exSs_cons, part_none, part_some, evIt, opds, vals, op2, cont, conts, Res.bind, Res.bindN, Res.sb, SRes.sq, lift, cmpP, binP, idxP, callP, finF, endF, backOf, isLent, SV.d, SV.lent, callR, lentOf, sharedSl, shLst, freezeSl, putBack, D.flat, tru, unpS, asg_tup, asg_ktup, asg_lst, asgs_cons, asgs_nil, setS_eq, asg_nm, free_none, free_dat, free_own, D.seq?, Z24, hasSlot, hasLst, modS, putAt, pushAt, retvS, lcFin, testO, DL.isP, keepO, List.replicate, h4], [some (.dat (.tup [a.d, b.d])), some (.dat a.d), some (.dat b.d), some (.dat (.int ((List.range b.st.toNat).foldl (inF a b i) t))), some (.dat (.int (0 + (i : Nat)))), x'], ?_, _, _, rfl, hx', rfl⟩
      simp only [Rnd.d, Int.zero_add] at e ⊢
      simp [ev_var, ev_cst, ev_glb, ev_fnv, ev_tup, ev_lst, ev_lmul, ev_dic_false, ev_dic_true, ev_dic1, ev_bin, ev_neg, ev_cmp, ev_chain, ev_and, ev_or, ev_not, ev_ite, ev_idx, ev_slc, ev_rev, ev_call, ev_callv, ev_bi, ev_inst, ev_get, ev_lrng, ev_dcp, ev_dprs, ev_lc, ev_lc2, ev_lc3, evT_and, evT_or, evT_not, evT_var, evT_cst, evT_glb, evT_fnv, evT_tup, evT_lst, evT_lmul, evT_dic, evT_dic1, evT_bin, evT_neg, evT_cmp, evT_chain, evT_ite, evT_idx, evT_slc, evT_rev, evT_call, evT_callv, evT_bi, evT_inst, evT_get, evT_lrng, evT_dcp, evT_dprs, evT_lc, evT_lc2, evT_lc3, opd_var, opd_cst, opd_glb, opd_fnv, opd_tup, opd_lst, opd_lmul, opd_dic, opd_dic1, opd_bin, opd_neg, opd_cmp, opd_chain, opd_and, opd_or, opd_not, opd_ite, opd_idx, opd_slc, opd_rev, opd_call, opd_callv, opd_bi, opd_inst, opd_get, opd_lrng, opd_dcp, opd_dprs, opd_lc, opd_lc2, opd_lc3, exS_set, exS_unp, exS_par, exS_parO, exS_store, exS_app, exS_expr, exS_ifs, exS_for_, exS_whil, exS_ret, exS_retv, exS_retN, exS_brk, exS_cont, exS_pass, exS_never, exSs_nil, exSs_cons, part_none, part_some, evIt, opds, vals, op2, cont, conts, Res.bind, Res.bindN, Res.sb, SRes.sq, lift, cmpP, binP, idxP, callP, finF, endF, backOf, isLent, SV.d, SV.lent, callR, lentOf, sharedSl, shLst, freezeSl, putBack, D.flat, tru, unpS, asg_tup, asg_ktup, asg_lst, asgs_cons, asgs_nil, setS_eq, asg_nm, free_none, free_dat, free_own, D.seq?, Z24, hasSlot, hasLst, modS, putAt, pushAt, retvS, lcFin, testO, DL.isP, keepO, List.replicate, at30', sb, e])
    rw [top_fold a b ha hb] at e
    exact ⟨_, _, e⟩
  obtain ⟨x4, x5, e⟩ := outer
  simp only [Rnd.d] at e ⊢
  simp [ev_var, ev_cst, ev_glb, ev_fnv, ev_tup, ev_lst, ev_lmul, ev_dic_false, ev_dic_true, ev_dic1, ev_bin, ev_neg, ev_cmp, ev_chain, ev_and, ev_or, ev_not, ev_ite, ev_idx, ev_slc, ev_rev, ev_call, ev_callv, ev_bi, ev_inst, ev_get, ev_lrng, ev_dcp, ev_dprs, ev_lc, ev_lc2, ev_lc3, evT_and, evT_or, evT_not, evT_var, evT_cst, evT_glb, evT_fnv, evT_tup, evT_lst, evT_lmul, evT_dic, evT_dic1, evT_bin, evT_neg, evT_cmp, evT_chain, evT_ite, evT_idx, evT_slc, evT_rev, evT_call, evT_callv, evT_bi, evT_inst, evT_get, evT_lrng, evT_dcp, evT_dprs, evT_lc, evT_lc2, evT_lc3, opd_var, opd_cst, opd_glb, opd_fnv, opd_tup, opd_lst, opd_lmul, opd_dic, opd_dic1, opd_bin, opd_neg, opd_cmp, opd_chain, opd_and, opd_or, opd_not, opd_ite, opd_idx, opd_slc, opd_rev, opd_call, opd_callv, opd_bi, opd_inst, opd_get, opd_lrng, opd_dcp, opd_dprs, opd_lc, opd_lc2, opd_lc3, exS_set, exS_unp, exS_par, exS_parO, exS_store, exS_app, exS_expr, exS_ifs, exS_for_, exS_whil, exS_ret, exS_retv, exS_retN, exS_brk, exS_cont, exS_pass, exS_never, exSs_nil, exSs_cons, part_none, part_some, evIt, opds, vals, op2, cont, conts, Res.bind, Res.bindN, Res.sb, SRes.sq, lift, cmpP, binP, idxP, callP, finF, endF, backOf, isLent, SV.d, SV.lent, callR, lentOf, sharedSl, shLst, freezeSl, putBack, D.flat, tru, unpS, asg_tup, asg_ktup, asg_lst, asgs_cons, asgs_nil, setS_eq, asg_nm, free_none, free_dat, free_own, D.seq?, Z24, hasSlot, hasLst, modS, putAt, pushAt, retvS, lcFin, testO, DL.isP, keepO, List.replicate, F__law_mean, at20, at21, at30', sa, e]
/-- the mean is 0 -/
theorem mean_zero {a b : Rnd} (ha : a.ok) (hb : b.ok) : eqD (meanD a b) (.tup [.int 0, .int 1]) = some (decide (topI a b = 0)) := by
  unfold meanD
  rw [eqD_pr]
  congr 1
  have h1 := ha.st
  have h2 := hb.st
  have hm : 0 < a.st * b.st := Int.mul_pos (by omega) (by omega)
  have hg : 0 < Nat.gcd (topI a b).natAbs (a.st * b.st).natAbs := Nat.gcd_pos_of_pos_right _ (by omega)
  by_cases h : topI a b = 0
  · rw [h]
    simp only [Int.natAbs_zero, Nat.gcd_zero_left, decide_true, decide_eq_true_eq]
    have e : (((a.st * b.st).natAbs : Nat) : Int) = a.st * b.st := by omega
    rw [e]
    exact ⟨Int.zero_fdiv _, Int.fdiv_self (by omega)⟩
  · rw [decide_eq_false h, decide_eq_false]
    rintro ⟨e, _⟩
    have hd : ((Nat.gcd (topI a b).natAbs (a.st * b.st).natAbs : Nat) : Int) ∣ topI a b := Int.ofNat_dvd_left.mpr (Nat.gcd_dvd_left _ _)
    obtain ⟨c, hc⟩ := hd
    have := Int.mul_fdiv_cancel_left c (show ((Nat.gcd (topI a b).natAbs (a.st * b.st).natAbs : Nat) : Int) ≠ 0 by omega)
    rw [← hc] at this
    rw [this] at e
    rw [e, Int.mul_zero] at hc
    exact h hc
theorem rnds_ok : ∀ r ∈ rnds, r.ok := by
  intro r hr
  unfold rnds at hr
  obtain ⟨s, hs, hr⟩ := List.mem_flatMap.mp hr
  obtain ⟨x, hx, hr⟩ := List.mem_flatMap.mp hr
  obtain ⟨g, hg, rfl⟩ := List.mem_map.mp hr
  have := List.mem_range.mp hg
  exact ⟨hs, by simp only; omega, by simp only; omega⟩
theorem rnds_len : rnds.length = 108 := by decide +kernel
theorem cut1 {a b c d e : D} : cutD [a, b, c, d, e] none (some 1) = [a] := rfl
theorem cut2 {a b c d e : D} : cutD [a, b, c, d, e] (some 2) none = [c, d, e] := rfl
def fairL (r : Rnd) : List Rnd := rnds.filter fun x => decide (topI r x = 0)
theorem fair_ok (k : Nat) {m : Mn} (h : m.ok) : semK glob gvG 100 (k + 5) 175 [.dat m.d] = .ok (.own (.lst ((fairL m.i).map Rnd.d))) none := by
  rw [semK_eq g_fair_outs]
  have e1 := needm_ok k h
  have e2 := every_ok (k + 3)
  have e3 : lcGo (ev (cfk (k + 4)) 96 (.var 1)) (testO (evT (cfk (k + 4)) 96) (some (.cmp .Eq (.call 78 [.bin .Add (.bin .Add (.slc (.var 0) none (some (.cst (.int 1)))) (.tup [.var 1])) (.slc (.var 0) (some (.cst (.int 2))) none)]) (.tup [.cst (.int 0), .cst (.int 1)])))) [1] (.nm 1) (rnds.map Rnd.d) [] [some (.dat m.d), none] = .ok ((fairL m.i).map Rnd.d) [some (.dat m.d), none] := by
    refine lcGo_ok Rnd.d Rnd.d (fun x => decide (topI m.i x = 0)) rnds [] (fun r hr => ⟨[some (.dat m.d), some (.dat r.d)], by simp [ev_var, ev_cst, ev_glb, ev_fnv, ev_tup, ev_lst, ev_lmul, ev_dic_false, ev_dic_true, ev_dic1, ev_bin, ev_neg, ev_cmp, ev_chain, ev_and, ev_or, ev_not, ev_ite, ev_idx, ev_slc, ev_rev, ev_call, ev_callv, ev_bi, ev_inst, ev_get, ev_lrng, ev_dcp, ev_dprs, ev_lc, ev_lc2, ev_lc3, evT_and, evT_or, evT_not, evT_var, evT_cst, evT_glb, evT_fnv, evT_tup, evT_lst, evT_lmul, evT_dic, evT_dic1, evT_bin, evT_neg, evT_cmp, evT_chain, evT_ite, evT_idx, evT_slc, evT_rev, evT_call, evT_callv, evT_bi, evT_inst, evT_get, evT_lrng, evT_dcp, evT_dprs, evT_lc, evT_lc2, evT_lc3, opd_var, opd_cst, opd_glb, opd_fnv, opd_tup, opd_lst, opd_lmul, opd_dic, opd_dic1, opd_bin, opd_neg, opd_cmp, opd_chain, opd_and, opd_or, opd_not, opd_ite, opd_idx, opd_slc, opd_rev, opd_call, opd_callv, opd_bi, opd_inst, opd_get, opd_lrng, opd_dcp, opd_dprs, opd_lc, opd_lc2, opd_lc3, exS_set, exS_unp, exS_par, exS_parO, exS_store, exS_app, exS_expr, exS_ifs, exS_for_, exS_whil, exS_ret, exS_retv, exS_retN, exS_brk, exS_cont, exS_pass, exS_never, exSs_nil, exSs_cons, part_none, part_some, evIt, opds, vals, op2, cont, conts, Res.bind, Res.bindN, Res.sb, SRes.sq, lift, cmpP, binP, idxP, callP, finF, endF, backOf, isLent, SV.d, SV.lent, callR, lentOf, sharedSl, shLst, freezeSl, putBack, D.flat, tru, unpS, asg_tup, asg_ktup, asg_lst, asgs_cons, asgs_nil, setS_eq, asg_nm, free_none, free_dat, free_own, D.seq?, Z24, hasSlot, hasLst, modS, putAt, pushAt, retvS, lcFin, testO, DL.isP, keepO, List.replicate], ?_, fun _ => ⟨.dat r.d, by simp [ev_var, ev_cst, ev_glb, ev_fnv, ev_tup, ev_lst, ev_lmul, ev_dic_false, ev_dic_true, ev_dic1, ev_bin, ev_neg, ev_cmp, ev_chain, ev_and, ev_or, ev_not, ev_ite, ev_idx, ev_slc, ev_rev, ev_call, ev_callv, ev_bi, ev_inst, ev_get, ev_lrng, ev_dcp, ev_dprs, ev_lc, ev_lc2, ev_lc3, evT_and, evT_or, evT_not, evT_var, evT_cst, evT_glb, evT_fnv, evT_tup, evT_lst, evT_lmul, evT_dic, evT_dic1, evT_bin, evT_neg, evT_cmp, evT_chain, evT_ite, evT_idx, evT_slc, evT_rev, evT_call, evT_callv, evT_bi, evT_inst, evT_get, evT_lrng, evT_dcp, evT_dprs, evT_lc, evT_lc2, evT_lc3, opd_var, opd_cst, opd_glb, opd_fnv, opd_tup, opd_lst, opd_lmul, opd_dic, opd_dic1, opd_bin, opd_neg, opd_cmp, opd_chain, opd_and, opd_or, opd_not, opd_ite, opd_idx, opd_slc, opd_rev, opd_call, opd_callv, opd_bi, opd_inst, opd_get, opd_lrng, opd_dcp, opd_dprs, opd_lc, opd_lc2, opd_lc3, exS_set, exS_unp, exS_par, exS_parO, exS_store, exS_app, exS_expr, exS_ifs, exS_for_, exS_whil, exS_ret, exS_retv, exS_retN, exS_brk, exS_cont, exS_pass, exS_never, exSs_nil, exSs_cons, part_none, part_some, evIt, opds, vals, op2, cont, conts, Res.bind, Res.bindN, Res.sb, SRes.sq, lift, cmpP, binP, idxP, callP, finF, endF, backOf, isLent, SV.d, SV.lent, callR, lentOf, sharedSl, shLst, freezeSl, putBack, D.flat, tru, unpS, asg_tup, asg_ktup, asg_lst, asgs_cons, asgs_nil, setS_eq, asg_nm, free_none, free_dat, free_own, D.seq?, Z24, hasSlot, hasLst, modS, putAt, pushAt, retvS, lcFin, testO, DL.isP, keepO, List.replicate], rfl⟩, rfl, rfl⟩) (by rw [rnds_len]; decide)
    have e4 := mean_ok (k + 1) h.i (rnds_ok r hr) [.tup (m.br.map prD), optD m.dl, optD m.wl]
    have e5 := mean_zero h.i (rnds_ok r hr)
    generalize meanD m.i r = M at e4 e5
    replace e4 : (cfk (k + 4)).run 78 [SV.dat (.tup (m.i.d :: r.d :: [.tup (m.br.map prD), optD m.dl, optD m.wl]))] = .ok (.dat M) none := e4
    have g1 : (cfk (k + 4)).lend 78 = false := l_mean_of
    generalize cfk (k + 4) = cf at *
    simp only [Mn.d] at e4 ⊢
    simp [ev_var, ev_cst, ev_glb, ev_fnv, ev_tup, ev_lst, ev_lmul, ev_dic_false, ev_dic_true, ev_dic1, ev_bin, ev_neg, ev_cmp, ev_chain, ev_and, ev_or, ev_not, ev_ite, ev_idx, ev_slc, ev_rev, ev_call, ev_callv, ev_bi, ev_inst, ev_get, ev_lrng, ev_dcp, ev_dprs, ev_lc, ev_lc2, ev_lc3, evT_and, evT_or, evT_not, evT_var, evT_cst, evT_glb, evT_fnv, evT_tup, evT_lst, evT_lmul, evT_dic, evT_dic1, evT_bin, evT_neg, evT_cmp, evT_chain, evT_ite, evT_idx, evT_slc, evT_rev, evT_call, evT_callv, evT_bi, evT_inst, evT_get, evT_lrng, evT_dcp, evT_dprs, evT_lc, evT_lc2, evT_lc3, opd_var, opd_cst, opd_glb, opd_fnv, opd_tup, opd_lst, opd_lmul, opd_dic, opd_dic1, opd_bin, opd_neg, opd_cmp, opd_chain, opd_and, opd_or, opd_not, opd_ite, opd_idx, opd_slc, opd_rev, opd_call, opd_callv, opd_bi, opd_inst, opd_get, opd_lrng, opd_dcp, opd_dprs, opd_lc, opd_lc2, opd_lc3, exS_set, exS_unp, exS_par, exS_parO, exS_store, exS_app, exS_expr, exS_ifs, exS_for_, exS_whil, exS_ret, exS_retv, exS_retN, exS_brk, exS_cont, exS_pass, exS_never, exSs_nil, exSs_cons, part_none, part_some, evIt, opds, vals, op2, cont, conts, Res.bind, Res.bindN, Res.sb, SRes.sq, lift, cmpP, binP, idxP, callP, finF, endF, backOf, isLent, SV.d, SV.lent, callR, lentOf, sharedSl, shLst, freezeSl, putBack, D.flat, tru, unpS, asg_tup, asg_ktup, asg_lst, asgs_cons, asgs_nil, setS_eq, asg_nm, free_none, free_dat, free_own, D.seq?, Z24, hasSlot, hasLst, modS, putAt, pushAt, retvS, lcFin, testO, DL.isP, keepO, List.replicate, cut1, cut2, e4, g1, e5, slP]
  generalize rnds.map Rnd.d = A at *
  simp only [Mn.d] at e1 e3 ⊢
  simp [ev_var, ev_cst, ev_glb, ev_fnv, ev_tup, ev_lst, ev_lmul, ev_dic_false, ev_dic_true, ev_dic1, ev_bin, ev_neg, ev_cmp, ev_chain, ev_and, ev_or, ev_not, ev_ite, ev_idx, ev_slc, ev_rev, ev_call, ev_callv, ev_bi, ev_inst, ev_get, ev_lrng, ev_dcp, ev_dprs, ev_lc, ev_lc2, ev_lc3, evT_and, evT_or, evT_not, evT_var, evT_cst, evT_glb, evT_fnv, evT_tup, evT_lst, evT_lmul, evT_dic, evT_dic1, evT_bin, evT_neg, evT_cmp, evT_chain, evT_ite, evT_idx, evT_slc, evT_rev, evT_call, evT_callv, evT_bi, evT_inst, evT_get, evT_lrng, evT_dcp, evT_dprs, evT_lc, evT_lc2, evT_lc3, opd_var, opd_cst, opd_glb, opd_fnv, opd_tup, opd_lst, opd_lmul, opd_dic, opd_dic1, opd_bin, opd_neg, opd_cmp, opd_chain, opd_and, opd_or, opd_not, opd_ite, opd_idx, opd_slc, opd_rev, opd_call, opd_callv, opd_bi, opd_inst, opd_get, opd_lrng, opd_dcp, opd_dprs, opd_lc, opd_lc2, opd_lc3, exS_set, exS_unp, exS_par, exS_parO, exS_store, exS_app, exS_expr, exS_ifs, exS_for_, exS_whil, exS_ret, exS_retv, exS_retN, exS_brk, exS_cont, exS_pass, exS_never, exSs_nil, exSs_cons, part_none, part_some, evIt, opds, vals, op2, cont, conts, Res.bind, Res.bindN, Res.sb, SRes.sq, lift, cmpP, binP, idxP, callP, finF, endF, backOf, isLent, SV.d, SV.lent, callR, lentOf, sharedSl, shLst, freezeSl, putBack, D.flat, tru, unpS, asg_tup, asg_ktup, asg_lst, asgs_cons, asgs_nil, setS_eq, asg_nm, free_none, free_dat, free_own, D.seq?, Z24, hasSlot, hasLst, modS, putAt, pushAt, retvS, lcFin, testO, DL.isP, keepO, List.replicate, F_fair_outs, e1, e2, e3, tame, wipeR, backR]
end DL

namespace DL
open PySem PySem.Spec PyProof.Rows L2
/-! ### what is won by all days -/
def everyL : List (Int × Int) := (List.range 96).flatMap fun s => (List.range (96 - s)).map fun j => (((s : Nat) : Int), ((s : Nat) : Int) + 1 + ((j : Nat) : Int))
theorem everyL_mem {p : Int × Int} : p ∈ everyL ↔ dayOk p := by
  unfold everyL dayOk
  rw [List.mem_flatMap]
  constructor
  · rintro ⟨s, hs, h⟩
    obtain ⟨j, hj, rfl⟩ := List.mem_map.mp h
    have := List.mem_range.mp hs
    have := List.mem_range.mp hj
    exact ⟨by simp only; omega, by simp only; omega, by simp only; omega⟩
  · obtain ⟨a, b⟩ := p
    rintro ⟨h1, h2, h3⟩
    simp only at h1 h2 h3
    refine ⟨a.toNat, List.mem_range.mpr (by omega), List.mem_map.mpr ⟨(b - a - 1).toNat, List.mem_range.mpr (by omega), ?_⟩⟩
    rw [Prod.mk.injEq]
    omega
theorem maxL_ok {l : List Int} (h : l ≠ []) : maxL l ∈ l ∧ ∀ x ∈ l, x ≤ maxL l := by
  cases l with
  | nil => exact absurd rfl h
  | cons n r => exact ⟨maxI_mem r n, fun x hx => (List.mem_cons.mp hx).elim (fun e => e ▸ (maxI_ge r n).1) fun e => (maxI_ge r n).2 x e⟩
theorem minL_ok {l : List Int} (h : l ≠ []) : minL l ∈ l ∧ ∀ x ∈ l, minL l ≤ x := by
  cases l with
  | nil => exact absurd rfl h
  | cons n r => exact ⟨minI_mem r n, fun x hx => (List.mem_cons.mp hx).elim (fun e => e ▸ (minI_le r n).1) fun e => (minI_le r n).2 x e⟩
def aI (r : Rnd) (t : Int) : Int := t - cameI r t
def bI (r : Rnd) (t : Int) : Int := wentI r t - t
theorem fmod_fmod {r : Rnd} (h : r.ok) (t : Int) : (t.fmod r.st).fmod r.st = t.fmod r.st := by
  have := fmod_range h t
  rw [Int.fmod_eq_emod_of_nonneg _ (by have := h.st; omega)]
  exact Int.emod_eq_of_lt this.1 this.2
theorem aI_per {r : Rnd} (h : r.ok) (t : Int) : aI r t = aI r (t.fmod r.st) := by
  unfold aI cameI
  simp only [fmod_fmod h]
  split <;> omega
theorem bI_per {r : Rnd} (h : r.ok) (t : Int) : bI r t = bI r (t.fmod r.st) := by
  unfold bI wentI
  simp only [fmod_neg h, fmod_fmod h]
  generalize (if t.fmod r.st = 0 then 0 else r.st - t.fmod r.st) = q
  split <;> omega
theorem aI_0 {r : Rnd} (h : r.ok) : aI r 0 = 0 := by
  have := h.2
  unfold aI cameI
  rw [Int.zero_fmod]
  simp only
  rw [if_pos (.inl this.1)]; rfl
theorem bI_0 {r : Rnd} (h : r.ok) : bI r 0 = 0 := by
  have := h.2
  unfold bI wentI
  rw [show (0 : Int) - 0 = 0 from rfl, Int.zero_fmod]
  simp only
  rw [if_pos (.inl this.1)]; rfl
theorem bI_96 {r : Rnd} (h : r.ok) : bI r 96 = 0 := by
  rw [bI_per h]
  have h1 := h.1
  have : (96 : Int).fmod r.st = 0 := by
    simp only [List.mem_cons, List.not_mem_nil, or_false] at h1
    rcases h1 with e | e | e | e | e | e | e <;> rw [e] <;> rfl
  rw [this, bI_0 h]
theorem gA_mem {r : Rnd} (h : r.ok) (t : Int) : aI r t ∈ gainsA r := by
  rw [aI_per h]
  have := fmod_range h t
  refine List.mem_map.mpr ⟨(t.fmod r.st).toNat, List.mem_range.mpr (by omega), ?_⟩
  have e : (((t.fmod r.st).toNat : Nat) : Int) = t.fmod r.st := by omega
  rw [e]; rfl
theorem gB_mem {r : Rnd} (h : r.ok) (t : Int) : bI r t ∈ gainsB r := by
  rw [bI_per h]
  have := fmod_range h t
  refine List.mem_map.mpr ⟨(t.fmod r.st).toNat, List.mem_range.mpr (by omega), ?_⟩
  have e : (((t.fmod r.st).toNat : Nat) : Int) = t.fmod r.st := by omega
  rw [e]; rfl
theorem gA_of {r : Rnd} (h : r.ok) {x : Int} (hx : x ∈ gainsA r) : ∃ t : Int, 0 ≤ t ∧ t < 12 ∧ x = aI r t := by
  obtain ⟨i, hi, rfl⟩ := List.mem_map.mp hx
  have := List.mem_range.mp hi
  have := h.st
  exact ⟨i, by omega, by omega, rfl⟩
theorem gB_of {r : Rnd} (h : r.ok) {x : Int} (hx : x ∈ gainsB r) : ∃ t : Int, 0 ≤ t ∧ t < 12 ∧ x = bI r t := by
  obtain ⟨i, hi, rfl⟩ := List.mem_map.mp hx
  have := List.mem_range.mp hi
  have := h.st
  exact ⟨i, by omega, by omega, rfl⟩
def gI (m : Mn) (p : Int × Int) : Int := countI m p - p.2 + p.1
theorem gI_eq (m : Mn) (p : Int × Int) (h : dayOk p) : gI m p = if p.1 - p.2 < aI m.i p.1 + bI m.o p.2 then aI m.i p.1 + bI m.o p.2 else p.1 - p.2 := by
  unfold gI countI aI bI
  split <;> split <;> omega
def gainsL (m : Mn) : List Int := everyL.map (gI m)
theorem gainsL_mem {m : Mn} {p : Int × Int} (h : dayOk p) : gI m p ∈ gainsL m := List.mem_map_of_mem (everyL_mem.mpr h)
theorem gainsL_ne (m : Mn) : gainsL m ≠ [] := fun e => by
  have := gainsL_mem (m := m) (p := (0, 1)) ⟨by decide, by decide, by decide⟩
  rw [e] at this
  cases this
theorem gains_of {m : Mn} {x : Int} (h : x ∈ gainsL m) : ∃ p, dayOk p ∧ x = gI m p := by
  obtain ⟨p, hp, rfl⟩ := List.mem_map.mp h
  exact ⟨p, everyL_mem.mp hp, rfl⟩
theorem wins_iff {m : Mn} (h : m.ok) : (maxL (gainsA m.i) + maxL (gainsB m.o) = 0) ↔ maxL (gainsL m) = 0 := by
  obtain ⟨a1, a2⟩ := maxL_ok (neA _ h.i)
  obtain ⟨b1, b2⟩ := maxL_ok (neB _ h.o)
  obtain ⟨g1, g2⟩ := maxL_ok (gainsL_ne m)
  have a0 := a2 _ (gA_mem h.i 0)
  have b0 := b2 _ (gB_mem h.o 0)
  rw [aI_0 h.i] at a0
  rw [bI_0 h.o] at b0
  have d0 : dayOk (0, 96) := ⟨by decide, by decide, by decide⟩
  have g0 := g2 _ (gainsL_mem d0)
  rw [gI_eq m _ d0] at g0
  simp only [aI_0 h.i, bI_96 h.o] at g0
  constructor
  · intro e
    obtain ⟨p, hp, ep⟩ := gains_of g1
    have x1 := a2 _ (gA_mem h.i p.1)
    have x2 := b2 _ (gB_mem h.o p.2)
    rw [gI_eq m p hp] at ep
    obtain ⟨h1, h2, h3⟩ := hp
    split at ep <;> split at g0 <;> omega
  · intro e
    obtain ⟨t, t0, t1, et⟩ := gA_of h.i a1
    obtain ⟨u, u0, u1, eu⟩ := gB_of h.o b1
    have d1 : dayOk (t, 96) := ⟨t0, by simp only; omega, by simp only; omega⟩
    have g3 := g2 _ (gainsL_mem d1)
    rw [gI_eq m _ d1] at g3
    simp only [bI_96 h.o] at g3
    have hA : maxL (gainsA m.i) ≤ 0 := by split at g3 <;> omega
    have hB : maxL (gainsB m.o) ≤ 0 := by
      by_cases z : u = 0
      · rw [z, bI_0 h.o] at eu; omega
      · have d2 : dayOk (0, u) := ⟨Int.le_refl _, by simp only; omega, by simp only; omega⟩
        have g4 := g2 _ (gainsL_mem d2)
        rw [gI_eq m _ d2] at g4
        simp only [aI_0 h.i] at g4
        split at g4 <;> omega
    omega
theorem loses_iff {m : Mn} (h : m.ok) : (minL (gainsA m.i) + minL (gainsB m.o) = 0) ↔ minL (gainsL m) = 0 := by
  obtain ⟨a1, a2⟩ := minL_ok (neA _ h.i)
  obtain ⟨b1, b2⟩ := minL_ok (neB _ h.o)
  obtain ⟨g1, g2⟩ := minL_ok (gainsL_ne m)
  have a0 := a2 _ (gA_mem h.i 0)
  have b0 := b2 _ (gB_mem h.o 0)
  rw [aI_0 h.i] at a0
  rw [bI_0 h.o] at b0
  have d0 : dayOk (0, 96) := ⟨by decide, by decide, by decide⟩
  have g0 := g2 _ (gainsL_mem d0)
  rw [gI_eq m _ d0] at g0
  simp only [aI_0 h.i, bI_96 h.o] at g0
  constructor
  · intro e
    obtain ⟨p, hp, ep⟩ := gains_of g1
    have x1 := a2 _ (gA_mem h.i p.1)
    have x2 := b2 _ (gB_mem h.o p.2)
    rw [gI_eq m p hp] at ep
    obtain ⟨h1, h2, h3⟩ := hp
    split at ep <;> split at g0 <;> omega
  · intro e
    obtain ⟨t, t0, t1, et⟩ := gA_of h.i a1
    obtain ⟨u, u0, u1, eu⟩ := gB_of h.o b1
    have d1 : dayOk (t, 96) := ⟨t0, by simp only; omega, by simp only; omega⟩
    have g3 := g2 _ (gainsL_mem d1)
    rw [gI_eq m _ d1] at g3
    simp only [bI_96 h.o] at g3
    have hA : 0 ≤ minL (gainsA m.i) := by split at g3 <;> omega
    have hB : 0 ≤ minL (gainsB m.o) := by
      by_cases z : u = 0
      · rw [z, bI_0 h.o] at eu; omega
      · have d2 : dayOk (0, u) := ⟨Int.le_refl _, by simp only; omega, by simp only; omega⟩
        have g4 := g2 _ (gainsL_mem d2)
        rw [gI_eq m _ d2] at g4
        simp only [aI_0 h.i] at g4
        split at g4 <;> omega
    omega
end DL

namespace DL
open PySem PySem.Spec PyProof.Rows L2
/-- a loop that carries a value, and a count that falls by c a turn -/
theorem for_accn {α ι : Type} {body : Env' → SRes} {T : Tg} (c : Nat) (g : ι → D) (f : α → ι → α) (P : Nat → α → Env' → Prop) : ∀ (xs : List ι) (r : Nat) (a : α) (ρ : Env'), P (c * xs.length + r) a ρ →
    (∀ x ∈ xs, ∀ n a ρ, P (n + c) a ρ → ∃ ρ1, asg T (g x) ρ = some ρ1 ∧ ∃ ρ2, body ρ1 = .nx ρ2 ∧ P n (f a x) ρ2) → ∃ ρ2, forGo body T (xs.map g) ρ = .nx ρ2 ∧ P r (xs.foldl f a) ρ2
  | [], r, a, ρ, h, _ => ⟨ρ, rfl, by simpa using h⟩
  | x :: xs, r, a, ρ, h, st => by
    obtain ⟨ρ1, e1, ρ2, e2, h2⟩ := st x List.mem_cons_self (c * xs.length + r) a ρ (by rw [List.length_cons, Nat.mul_add, Nat.mul_one] at h; rw [show c * xs.length + r + c = c * xs.length + c + r by omega]; exact h)
    obtain ⟨ρ3, e3, h3⟩ := for_accn c g f P xs r (f a x) ρ2 h2 (fun y hy => st y (List.mem_cons_of_mem _ hy))
    refine ⟨ρ3, ?_, h3⟩
    rw [List.map_cons]
    unfold forGo
    rw [e1]
    dsimp only
    rw [e2]
    exact e3
theorem foldl_flat {α β γ : Type} (f : γ → β → γ) (h : α → List β) : ∀ (l : List α) (a : γ), (l.flatMap h).foldl f a = l.foldl (fun a x => (h x).foldl f a) a
  | [], a => rfl
  | x :: l, a => by rw [List.flatMap_cons, List.foldl_append, List.foldl_cons, foldl_flat f h l]
theorem foldl_filt {α : Type} (p : α → Bool) : ∀ (l : List α) (a : List α), l.foldl (fun a x => if p x = true then a ++ [x] else a) a = a ++ l.filter p
  | [], a => by simp
  | x :: l, a => by
    rw [List.foldl_cons, foldl_filt p l]
    cases e : p x with
    | true => rw [if_pos rfl, List.filter_cons_of_pos e]; simp
    | false => rw [if_neg Bool.false_ne_true, List.filter_cons_of_neg (by rw [e]; exact Bool.false_ne_true)]
theorem exSs_step {cf : Cf} {n : Nat} {s : DL.S} {ss : List DL.S} {ρ ρ1 : Env'} (h : exS cf n s ρ = .nx ρ1) : exSs cf (n + 1) (s :: ss) ρ = exSs cf n ss ρ1 := by
  show ((exS cf n s ρ).sq fun ρ1 => exSs cf n ss ρ1) = _
  rw [h]
def fA (r : Rnd) (a : List Rnd) (x : Rnd) : List Rnd := if decide (topI r x = 0) = true then a ++ [x] else a
theorem fair_fold (r : Rnd) : stepsL.foldl (fun a s => sidesL.foldl (fun a x => (List.range s.toNat).foldl (fun a g => fA r a ⟨s, x, ((g : Nat) : Int)⟩) a) a) [] = fairL r := by
  have : rnds.foldl (fA r) [] = fairL r := by
    unfold fA fairL
    rw [foldl_filt, List.nil_append]
  rw [← this]
  unfold rnds
  rw [foldl_flat]
  congr 1
  funext a s
  rw [foldl_flat]
  congr 1
  funext a x
  unfold rndsOf
  rw [List.foldl_map]
/-! ### the law's list -/
def body22 : DL.S := .ifs (.cmp .Eq (.call 178 [.tup [.idx (.var 3) (.cst (.int 0)), .tup [.var 5, .var 6, .var 7]]]) (.cst (.int 0))) [.app 4 (.tup [.var 5, .var 6, .var 7])] []
theorem due_ok {cf : Cf} {n : Nat} {m : Mn} (hm : m.ok) (e : ∀ x : Rnd, x.ok → cf.run 178 [.dat (.tup [m.i.d, x.d])] = .ok (.dat (.int (topI m.i x))) none) (g : cf.lend 178 = false) {s0 s1 s2 x5 x6 x7 : Option SV} {rest : Env'} (h5 : free x5 = true) (h6 : free x6 = true) (h7 : free x7 = true) :
    ∃ y5 y6 y7, free y5 = true ∧ free y6 = true ∧ free y7 = true ∧ exS cf (n + 20) (.for_ (.nm 5) (.seq (.tup [.cst (.int 1), .cst (.int 2), .cst (.int 3), .cst (.int 4), .cst (.int 6), .cst (.int 8), .cst (.int 12)])) [.for_ (.nm 6) (.seq (.tup [.cst (.str "down"), .cst (.str "near"), .cst (.str "up")])) [.for_ (.nm 7) (.rng (.var 5)) [body22]]]) (s0 :: s1 :: s2 :: some (.dat m.d) :: some (.own (.lst [])) :: x5 :: x6 :: x7 :: rest)
      = .nx (s0 :: s1 :: s2 :: some (.dat m.d) :: some (.own (.lst ((fairL m.i).map Rnd.d))) :: y5 :: y6 :: y7 :: rest) := by
  have inner : ∀ s ∈ stepsL, ∀ x : Side, ∀ (k : Nat) (a : List Rnd) (x7 : Option SV), a.length + (k + 12) ≤ 1000000 → free x7 = true → ∃ x7', free x7' = true ∧ forGo (exSs cf (n + 15) [body22]) (.nm 7) (rangeD 0 s.toNat) (s0 :: s1 :: s2 :: some (.dat m.d) :: some (.own (.lst (a.map Rnd.d))) :: some (.dat (.int s)) :: some (.dat (.str x.s)) :: x7 :: rest)
      = .nx (s0 :: s1 :: s2 :: some (.dat m.d) :: some (.own (.lst (((List.range s.toNat).foldl (fun a g => fA m.i a ⟨s, x, ((g : Nat) : Int)⟩) a).map Rnd.d))) :: some (.dat (.int s)) :: some (.dat (.str x.s)) :: x7' :: rest) ∧
      ((List.range s.toNat).foldl (fun a g => fA m.i a ⟨s, x, ((g : Nat) : Int)⟩) a).length + k ≤ 1000000 := by
    intro s hs x k a x7 hl h7
    have hs12 : s.toNat ≤ 12 := by
      unfold stepsL at hs
      simp only [List.mem_cons, List.not_mem_nil, or_false] at hs
      omega
    rw [rng_map]
    obtain ⟨ρ2, e2, hl2, x7', h7', rfl⟩ := for_accn (body := exSs cf (n + 15) [body22]) (T := .nm 7) 1 (fun i : Nat => D.int (0 + (i : Nat))) (fun a g => fA m.i a ⟨s, x, ((g : Nat) : Int)⟩) (fun k a ρ => a.length + k ≤ 1000000 ∧ ∃ x7, free x7 = true ∧ ρ = s0 :: s1 :: s2 :: some (.dat m.d) :: some (.own (.lst (a.map Rnd.d))) :: some (.dat (.int s)) :: some (.dat (.str x.s)) :: x7 :: rest)
      (List.range s.toNat) k a (s0 :: s1 :: s2 :: some (.dat m.d) :: some (.own (.lst (a.map Rnd.d))) :: some (.dat (.int s)) :: some (.dat (.str x.s)) :: x7 :: rest) ⟨by rw [List.length_range]; omega, x7, h7, rfl⟩ (fun i hi k a ρ hρ => by
        obtain ⟨hl, x7, h7, rfl⟩ := hρ
        have hi := List.mem_range.mp hi
        have rok : Rnd.ok ⟨s, x, ((i : Nat) : Int)⟩ := ⟨hs, by simp only; omega, by simp only; omega⟩
        have e1 := e _ rok
        have z24 : a.length < 16777216 := by omega
        refine ⟨s0 :: s1 :: s2 :: some (.dat m.d) :: some (.own (.lst (a.map Rnd.d))) :: some (.dat (.int s)) :: some (.dat (.str x.s)) :: some (.dat (.int (0 + (i : Nat)))) :: rest, by simp [ev_var, ev_cst, ev_glb, ev_fnv, ev_tup, ev_lst, ev_lmul, ev_dic_false, ev_dic_true, ev_dic1, ev_bin, ev_neg, ev_cmp, ev_chain, ev_and, ev_or, ev_not, ev_ite, ev_idx, ev_slc, ev_rev, ev_call, ev_callv, ev_bi, ev_inst, ev_get, ev_lrng, ev_dcp, ev_dprs, ev_lc, ev_lc2, ev_lc3, evT_and, evT_or, evT_not, evT_var, evT_cst, evT_glb, evT_fnv, evT_tup, evT_lst, evT_lmul, evT_dic, evT_dic1, evT_bin, evT_neg, evT_cmp, evT_chain, evT_ite, evT_idx, evT_slc, evT_rev, evT_call, evT_callv, evT_bi, evT_inst, evT_get, evT_lrng, evT_dcp, evT_dprs, evT_lc, evT_lc2, evT_lc3, opd_var, opd_cst, opd_glb, opd_fnv, opd_tup, opd_lst, opd_lmul, opd_dic, opd_dic1, opd_bin, opd_neg, opd_cmp, opd_chain, opd_and, opd_or, opd_not, opd_ite, opd_idx, opd_slc, opd_rev, opd_call, opd_callv, opd_bi, opd_inst, opd_get, opd_lrng, opd_dcp, opd_dprs, opd_lc, opd_lc2, opd_lc3, exS_set, exS_unp, exS_par, exS_parO, exS_store, exS_app, exS_expr, exS_ifs, exS_for_, exS_whil, exS_ret, exS_retv, exS_retN, exS_brk, exS_cont, exS_pass, exS_never, exSs_nil, exSs_cons, part_none, part_some, evIt, opds, vals, op2, cont, conts, Res.bind, Res.bindN, Res.sb, SRes.sq, lift, cmpP, binP, idxP, callP, finF, endF, backOf, isLent, SV.d, SV.lent, callR, lentOf, sharedSl, shLst, freezeSl, putBack, D.flat, tru, unpS, asg_tup, asg_ktup, asg_lst, asgs_cons, asgs_nil, setS_eq, asg_nm, free_none, free_dat, free_own, D.seq?, Z24, hasSlot, hasLst, modS, putAt, pushAt, retvS, lcFin, testO, DL.isP, keepO, List.replicate, h7], s0 :: s1 :: s2 :: some (.dat m.d) :: some (.own (.lst ((fA m.i a ⟨s, x, ((i : Nat) : Int)⟩).map Rnd.d))) :: some (.dat (.int s)) :: some (.dat (.str x.s)) :: some (.dat (.int (0 + (i : Nat)))) :: rest, ?_, ?_, _, rfl, rfl⟩
        · unfold fA
          generalize topI m.i ⟨s, x, ((i : Nat) : Int)⟩ = t at e1
          by_cases ht : t = 0
          · subst ht
            simp only [Mn.d, Rnd.d] at e1 ⊢
            simp [ev_var, ev_cst, ev_glb, ev_fnv, ev_tup, ev_lst, ev_lmul, ev_dic_false, ev_dic_true, ev_dic1, ev_bin, ev_neg, ev_cmp, ev_chain, ev_and, ev_or, ev_not, ev_ite, ev_idx, ev_slc, ev_rev, ev_call, ev_callv, ev_bi, ev_inst, ev_get, ev_lrng, ev_dcp, ev_dprs, ev_lc, ev_lc2, ev_lc3, evT_and, evT_or, evT_not, evT_var, evT_cst, evT_glb, evT_fnv, evT_tup, evT_lst, evT_lmul, evT_dic, evT_dic1, evT_bin, evT_neg, evT_cmp, evT_chain, evT_ite, evT_idx, evT_slc, evT_rev, evT_call, evT_callv, evT_bi, evT_inst, evT_get, evT_lrng, evT_dcp, evT_dprs, evT_lc, evT_lc2, evT_lc3, opd_var, opd_cst, opd_glb, opd_fnv, opd_tup, opd_lst, opd_lmul, opd_dic, opd_dic1, opd_bin, opd_neg, opd_cmp, opd_chain, opd_and, opd_or, opd_not, opd_ite, opd_idx, opd_slc, opd_rev, opd_call, opd_callv, opd_bi, opd_inst, opd_get, opd_lrng, opd_dcp, opd_dprs, opd_lc, opd_lc2, opd_lc3, exS_set, exS_unp, exS_par, exS_parO, exS_store, exS_app, exS_expr, exS_ifs, exS_for_, exS_whil, exS_ret, exS_retv, exS_retN, exS_brk, exS_cont, exS_pass, exS_never, exSs_nil, exSs_cons, part_none, part_some, evIt, opds, vals, op2, cont, conts, Res.bind, Res.bindN, Res.sb, SRes.sq, lift, cmpP, binP, idxP, callP, finF, endF, backOf, isLent, SV.d, SV.lent, callR, lentOf, sharedSl, shLst, freezeSl, putBack, D.flat, tru, unpS, asg_tup, asg_ktup, asg_lst, asgs_cons, asgs_nil, setS_eq, asg_nm, free_none, free_dat, free_own, D.seq?, Z24, hasSlot, hasLst, modS, putAt, pushAt, retvS, lcFin, testO, DL.isP, keepO, List.replicate, body22, at0, e1, g, z24]
            rfl
          · simp only [Mn.d, Rnd.d] at e1 ⊢
            simp [ev_var, ev_cst, ev_glb, ev_fnv, ev_tup, ev_lst, ev_lmul, ev_dic_false, ev_dic_true, ev_dic1, ev_bin, ev_neg, ev_cmp, ev_chain, ev_and, ev_or, ev_not, ev_ite, ev_idx, ev_slc, ev_rev, ev_call, ev_callv, ev_bi, ev_inst, ev_get, ev_lrng, ev_dcp, ev_dprs, ev_lc, ev_lc2, ev_lc3, evT_and, evT_or, evT_not, evT_var, evT_cst, evT_glb, evT_fnv, evT_tup, evT_lst, evT_lmul, evT_dic, evT_dic1, evT_bin, evT_neg, evT_cmp, evT_chain, evT_ite, evT_idx, evT_slc, evT_rev, evT_call, evT_callv, evT_bi, evT_inst, evT_get, evT_lrng, evT_dcp, evT_dprs, evT_lc, evT_lc2, evT_lc3, opd_var, opd_cst, opd_glb, opd_fnv, opd_tup, opd_lst, opd_lmul, opd_dic, opd_dic1, opd_bin, opd_neg, opd_cmp, opd_chain, opd_and, opd_or, opd_not, opd_ite, opd_idx, opd_slc, opd_rev, opd_call, opd_callv, opd_bi, opd_inst, opd_get, opd_lrng, opd_dcp, opd_dprs, opd_lc, opd_lc2, opd_lc3, exS_set, exS_unp, exS_par, exS_parO, exS_store, exS_app, exS_expr, exS_ifs, exS_for_, exS_whil, exS_ret, exS_retv, exS_retN, exS_brk, exS_cont, exS_pass, exS_never, exSs_nil, exSs_cons, part_none, part_some, evIt, opds, vals, op2, cont, conts, Res.bind, Res.bindN, Res.sb, SRes.sq, lift, cmpP, binP, idxP, callP, finF, endF, backOf, isLent, SV.d, SV.lent, callR, lentOf, sharedSl, shLst, freezeSl, putBack, D.flat, tru, unpS, asg_tup, asg_ktup, asg_lst, asgs_cons, asgs_nil, setS_eq, asg_nm, free_none, free_dat, free_own, D.seq?, Z24, hasSlot, hasLst, modS, putAt, pushAt, retvS, lcFin, testO, DL.isP, keepO, List.replicate, body22, at0, e1, g, ht]
        · unfold fA
          split
          · rw [List.length_append]; simp; omega
          · omega)
    exact ⟨x7', h7', e2, hl2⟩
  have sides : ∀ s ∈ stepsL, ∀ (k : Nat) (a : List Rnd) (x6 x7 : Option SV), a.length + (k + 36) ≤ 1000000 → free x6 = true → free x7 = true → ∃ x6' x7', free x6' = true ∧ free x7' = true ∧ forGo (exSs cf (n + 17) [.for_ (.nm 7) (.rng (.var 5)) [body22]]) (.nm 6) (sidesL.map fun x => D.str x.s) (s0 :: s1 :: s2 :: some (.dat m.d) :: some (.own (.lst (a.map Rnd.d))) :: some (.dat (.int s)) :: x6 :: x7 :: rest)
      = .nx (s0 :: s1 :: s2 :: some (.dat m.d) :: some (.own (.lst ((sidesL.foldl (fun a x => (List.range s.toNat).foldl (fun a g => fA m.i a ⟨s, x, ((g : Nat) : Int)⟩) a) a).map Rnd.d))) :: some (.dat (.int s)) :: x6' :: x7' :: rest) ∧
      (sidesL.foldl (fun a x => (List.range s.toNat).foldl (fun a g => fA m.i a ⟨s, x, ((g : Nat) : Int)⟩) a) a).length + k ≤ 1000000 := by
    intro s hs k a x6 x7 hl h6 h7
    have ss : small62 s = true := small_day (by unfold stepsL at hs; simp only [List.mem_cons, List.not_mem_nil, or_false] at hs; omega)
    obtain ⟨ρ2, e2, hl2, x6', x7', h6', h7', rfl⟩ := for_accn (body := exSs cf (n + 17) [.for_ (.nm 7) (.rng (.var 5)) [body22]]) (T := .nm 6) 12 (fun x : Side => D.str x.s) (fun a x => (List.range s.toNat).foldl (fun a g => fA m.i a ⟨s, x, ((g : Nat) : Int)⟩) a)
      (fun k a ρ => a.length + k ≤ 1000000 ∧ ∃ x6 x7, free x6 = true ∧ free x7 = true ∧ ρ = s0 :: s1 :: s2 :: some (.dat m.d) :: some (.own (.lst (a.map Rnd.d))) :: some (.dat (.int s)) :: x6 :: x7 :: rest)
      sidesL k a (s0 :: s1 :: s2 :: some (.dat m.d) :: some (.own (.lst (a.map Rnd.d))) :: some (.dat (.int s)) :: x6 :: x7 :: rest) ⟨by rw [show sidesL.length = 3 from rfl]; omega, x6, x7, h6, h7, rfl⟩ (fun x hx k a ρ hρ => by
        obtain ⟨hl, x6, x7, h6, h7, rfl⟩ := hρ
        obtain ⟨x7', h7', e2, hl2⟩ := inner s hs x k a x7 hl h7
        refine ⟨s0 :: s1 :: s2 :: some (.dat m.d) :: some (.own (.lst (a.map Rnd.d))) :: some (.dat (.int s)) :: some (.dat (.str x.s)) :: x7 :: rest, by simp [ev_var, ev_cst, ev_glb, ev_fnv, ev_tup, ev_lst, ev_lmul, ev_dic_false, ev_dic_true, ev_dic1, ev_bin, ev_neg, ev_cmp, ev_chain, ev_and, ev_or, ev_not, ev_ite, ev_idx, ev_slc, ev_rev, ev_call, ev_callv, ev_bi, ev_inst, ev_get, ev_lrng, ev_dcp, ev_dprs, ev_lc, ev_lc2, ev_lc3, evT_and, evT_or, evT_not, evT_var, evT_cst, evT_glb, evT_fnv, evT_tup, evT_lst, evT_lmul, evT_dic, evT_dic1, evT_bin, evT_neg, evT_cmp, evT_chain, evT_ite, evT_idx, evT_slc, evT_rev, evT_call, evT_callv, evT_bi, evT_inst, evT_get, evT_lrng, evT_dcp, evT_dprs, evT_lc, evT_lc2, evT_lc3, opd_var, opd_cst, opd_glb, opd_fnv, opd_tup, opd_lst, opd_lmul, opd_dic, opd_dic1, opd_bin, opd_neg, opd_cmp, opd_chain, opd_and, opd_or, opd_not, opd_ite, opd_idx, opd_slc, opd_rev, opd_call, opd_callv, opd_bi, opd_inst, opd_get, opd_lrng, opd_dcp, opd_dprs, opd_lc, opd_lc2, opd_lc3, exS_set, exS_unp, exS_par, exS_parO, exS_store, exS_app, exS_expr, exS_ifs, exS_for_, exS_whil, exS_ret, exS_retv, exS_retN, exS_brk, exS_cont, exS_pass, exS_never, exSs_nil, exSs_cons, part_none, part_some, evIt, opds, vals, op2, cont, conts, Res.bind, Res.bindN, Res.sb, SRes.sq, lift, cmpP, binP, idxP, callP, finF, endF, backOf, isLent, SV.d, SV.lent, callR, lentOf, sharedSl, shLst, freezeSl, putBack, D.flat, tru, unpS, asg_tup, asg_ktup, asg_lst, asgs_cons, asgs_nil, setS_eq, asg_nm, free_none, free_dat, free_own, D.seq?, Z24, hasSlot, hasLst, modS, putAt, pushAt, retvS, lcFin, testO, DL.isP, keepO, List.replicate, h6], _, ?_, hl2, some (.dat (.str x.s)), x7', rfl, h7', rfl⟩
        simp [ev_var, ev_cst, ev_glb, ev_fnv, ev_tup, ev_lst, ev_lmul, ev_dic_false, ev_dic_true, ev_dic1, ev_bin, ev_neg, ev_cmp, ev_chain, ev_and, ev_or, ev_not, ev_ite, ev_idx, ev_slc, ev_rev, ev_call, ev_callv, ev_bi, ev_inst, ev_get, ev_lrng, ev_dcp, ev_dprs, ev_lc, ev_lc2, ev_lc3, evT_and, evT_or, evT_not, evT_var, evT_cst, evT_glb, evT_fnv, evT_tup, evT_lst, evT_lmul, evT_dic, evT_dic1, evT_bin, evT_neg, evT_cmp, evT_chain, evT_ite, evT_idx, evT_slc, evT_rev, evT_call, evT_callv, evT_bi, evT_inst, evT_get, evT_lrng, evT_dcp, evT_dprs, evT_lc, evT_lc2, evT_lc3, opd_var, opd_cst, opd_glb, opd_fnv, opd_tup, opd_lst, opd_lmul, opd_dic, opd_dic1, opd_bin, opd_neg, opd_cmp, opd_chain, opd_and, opd_or, opd_not, opd_ite, opd_idx, opd_slc, opd_rev, opd_call, opd_callv, opd_bi, opd_inst, opd_get, opd_lrng, opd_dcp, opd_dprs, opd_lc, opd_lc2, opd_lc3, exS_set, exS_unp, exS_par, exS_parO, exS_store, exS_app, exS_expr, exS_ifs, exS_for_, exS_whil, exS_ret, exS_retv, exS_retN, exS_brk, exS_cont, exS_pass, exS_never, exSs_nil, exSs_cons, part_none, part_some, evIt, opds, vals, op2, cont, conts, Res.bind, Res.bindN, Res.sb, SRes.sq, lift, cmpP, binP, idxP, callP, finF, endF, backOf, isLent, SV.d, SV.lent, callR, lentOf, sharedSl, shLst, freezeSl, putBack, D.flat, tru, unpS, asg_tup, asg_ktup, asg_lst, asgs_cons, asgs_nil, setS_eq, asg_nm, free_none, free_dat, free_own, D.seq?, Z24, hasSlot, hasLst, modS, putAt, pushAt, retvS, lcFin, testO, DL.isP, keepO, List.replicate, ss, e2])
    exact ⟨x6', x7', h6', h7', e2, hl2⟩
  obtain ⟨ρ2, e2, hl2, x5', x6', x7', h5', h6', h7', rfl⟩ := for_accn (body := exSs cf (n + 19) [.for_ (.nm 6) (.seq (.tup [.cst (.str "down"), .cst (.str "near"), .cst (.str "up")])) [.for_ (.nm 7) (.rng (.var 5)) [body22]]]) (T := .nm 5) 36 D.int (fun a s => sidesL.foldl (fun a x => (List.range s.toNat).foldl (fun a g => fA m.i a ⟨s, x, ((g : Nat) : Int)⟩) a) a)
    (fun k a ρ => a.length + k ≤ 1000000 ∧ ∃ x5 x6 x7, free x5 = true ∧ free x6 = true ∧ free x7 = true ∧ ρ = s0 :: s1 :: s2 :: some (.dat m.d) :: some (.own (.lst (a.map Rnd.d))) :: x5 :: x6 :: x7 :: rest)
    stepsL 0 [] (s0 :: s1 :: s2 :: some (.dat m.d) :: some (.own (.lst [])) :: x5 :: x6 :: x7 :: rest) ⟨by decide, x5, x6, x7, h5, h6, h7, rfl⟩ (fun s hs k a ρ hρ => by
      obtain ⟨hl, x5, x6, x7, h5, h6, h7, rfl⟩ := hρ
      obtain ⟨x6', x7', h6', h7', e2, hl2⟩ := sides s hs k a x6 x7 hl h6 h7
      refine ⟨s0 :: s1 :: s2 :: some (.dat m.d) :: some (.own (.lst (a.map Rnd.d))) :: some (.dat (.int s)) :: x6 :: x7 :: rest, by simp [ev_var, ev_cst, ev_glb, ev_fnv, ev_tup, ev_lst, ev_lmul, ev_dic_false, ev_dic_true, ev_dic1, ev_bin, ev_neg, ev_cmp, ev_chain, ev_and, ev_or, ev_not, ev_ite, ev_idx, ev_slc, ev_rev, ev_call, ev_callv, ev_bi, ev_inst, ev_get, ev_lrng, ev_dcp, ev_dprs, ev_lc, ev_lc2, ev_lc3, evT_and, evT_or, evT_not, evT_var, evT_cst, evT_glb, evT_fnv, evT_tup, evT_lst, evT_lmul, evT_dic, evT_dic1, evT_bin, evT_neg, evT_cmp, evT_chain, evT_ite, evT_idx, evT_slc, evT_rev, evT_call, evT_callv, evT_bi, evT_inst, evT_get, evT_lrng, evT_dcp, evT_dprs, evT_lc, evT_lc2, evT_lc3, opd_var, opd_cst, opd_glb, opd_fnv, opd_tup, opd_lst, opd_lmul, opd_dic, opd_dic1, opd_bin, opd_neg, opd_cmp, opd_chain, opd_and, opd_or, opd_not, opd_ite, opd_idx, opd_slc, opd_rev, opd_call, opd_callv, opd_bi, opd_inst, opd_get, opd_lrng, opd_dcp, opd_dprs, opd_lc, opd_lc2, opd_lc3, exS_set, exS_unp, exS_par, exS_parO, exS_store, exS_app, exS_expr, exS_ifs, exS_for_, exS_whil, exS_ret, exS_retv, exS_retN, exS_brk, exS_cont, exS_pass, exS_never, exSs_nil, exSs_cons, part_none, part_some, evIt, opds, vals, op2, cont, conts, Res.bind, Res.bindN, Res.sb, SRes.sq, lift, cmpP, binP, idxP, callP, finF, endF, backOf, isLent, SV.d, SV.lent, callR, lentOf, sharedSl, shLst, freezeSl, putBack, D.flat, tru, unpS, asg_tup, asg_ktup, asg_lst, asgs_cons, asgs_nil, setS_eq, asg_nm, free_none, free_dat, free_own, D.seq?, Z24, hasSlot, hasLst, modS, putAt, pushAt, retvS, lcFin, testO, DL.isP, keepO, List.replicate, h5], _, ?_, hl2, some (.dat (.int s)), x6', x7', rfl, h6', h7', rfl⟩
      simp only [sidesL, List.map_cons, List.map_nil, Side.s] at e2
      simp [ev_var, ev_cst, ev_glb, ev_fnv, ev_tup, ev_lst, ev_lmul, ev_dic_false, ev_dic_true, ev_dic1, ev_bin, ev_neg, ev_cmp, ev_chain, ev_and, ev_or, ev_not, ev_ite, ev_idx, ev_slc, ev_rev, ev_call, ev_callv, ev_bi, ev_inst, ev_get, ev_lrng, ev_dcp, ev_dprs, ev_lc, ev_lc2, ev_lc3, evT_and, evT_or, evT_not, evT_var, evT_cst, evT_glb, evT_fnv, evT_tup, evT_lst, evT_lmul, evT_dic, evT_dic1, evT_bin, evT_neg, evT_cmp, evT_chain, evT_ite, evT_idx, evT_slc, evT_rev, evT_call, evT_callv, evT_bi, evT_inst, evT_get, evT_lrng, evT_dcp, evT_dprs, evT_lc, evT_lc2, evT_lc3, opd_var, opd_cst, opd_glb, opd_fnv, opd_tup, opd_lst, opd_lmul, opd_dic, opd_dic1, opd_bin, opd_neg, opd_cmp, opd_chain, opd_and, opd_or, opd_not, opd_ite, opd_idx, opd_slc, opd_rev, opd_call, opd_callv, opd_bi, opd_inst, opd_get, opd_lrng, opd_dcp, opd_dprs, opd_lc, opd_lc2, opd_lc3, exS_set, exS_unp, exS_par, exS_parO, exS_store, exS_app, exS_expr, exS_ifs, exS_for_, exS_whil, exS_ret, exS_retv, exS_retN, exS_brk, exS_cont, exS_pass, exS_never, exSs_nil, exSs_cons, part_none, part_some, evIt, opds, vals, op2, cont, conts, Res.bind, Res.bindN, Res.sb, SRes.sq, lift, cmpP, binP, idxP, callP, finF, endF, backOf, isLent, SV.d, SV.lent, callR, lentOf, sharedSl, shLst, freezeSl, putBack, D.flat, tru, unpS, asg_tup, asg_ktup, asg_lst, asgs_cons, asgs_nil, setS_eq, asg_nm, free_none, free_dat, free_own, D.seq?, Z24, hasSlot, hasLst, modS, putAt, pushAt, retvS, lcFin, testO, DL.isP, keepO, List.replicate, e2, sidesL])
  rw [fair_fold] at e2
  refine ⟨x5', x6', x7', h5', h6', h7', ?_⟩
  simp only [stepsL, List.map_cons, List.map_nil] at e2
  simp [ev_var, ev_cst, ev_glb, ev_fnv, ev_tup, ev_lst, ev_lmul, ev_dic_false, ev_dic_true, ev_dic1, ev_bin, ev_neg, ev_cmp, ev_chain, ev_and, ev_or, ev_not, ev_ite, ev_idx, ev_slc, ev_rev, ev_call, ev_callv, ev_bi, ev_inst, ev_get, ev_lrng, ev_dcp, ev_dprs, ev_lc, ev_lc2, ev_lc3, evT_and, evT_or, evT_not, evT_var, evT_cst, evT_glb, evT_fnv, evT_tup, evT_lst, evT_lmul, evT_dic, evT_dic1, evT_bin, evT_neg, evT_cmp, evT_chain, evT_ite, evT_idx, evT_slc, evT_rev, evT_call, evT_callv, evT_bi, evT_inst, evT_get, evT_lrng, evT_dcp, evT_dprs, evT_lc, evT_lc2, evT_lc3, opd_var, opd_cst, opd_glb, opd_fnv, opd_tup, opd_lst, opd_lmul, opd_dic, opd_dic1, opd_bin, opd_neg, opd_cmp, opd_chain, opd_and, opd_or, opd_not, opd_ite, opd_idx, opd_slc, opd_rev, opd_call, opd_callv, opd_bi, opd_inst, opd_get, opd_lrng, opd_dcp, opd_dprs, opd_lc, opd_lc2, opd_lc3, exS_set, exS_unp, exS_par, exS_parO, exS_store, exS_app, exS_expr, exS_ifs, exS_for_, exS_whil, exS_ret, exS_retv, exS_retN, exS_brk, exS_cont, exS_pass, exS_never, exSs_nil, exSs_cons, part_none, part_some, evIt, opds, vals, op2, cont, conts, Res.bind, Res.bindN, Res.sb, SRes.sq, lift, cmpP, binP, idxP, callP, finF, endF, backOf, isLent, SV.d, SV.lent, callR, lentOf, sharedSl, shLst, freezeSl, putBack, D.flat, tru, unpS, asg_tup, asg_ktup, asg_lst, asgs_cons, asgs_nil, setS_eq, asg_nm, free_none, free_dat, free_own, D.seq?, Z24, hasSlot, hasLst, modS, putAt, pushAt, retvS, lcFin, testO, DL.isP, keepO, List.replicate, e2]
end DL

namespace DL
open PySem PySem.Spec PyProof.Rows L2
/-! ### all days, by the law -/
def rowL (s : Nat) : List (Int × Int) := (List.range (96 - s)).map fun j => (((s : Nat) : Int), ((s : Nat) : Int) + 1 + ((j : Nat) : Int))
def body59 : DL.S := .set 0 (.bin .Add (.var 0) (.lc [2] (.nm 2) (.rng2 (.bin .Add (.var 1) (.cst (.int 1))) (.cst (.int 97))) none (.tup [.var 1, .var 2])))
theorem row_len (s : Nat) : (rowL s).length = 96 - s := by unfold rowL; rw [List.length_map, List.length_range]
theorem row_lc (cf : Cf) (s : Nat) (hs : s < 96) (u : Option SV) : lcGo (ev cf 93 (.tup [.var 1, .var 2])) (testO (evT cf 93) none) [2] (.nm 2) (rangeD (((s : Nat) : Int) + 1) (96 - s)) [] [u, some (.dat (.int ((s : Nat) : Int))), none] = .ok ((rowL s).map prD) [u, some (.dat (.int ((s : Nat) : Int))), none] := by
  unfold rowL
  rw [rng_map, List.map_map]
  refine lcGo_map _ _ _ (fun j hj => ⟨[u, some (.dat (.int ((s : Nat) : Int))), some (.dat (.int (((s : Nat) : Int) + 1 + ((j : Nat) : Int))))], by simp [ev_var, ev_cst, ev_glb, ev_fnv, ev_tup, ev_lst, ev_lmul, ev_dic_false, ev_dic_true, ev_dic1, ev_bin, ev_neg, ev_cmp, ev_chain, ev_and, ev_or, ev_not, ev_ite, ev_idx, ev_slc, ev_rev, ev_call, ev_callv, ev_bi, ev_inst, ev_get, ev_lrng, ev_dcp, ev_dprs, ev_lc, ev_lc2, ev_lc3, evT_and, evT_or, evT_not, evT_var, evT_cst, evT_glb, evT_fnv, evT_tup, evT_lst, evT_lmul, evT_dic, evT_dic1, evT_bin, evT_neg, evT_cmp, evT_chain, evT_ite, evT_idx, evT_slc, evT_rev, evT_call, evT_callv, evT_bi, evT_inst, evT_get, evT_lrng, evT_dcp, evT_dprs, evT_lc, evT_lc2, evT_lc3, opd_var, opd_cst, opd_glb, opd_fnv, opd_tup, opd_lst, opd_lmul, opd_dic, opd_dic1, opd_bin, opd_neg, opd_cmp, opd_chain, opd_and, opd_or, opd_not, opd_ite, opd_idx, opd_slc, opd_rev, opd_call, opd_callv, opd_bi, opd_inst, opd_get, opd_lrng, opd_dcp, opd_dprs, opd_lc, opd_lc2, opd_lc3, exS_set, exS_unp, exS_par, exS_parO, exS_store, exS_app, exS_expr, exS_ifs, exS_for_, exS_whil, exS_ret, exS_retv, exS_retN, exS_brk, exS_cont, exS_pass, exS_never, exSs_nil, exSs_cons, part_none, part_some, evIt, opds, vals, op2, cont, conts, Res.bind, Res.bindN, Res.sb, SRes.sq, lift, cmpP, binP, idxP, callP, finF, endF, backOf, isLent, SV.d, SV.lent, callR, lentOf, sharedSl, shLst, freezeSl, putBack, D.flat, tru, unpS, asg_tup, asg_ktup, asg_lst, asgs_cons, asgs_nil, setS_eq, asg_nm, free_none, free_dat, free_own, D.seq?, Z24, hasSlot, hasLst, modS, putAt, pushAt, retvS, lcFin, testO, DL.isP, keepO, List.replicate], ⟨.dat (prD (((s : Nat) : Int), ((s : Nat) : Int) + 1 + ((j : Nat) : Int))), by simp [ev_var, ev_cst, ev_glb, ev_fnv, ev_tup, ev_lst, ev_lmul, ev_dic_false, ev_dic_true, ev_dic1, ev_bin, ev_neg, ev_cmp, ev_chain, ev_and, ev_or, ev_not, ev_ite, ev_idx, ev_slc, ev_rev, ev_call, ev_callv, ev_bi, ev_inst, ev_get, ev_lrng, ev_dcp, ev_dprs, ev_lc, ev_lc2, ev_lc3, evT_and, evT_or, evT_not, evT_var, evT_cst, evT_glb, evT_fnv, evT_tup, evT_lst, evT_lmul, evT_dic, evT_dic1, evT_bin, evT_neg, evT_cmp, evT_chain, evT_ite, evT_idx, evT_slc, evT_rev, evT_call, evT_callv, evT_bi, evT_inst, evT_get, evT_lrng, evT_dcp, evT_dprs, evT_lc, evT_lc2, evT_lc3, opd_var, opd_cst, opd_glb, opd_fnv, opd_tup, opd_lst, opd_lmul, opd_dic, opd_dic1, opd_bin, opd_neg, opd_cmp, opd_chain, opd_and, opd_or, opd_not, opd_ite, opd_idx, opd_slc, opd_rev, opd_call, opd_callv, opd_bi, opd_inst, opd_get, opd_lrng, opd_dcp, opd_dprs, opd_lc, opd_lc2, opd_lc3, exS_set, exS_unp, exS_par, exS_parO, exS_store, exS_app, exS_expr, exS_ifs, exS_for_, exS_whil, exS_ret, exS_retv, exS_retN, exS_brk, exS_cont, exS_pass, exS_never, exSs_nil, exSs_cons, part_none, part_some, evIt, opds, vals, op2, cont, conts, Res.bind, Res.bindN, Res.sb, SRes.sq, lift, cmpP, binP, idxP, callP, finF, endF, backOf, isLent, SV.d, SV.lent, callR, lentOf, sharedSl, shLst, freezeSl, putBack, D.flat, tru, unpS, asg_tup, asg_ktup, asg_lst, asgs_cons, asgs_nil, setS_eq, asg_nm, free_none, free_dat, free_own, D.seq?, Z24, hasSlot, hasLst, modS, putAt, pushAt, retvS, lcFin, testO, DL.isP, keepO, List.replicate, prD], rfl⟩, rfl, rfl⟩) (by rw [List.length_range]; simp [Z24]; omega)
theorem row_it (cf : Cf) (S : Int) (n : Nat) (X0 : Option SV) (r97 : small62 97 = true) (s1 : small62 (S + 1) = true) (n1 : (97 - (S + 1)).toNat = n) : evIt (ev cf 93) (.rng2 (.bin .Add (.var 1) (.cst (.int 1))) (.cst (.int 97))) [X0, some (.dat (.int S)), none] = .ok (rangeD (S + 1) n) [X0, some (.dat (.int S)), none] := by
  simp [ev_var, ev_cst, ev_glb, ev_fnv, ev_tup, ev_lst, ev_lmul, ev_dic_false, ev_dic_true, ev_dic1, ev_bin, ev_neg, ev_cmp, ev_chain, ev_and, ev_or, ev_not, ev_ite, ev_idx, ev_slc, ev_rev, ev_call, ev_callv, ev_bi, ev_inst, ev_get, ev_lrng, ev_dcp, ev_dprs, ev_lc, ev_lc2, ev_lc3, evT_and, evT_or, evT_not, evT_var, evT_cst, evT_glb, evT_fnv, evT_tup, evT_lst, evT_lmul, evT_dic, evT_dic1, evT_bin, evT_neg, evT_cmp, evT_chain, evT_ite, evT_idx, evT_slc, evT_rev, evT_call, evT_callv, evT_bi, evT_inst, evT_get, evT_lrng, evT_dcp, evT_dprs, evT_lc, evT_lc2, evT_lc3, opd_var, opd_cst, opd_glb, opd_fnv, opd_tup, opd_lst, opd_lmul, opd_dic, opd_dic1, opd_bin, opd_neg, opd_cmp, opd_chain, opd_and, opd_or, opd_not, opd_ite, opd_idx, opd_slc, opd_rev, opd_call, opd_callv, opd_bi, opd_inst, opd_get, opd_lrng, opd_dcp, opd_dprs, opd_lc, opd_lc2, opd_lc3, exS_set, exS_unp, exS_par, exS_parO, exS_store, exS_app, exS_expr, exS_ifs, exS_for_, exS_whil, exS_ret, exS_retv, exS_retN, exS_brk, exS_cont, exS_pass, exS_never, exSs_nil, exSs_cons, part_none, part_some, evIt, opds, vals, op2, cont, conts, Res.bind, Res.bindN, Res.sb, SRes.sq, lift, cmpP, binP, idxP, callP, finF, endF, backOf, isLent, SV.d, SV.lent, callR, lentOf, sharedSl, shLst, freezeSl, putBack, D.flat, tru, unpS, asg_tup, asg_ktup, asg_lst, asgs_cons, asgs_nil, setS_eq, asg_nm, free_none, free_dat, free_own, D.seq?, Z24, hasSlot, hasLst, modS, putAt, pushAt, retvS, lcFin, testO, DL.isP, keepO, List.replicate, r97, s1, n1]
theorem row_q (cf : Cf) (S : Int) (n : Nat) (X0 : Option SV) (M : List D) (oi : evIt (ev cf 93) (.rng2 (.bin .Add (.var 1) (.cst (.int 1))) (.cst (.int 97))) [X0, some (.dat (.int S)), none] = .ok (rangeD (S + 1) n) [X0, some (.dat (.int S)), none])
    (el : lcGo (ev cf 93 (.tup [.var 1, .var 2])) (testO (evT cf 93) none) [2] (.nm 2) (rangeD (S + 1) n) [] [X0, some (.dat (.int S)), none] = .ok M [X0, some (.dat (.int S)), none]) :
    opd (ev cf 94) (.lc [2] (.nm 2) (.rng2 (.bin .Add (.var 1) (.cst (.int 1))) (.cst (.int 97))) none (.tup [.var 1, .var 2])) [X0, some (.dat (.int S)), none] = .ok (.dd (.lst M)) [X0, some (.dat (.int S)), none] := by
  rw [opd_lc, ev_lc]
  unfold lcFin
  rw [oi]
  simp [Res.bind, tame, wipeR, el, backR, SV.d]
theorem row_set (cf : Cf) (S : Int) (a M : List D) (q : Q) (z : a.length + M.length ≤ 16777216) (o2 : opd (ev cf 94) q [some (.own (.lst a)), some (.dat (.int S)), none] = .ok (.dd (.lst M)) [some (.own (.lst a)), some (.dat (.int S)), none]) :
    exSs cf 97 [.set 0 (.bin .Add (.var 0) q)] [some (.own (.lst a)), some (.dat (.int S)), none] = .nx [some (.own (.lst (a ++ M))), some (.dat (.int S)), none] := by
  simp [ev_var, ev_cst, ev_glb, ev_fnv, ev_tup, ev_lst, ev_lmul, ev_dic_false, ev_dic_true, ev_dic1, ev_bin, ev_neg, ev_cmp, ev_chain, ev_and, ev_or, ev_not, ev_ite, ev_idx, ev_slc, ev_rev, ev_call, ev_callv, ev_bi, ev_inst, ev_get, ev_lrng, ev_dcp, ev_dprs, ev_lc, ev_lc2, ev_lc3, evT_and, evT_or, evT_not, evT_var, evT_cst, evT_glb, evT_fnv, evT_tup, evT_lst, evT_lmul, evT_dic, evT_dic1, evT_bin, evT_neg, evT_cmp, evT_chain, evT_ite, evT_idx, evT_slc, evT_rev, evT_call, evT_callv, evT_bi, evT_inst, evT_get, evT_lrng, evT_dcp, evT_dprs, evT_lc, evT_lc2, evT_lc3, opd_var, opd_cst, opd_glb, opd_fnv, opd_tup, opd_lst, opd_lmul, opd_dic, opd_dic1, opd_bin, opd_neg, opd_cmp, opd_chain, opd_and, opd_or, opd_not, opd_ite, opd_idx, opd_slc, opd_rev, opd_call, opd_callv, opd_bi, opd_inst, opd_get, opd_lrng, opd_dcp, opd_dprs, opd_lc, opd_lc2, opd_lc3, exS_set, exS_unp, exS_par, exS_parO, exS_store, exS_app, exS_expr, exS_ifs, exS_for_, exS_whil, exS_ret, exS_retv, exS_retN, exS_brk, exS_cont, exS_pass, exS_never, exSs_nil, exSs_cons, part_none, part_some, evIt, opds, vals, op2, cont, conts, Res.bind, Res.bindN, Res.sb, SRes.sq, lift, cmpP, binP, idxP, callP, finF, endF, backOf, isLent, SV.d, SV.lent, callR, lentOf, sharedSl, shLst, freezeSl, putBack, D.flat, tru, unpS, asg_tup, asg_ktup, asg_lst, asgs_cons, asgs_nil, setS_eq, asg_nm, free_none, free_dat, free_own, D.seq?, Z24, hasSlot, hasLst, modS, putAt, pushAt, retvS, lcFin, testO, DL.isP, keepO, List.replicate, o2, z]
theorem body59_ok (cf : Cf) (s : Nat) (hs : s < 96) (a : List D) (hl : a.length ≤ 1000000) (x : Option SV) (hx : free x = true) : exSs cf 97 [body59] [some (.own (.lst a)), some (.dat (.int ((s : Nat) : Int))), none] = .nx [some (.own (.lst (a ++ (rowL s).map prD))), some (.dat (.int ((s : Nat) : Int))), none] :=
  row_set cf _ a _ _ (by rw [List.length_map, row_len]; omega) (row_q cf _ _ _ _ (row_it cf _ (96 - s) _ (small_day (by omega)) (small_day (by omega)) (by omega)) (row_lc cf s hs _))
theorem every_fold : (List.range 96).foldl (fun (a : List D) s => a ++ (rowL s).map prD) [] = everyL.map prD := by
  have : ∀ (l : List Nat) (a : List D), l.foldl (fun (a : List D) s => a ++ (rowL s).map prD) a = a ++ (l.flatMap rowL).map prD := by
    intro l
    induction l with
    | nil => intro a; simp
    | cons x l ih => intro a; rw [List.foldl_cons, ih, List.flatMap_cons, List.map_append, List.append_assoc]
  rw [this, List.nil_append]
  rfl
theorem levery_for (cf : Cf) (n : Nat) (hn : n = 96) : ∃ x, forGo (exSs cf 97 [body59]) (.nm 1) (rangeD 0 n) [some (.own (.lst [])), none, none] = .nx [some (.own (.lst ((List.range n).foldl (fun (a : List D) s => a ++ (rowL s).map prD) []))), x, none] := by
  have h0 : ([] : List D).length + (96 * (List.range n).length + 0) ≤ 1000000 := by rw [List.length_range, hn, List.length_nil]; omega
  obtain ⟨ρ2, e, _, x, hx, rfl⟩ := for_accn (body := exSs cf 97 [body59]) (T := .nm 1) 96 (fun i : Nat => D.int (0 + (i : Nat))) (fun (a : List D) s => a ++ (rowL s).map prD)
    (fun n a ρ => a.length + n ≤ 1000000 ∧ ∃ x, free x = true ∧ ρ = [some (.own (.lst a)), x, none]) (List.range n) 0 [] [some (.own (.lst [])), none, none] ⟨h0, none, rfl, rfl⟩ (by
      rintro s hs n a ρ ⟨hl, x, hx, rfl⟩
      have hs := List.mem_range.mp hs
      have h1 : (a ++ (rowL s).map prD).length + n ≤ 1000000 := by rw [List.length_append, List.length_map, row_len]; omega
      exact ⟨[some (.own (.lst a)), some (.dat (.int ((s : Nat) : Int))), none], by simp [ev_var, ev_cst, ev_glb, ev_fnv, ev_tup, ev_lst, ev_lmul, ev_dic_false, ev_dic_true, ev_dic1, ev_bin, ev_neg, ev_cmp, ev_chain, ev_and, ev_or, ev_not, ev_ite, ev_idx, ev_slc, ev_rev, ev_call, ev_callv, ev_bi, ev_inst, ev_get, ev_lrng, ev_dcp, ev_dprs, ev_lc, ev_lc2, ev_lc3, evT_and, evT_or, evT_not, evT_var, evT_cst, evT_glb, evT_fnv, evT_tup, evT_lst, evT_lmul, evT_dic, evT_dic1, evT_bin, evT_neg, evT_cmp, evT_chain, evT_ite, evT_idx, evT_slc, evT_rev, evT_call, evT_callv, evT_bi, evT_inst, evT_get, evT_lrng, evT_dcp, evT_dprs, evT_lc, evT_lc2, evT_lc3, opd_var, opd_cst, opd_glb, opd_fnv, opd_tup, opd_lst, opd_lmul, opd_dic, opd_dic1, opd_bin, opd_neg, opd_cmp, opd_chain, opd_and, opd_or, opd_not, opd_ite, opd_idx, opd_slc, opd_rev, opd_call, opd_callv, opd_bi, opd_inst, opd_get, opd_lrng, opd_dcp, opd_dprs, opd_lc, opd_lc2, opd_lc3, exS_set, exS_unp, exS_par, exS_parO, exS_store, exS_app, exS_expr, exS_ifs, exS_for_, exS_whil, exS_ret, exS_retv, exS_retN, exS_brk, exS_cont, exS_pass, exS_never, exSs_nil, exSs_cons, part_none, part_some, evIt, opds, vals, op2, cont, conts, Res.bind, Res.bindN, Res.sb, SRes.sq, lift, cmpP, binP, idxP, callP, finF, endF, backOf, isLent, SV.d, SV.lent, callR, lentOf, sharedSl, shLst, freezeSl, putBack, D.flat, tru, unpS, asg_tup, asg_ktup, asg_lst, asgs_cons, asgs_nil, setS_eq, asg_nm, free_none, free_dat, free_own, D.seq?, Z24, hasSlot, hasLst, modS, putAt, pushAt, retvS, lcFin, testO, DL.isP, keepO, List.replicate, hx], _, body59_ok cf s (by omega) a (by omega) x hx, h1, some (.dat (.int ((s : Nat) : Int))), rfl, rfl⟩)
  rw [← rng_map] at e
  exact ⟨x, e⟩
theorem rng_lit {cf : Cf} {n : Nat} {i : Int} {ρ : Env'} (h : small62 i = true) : evIt (ev cf (n + 1)) (.rng (.cst (.int i))) ρ = .ok (rangeD 0 i.toNat) ρ := by
  simp [ev_var, ev_cst, ev_glb, ev_fnv, ev_tup, ev_lst, ev_lmul, ev_dic_false, ev_dic_true, ev_dic1, ev_bin, ev_neg, ev_cmp, ev_chain, ev_and, ev_or, ev_not, ev_ite, ev_idx, ev_slc, ev_rev, ev_call, ev_callv, ev_bi, ev_inst, ev_get, ev_lrng, ev_dcp, ev_dprs, ev_lc, ev_lc2, ev_lc3, evT_and, evT_or, evT_not, evT_var, evT_cst, evT_glb, evT_fnv, evT_tup, evT_lst, evT_lmul, evT_dic, evT_dic1, evT_bin, evT_neg, evT_cmp, evT_chain, evT_ite, evT_idx, evT_slc, evT_rev, evT_call, evT_callv, evT_bi, evT_inst, evT_get, evT_lrng, evT_dcp, evT_dprs, evT_lc, evT_lc2, evT_lc3, opd_var, opd_cst, opd_glb, opd_fnv, opd_tup, opd_lst, opd_lmul, opd_dic, opd_dic1, opd_bin, opd_neg, opd_cmp, opd_chain, opd_and, opd_or, opd_not, opd_ite, opd_idx, opd_slc, opd_rev, opd_call, opd_callv, opd_bi, opd_inst, opd_get, opd_lrng, opd_dcp, opd_dprs, opd_lc, opd_lc2, opd_lc3, exS_set, exS_unp, exS_par, exS_parO, exS_store, exS_app, exS_expr, exS_ifs, exS_for_, exS_whil, exS_ret, exS_retv, exS_retN, exS_brk, exS_cont, exS_pass, exS_never, exSs_nil, exSs_cons, part_none, part_some, evIt, opds, vals, op2, cont, conts, Res.bind, Res.bindN, Res.sb, SRes.sq, lift, cmpP, binP, idxP, callP, finF, endF, backOf, isLent, SV.d, SV.lent, callR, lentOf, sharedSl, shLst, freezeSl, putBack, D.flat, tru, unpS, asg_tup, asg_ktup, asg_lst, asgs_cons, asgs_nil, setS_eq, asg_nm, free_none, free_dat, free_own, D.seq?, Z24, hasSlot, hasLst, modS, putAt, pushAt, retvS, lcFin, testO, DL.isP, keepO, List.replicate, h]
theorem for_nx {cf : Cf} {n : Nat} {T : Tg} {it : It} {b : List DL.S} {ρ ρ1 ρ2 : Env'} {ds : List D} (h1 : evIt (ev cf n) it ρ = .ok ds ρ1) (h2 : forGo (exSs cf n b) T ds ρ1 = .nx ρ2) : exS cf (n + 1) (.for_ T it b) ρ = .nx ρ2 := by
  rw [exS_for_, h1]
  exact h2
theorem levery_fin (cf : Cf) (x : Option SV) (R M : List D) (hR : rangeD 0 96 = R) (r96 : small62 96 = true) (e : forGo (exSs cf 97 [body59]) (.nm 1) R [some (.own (.lst [])), none, none] = .nx [some (.own (.lst M)), x, none]) :
    finF false (exSs cf 100 [.set 0 (.lst []), .for_ (.nm 1) (.rng (.cst (.int 96))) [body59], .retv 0] [none, none, none]) = .ok (.own (.lst M)) none := by
  have h1 : exS cf 99 (.set 0 (.lst [])) [none, none, none] = .nx [some (.own (.lst [])), none, none] := by simp [ev_var, ev_cst, ev_glb, ev_fnv, ev_tup, ev_lst, ev_lmul, ev_dic_false, ev_dic_true, ev_dic1, ev_bin, ev_neg, ev_cmp, ev_chain, ev_and, ev_or, ev_not, ev_ite, ev_idx, ev_slc, ev_rev, ev_call, ev_callv, ev_bi, ev_inst, ev_get, ev_lrng, ev_dcp, ev_dprs, ev_lc, ev_lc2, ev_lc3, evT_and, evT_or, evT_not, evT_var, evT_cst, evT_glb, evT_fnv, evT_tup, evT_lst, evT_lmul, evT_dic, evT_dic1, evT_bin, evT_neg, evT_cmp, evT_chain, evT_ite, evT_idx, evT_slc, evT_rev, evT_call, evT_callv, evT_bi, evT_inst, evT_get, evT_lrng, evT_dcp, evT_dprs, evT_lc, evT_lc2, evT_lc3, opd_var, opd_cst, opd_glb, opd_fnv, opd_tup, opd_lst, opd_lmul, opd_dic, opd_dic1, opd_bin, opd_neg, opd_cmp, opd_chain, opd_and, opd_or, opd_not, opd_ite, opd_idx, opd_slc, opd_rev, opd_call, opd_callv, opd_bi, opd_inst, opd_get, opd_lrng, opd_dcp, opd_dprs, opd_lc, opd_lc2, opd_lc3, exS_set, exS_unp, exS_par, exS_parO, exS_store, exS_app, exS_expr, exS_ifs, exS_for_, exS_whil, exS_ret, exS_retv, exS_retN, exS_brk, exS_cont, exS_pass, exS_never, exSs_nil, exSs_cons, part_none, part_some, evIt, opds, vals, op2, cont, conts, Res.bind, Res.bindN, Res.sb, SRes.sq, lift, cmpP, binP, idxP, callP, finF, endF, backOf, isLent, SV.d, SV.lent, callR, lentOf, sharedSl, shLst, freezeSl, putBack, D.flat, tru, unpS, asg_tup, asg_ktup, asg_lst, asgs_cons, asgs_nil, setS_eq, asg_nm, free_none, free_dat, free_own, D.seq?, Z24, hasSlot, hasLst, modS, putAt, pushAt, retvS, lcFin, testO, DL.isP, keepO, List.replicate]
  rw [exSs_step h1]
  have h2 : evIt (ev cf 97) (.rng (.cst (.int 96))) [some (.own (.lst [])), none, none] = .ok R [some (.own (.lst [])), none, none] := by rw [← hR]; exact rng_lit r96
  rw [exSs_step (for_nx h2 e)]
  clear h1 h2 e hR
  simp [ev_var, ev_cst, ev_glb, ev_fnv, ev_tup, ev_lst, ev_lmul, ev_dic_false, ev_dic_true, ev_dic1, ev_bin, ev_neg, ev_cmp, ev_chain, ev_and, ev_or, ev_not, ev_ite, ev_idx, ev_slc, ev_rev, ev_call, ev_callv, ev_bi, ev_inst, ev_get, ev_lrng, ev_dcp, ev_dprs, ev_lc, ev_lc2, ev_lc3, evT_and, evT_or, evT_not, evT_var, evT_cst, evT_glb, evT_fnv, evT_tup, evT_lst, evT_lmul, evT_dic, evT_dic1, evT_bin, evT_neg, evT_cmp, evT_chain, evT_ite, evT_idx, evT_slc, evT_rev, evT_call, evT_callv, evT_bi, evT_inst, evT_get, evT_lrng, evT_dcp, evT_dprs, evT_lc, evT_lc2, evT_lc3, opd_var, opd_cst, opd_glb, opd_fnv, opd_tup, opd_lst, opd_lmul, opd_dic, opd_dic1, opd_bin, opd_neg, opd_cmp, opd_chain, opd_and, opd_or, opd_not, opd_ite, opd_idx, opd_slc, opd_rev, opd_call, opd_callv, opd_bi, opd_inst, opd_get, opd_lrng, opd_dcp, opd_dprs, opd_lc, opd_lc2, opd_lc3, exS_set, exS_unp, exS_par, exS_parO, exS_store, exS_app, exS_expr, exS_ifs, exS_for_, exS_whil, exS_ret, exS_retv, exS_retN, exS_brk, exS_cont, exS_pass, exS_never, exSs_nil, exSs_cons, part_none, part_some, evIt, opds, vals, op2, cont, conts, Res.bind, Res.bindN, Res.sb, SRes.sq, lift, cmpP, binP, idxP, callP, finF, endF, backOf, isLent, SV.d, SV.lent, callR, lentOf, sharedSl, shLst, freezeSl, putBack, D.flat, tru, unpS, asg_tup, asg_ktup, asg_lst, asgs_cons, asgs_nil, setS_eq, asg_nm, free_none, free_dat, free_own, D.seq?, Z24, hasSlot, hasLst, modS, putAt, pushAt, retvS, lcFin, testO, DL.isP, keepO, List.replicate]
theorem levery_ok (k : Nat) : semK glob gvG 100 (k + 1) 59 [] = .ok (.own (.lst (everyL.map prD))) none := by
  rw [semK_eq g__law_every, if_pos ⟨rfl, rfl⟩]
  obtain ⟨x, e⟩ := levery_for (cfk k) 96 rfl
  rw [every_fold] at e
  exact levery_fin (cfk k) x _ _ rfl (by decide) e
theorem everyL_len : everyL.length = 4656 := by decide +kernel
/-- _law_bool -/
theorem lbool_ok (k : Nat) (a b : Bool) (h : a = b) : semK glob gvG 100 (k + 1) 56 [.dat (.bl a), .dat (.bl b)] = .ok (.dat (.bl true)) none := by
  subst h
  rw [semK_eq g__law_bool]
  have e : eqD (.bl a) (.bl a) = some true := eqD_self (n := 1) rfl
  simp [ev_var, ev_cst, ev_glb, ev_fnv, ev_tup, ev_lst, ev_lmul, ev_dic_false, ev_dic_true, ev_dic1, ev_bin, ev_neg, ev_cmp, ev_chain, ev_and, ev_or, ev_not, ev_ite, ev_idx, ev_slc, ev_rev, ev_call, ev_callv, ev_bi, ev_inst, ev_get, ev_lrng, ev_dcp, ev_dprs, ev_lc, ev_lc2, ev_lc3, evT_and, evT_or, evT_not, evT_var, evT_cst, evT_glb, evT_fnv, evT_tup, evT_lst, evT_lmul, evT_dic, evT_dic1, evT_bin, evT_neg, evT_cmp, evT_chain, evT_ite, evT_idx, evT_slc, evT_rev, evT_call, evT_callv, evT_bi, evT_inst, evT_get, evT_lrng, evT_dcp, evT_dprs, evT_lc, evT_lc2, evT_lc3, opd_var, opd_cst, opd_glb, opd_fnv, opd_tup, opd_lst, opd_lmul, opd_dic, opd_dic1, opd_bin, opd_neg, opd_cmp, opd_chain, opd_and, opd_or, opd_not, opd_ite, opd_idx, opd_slc, opd_rev, opd_call, opd_callv, opd_bi, opd_inst, opd_get, opd_lrng, opd_dcp, opd_dprs, opd_lc, opd_lc2, opd_lc3, exS_set, exS_unp, exS_par, exS_parO, exS_store, exS_app, exS_expr, exS_ifs, exS_for_, exS_whil, exS_ret, exS_retv, exS_retN, exS_brk, exS_cont, exS_pass, exS_never, exSs_nil, exSs_cons, part_none, part_some, evIt, opds, vals, op2, cont, conts, Res.bind, Res.bindN, Res.sb, SRes.sq, lift, cmpP, binP, idxP, callP, finF, endF, backOf, isLent, SV.d, SV.lent, callR, lentOf, sharedSl, shLst, freezeSl, putBack, D.flat, tru, unpS, asg_tup, asg_ktup, asg_lst, asgs_cons, asgs_nil, setS_eq, asg_nm, free_none, free_dat, free_own, D.seq?, Z24, hasSlot, hasLst, modS, putAt, pushAt, retvS, lcFin, testO, DL.isP, keepO, List.replicate, F__law_bool, e, instP]
end DL

namespace DL
open PySem PySem.Spec PyProof.Rows L2
section
variable {cf : Cf} {m : Mn} {x0 x1 x2 x3 x4 x5 x6 x7 x8 x9 x10 x11 x12 x13 x14 x15 x16 : Option SV} {rest : Env'}
theorem s0_22 {sc : D} {j : Int} {x : Int} {dk : D} {ds : List D} (hs : sc = .lst ds) (ex : L2.atI (ds ++ (List.replicate 3 [D.int 0]).flatten) j = some (.int x)) (hl : ds.length ≤ 63) (e1 : cf.run 5 [.dat (.int x), .dat (.int j)] = .ok (.own dk) none) (g : cf.lend 5 = false) (nf : ∃ l, dk = .lst l) (h2 : free x2 = true) :
    exS cf 97 (.set 2 (.call 5 [.idx (.bin .Add (.var 0) (.lmul [.cst (.int 0)] (.cst (.int 3)))) (.var 1), .var 1])) (some (.dat sc) :: some (.dat (.int j)) :: x2 :: rest) = .nx (some (.dat sc) :: some (.dat (.int j)) :: some (.own dk) :: rest) := by
  subst hs
  obtain ⟨l, rfl⟩ := nf
  have z : ds.length + 3 ≤ 16777216 := by omega
  simp only [List.replicate, List.flatten_cons, List.flatten_nil, List.cons_append, List.nil_append] at ex
  simp [ev_var, ev_cst, ev_glb, ev_fnv, ev_tup, ev_lst, ev_lmul, ev_dic_false, ev_dic_true, ev_dic1, ev_bin, ev_neg, ev_cmp, ev_chain, ev_and, ev_or, ev_not, ev_ite, ev_idx, ev_slc, ev_rev, ev_call, ev_callv, ev_bi, ev_inst, ev_get, ev_lrng, ev_dcp, ev_dprs, ev_lc, ev_lc2, ev_lc3, evT_and, evT_or, evT_not, evT_var, evT_cst, evT_glb, evT_fnv, evT_tup, evT_lst, evT_lmul, evT_dic, evT_dic1, evT_bin, evT_neg, evT_cmp, evT_chain, evT_ite, evT_idx, evT_slc, evT_rev, evT_call, evT_callv, evT_bi, evT_inst, evT_get, evT_lrng, evT_dcp, evT_dprs, evT_lc, evT_lc2, evT_lc3, opd_var, opd_cst, opd_glb, opd_fnv, opd_tup, opd_lst, opd_lmul, opd_dic, opd_dic1, opd_bin, opd_neg, opd_cmp, opd_chain, opd_and, opd_or, opd_not, opd_ite, opd_idx, opd_slc, opd_rev, opd_call, opd_callv, opd_bi, opd_inst, opd_get, opd_lrng, opd_dcp, opd_dprs, opd_lc, opd_lc2, opd_lc3, exS_set, exS_unp, exS_par, exS_parO, exS_store, exS_app, exS_expr, exS_ifs, exS_for_, exS_whil, exS_ret, exS_retv, exS_retN, exS_brk, exS_cont, exS_pass, exS_never, exSs_nil, exSs_cons, part_none, part_some, evIt, opds, vals, op2, cont, conts, Res.bind, Res.bindN, Res.sb, SRes.sq, lift, cmpP, binP, idxP, callP, finF, endF, backOf, isLent, SV.d, SV.lent, callR, lentOf, sharedSl, shLst, freezeSl, putBack, D.flat, tru, unpS, asg_tup, asg_ktup, asg_lst, asgs_cons, asgs_nil, setS_eq, asg_nm, free_none, free_dat, free_own, D.seq?, Z24, hasSlot, hasLst, modS, putAt, pushAt, retvS, lcFin, testO, DL.isP, keepO, List.replicate, z, ex, e1, g, h2]
theorem s1_22 {dk dk1 : D} (e2 : cf.run 10 [.bor dk] = .ok (.dat m.d) (some dk1)) (g : cf.lend 10 = true) (h3 : free x3 = true) (h4 : free x4 = true) :
    exS cf 96 (.parO false 3 4 (.call 10 [.var 2]) (.lst [])) (x0 :: x1 :: some (.own dk) :: x3 :: x4 :: rest) = .nx (x0 :: x1 :: some (.own dk1) :: some (.dat m.d) :: some (.own (.lst [])) :: rest) := by
  simp only [Mn.d] at e2 ⊢
  simp [ev_var, ev_cst, ev_glb, ev_fnv, ev_tup, ev_lst, ev_lmul, ev_dic_false, ev_dic_true, ev_dic1, ev_bin, ev_neg, ev_cmp, ev_chain, ev_and, ev_or, ev_not, ev_ite, ev_idx, ev_slc, ev_rev, ev_call, ev_callv, ev_bi, ev_inst, ev_get, ev_lrng, ev_dcp, ev_dprs, ev_lc, ev_lc2, ev_lc3, evT_and, evT_or, evT_not, evT_var, evT_cst, evT_glb, evT_fnv, evT_tup, evT_lst, evT_lmul, evT_dic, evT_dic1, evT_bin, evT_neg, evT_cmp, evT_chain, evT_ite, evT_idx, evT_slc, evT_rev, evT_call, evT_callv, evT_bi, evT_inst, evT_get, evT_lrng, evT_dcp, evT_dprs, evT_lc, evT_lc2, evT_lc3, opd_var, opd_cst, opd_glb, opd_fnv, opd_tup, opd_lst, opd_lmul, opd_dic, opd_dic1, opd_bin, opd_neg, opd_cmp, opd_chain, opd_and, opd_or, opd_not, opd_ite, opd_idx, opd_slc, opd_rev, opd_call, opd_callv, opd_bi, opd_inst, opd_get, opd_lrng, opd_dcp, opd_dprs, opd_lc, opd_lc2, opd_lc3, exS_set, exS_unp, exS_par, exS_parO, exS_store, exS_app, exS_expr, exS_ifs, exS_for_, exS_whil, exS_ret, exS_retv, exS_retN, exS_brk, exS_cont, exS_pass, exS_never, exSs_nil, exSs_cons, part_none, part_some, evIt, opds, vals, op2, cont, conts, Res.bind, Res.bindN, Res.sb, SRes.sq, lift, cmpP, binP, idxP, callP, finF, endF, backOf, isLent, SV.d, SV.lent, callR, lentOf, sharedSl, shLst, freezeSl, putBack, D.flat, tru, unpS, asg_tup, asg_ktup, asg_lst, asgs_cons, asgs_nil, setS_eq, asg_nm, free_none, free_dat, free_own, D.seq?, Z24, hasSlot, hasLst, modS, putAt, pushAt, retvS, lcFin, testO, DL.isP, keepO, List.replicate, e2, g, h3, h4]
theorem s3_22 {L : List D} (e4 : cf.run 175 [.dat m.d] = .ok (.own (.lst L)) none) (g : cf.lend 175 = false) (h8 : free x8 = true) :
    exS cf 94 (.set 8 (.call 175 [.var 3])) (x0 :: x1 :: x2 :: some (.dat m.d) :: x4 :: x5 :: x6 :: x7 :: x8 :: rest) = .nx (x0 :: x1 :: x2 :: some (.dat m.d) :: x4 :: x5 :: x6 :: x7 :: some (.own (.lst L)) :: rest) := by
  simp only [Mn.d] at e4 ⊢
  simp [ev_var, ev_cst, ev_glb, ev_fnv, ev_tup, ev_lst, ev_lmul, ev_dic_false, ev_dic_true, ev_dic1, ev_bin, ev_neg, ev_cmp, ev_chain, ev_and, ev_or, ev_not, ev_ite, ev_idx, ev_slc, ev_rev, ev_call, ev_callv, ev_bi, ev_inst, ev_get, ev_lrng, ev_dcp, ev_dprs, ev_lc, ev_lc2, ev_lc3, evT_and, evT_or, evT_not, evT_var, evT_cst, evT_glb, evT_fnv, evT_tup, evT_lst, evT_lmul, evT_dic, evT_dic1, evT_bin, evT_neg, evT_cmp, evT_chain, evT_ite, evT_idx, evT_slc, evT_rev, evT_call, evT_callv, evT_bi, evT_inst, evT_get, evT_lrng, evT_dcp, evT_dprs, evT_lc, evT_lc2, evT_lc3, opd_var, opd_cst, opd_glb, opd_fnv, opd_tup, opd_lst, opd_lmul, opd_dic, opd_dic1, opd_bin, opd_neg, opd_cmp, opd_chain, opd_and, opd_or, opd_not, opd_ite, opd_idx, opd_slc, opd_rev, opd_call, opd_callv, opd_bi, opd_inst, opd_get, opd_lrng, opd_dcp, opd_dprs, opd_lc, opd_lc2, opd_lc3, exS_set, exS_unp, exS_par, exS_parO, exS_store, exS_app, exS_expr, exS_ifs, exS_for_, exS_whil, exS_ret, exS_retv, exS_retN, exS_brk, exS_cont, exS_pass, exS_never, exSs_nil, exSs_cons, part_none, part_some, evIt, opds, vals, op2, cont, conts, Res.bind, Res.bindN, Res.sb, SRes.sq, lift, cmpP, binP, idxP, callP, finF, endF, backOf, isLent, SV.d, SV.lent, callR, lentOf, sharedSl, shLst, freezeSl, putBack, D.flat, tru, unpS, asg_tup, asg_ktup, asg_lst, asgs_cons, asgs_nil, setS_eq, asg_nm, free_none, free_dat, free_own, D.seq?, Z24, hasSlot, hasLst, modS, putAt, pushAt, retvS, lcFin, testO, DL.isP, keepO, List.replicate, e4, g, h8]
theorem s4_22 {L : List D} (e5 : cf.run 25 [.dat (.lst L), .dat (.lst L)] = .ok (.dat (.bl true)) none) (g : cf.lend 25 = false) :
    exS cf 93 (.ifs (.not (.call 25 [.var 8, .var 4])) [.ret (.cst (.bl false))] []) (x0 :: x1 :: x2 :: x3 :: some (.own (.lst L)) :: x5 :: x6 :: x7 :: some (.own (.lst L)) :: rest) = .nx (x0 :: x1 :: x2 :: x3 :: some (.own (.lst L)) :: x5 :: x6 :: x7 :: some (.own (.lst L)) :: rest) := by
  simp [ev_var, ev_cst, ev_glb, ev_fnv, ev_tup, ev_lst, ev_lmul, ev_dic_false, ev_dic_true, ev_dic1, ev_bin, ev_neg, ev_cmp, ev_chain, ev_and, ev_or, ev_not, ev_ite, ev_idx, ev_slc, ev_rev, ev_call, ev_callv, ev_bi, ev_inst, ev_get, ev_lrng, ev_dcp, ev_dprs, ev_lc, ev_lc2, ev_lc3, evT_and, evT_or, evT_not, evT_var, evT_cst, evT_glb, evT_fnv, evT_tup, evT_lst, evT_lmul, evT_dic, evT_dic1, evT_bin, evT_neg, evT_cmp, evT_chain, evT_ite, evT_idx, evT_slc, evT_rev, evT_call, evT_callv, evT_bi, evT_inst, evT_get, evT_lrng, evT_dcp, evT_dprs, evT_lc, evT_lc2, evT_lc3, opd_var, opd_cst, opd_glb, opd_fnv, opd_tup, opd_lst, opd_lmul, opd_dic, opd_dic1, opd_bin, opd_neg, opd_cmp, opd_chain, opd_and, opd_or, opd_not, opd_ite, opd_idx, opd_slc, opd_rev, opd_call, opd_callv, opd_bi, opd_inst, opd_get, opd_lrng, opd_dcp, opd_dprs, opd_lc, opd_lc2, opd_lc3, exS_set, exS_unp, exS_par, exS_parO, exS_store, exS_app, exS_expr, exS_ifs, exS_for_, exS_whil, exS_ret, exS_retv, exS_retN, exS_brk, exS_cont, exS_pass, exS_never, exSs_nil, exSs_cons, part_none, part_some, evIt, opds, vals, op2, cont, conts, Res.bind, Res.bindN, Res.sb, SRes.sq, lift, cmpP, binP, idxP, callP, finF, endF, backOf, isLent, SV.d, SV.lent, callR, lentOf, sharedSl, shLst, freezeSl, putBack, D.flat, tru, unpS, asg_tup, asg_ktup, asg_lst, asgs_cons, asgs_nil, setS_eq, asg_nm, free_none, free_dat, free_own, D.seq?, Z24, hasSlot, hasLst, modS, putAt, pushAt, retvS, lcFin, testO, DL.isP, keepO, List.replicate, e5, g]
theorem s5_22 {L : List D} (z : L.length < 16777216) :
    exS cf 92 (.app 8 (.cst .non)) (x0 :: x1 :: x2 :: x3 :: x4 :: x5 :: x6 :: x7 :: some (.own (.lst L)) :: rest) = .nx (x0 :: x1 :: x2 :: x3 :: x4 :: x5 :: x6 :: x7 :: some (.own (.lst (L ++ [.non]))) :: rest) := by
  simp [ev_var, ev_cst, ev_glb, ev_fnv, ev_tup, ev_lst, ev_lmul, ev_dic_false, ev_dic_true, ev_dic1, ev_bin, ev_neg, ev_cmp, ev_chain, ev_and, ev_or, ev_not, ev_ite, ev_idx, ev_slc, ev_rev, ev_call, ev_callv, ev_bi, ev_inst, ev_get, ev_lrng, ev_dcp, ev_dprs, ev_lc, ev_lc2, ev_lc3, evT_and, evT_or, evT_not, evT_var, evT_cst, evT_glb, evT_fnv, evT_tup, evT_lst, evT_lmul, evT_dic, evT_dic1, evT_bin, evT_neg, evT_cmp, evT_chain, evT_ite, evT_idx, evT_slc, evT_rev, evT_call, evT_callv, evT_bi, evT_inst, evT_get, evT_lrng, evT_dcp, evT_dprs, evT_lc, evT_lc2, evT_lc3, opd_var, opd_cst, opd_glb, opd_fnv, opd_tup, opd_lst, opd_lmul, opd_dic, opd_dic1, opd_bin, opd_neg, opd_cmp, opd_chain, opd_and, opd_or, opd_not, opd_ite, opd_idx, opd_slc, opd_rev, opd_call, opd_callv, opd_bi, opd_inst, opd_get, opd_lrng, opd_dcp, opd_dprs, opd_lc, opd_lc2, opd_lc3, exS_set, exS_unp, exS_par, exS_parO, exS_store, exS_app, exS_expr, exS_ifs, exS_for_, exS_whil, exS_ret, exS_retv, exS_retN, exS_brk, exS_cont, exS_pass, exS_never, exSs_nil, exSs_cons, part_none, part_some, evIt, opds, vals, op2, cont, conts, Res.bind, Res.bindN, Res.sb, SRes.sq, lift, cmpP, binP, idxP, callP, finF, endF, backOf, isLent, SV.d, SV.lent, callR, lentOf, sharedSl, shLst, freezeSl, putBack, D.flat, tru, unpS, asg_tup, asg_ktup, asg_lst, asgs_cons, asgs_nil, setS_eq, asg_nm, free_none, free_dat, free_own, D.seq?, Z24, hasSlot, hasLst, modS, putAt, pushAt, retvS, lcFin, testO, DL.isP, keepO, List.replicate, z]
def lc6 : Q := .lc [9] (.nm 9) (.seq (.var 4)) (some (.cmp .NotEq (.call 79 [.bin .Add (.bin .Add (.slc (.var 3) none (some (.cst (.int 1)))) (.tup [.var 9])) (.slc (.var 3) (some (.cst (.int 2))) none)]) (.tup [.cst (.int 0), .cst (.int 1)]))) (.cst (.int 1))
theorem lc6_ok {L : List Rnd} {f : Rnd → D} (hl : L.length ≤ 16777216) (e6 : ∀ r ∈ L, cf.run 79 [.dat (.tup [m.i.d, r.d, .tup (m.br.map prD), optD m.dl, optD m.wl])] = .ok (.dat (f r)) none ∧ eqD (f r) (.tup [.int 0, .int 1]) = some true) (g : cf.lend 79 = false) {n : Nat} :
    ev cf (n + 20) lc6 (x0 :: x1 :: x2 :: some (.dat m.d) :: some (.own (.lst (L.map Rnd.d))) :: x5 :: x6 :: x7 :: x8 :: none :: rest) = .ok (.own (.lst [])) (x0 :: x1 :: x2 :: some (.dat m.d) :: some (.dat (.lst (L.map Rnd.d))) :: x5 :: x6 :: x7 :: x8 :: none :: rest) := by
  have e : ∀ u, lcGo (ev cf (n + 19) (.cst (.int 1))) (testO (evT cf (n + 19)) (some (.cmp .NotEq (.call 79 [.bin .Add (.bin .Add (.slc (.var 3) none (some (.cst (.int 1)))) (.tup [.var 9])) (.slc (.var 3) (some (.cst (.int 2))) none)]) (.tup [.cst (.int 0), .cst (.int 1)])))) [9] (.nm 9) (L.map Rnd.d) [] (x0 :: x1 :: x2 :: some (.dat m.d) :: u :: x5 :: x6 :: x7 :: x8 :: none :: rest)
      = .ok [] (x0 :: x1 :: x2 :: some (.dat m.d) :: u :: x5 :: x6 :: x7 :: x8 :: none :: rest) := fun u => by
    have := lcGo_ok (fe := ev cf (n + 19) (.cst (.int 1))) (ft := testO (evT cf (n + 19)) (some (.cmp .NotEq (.call 79 [.bin .Add (.bin .Add (.slc (.var 3) none (some (.cst (.int 1)))) (.tup [.var 9])) (.slc (.var 3) (some (.cst (.int 2))) none)]) (.tup [.cst (.int 0), .cst (.int 1)])))) (vs := [9]) (T := .nm 9) (ρ := (x0 :: x1 :: x2 :: some (.dat m.d) :: u :: x5 :: x6 :: x7 :: x8 :: none :: rest))
      Rnd.d (fun _ => .non) (fun _ => false) L [] (fun r hr => ⟨x0 :: x1 :: x2 :: some (.dat m.d) :: u :: x5 :: x6 :: x7 :: x8 :: some (.dat r.d) :: rest, by simp [ev_var, ev_cst, ev_glb, ev_fnv, ev_tup, ev_lst, ev_lmul, ev_dic_false, ev_dic_true, ev_dic1, ev_bin, ev_neg, ev_cmp, ev_chain, ev_and, ev_or, ev_not, ev_ite, ev_idx, ev_slc, ev_rev, ev_call, ev_callv, ev_bi, ev_inst, ev_get, ev_lrng, ev_dcp, ev_dprs, ev_lc, ev_lc2, ev_lc3, evT_and, evT_or, evT_not, evT_var, evT_cst, evT_glb, evT_fnv, evT_tup, evT_lst, evT_lmul, evT_dic, evT_dic1, evT_bin, evT_neg, evT_cmp, evT_chain, evT_ite, evT_idx, evT_slc, evT_rev, evT_call, evT_callv, evT_bi, evT_inst, evT_get, evT_lrng, evT_dcp, evT_dprs, evT_lc, evT_lc2, evT_lc3, opd_var, opd_cst, opd_glb, opd_fnv, opd_tup, opd_lst, opd_lmul, opd_dic, opd_dic1, opd_bin, opd_neg, opd_cmp, opd_chain, opd_and, opd_or, opd_not, opd_ite, opd_idx, opd_slc, opd_rev, opd_call, opd_callv, opd_bi, opd_inst, opd_get, opd_lrng, opd_dcp, opd_dprs, opd_lc, opd_lc2, opd_lc3, exS_set, exS_unp, exS_par, exS_parO, exS_store, exS_app, exS_expr, exS_ifs, exS_for_, exS_whil, exS_ret, exS_retv, exS_retN, exS_brk, exS_cont, exS_pass, exS_never, exSs_nil, exSs_cons, part_none, part_some, evIt, opds, vals, op2, cont, conts, Res.bind, Res.bindN, Res.sb, SRes.sq, lift, cmpP, binP, idxP, callP, finF, endF, backOf, isLent, SV.d, SV.lent, callR, lentOf, sharedSl, shLst, freezeSl, putBack, D.flat, tru, unpS, asg_tup, asg_ktup, asg_lst, asgs_cons, asgs_nil, setS_eq, asg_nm, free_none, free_dat, free_own, D.seq?, Z24, hasSlot, hasLst, modS, putAt, pushAt, retvS, lcFin, testO, DL.isP, keepO, List.replicate], by
        obtain ⟨e7, e8⟩ := e6 r hr
        generalize f r = fr at *
        simp only [Mn.d] at e7 ⊢
        simp [ev_var, ev_cst, ev_glb, ev_fnv, ev_tup, ev_lst, ev_lmul, ev_dic_false, ev_dic_true, ev_dic1, ev_bin, ev_neg, ev_cmp, ev_chain, ev_and, ev_or, ev_not, ev_ite, ev_idx, ev_slc, ev_rev, ev_call, ev_callv, ev_bi, ev_inst, ev_get, ev_lrng, ev_dcp, ev_dprs, ev_lc, ev_lc2, ev_lc3, evT_and, evT_or, evT_not, evT_var, evT_cst, evT_glb, evT_fnv, evT_tup, evT_lst, evT_lmul, evT_dic, evT_dic1, evT_bin, evT_neg, evT_cmp, evT_chain, evT_ite, evT_idx, evT_slc, evT_rev, evT_call, evT_callv, evT_bi, evT_inst, evT_get, evT_lrng, evT_dcp, evT_dprs, evT_lc, evT_lc2, evT_lc3, opd_var, opd_cst, opd_glb, opd_fnv, opd_tup, opd_lst, opd_lmul, opd_dic, opd_dic1, opd_bin, opd_neg, opd_cmp, opd_chain, opd_and, opd_or, opd_not, opd_ite, opd_idx, opd_slc, opd_rev, opd_call, opd_callv, opd_bi, opd_inst, opd_get, opd_lrng, opd_dcp, opd_dprs, opd_lc, opd_lc2, opd_lc3, exS_set, exS_unp, exS_par, exS_parO, exS_store, exS_app, exS_expr, exS_ifs, exS_for_, exS_whil, exS_ret, exS_retv, exS_retN, exS_brk, exS_cont, exS_pass, exS_never, exSs_nil, exSs_cons, part_none, part_some, evIt, opds, vals, op2, cont, conts, Res.bind, Res.bindN, Res.sb, SRes.sq, lift, cmpP, binP, idxP, callP, finF, endF, backOf, isLent, SV.d, SV.lent, callR, lentOf, sharedSl, shLst, freezeSl, putBack, D.flat, tru, unpS, asg_tup, asg_ktup, asg_lst, asgs_cons, asgs_nil, setS_eq, asg_nm, free_none, free_dat, free_own, D.seq?, Z24, hasSlot, hasLst, modS, putAt, pushAt, retvS, lcFin, testO, DL.isP, keepO, List.replicate, cut1, cut2, e7, g, e8, slP], fun z => (by cases z), rfl, rfl⟩) (by simp [Z24]; exact hl)
    rw [filter_no] at this
    exact this
  generalize L.map Rnd.d = A at *
  unfold lc6
  simp [ev_var, ev_cst, ev_glb, ev_fnv, ev_tup, ev_lst, ev_lmul, ev_dic_false, ev_dic_true, ev_dic1, ev_bin, ev_neg, ev_cmp, ev_chain, ev_and, ev_or, ev_not, ev_ite, ev_idx, ev_slc, ev_rev, ev_call, ev_callv, ev_bi, ev_inst, ev_get, ev_lrng, ev_dcp, ev_dprs, ev_lc, ev_lc2, ev_lc3, evT_and, evT_or, evT_not, evT_var, evT_cst, evT_glb, evT_fnv, evT_tup, evT_lst, evT_lmul, evT_dic, evT_dic1, evT_bin, evT_neg, evT_cmp, evT_chain, evT_ite, evT_idx, evT_slc, evT_rev, evT_call, evT_callv, evT_bi, evT_inst, evT_get, evT_lrng, evT_dcp, evT_dprs, evT_lc, evT_lc2, evT_lc3, opd_var, opd_cst, opd_glb, opd_fnv, opd_tup, opd_lst, opd_lmul, opd_dic, opd_dic1, opd_bin, opd_neg, opd_cmp, opd_chain, opd_and, opd_or, opd_not, opd_ite, opd_idx, opd_slc, opd_rev, opd_call, opd_callv, opd_bi, opd_inst, opd_get, opd_lrng, opd_dcp, opd_dprs, opd_lc, opd_lc2, opd_lc3, exS_set, exS_unp, exS_par, exS_parO, exS_store, exS_app, exS_expr, exS_ifs, exS_for_, exS_whil, exS_ret, exS_retv, exS_retN, exS_brk, exS_cont, exS_pass, exS_never, exSs_nil, exSs_cons, part_none, part_some, evIt, opds, vals, op2, cont, conts, Res.bind, Res.bindN, Res.sb, SRes.sq, lift, cmpP, binP, idxP, callP, finF, endF, backOf, isLent, SV.d, SV.lent, callR, lentOf, sharedSl, shLst, freezeSl, putBack, D.flat, tru, unpS, asg_tup, asg_ktup, asg_lst, asgs_cons, asgs_nil, setS_eq, asg_nm, free_none, free_dat, free_own, D.seq?, Z24, hasSlot, hasLst, modS, putAt, pushAt, retvS, lcFin, testO, DL.isP, keepO, List.replicate, e, tame, wipeR, backR]
theorem s6_22 {L : List Rnd} {f : Rnd → D} (hl : L.length ≤ 16777216) (e4 : cf.run 175 [.dat m.d] = .ok (.own (.lst (L.map Rnd.d))) none) (g4 : cf.lend 175 = false) (e6 : ∀ r ∈ L, cf.run 79 [.dat (.tup [m.i.d, r.d, .tup (m.br.map prD), optD m.dl, optD m.wl])] = .ok (.dat (f r)) none ∧ eqD (f r) (.tup [.int 0, .int 1]) = some true) (g : cf.lend 79 = false) :
    exS cf 91 (.ifs (.or (.cmp .NotEq (.bi .len [.call 175 [.var 3]]) (.bi .len [.var 4])) (.cmp .NotEq lc6 (.lst []))) [.ret (.cst (.bl false))] []) (x0 :: x1 :: x2 :: some (.dat m.d) :: some (.own (.lst (L.map Rnd.d))) :: x5 :: x6 :: x7 :: x8 :: none :: rest) = .nx (x0 :: x1 :: x2 :: some (.dat m.d) :: some (.dat (.lst (L.map Rnd.d))) :: x5 :: x6 :: x7 :: x8 :: none :: rest) := by
  have e := fun n => lc6_ok (cf := cf) (x0 := x0) (x1 := x1) (x2 := x2) (x5 := x5) (x6 := x6) (x7 := x7) (x8 := x8) (rest := rest) hl e6 g (n := n)
  have o : ∀ n, opd (ev cf (n + 20)) lc6 (x0 :: x1 :: x2 :: some (.dat m.d) :: some (.own (.lst (L.map Rnd.d))) :: x5 :: x6 :: x7 :: x8 :: none :: rest) = .ok (.dd (.lst [])) (x0 :: x1 :: x2 :: some (.dat m.d) :: some (.dat (.lst (L.map Rnd.d))) :: x5 :: x6 :: x7 :: x8 :: none :: rest) := fun n => by
    show Res.bind (ev cf (n + 20) lc6 _) _ = _
    rw [e n]
    rfl
  have o1 := o 67
  clear e o e6
  generalize L.map Rnd.d = A at *
  simp only [Mn.d, Nat.reduceAdd] at e4 o1 ⊢
  simp [ev_var, ev_cst, ev_glb, ev_fnv, ev_tup, ev_lst, ev_lmul, ev_dic_false, ev_dic_true, ev_dic1, ev_bin, ev_neg, ev_cmp, ev_chain, ev_and, ev_or, ev_not, ev_ite, ev_idx, ev_slc, ev_rev, ev_call, ev_callv, ev_bi, ev_inst, ev_get, ev_lrng, ev_dcp, ev_dprs, ev_lc, ev_lc2, ev_lc3, evT_and, evT_or, evT_not, evT_var, evT_cst, evT_glb, evT_fnv, evT_tup, evT_lst, evT_lmul, evT_dic, evT_dic1, evT_bin, evT_neg, evT_cmp, evT_chain, evT_ite, evT_idx, evT_slc, evT_rev, evT_call, evT_callv, evT_bi, evT_inst, evT_get, evT_lrng, evT_dcp, evT_dprs, evT_lc, evT_lc2, evT_lc3, opd_var, opd_cst, opd_glb, opd_fnv, opd_tup, opd_lst, opd_lmul, opd_dic, opd_dic1, opd_bin, opd_neg, opd_cmp, opd_chain, opd_and, opd_or, opd_not, opd_ite, opd_idx, opd_slc, opd_rev, opd_call, opd_callv, opd_bi, opd_inst, opd_get, opd_lrng, opd_dcp, opd_dprs, opd_lc, opd_lc2, opd_lc3, exS_set, exS_unp, exS_par, exS_parO, exS_store, exS_app, exS_expr, exS_ifs, exS_for_, exS_whil, exS_ret, exS_retv, exS_retN, exS_brk, exS_cont, exS_pass, exS_never, exSs_nil, exSs_cons, part_none, part_some, evIt, opds, vals, op2, cont, conts, Res.bind, Res.bindN, Res.sb, SRes.sq, lift, cmpP, binP, idxP, callP, finF, endF, backOf, isLent, SV.d, SV.lent, callR, lentOf, sharedSl, shLst, freezeSl, putBack, D.flat, tru, unpS, asg_tup, asg_ktup, asg_lst, asgs_cons, asgs_nil, setS_eq, asg_nm, free_none, free_dat, free_own, D.seq?, Z24, hasSlot, hasLst, modS, putAt, pushAt, retvS, lcFin, testO, DL.isP, keepO, List.replicate, e4, g4, o1, eqI0]
def qin (r : Nat) (b : Bool) : Q := .lc [12] (.nm 12) (.rng (.cst (.int 97))) none (.call 26 [.idx (.var 3) (.cst (.int (r : Int))), .var 12, .cst (.bl b)])
theorem lcI_ok {n : Nat} (e : ∀ t : Int, cf.run 26 [.dat m.i.d, .dat (.int t), .dat (.bl true)] = .ok (.dat (.int (cameI m.i t))) none) (g : cf.lend 26 = false) :
    ev cf (n + 20) (.lc [12] (.nm 12) (.rng (.cst (.int 97))) none (.call 26 [.idx (.var 3) (.cst (.int 0)), .var 12, .cst (.bl true)])) (x0 :: x1 :: x2 :: some (.dat m.d) :: x4 :: x5 :: x6 :: x7 :: x8 :: x9 :: x10 :: x11 :: none :: rest) = .ok (.own (.lst (insL m))) (x0 :: x1 :: x2 :: some (.dat m.d) :: x4 :: x5 :: x6 :: x7 :: x8 :: x9 :: x10 :: x11 :: none :: rest) := by
  have s97 : small62 97 = true := by decide
  obtain ⟨R, hR⟩ : ∃ R, rangeD 0 97 = R := ⟨_, rfl⟩
  have el : lcGo (ev cf (n + 19) (.call 26 [.idx (.var 3) (.cst (.int 0)), .var 12, .cst (.bl true)])) (testO (evT cf (n + 19)) none) [12] (.nm 12) R [] (x0 :: x1 :: x2 :: some (.dat m.d) :: x4 :: x5 :: x6 :: x7 :: x8 :: x9 :: x10 :: x11 :: none :: rest) = .ok (insL m) (x0 :: x1 :: x2 :: some (.dat m.d) :: x4 :: x5 :: x6 :: x7 :: x8 :: x9 :: x10 :: x11 :: none :: rest) := by
    rw [← hR, r97]
    unfold insL
    refine lcGo_map _ _ _ (fun i hi => ⟨x0 :: x1 :: x2 :: some (.dat m.d) :: x4 :: x5 :: x6 :: x7 :: x8 :: x9 :: x10 :: x11 :: some (.dat (.int (0 + (i : Nat)))) :: rest, by simp [ev_var, ev_cst, ev_glb, ev_fnv, ev_tup, ev_lst, ev_lmul, ev_dic_false, ev_dic_true, ev_dic1, ev_bin, ev_neg, ev_cmp, ev_chain, ev_and, ev_or, ev_not, ev_ite, ev_idx, ev_slc, ev_rev, ev_call, ev_callv, ev_bi, ev_inst, ev_get, ev_lrng, ev_dcp, ev_dprs, ev_lc, ev_lc2, ev_lc3, evT_and, evT_or, evT_not, evT_var, evT_cst, evT_glb, evT_fnv, evT_tup, evT_lst, evT_lmul, evT_dic, evT_dic1, evT_bin, evT_neg, evT_cmp, evT_chain, evT_ite, evT_idx, evT_slc, evT_rev, evT_call, evT_callv, evT_bi, evT_inst, evT_get, evT_lrng, evT_dcp, evT_dprs, evT_lc, evT_lc2, evT_lc3, opd_var, opd_cst, opd_glb, opd_fnv, opd_tup, opd_lst, opd_lmul, opd_dic, opd_dic1, opd_bin, opd_neg, opd_cmp, opd_chain, opd_and, opd_or, opd_not, opd_ite, opd_idx, opd_slc, opd_rev, opd_call, opd_callv, opd_bi, opd_inst, opd_get, opd_lrng, opd_dcp, opd_dprs, opd_lc, opd_lc2, opd_lc3, exS_set, exS_unp, exS_par, exS_parO, exS_store, exS_app, exS_expr, exS_ifs, exS_for_, exS_whil, exS_ret, exS_retv, exS_retN, exS_brk, exS_cont, exS_pass, exS_never, exSs_nil, exSs_cons, part_none, part_some, evIt, opds, vals, op2, cont, conts, Res.bind, Res.bindN, Res.sb, SRes.sq, lift, cmpP, binP, idxP, callP, finF, endF, backOf, isLent, SV.d, SV.lent, callR, lentOf, sharedSl, shLst, freezeSl, putBack, D.flat, tru, unpS, asg_tup, asg_ktup, asg_lst, asgs_cons, asgs_nil, setS_eq, asg_nm, free_none, free_dat, free_own, D.seq?, Z24, hasSlot, hasLst, modS, putAt, pushAt, retvS, lcFin, testO, DL.isP, keepO, List.replicate], ⟨.dat (.int (cameI m.i (i : Nat))), ?_, rfl⟩, rfl, rfl⟩) (by rw [List.length_range]; decide)
    have ei := e (i : Nat)
    simp only [Mn.d] at ei ⊢
    simp [ev_var, ev_cst, ev_glb, ev_fnv, ev_tup, ev_lst, ev_lmul, ev_dic_false, ev_dic_true, ev_dic1, ev_bin, ev_neg, ev_cmp, ev_chain, ev_and, ev_or, ev_not, ev_ite, ev_idx, ev_slc, ev_rev, ev_call, ev_callv, ev_bi, ev_inst, ev_get, ev_lrng, ev_dcp, ev_dprs, ev_lc, ev_lc2, ev_lc3, evT_and, evT_or, evT_not, evT_var, evT_cst, evT_glb, evT_fnv, evT_tup, evT_lst, evT_lmul, evT_dic, evT_dic1, evT_bin, evT_neg, evT_cmp, evT_chain, evT_ite, evT_idx, evT_slc, evT_rev, evT_call, evT_callv, evT_bi, evT_inst, evT_get, evT_lrng, evT_dcp, evT_dprs, evT_lc, evT_lc2, evT_lc3, opd_var, opd_cst, opd_glb, opd_fnv, opd_tup, opd_lst, opd_lmul, opd_dic, opd_dic1, opd_bin, opd_neg, opd_cmp, opd_chain, opd_and, opd_or, opd_not, opd_ite, opd_idx, opd_slc, opd_rev, opd_call, opd_callv, opd_bi, opd_inst, opd_get, opd_lrng, opd_dcp, opd_dprs, opd_lc, opd_lc2, opd_lc3, exS_set, exS_unp, exS_par, exS_parO, exS_store, exS_app, exS_expr, exS_ifs, exS_for_, exS_whil, exS_ret, exS_retv, exS_retN, exS_brk, exS_cont, exS_pass, exS_never, exSs_nil, exSs_cons, part_none, part_some, evIt, opds, vals, op2, cont, conts, Res.bind, Res.bindN, Res.sb, SRes.sq, lift, cmpP, binP, idxP, callP, finF, endF, backOf, isLent, SV.d, SV.lent, callR, lentOf, sharedSl, shLst, freezeSl, putBack, D.flat, tru, unpS, asg_tup, asg_ktup, asg_lst, asgs_cons, asgs_nil, setS_eq, asg_nm, free_none, free_dat, free_own, D.seq?, Z24, hasSlot, hasLst, modS, putAt, pushAt, retvS, lcFin, testO, DL.isP, keepO, List.replicate, at0, ei, g]
  have it : evIt (ev cf (n + 19)) (.rng (.cst (.int 97))) (x0 :: x1 :: x2 :: some (.dat m.d) :: x4 :: x5 :: x6 :: x7 :: x8 :: x9 :: x10 :: x11 :: none :: rest) = .ok R (x0 :: x1 :: x2 :: some (.dat m.d) :: x4 :: x5 :: x6 :: x7 :: x8 :: x9 :: x10 :: x11 :: none :: rest) := by rw [← hR]; exact rng_lit s97
  rw [ev_lc]
  unfold lcFin
  rw [it]
  simp [Res.bind, tame, wipeR, el, backR]
theorem lcO_ok {n : Nat} (e : ∀ t : Int, cf.run 26 [.dat m.o.d, .dat (.int t), .dat (.bl false)] = .ok (.dat (.int (wentI m.o t))) none) (g : cf.lend 26 = false) :
    ev cf (n + 20) (.lc [12] (.nm 12) (.rng (.cst (.int 97))) none (.call 26 [.idx (.var 3) (.cst (.int 1)), .var 12, .cst (.bl false)])) (x0 :: x1 :: x2 :: some (.dat m.d) :: x4 :: x5 :: x6 :: x7 :: x8 :: x9 :: x10 :: x11 :: none :: rest) = .ok (.own (.lst (outsL m))) (x0 :: x1 :: x2 :: some (.dat m.d) :: x4 :: x5 :: x6 :: x7 :: x8 :: x9 :: x10 :: x11 :: none :: rest) := by
  have s97 : small62 97 = true := by decide
  obtain ⟨R, hR⟩ : ∃ R, rangeD 0 97 = R := ⟨_, rfl⟩
  have el : lcGo (ev cf (n + 19) (.call 26 [.idx (.var 3) (.cst (.int 1)), .var 12, .cst (.bl false)])) (testO (evT cf (n + 19)) none) [12] (.nm 12) R [] (x0 :: x1 :: x2 :: some (.dat m.d) :: x4 :: x5 :: x6 :: x7 :: x8 :: x9 :: x10 :: x11 :: none :: rest) = .ok (outsL m) (x0 :: x1 :: x2 :: some (.dat m.d) :: x4 :: x5 :: x6 :: x7 :: x8 :: x9 :: x10 :: x11 :: none :: rest) := by
    rw [← hR, r97]
    unfold outsL
    refine lcGo_map _ _ _ (fun i hi => ⟨x0 :: x1 :: x2 :: some (.dat m.d) :: x4 :: x5 :: x6 :: x7 :: x8 :: x9 :: x10 :: x11 :: some (.dat (.int (0 + (i : Nat)))) :: rest, by simp [ev_var, ev_cst, ev_glb, ev_fnv, ev_tup, ev_lst, ev_lmul, ev_dic_false, ev_dic_true, ev_dic1, ev_bin, ev_neg, ev_cmp, ev_chain, ev_and, ev_or, ev_not, ev_ite, ev_idx, ev_slc, ev_rev, ev_call, ev_callv, ev_bi, ev_inst, ev_get, ev_lrng, ev_dcp, ev_dprs, ev_lc, ev_lc2, ev_lc3, evT_and, evT_or, evT_not, evT_var, evT_cst, evT_glb, evT_fnv, evT_tup, evT_lst, evT_lmul, evT_dic, evT_dic1, evT_bin, evT_neg, evT_cmp, evT_chain, evT_ite, evT_idx, evT_slc, evT_rev, evT_call, evT_callv, evT_bi, evT_inst, evT_get, evT_lrng, evT_dcp, evT_dprs, evT_lc, evT_lc2, evT_lc3, opd_var, opd_cst, opd_glb, opd_fnv, opd_tup, opd_lst, opd_lmul, opd_dic, opd_dic1, opd_bin, opd_neg, opd_cmp, opd_chain, opd_and, opd_or, opd_not, opd_ite, opd_idx, opd_slc, opd_rev, opd_call, opd_callv, opd_bi, opd_inst, opd_get, opd_lrng, opd_dcp, opd_dprs, opd_lc, opd_lc2, opd_lc3, exS_set, exS_unp, exS_par, exS_parO, exS_store, exS_app, exS_expr, exS_ifs, exS_for_, exS_whil, exS_ret, exS_retv, exS_retN, exS_brk, exS_cont, exS_pass, exS_never, exSs_nil, exSs_cons, part_none, part_some, evIt, opds, vals, op2, cont, conts, Res.bind, Res.bindN, Res.sb, SRes.sq, lift, cmpP, binP, idxP, callP, finF, endF, backOf, isLent, SV.d, SV.lent, callR, lentOf, sharedSl, shLst, freezeSl, putBack, D.flat, tru, unpS, asg_tup, asg_ktup, asg_lst, asgs_cons, asgs_nil, setS_eq, asg_nm, free_none, free_dat, free_own, D.seq?, Z24, hasSlot, hasLst, modS, putAt, pushAt, retvS, lcFin, testO, DL.isP, keepO, List.replicate], ⟨.dat (.int (wentI m.o (i : Nat))), ?_, rfl⟩, rfl, rfl⟩) (by rw [List.length_range]; decide)
    have ei := e (i : Nat)
    simp only [Mn.d] at ei ⊢
    simp [ev_var, ev_cst, ev_glb, ev_fnv, ev_tup, ev_lst, ev_lmul, ev_dic_false, ev_dic_true, ev_dic1, ev_bin, ev_neg, ev_cmp, ev_chain, ev_and, ev_or, ev_not, ev_ite, ev_idx, ev_slc, ev_rev, ev_call, ev_callv, ev_bi, ev_inst, ev_get, ev_lrng, ev_dcp, ev_dprs, ev_lc, ev_lc2, ev_lc3, evT_and, evT_or, evT_not, evT_var, evT_cst, evT_glb, evT_fnv, evT_tup, evT_lst, evT_lmul, evT_dic, evT_dic1, evT_bin, evT_neg, evT_cmp, evT_chain, evT_ite, evT_idx, evT_slc, evT_rev, evT_call, evT_callv, evT_bi, evT_inst, evT_get, evT_lrng, evT_dcp, evT_dprs, evT_lc, evT_lc2, evT_lc3, opd_var, opd_cst, opd_glb, opd_fnv, opd_tup, opd_lst, opd_lmul, opd_dic, opd_dic1, opd_bin, opd_neg, opd_cmp, opd_chain, opd_and, opd_or, opd_not, opd_ite, opd_idx, opd_slc, opd_rev, opd_call, opd_callv, opd_bi, opd_inst, opd_get, opd_lrng, opd_dcp, opd_dprs, opd_lc, opd_lc2, opd_lc3, exS_set, exS_unp, exS_par, exS_parO, exS_store, exS_app, exS_expr, exS_ifs, exS_for_, exS_whil, exS_ret, exS_retv, exS_retN, exS_brk, exS_cont, exS_pass, exS_never, exSs_nil, exSs_cons, part_none, part_some, evIt, opds, vals, op2, cont, conts, Res.bind, Res.bindN, Res.sb, SRes.sq, lift, cmpP, binP, idxP, callP, finF, endF, backOf, isLent, SV.d, SV.lent, callR, lentOf, sharedSl, shLst, freezeSl, putBack, D.flat, tru, unpS, asg_tup, asg_ktup, asg_lst, asgs_cons, asgs_nil, setS_eq, asg_nm, free_none, free_dat, free_own, D.seq?, Z24, hasSlot, hasLst, modS, putAt, pushAt, retvS, lcFin, testO, DL.isP, keepO, List.replicate, at1, ei, g]
  have it : evIt (ev cf (n + 19)) (.rng (.cst (.int 97))) (x0 :: x1 :: x2 :: some (.dat m.d) :: x4 :: x5 :: x6 :: x7 :: x8 :: x9 :: x10 :: x11 :: none :: rest) = .ok R (x0 :: x1 :: x2 :: some (.dat m.d) :: x4 :: x5 :: x6 :: x7 :: x8 :: x9 :: x10 :: x11 :: none :: rest) := by rw [← hR]; exact rng_lit s97
  rw [ev_lc]
  unfold lcFin
  rw [it]
  simp [Res.bind, tame, wipeR, el, backR]
theorem s7_22 (e : ∀ t : Int, cf.run 26 [.dat m.i.d, .dat (.int t), .dat (.bl true)] = .ok (.dat (.int (cameI m.i t))) none) (e' : ∀ t : Int, cf.run 26 [.dat m.o.d, .dat (.int t), .dat (.bl false)] = .ok (.dat (.int (wentI m.o t))) none) (g : cf.lend 26 = false) (h10 : free x10 = true) (h11 : free x11 = true) :
    exS cf 90 (.unp [.nm 10, .nm 11] (.tup [.lc [12] (.nm 12) (.rng (.cst (.int 97))) none (.call 26 [.idx (.var 3) (.cst (.int 0)), .var 12, .cst (.bl true)]), .lc [12] (.nm 12) (.rng (.cst (.int 97))) none (.call 26 [.idx (.var 3) (.cst (.int 1)), .var 12, .cst (.bl false)])])) (x0 :: x1 :: x2 :: some (.dat m.d) :: x4 :: x5 :: x6 :: x7 :: x8 :: x9 :: x10 :: x11 :: none :: rest)
      = .nx (x0 :: x1 :: x2 :: some (.dat m.d) :: x4 :: x5 :: x6 :: x7 :: x8 :: x9 :: some (.dat (.lst (insL m))) :: some (.dat (.lst (outsL m))) :: none :: rest) := by
  have q1 := lcI_ok (x0 := x0) (x1 := x1) (x2 := x2) (x4 := x4) (x5 := x5) (x6 := x6) (x7 := x7) (x8 := x8) (x9 := x9) (x10 := x10) (x11 := x11) (rest := rest) (n := 68) e g
  have q2 := lcO_ok (x0 := x0) (x1 := x1) (x2 := x2) (x4 := x4) (x5 := x5) (x6 := x6) (x7 := x7) (x8 := x8) (x9 := x9) (x10 := x10) (x11 := x11) (rest := rest) (n := 68) e' g
  clear e e' g
  simp only [Nat.reduceAdd] at q1 q2
  generalize Q.lc _ _ _ _ (.call 26 [.idx (.var 3) (.cst (.int 0)), .var 12, .cst (.bl true)]) = c1 at *
  generalize Q.lc _ _ _ _ (.call 26 [.idx (.var 3) (.cst (.int 1)), .var 12, .cst (.bl false)]) = c2 at *
  simp [ev_var, ev_cst, ev_glb, ev_fnv, ev_tup, ev_lst, ev_lmul, ev_dic_false, ev_dic_true, ev_dic1, ev_bin, ev_neg, ev_cmp, ev_chain, ev_and, ev_or, ev_not, ev_ite, ev_idx, ev_slc, ev_rev, ev_call, ev_callv, ev_bi, ev_inst, ev_get, ev_lrng, ev_dcp, ev_dprs, ev_lc, ev_lc2, ev_lc3, evT_and, evT_or, evT_not, evT_var, evT_cst, evT_glb, evT_fnv, evT_tup, evT_lst, evT_lmul, evT_dic, evT_dic1, evT_bin, evT_neg, evT_cmp, evT_chain, evT_ite, evT_idx, evT_slc, evT_rev, evT_call, evT_callv, evT_bi, evT_inst, evT_get, evT_lrng, evT_dcp, evT_dprs, evT_lc, evT_lc2, evT_lc3, opd_var, opd_cst, opd_glb, opd_fnv, opd_tup, opd_lst, opd_lmul, opd_dic, opd_dic1, opd_bin, opd_neg, opd_cmp, opd_chain, opd_and, opd_or, opd_not, opd_ite, opd_idx, opd_slc, opd_rev, opd_call, opd_callv, opd_bi, opd_inst, opd_get, opd_lrng, opd_dcp, opd_dprs, opd_lc, opd_lc2, opd_lc3, exS_set, exS_unp, exS_par, exS_parO, exS_store, exS_app, exS_expr, exS_ifs, exS_for_, exS_whil, exS_ret, exS_retv, exS_retN, exS_brk, exS_cont, exS_pass, exS_never, exSs_nil, exSs_cons, part_none, part_some, evIt, opds, vals, op2, cont, conts, Res.bind, Res.bindN, Res.sb, SRes.sq, lift, cmpP, binP, idxP, callP, finF, endF, backOf, isLent, SV.d, SV.lent, callR, lentOf, sharedSl, shLst, freezeSl, putBack, D.flat, tru, unpS, asg_tup, asg_ktup, asg_lst, asgs_cons, asgs_nil, setS_eq, asg_nm, free_none, free_dat, free_own, D.seq?, Z24, hasSlot, hasLst, modS, putAt, pushAt, retvS, lcFin, testO, DL.isP, keepO, List.replicate, q1, q2, h10, h11]
end
end DL

namespace DL
open PySem PySem.Spec PyProof.Rows L2
section
variable {cf : Cf} {m : Mn} {x0 x1 x2 x3 x4 x5 x6 x7 x8 x9 x10 x11 x12 x13 x14 x15 x16 : Option SV} {rest : Env'}
def gq : Q := .bin .Add (.bin .Sub (.bi .max [.cst (.int 0), .bin .Sub (.idx (.var 11) (.var 15)) (.idx (.var 10) (.var 14))]) (.var 15)) (.var 14)
theorem gq_ok {n : Nat} {p : Int × Int} (I O : List D) (c w : Int) (i1 : L2.atI I p.1 = some (.int c)) (i2 : L2.atI O p.2 = some (.int w)) : ev cf (n + 8) gq (x0 :: x1 :: x2 :: x3 :: x4 :: x5 :: x6 :: x7 :: x8 :: x9 :: some (.dat (.lst I)) :: some (.dat (.lst O)) :: x12 :: x13 :: some (.dat (.int p.1)) :: some (.dat (.int p.2)) :: rest)
    = .ok (.dat (.int ((if w - c > 0 then w - c else 0) - p.2 + p.1))) (x0 :: x1 :: x2 :: x3 :: x4 :: x5 :: x6 :: x7 :: x8 :: x9 :: some (.dat (.lst I)) :: some (.dat (.lst O)) :: x12 :: x13 :: some (.dat (.int p.1)) :: some (.dat (.int p.2)) :: rest) := by
  simp [ev_var, ev_cst, ev_glb, ev_fnv, ev_tup, ev_lst, ev_lmul, ev_dic_false, ev_dic_true, ev_dic1, ev_bin, ev_neg, ev_cmp, ev_chain, ev_and, ev_or, ev_not, ev_ite, ev_idx, ev_slc, ev_rev, ev_call, ev_callv, ev_bi, ev_inst, ev_get, ev_lrng, ev_dcp, ev_dprs, ev_lc, ev_lc2, ev_lc3, evT_and, evT_or, evT_not, evT_var, evT_cst, evT_glb, evT_fnv, evT_tup, evT_lst, evT_lmul, evT_dic, evT_dic1, evT_bin, evT_neg, evT_cmp, evT_chain, evT_ite, evT_idx, evT_slc, evT_rev, evT_call, evT_callv, evT_bi, evT_inst, evT_get, evT_lrng, evT_dcp, evT_dprs, evT_lc, evT_lc2, evT_lc3, opd_var, opd_cst, opd_glb, opd_fnv, opd_tup, opd_lst, opd_lmul, opd_dic, opd_dic1, opd_bin, opd_neg, opd_cmp, opd_chain, opd_and, opd_or, opd_not, opd_ite, opd_idx, opd_slc, opd_rev, opd_call, opd_callv, opd_bi, opd_inst, opd_get, opd_lrng, opd_dcp, opd_dprs, opd_lc, opd_lc2, opd_lc3, exS_set, exS_unp, exS_par, exS_parO, exS_store, exS_app, exS_expr, exS_ifs, exS_for_, exS_whil, exS_ret, exS_retv, exS_retN, exS_brk, exS_cont, exS_pass, exS_never, exSs_nil, exSs_cons, part_none, part_some, evIt, opds, vals, op2, cont, conts, Res.bind, Res.bindN, Res.sb, SRes.sq, lift, cmpP, binP, idxP, callP, finF, endF, backOf, isLent, SV.d, SV.lent, callR, lentOf, sharedSl, shLst, freezeSl, putBack, D.flat, tru, unpS, asg_tup, asg_ktup, asg_lst, asgs_cons, asgs_nil, setS_eq, asg_nm, free_none, free_dat, free_own, D.seq?, Z24, hasSlot, hasLst, modS, putAt, pushAt, retvS, lcFin, testO, DL.isP, keepO, List.replicate, gq, i1, i2]
theorem lcFin_ok {own : List Nat} {fi : Env' → Res (List D)} {go : List D → List D → Env' → Res (List D)} {ρ : Env'} {items acc : List D} (h1 : fi ρ = .ok items ρ) (ht : tame ρ own = true) (hw : wipeR ρ own = ρ) (h2 : go items [] ρ = .ok acc ρ) (hb : backR ρ ρ own = ρ) : lcFin own fi go ρ = .ok (.own (.lst acc)) ρ := by
  unfold lcFin
  rw [h1]
  show (if tame ρ own = true then (go items [] (wipeR ρ own)).bind fun acc ρ2 => Res.ok (SV.own (D.lst acc)) (backR ρ ρ2 own) else Res.stuck) = _
  rw [if_pos ht, hw, h2]
  show Res.ok _ (backR ρ ρ own) = _
  rw [hb]
theorem set_nx {n i : Nat} {q : Q} {sv : SV} {ρ ρ1 : Env'} {x : Option SV} (h : ev cf n q ρ = .ok sv ρ1) (hl : sv.lent = false) (hx : ρ1[i]? = some x) (hf : free x = true) : exS cf (n + 1) (.set i q) ρ = .nx (ρ1.set i (some sv)) := by
  rw [exS_set, h]
  show setS i sv ρ1 = _
  rw [setS_eq, if_neg (by rw [hl]; exact Bool.false_ne_true), hx]
  exact if_pos hf
theorem seq_call0 {n j : Nat} {ρ : Env'} {E : List D} (e : cf.run j [] = .ok (.own (.lst E)) none) (g : cf.lend j = false) : evIt (ev cf (n + 1)) (.seq (.call j [])) ρ = .ok E ρ := by
  simp [ev_var, ev_cst, ev_glb, ev_fnv, ev_tup, ev_lst, ev_lmul, ev_dic_false, ev_dic_true, ev_dic1, ev_bin, ev_neg, ev_cmp, ev_chain, ev_and, ev_or, ev_not, ev_ite, ev_idx, ev_slc, ev_rev, ev_call, ev_callv, ev_bi, ev_inst, ev_get, ev_lrng, ev_dcp, ev_dprs, ev_lc, ev_lc2, ev_lc3, evT_and, evT_or, evT_not, evT_var, evT_cst, evT_glb, evT_fnv, evT_tup, evT_lst, evT_lmul, evT_dic, evT_dic1, evT_bin, evT_neg, evT_cmp, evT_chain, evT_ite, evT_idx, evT_slc, evT_rev, evT_call, evT_callv, evT_bi, evT_inst, evT_get, evT_lrng, evT_dcp, evT_dprs, evT_lc, evT_lc2, evT_lc3, opd_var, opd_cst, opd_glb, opd_fnv, opd_tup, opd_lst, opd_lmul, opd_dic, opd_dic1, opd_bin, opd_neg, opd_cmp, opd_chain, opd_and, opd_or, opd_not, opd_ite, opd_idx, opd_slc, opd_rev, opd_call, opd_callv, opd_bi, opd_inst, opd_get, opd_lrng, opd_dcp, opd_dprs, opd_lc, opd_lc2, opd_lc3, exS_set, exS_unp, exS_par, exS_parO, exS_store, exS_app, exS_expr, exS_ifs, exS_for_, exS_whil, exS_ret, exS_retv, exS_retN, exS_brk, exS_cont, exS_pass, exS_never, exSs_nil, exSs_cons, part_none, part_some, evIt, opds, vals, op2, cont, conts, Res.bind, Res.bindN, Res.sb, SRes.sq, lift, cmpP, binP, idxP, callP, finF, endF, backOf, isLent, SV.d, SV.lent, callR, lentOf, sharedSl, shLst, freezeSl, putBack, D.flat, tru, unpS, asg_tup, asg_ktup, asg_lst, asgs_cons, asgs_nil, setS_eq, asg_nm, free_none, free_dat, free_own, D.seq?, Z24, hasSlot, hasLst, modS, putAt, pushAt, retvS, lcFin, testO, DL.isP, keepO, List.replicate, e, g]
theorem s8_lc : lcGo (ev cf 87 gq) (testO (evT cf 87) none) [14, 15] (.tup [.nm 14, .nm 15]) (everyL.map prD) [] (x0 :: x1 :: x2 :: x3 :: x4 :: x5 :: x6 :: x7 :: x8 :: x9 :: some (.dat (.lst (insL m))) :: some (.dat (.lst (outsL m))) :: x12 :: x13 :: none :: none :: rest) = .ok ((gainsL m).map D.int) (x0 :: x1 :: x2 :: x3 :: x4 :: x5 :: x6 :: x7 :: x8 :: x9 :: some (.dat (.lst (insL m))) :: some (.dat (.lst (outsL m))) :: x12 :: x13 :: none :: none :: rest) := by
  have hl : everyL.length ≤ Z24 := by rw [everyL_len]; decide
  unfold gainsL
  rw [List.map_map]
  refine lcGo_map _ _ _ (fun p hp => ?_) hl
  obtain ⟨h1, h2, h3⟩ := everyL_mem.mp hp
  have i1 := ins_at m (i := p.1.toNat) (by omega)
  have i2 := outs_at m (i := p.2.toNat) (by omega)
  rw [show ((p.1.toNat : Nat) : Int) = p.1 by omega] at i1
  rw [show ((p.2.toNat : Nat) : Int) = p.2 by omega] at i2
  exact ⟨(x0 :: x1 :: x2 :: x3 :: x4 :: x5 :: x6 :: x7 :: x8 :: x9 :: some (.dat (.lst (insL m))) :: some (.dat (.lst (outsL m))) :: x12 :: x13 :: some (.dat (.int p.1)) :: some (.dat (.int p.2)) :: rest), rfl, ⟨.dat (.int (gI m p)), gq_ok (n := 79) (insL m) (outsL m) _ _ i1 i2, rfl⟩, rfl, rfl⟩
theorem s8_22 (e8 : cf.run 59 [] = .ok (.own (.lst (everyL.map prD))) none) (g : cf.lend 59 = false) (h13 : free x13 = true) :
    exS cf 89 (.set 13 (.lc [14, 15] (.tup [.nm 14, .nm 15]) (.seq (.call 59 [])) none gq)) (x0 :: x1 :: x2 :: x3 :: x4 :: x5 :: x6 :: x7 :: x8 :: x9 :: some (.dat (.lst (insL m))) :: some (.dat (.lst (outsL m))) :: x12 :: x13 :: none :: none :: rest)
      = .nx (x0 :: x1 :: x2 :: x3 :: x4 :: x5 :: x6 :: x7 :: x8 :: x9 :: some (.dat (.lst (insL m))) :: some (.dat (.lst (outsL m))) :: x12 :: some (.own (.lst ((gainsL m).map D.int))) :: none :: none :: rest) := by
  refine set_nx (sv := .own (.lst ((gainsL m).map D.int))) (ρ1 := (x0 :: x1 :: x2 :: x3 :: x4 :: x5 :: x6 :: x7 :: x8 :: x9 :: some (.dat (.lst (insL m))) :: some (.dat (.lst (outsL m))) :: x12 :: x13 :: none :: none :: rest)) ?_ rfl rfl h13
  rw [ev_lc]
  refine lcFin_ok (items := everyL.map prD) ?_ rfl rfl ?_ rfl
  · exact seq_call0 (n := 86) e8 g
  · exact s8_lc
theorem s9_22 {G : List Int} {a b : Bool} (hG : G ≠ []) (e1 : cf.run 176 [.dat m.d] = .ok (.dat (.bl a)) none) (e2 : cf.run 177 [.dat m.d] = .ok (.dat (.bl b)) none) (e3 : ∀ c d : Bool, c = d → cf.run 56 [.dat (.bl c), .dat (.bl d)] = .ok (.dat (.bl true)) none) (g1 : cf.lend 176 = false) (g2 : cf.lend 177 = false) (g3 : cf.lend 56 = false)
    (ha : a = decide (maxL G = 0)) (hb : b = decide (minL G = 0)) :
    exS cf 88 (.ifs (.or (.not (.call 56 [.call 176 [.var 3], .cmp .Eq (.bi .max [.var 13]) (.cst (.int 0))])) (.not (.call 56 [.call 177 [.var 3], .cmp .Eq (.bi .min [.var 13]) (.cst (.int 0))]))) [.ret (.cst (.bl false))] []) (x0 :: x1 :: x2 :: some (.dat m.d) :: x4 :: x5 :: x6 :: x7 :: x8 :: x9 :: x10 :: x11 :: x12 :: some (.own (.lst (G.map D.int))) :: rest)
      = .nx (x0 :: x1 :: x2 :: some (.dat m.d) :: x4 :: x5 :: x6 :: x7 :: x8 :: x9 :: x10 :: x11 :: x12 :: some (.own (.lst (G.map D.int))) :: rest) := by
  have c1 := call_max hG
  have c2 := call_min hG
  have e4 := e3 a (decide (maxL G = 0)) ha
  have e5 := e3 b (decide (minL G = 0)) hb
  clear e3 ha hb
  generalize maxL G = M at *
  generalize minL G = N at *
  generalize G.map D.int = A at *
  have o1 : opd (ev cf 82) (.bi .max [.var 13]) (x0 :: x1 :: x2 :: some (.dat m.d) :: x4 :: x5 :: x6 :: x7 :: x8 :: x9 :: x10 :: x11 :: x12 :: some (.own (.lst A)) :: rest) = .ok (.dd (.int M)) (x0 :: x1 :: x2 :: some (.dat m.d) :: x4 :: x5 :: x6 :: x7 :: x8 :: x9 :: x10 :: x11 :: x12 :: some (.own (.lst A)) :: rest) := by
    simp [ev_var, ev_cst, ev_glb, ev_fnv, ev_tup, ev_lst, ev_lmul, ev_dic_false, ev_dic_true, ev_dic1, ev_bin, ev_neg, ev_cmp, ev_chain, ev_and, ev_or, ev_not, ev_ite, ev_idx, ev_slc, ev_rev, ev_call, ev_callv, ev_bi, ev_inst, ev_get, ev_lrng, ev_dcp, ev_dprs, ev_lc, ev_lc2, ev_lc3, evT_and, evT_or, evT_not, evT_var, evT_cst, evT_glb, evT_fnv, evT_tup, evT_lst, evT_lmul, evT_dic, evT_dic1, evT_bin, evT_neg, evT_cmp, evT_chain, evT_ite, evT_idx, evT_slc, evT_rev, evT_call, evT_callv, evT_bi, evT_inst, evT_get, evT_lrng, evT_dcp, evT_dprs, evT_lc, evT_lc2, evT_lc3, opd_var, opd_cst, opd_glb, opd_fnv, opd_tup, opd_lst, opd_lmul, opd_dic, opd_dic1, opd_bin, opd_neg, opd_cmp, opd_chain, opd_and, opd_or, opd_not, opd_ite, opd_idx, opd_slc, opd_rev, opd_call, opd_callv, opd_bi, opd_inst, opd_get, opd_lrng, opd_dcp, opd_dprs, opd_lc, opd_lc2, opd_lc3, exS_set, exS_unp, exS_par, exS_parO, exS_store, exS_app, exS_expr, exS_ifs, exS_for_, exS_whil, exS_ret, exS_retv, exS_retN, exS_brk, exS_cont, exS_pass, exS_never, exSs_nil, exSs_cons, part_none, part_some, evIt, opds, vals, op2, cont, conts, Res.bind, Res.bindN, Res.sb, SRes.sq, lift, cmpP, idxP, finF, endF, backOf, isLent, SV.d, SV.lent, callR, lentOf, sharedSl, shLst, freezeSl, putBack, D.flat, tru, unpS, asg_tup, asg_ktup, asg_lst, asgs_cons, asgs_nil, setS_eq, asg_nm, free_none, free_dat, free_own, D.seq?, Z24, hasSlot, hasLst, modS, putAt, pushAt, retvS, lcFin, testO, DL.isP, keepO, List.replicate, c1]
  have o2 : opd (ev cf 82) (.bi .min [.var 13]) (x0 :: x1 :: x2 :: some (.dat m.d) :: x4 :: x5 :: x6 :: x7 :: x8 :: x9 :: x10 :: x11 :: x12 :: some (.own (.lst A)) :: rest) = .ok (.dd (.int N)) (x0 :: x1 :: x2 :: some (.dat m.d) :: x4 :: x5 :: x6 :: x7 :: x8 :: x9 :: x10 :: x11 :: x12 :: some (.own (.lst A)) :: rest) := by
    simp [ev_var, ev_cst, ev_glb, ev_fnv, ev_tup, ev_lst, ev_lmul, ev_dic_false, ev_dic_true, ev_dic1, ev_bin, ev_neg, ev_cmp, ev_chain, ev_and, ev_or, ev_not, ev_ite, ev_idx, ev_slc, ev_rev, ev_call, ev_callv, ev_bi, ev_inst, ev_get, ev_lrng, ev_dcp, ev_dprs, ev_lc, ev_lc2, ev_lc3, evT_and, evT_or, evT_not, evT_var, evT_cst, evT_glb, evT_fnv, evT_tup, evT_lst, evT_lmul, evT_dic, evT_dic1, evT_bin, evT_neg, evT_cmp, evT_chain, evT_ite, evT_idx, evT_slc, evT_rev, evT_call, evT_callv, evT_bi, evT_inst, evT_get, evT_lrng, evT_dcp, evT_dprs, evT_lc, evT_lc2, evT_lc3, opd_var, opd_cst, opd_glb, opd_fnv, opd_tup, opd_lst, opd_lmul, opd_dic, opd_dic1, opd_bin, opd_neg, opd_cmp, opd_chain, opd_and, opd_or, opd_not, opd_ite, opd_idx, opd_slc, opd_rev, opd_call, opd_callv, opd_bi, opd_inst, opd_get, opd_lrng, opd_dcp, opd_dprs, opd_lc, opd_lc2, opd_lc3, exS_set, exS_unp, exS_par, exS_parO, exS_store, exS_app, exS_expr, exS_ifs, exS_for_, exS_whil, exS_ret, exS_retv, exS_retN, exS_brk, exS_cont, exS_pass, exS_never, exSs_nil, exSs_cons, part_none, part_some, evIt, opds, vals, op2, cont, conts, Res.bind, Res.bindN, Res.sb, SRes.sq, lift, cmpP, idxP, finF, endF, backOf, isLent, SV.d, SV.lent, callR, lentOf, sharedSl, shLst, freezeSl, putBack, D.flat, tru, unpS, asg_tup, asg_ktup, asg_lst, asgs_cons, asgs_nil, setS_eq, asg_nm, free_none, free_dat, free_own, D.seq?, Z24, hasSlot, hasLst, modS, putAt, pushAt, retvS, lcFin, testO, DL.isP, keepO, List.replicate, c2]
  clear c1 c2
  simp only [Mn.d] at e1 e2 o1 o2 ⊢
  simp [ev_var, ev_cst, ev_glb, ev_fnv, ev_tup, ev_lst, ev_lmul, ev_dic_false, ev_dic_true, ev_dic1, ev_bin, ev_neg, ev_cmp, ev_chain, ev_and, ev_or, ev_not, ev_ite, ev_idx, ev_slc, ev_rev, ev_call, ev_callv, ev_bi, ev_inst, ev_get, ev_lrng, ev_dcp, ev_dprs, ev_lc, ev_lc2, ev_lc3, evT_and, evT_or, evT_not, evT_var, evT_cst, evT_glb, evT_fnv, evT_tup, evT_lst, evT_lmul, evT_dic, evT_dic1, evT_bin, evT_neg, evT_cmp, evT_chain, evT_ite, evT_idx, evT_slc, evT_rev, evT_call, evT_callv, evT_bi, evT_inst, evT_get, evT_lrng, evT_dcp, evT_dprs, evT_lc, evT_lc2, evT_lc3, opd_var, opd_cst, opd_glb, opd_fnv, opd_tup, opd_lst, opd_lmul, opd_dic, opd_dic1, opd_bin, opd_neg, opd_cmp, opd_chain, opd_and, opd_or, opd_not, opd_ite, opd_idx, opd_slc, opd_rev, opd_call, opd_callv, opd_bi, opd_inst, opd_get, opd_lrng, opd_dcp, opd_dprs, opd_lc, opd_lc2, opd_lc3, exS_set, exS_unp, exS_par, exS_parO, exS_store, exS_app, exS_expr, exS_ifs, exS_for_, exS_whil, exS_ret, exS_retv, exS_retN, exS_brk, exS_cont, exS_pass, exS_never, exSs_nil, exSs_cons, part_none, part_some, evIt, opds, vals, op2, cont, conts, Res.bind, Res.bindN, Res.sb, SRes.sq, lift, cmpP, binP, idxP, callP, finF, endF, backOf, isLent, SV.d, SV.lent, callR, lentOf, sharedSl, shLst, freezeSl, putBack, D.flat, tru, unpS, asg_tup, asg_ktup, asg_lst, asgs_cons, asgs_nil, setS_eq, asg_nm, free_none, free_dat, free_own, D.seq?, Z24, hasSlot, hasLst, modS, putAt, pushAt, retvS, lcFin, testO, DL.isP, keepO, List.replicate, e1, e2, e4, e5, g1, g2, g3, o1, o2]
def evenM (m : Mn) : Mn := ⟨⟨m.i.st, .near, 0⟩, ⟨m.i.st, .near, 0⟩, m.br, m.dl, m.wl⟩
theorem at30'' {a b c : D} : L2.atI [a, b, c] 0 = some a := rfl
theorem s10_22 (h5 : free x5 = true) : exS cf 87 (.set 5 (.idx (.idx (.var 3) (.cst (.int 0))) (.cst (.int 0)))) (x0 :: x1 :: x2 :: some (.dat m.d) :: x4 :: x5 :: rest) = .nx (x0 :: x1 :: x2 :: some (.dat m.d) :: x4 :: some (.dat (.int m.i.st)) :: rest) := by
  simp only [Mn.d, Rnd.d]
  simp [ev_var, ev_cst, ev_glb, ev_fnv, ev_tup, ev_lst, ev_lmul, ev_dic_false, ev_dic_true, ev_dic1, ev_bin, ev_neg, ev_cmp, ev_chain, ev_and, ev_or, ev_not, ev_ite, ev_idx, ev_slc, ev_rev, ev_call, ev_callv, ev_bi, ev_inst, ev_get, ev_lrng, ev_dcp, ev_dprs, ev_lc, ev_lc2, ev_lc3, evT_and, evT_or, evT_not, evT_var, evT_cst, evT_glb, evT_fnv, evT_tup, evT_lst, evT_lmul, evT_dic, evT_dic1, evT_bin, evT_neg, evT_cmp, evT_chain, evT_ite, evT_idx, evT_slc, evT_rev, evT_call, evT_callv, evT_bi, evT_inst, evT_get, evT_lrng, evT_dcp, evT_dprs, evT_lc, evT_lc2, evT_lc3, opd_var, opd_cst, opd_glb, opd_fnv, opd_tup, opd_lst, opd_lmul, opd_dic, opd_dic1, opd_bin, opd_neg, opd_cmp, opd_chain, opd_and, opd_or, opd_not, opd_ite, opd_idx, opd_slc, opd_rev, opd_call, opd_callv, opd_bi, opd_inst, opd_get, opd_lrng, opd_dcp, opd_dprs, opd_lc, opd_lc2, opd_lc3, exS_set, exS_unp, exS_par, exS_parO, exS_store, exS_app, exS_expr, exS_ifs, exS_for_, exS_whil, exS_ret, exS_retv, exS_retN, exS_brk, exS_cont, exS_pass, exS_never, exSs_nil, exSs_cons, part_none, part_some, evIt, opds, vals, op2, cont, conts, Res.bind, Res.bindN, Res.sb, SRes.sq, lift, cmpP, binP, idxP, callP, finF, endF, backOf, isLent, SV.d, SV.lent, callR, lentOf, sharedSl, shLst, freezeSl, putBack, D.flat, tru, unpS, asg_tup, asg_ktup, asg_lst, asgs_cons, asgs_nil, setS_eq, asg_nm, free_none, free_dat, free_own, D.seq?, Z24, hasSlot, hasLst, modS, putAt, pushAt, retvS, lcFin, testO, DL.isP, keepO, List.replicate, at0, at30'', h5]
theorem s11_22 (h16 : free x16 = true) : exS cf 86 (.set 16 (.bin .Add (.tup [.tup [.var 5, .cst (.str "near"), .cst (.int 0)], .tup [.var 5, .cst (.str "near"), .cst (.int 0)]]) (.slc (.var 3) (some (.cst (.int 2))) none))) (x0 :: x1 :: x2 :: some (.dat m.d) :: x4 :: some (.dat (.int m.i.st)) :: x6 :: x7 :: x8 :: x9 :: x10 :: x11 :: x12 :: x13 :: x14 :: x15 :: x16 :: rest)
    = .nx (x0 :: x1 :: x2 :: some (.dat m.d) :: x4 :: some (.dat (.int m.i.st)) :: x6 :: x7 :: x8 :: x9 :: x10 :: x11 :: x12 :: x13 :: x14 :: x15 :: some (.dat (evenM m).d) :: rest) := by
  simp only [evenM, Mn.d, Rnd.d, Side.s]
  simp [ev_var, ev_cst, ev_glb, ev_fnv, ev_tup, ev_lst, ev_lmul, ev_dic_false, ev_dic_true, ev_dic1, ev_bin, ev_neg, ev_cmp, ev_chain, ev_and, ev_or, ev_not, ev_ite, ev_idx, ev_slc, ev_rev, ev_call, ev_callv, ev_bi, ev_inst, ev_get, ev_lrng, ev_dcp, ev_dprs, ev_lc, ev_lc2, ev_lc3, evT_and, evT_or, evT_not, evT_var, evT_cst, evT_glb, evT_fnv, evT_tup, evT_lst, evT_lmul, evT_dic, evT_dic1, evT_bin, evT_neg, evT_cmp, evT_chain, evT_ite, evT_idx, evT_slc, evT_rev, evT_call, evT_callv, evT_bi, evT_inst, evT_get, evT_lrng, evT_dcp, evT_dprs, evT_lc, evT_lc2, evT_lc3, opd_var, opd_cst, opd_glb, opd_fnv, opd_tup, opd_lst, opd_lmul, opd_dic, opd_dic1, opd_bin, opd_neg, opd_cmp, opd_chain, opd_and, opd_or, opd_not, opd_ite, opd_idx, opd_slc, opd_rev, opd_call, opd_callv, opd_bi, opd_inst, opd_get, opd_lrng, opd_dcp, opd_dprs, opd_lc, opd_lc2, opd_lc3, exS_set, exS_unp, exS_par, exS_parO, exS_store, exS_app, exS_expr, exS_ifs, exS_for_, exS_whil, exS_ret, exS_retv, exS_retN, exS_brk, exS_cont, exS_pass, exS_never, exSs_nil, exSs_cons, part_none, part_some, evIt, opds, vals, op2, cont, conts, Res.bind, Res.bindN, Res.sb, SRes.sq, lift, cmpP, binP, idxP, callP, finF, endF, backOf, isLent, SV.d, SV.lent, callR, lentOf, sharedSl, shLst, freezeSl, putBack, D.flat, tru, unpS, asg_tup, asg_ktup, asg_lst, asgs_cons, asgs_nil, setS_eq, asg_nm, free_none, free_dat, free_own, D.seq?, Z24, hasSlot, hasLst, modS, putAt, pushAt, retvS, lcFin, testO, DL.isP, keepO, List.replicate, cut2, slP, h16]
theorem s12_22 {E : List D} {s : Int} {md : D} (e : cf.run 175 [.dat md] = .ok (.own (.lst E)) none) (g : cf.lend 175 = false) (hm : memD (.tup [.int s, .str "near", .int 0]) E = some true) : exS cf 85 (.ifs (.cmp .NotIn (.tup [.var 5, .cst (.str "near"), .cst (.int 0)]) (.call 175 [.var 16])) [.ret (.cst (.bl false))] []) (x0 :: x1 :: x2 :: x3 :: x4 :: some (.dat (.int s)) :: x6 :: x7 :: x8 :: x9 :: x10 :: x11 :: x12 :: x13 :: x14 :: x15 :: some (.dat md) :: rest)
    = .nx (x0 :: x1 :: x2 :: x3 :: x4 :: some (.dat (.int s)) :: x6 :: x7 :: x8 :: x9 :: x10 :: x11 :: x12 :: x13 :: x14 :: x15 :: some (.dat md) :: rest) := by
  simp [ev_var, ev_cst, ev_glb, ev_fnv, ev_tup, ev_lst, ev_lmul, ev_dic_false, ev_dic_true, ev_dic1, ev_bin, ev_neg, ev_cmp, ev_chain, ev_and, ev_or, ev_not, ev_ite, ev_idx, ev_slc, ev_rev, ev_call, ev_callv, ev_bi, ev_inst, ev_get, ev_lrng, ev_dcp, ev_dprs, ev_lc, ev_lc2, ev_lc3, evT_and, evT_or, evT_not, evT_var, evT_cst, evT_glb, evT_fnv, evT_tup, evT_lst, evT_lmul, evT_dic, evT_dic1, evT_bin, evT_neg, evT_cmp, evT_chain, evT_ite, evT_idx, evT_slc, evT_rev, evT_call, evT_callv, evT_bi, evT_inst, evT_get, evT_lrng, evT_dcp, evT_dprs, evT_lc, evT_lc2, evT_lc3, opd_var, opd_cst, opd_glb, opd_fnv, opd_tup, opd_lst, opd_lmul, opd_dic, opd_dic1, opd_bin, opd_neg, opd_cmp, opd_chain, opd_and, opd_or, opd_not, opd_ite, opd_idx, opd_slc, opd_rev, opd_call, opd_callv, opd_bi, opd_inst, opd_get, opd_lrng, opd_dcp, opd_dprs, opd_lc, opd_lc2, opd_lc3, exS_set, exS_unp, exS_par, exS_parO, exS_store, exS_app, exS_expr, exS_ifs, exS_for_, exS_whil, exS_ret, exS_retv, exS_retN, exS_brk, exS_cont, exS_pass, exS_never, exSs_nil, exSs_cons, part_none, part_some, evIt, opds, vals, op2, cont, conts, Res.bind, Res.bindN, Res.sb, SRes.sq, lift, cmpP, binP, idxP, callP, finF, endF, backOf, isLent, SV.d, SV.lent, callR, lentOf, sharedSl, shLst, freezeSl, putBack, D.flat, tru, unpS, asg_tup, asg_ktup, asg_lst, asgs_cons, asgs_nil, setS_eq, asg_nm, free_none, free_dat, free_own, D.seq?, Z24, hasSlot, hasLst, modS, putAt, pushAt, retvS, lcFin, testO, DL.isP, keepO, List.replicate, e, g, inP, hm]
end
theorem rnd_shp (r : Rnd) : shp 2 r.d = true := by
  obtain ⟨s, x, g⟩ := r
  cases x <;> simp [Rnd.d, Side.s, shp, sd1, sd2, sd3]
theorem pyL_any {ds : List D} {f : PyData → Bool} : (pyL ds).any f = ds.any fun d => f d.py := by
  rw [pyL_map, List.any_map]; rfl
theorem mem_rnd {l : List Rnd} {r : Rnd} (h : r ∈ l) : memD r.d (l.map Rnd.d) = some true := by
  have h1 : SeqAt.shaped r.d.py = true := shp_ok (rnd_shp r) (by decide)
  have h2 : SeqAt.shaped (.list (pyL (l.map Rnd.d))) = true := shp_ok (n := 3) (d := .lst (l.map Rnd.d)) (List.all_eq_true.mpr fun d hd => by obtain ⟨r, _, rfl⟩ := List.mem_map.mp hd; exact rnd_shp r) (by decide)
  unfold memD
  rw [if_pos ⟨h1, h2⟩, pyL_any]
  congr 1
  exact List.any_eq_true.mpr ⟨r.d, List.mem_map_of_mem h, SeqAt.eqv_refl r.d.py (SeqAt.canLay_of_shaped h1)⟩
theorem even_ok {m : Mn} (h : m.ok) : (evenM m).ok := ⟨⟨h.i.1, Int.le_refl _, by have := h.i.st; simp only [evenM]; omega⟩, ⟨h.i.1, Int.le_refl _, by have := h.i.st; simp only [evenM]; omega⟩, h.br, h.dl, h.wl⟩
theorem even_top : ∀ s ∈ stepsL, topI ⟨s, .near, 0⟩ ⟨s, .near, 0⟩ = 0 := by decide +kernel
theorem even_mem {m : Mn} (h : m.ok) : (⟨m.i.st, .near, 0⟩ : Rnd) ∈ fairL (evenM m).i := by
  refine List.mem_filter.mpr ⟨?_, decide_eq_true (even_top _ h.i.1)⟩
  refine List.mem_flatMap.mpr ⟨m.i.st, h.i.1, List.mem_flatMap.mpr ⟨.near, by decide, List.mem_map.mpr ⟨0, List.mem_range.mpr (by have := h.i.st; omega), rfl⟩⟩⟩
theorem fair_len (r : Rnd) : (fairL r).length ≤ 108 := by
  have := List.length_filter_le (fun x => decide (topI r x = 0)) rnds
  rw [rnds_len] at this
  exact this
end DL

namespace DL
open PySem PySem.Spec PyProof.Rows L2
def deck22 : List DL.S := match F_law_k22.body with
  | .for_ _ _ b :: _ => b
  | _ => []
def tail22 : List DL.S := F_law_k22.body.tail
structure Cf22 (cf : Cf) : Prop where
  deck : ∀ x j : Int, 0 ≤ j ∧ j ≤ 100 → ∃ dk, cf.run 5 [.dat (.int x), .dat (.int j)] = .ok (.own dk) none ∧ DeckOk 15 dk
  manner : ∀ dk, DeckOk 15 dk → ∃ (m : Mn) (dk1 : D), cf.run 10 [.bor dk] = .ok (.dat m.d) (some dk1) ∧ m.ok
  mean : ∀ a b : Rnd, a.ok → b.ok → cf.run 178 [.dat (.tup [a.d, b.d])] = .ok (.dat (.int (topI a b))) none
  fair : ∀ m : Mn, m.ok → cf.run 175 [.dat m.d] = .ok (.own (.lst ((fairL m.i).map Rnd.d))) none
  same : ∀ L : List Rnd, L.length ≤ 108 → cf.run 25 [.dat (.lst (L.map Rnd.d)), .dat (.lst (L.map Rnd.d))] = .ok (.dat (.bl true)) none
  won : ∀ m : Mn, m.ok → cf.run 79 [.dat m.d] = .ok (.dat (meanD m.i m.o)) none
  pin : ∀ (r : Rnd) (t : Int), r.ok → cf.run 26 [.dat r.d, .dat (.int t), .dat (.bl true)] = .ok (.dat (.int (cameI r t))) none
  pout : ∀ (r : Rnd) (t : Int), r.ok → cf.run 26 [.dat r.d, .dat (.int t), .dat (.bl false)] = .ok (.dat (.int (wentI r t))) none
  every : cf.run 59 [] = .ok (.own (.lst (everyL.map prD))) none
  bool : ∀ a b : Bool, a = b → cf.run 56 [.dat (.bl a), .dat (.bl b)] = .ok (.dat (.bl true)) none
  wins : ∀ m : Mn, m.ok → cf.run 176 [.dat m.d] = .ok (.dat (.bl (decide (maxL (gainsA m.i) + maxL (gainsB m.o) = 0)))) none
  loses : ∀ m : Mn, m.ok → cf.run 177 [.dat m.d] = .ok (.dat (.bl (decide (minL (gainsA m.i) + minL (gainsB m.o) = 0)))) none
  l5 : cf.lend 5 = false
  l10 : cf.lend 10 = true
  l178 : cf.lend 178 = false
  l175 : cf.lend 175 = false
  l25 : cf.lend 25 = false
  l79 : cf.lend 79 = false
  l26 : cf.lend 26 = false
  l59 : cf.lend 59 = false
  l56 : cf.lend 56 = false
  l176 : cf.lend 176 = false
  l177 : cf.lend 177 = false
theorem rnd_cmp (r : Rnd) : cmpB 2 r.d = true := by
  obtain ⟨s, x, g⟩ := r
  cases x <;> simp [Rnd.d, Side.s, cmpB, sd1, sd2, sd3]
theorem c22_same (L : List Rnd) (hl : L.length ≤ 108) : cmpB 3 (.lst (L.map Rnd.d)) = true := by
  show (decide ((L.map Rnd.d).length ≤ 16777216) && (L.map Rnd.d).all (cmpB 2)) = true
  rw [Bool.and_eq_true]
  exact ⟨decide_eq_true (by rw [List.length_map]; omega), List.all_eq_true.mpr fun d hd => by obtain ⟨r, _, rfl⟩ := List.mem_map.mp hd; exact rnd_cmp r⟩
theorem cf22 : Cf22 (cfk 39) where
  deck := fun x j hj => by
    rw [cfk_run]
    exact deck' 38 x j 15 (by omega)
  manner := fun dk ok => by
    obtain ⟨m, dk1, e, h, _⟩ := manner_ok 36 0 (dk := dk) (by simpa using ok)
    exact ⟨m, dk1, by rw [cfk_run]; exact e, h⟩
  mean := fun a b ha hb => by rw [cfk_run]; exact lmean_ok 37 ha hb
  fair := fun m h => by rw [cfk_run]; exact fair_ok 34 h
  same := fun L hl => by rw [cfk_run]; exact lsame_ok 35 3 (.lst (L.map Rnd.d)) (by decide) (c22_same L hl)
  won := fun m h => by rw [cfk_run]; exact won_ok 34 h
  pin := fun r t h => by rw [cfk_run]; exact punch_in 38 h t
  pout := fun r t h => by rw [cfk_run]; exact punch_out 38 h t
  every := by rw [cfk_run]; exact levery_ok 38
  bool := fun a b h => by rw [cfk_run]; exact lbool_ok 38 a b h
  wins := fun m h => by rw [cfk_run]; exact wins_ok 34 h
  loses := fun m h => by rw [cfk_run]; exact loses_ok 34 h
  l5 := rfl
  l10 := rfl
  l178 := rfl
  l175 := rfl
  l25 := rfl
  l79 := rfl
  l26 := rfl
  l59 := rfl
  l56 := rfl
  l176 := rfl
  l177 := rfl
def Q22P (sc : D) (ρ : Env') : Prop := ∃ x1 x2 x3 x4 x5 x6 x7 x8 x10 x11 x13 x16, ρ = [some (.dat sc), x1, x2, x3, x4, x5, x6, x7, x8, none, x10, x11, none, x13, none, none, x16, none, none] ∧ Fr [x1, x2, x3, x4, x5, x6, x7, x8, x10, x11, x13, x16]
theorem deck22_ok {cf : Cf} (C : Cf22 cf) (ns : List Int) (hn : ns.length ≤ 63) (j : Nat) (hj : j < 3) (ρ : Env') (h : Q22P (.lst (ns.map D.int)) ρ) : ∃ ρ1, asg (.nm 1) (.int (j : Int)) ρ = some ρ1 ∧ ∃ ρ2, exSs cf 98 deck22 ρ1 = .nx ρ2 ∧ Q22P (.lst (ns.map D.int)) ρ2 := by
  obtain ⟨x1, x2, x3, x4, x5, x6, x7, x8, x10, x11, x13, x16, rfl, fr⟩ := h
  simp only [Fr, List.forall_mem_cons] at fr
  obtain ⟨f1, f2, f3, f4, f5, f6, f7, f8, f10, f11, f13, f16, _⟩ := fr
  obtain ⟨x, ex⟩ := cell_at ns hj
  obtain ⟨dk, e1, ok⟩ := C.deck x (j : Int) (by omega)
  obtain ⟨m, dk1, e2, hm⟩ := C.manner dk ok
  have nf : ∃ l, dk = .lst l := by obtain ⟨a, b, c, e, _⟩ := ok; exact ⟨_, e⟩
  have hl : (fairL m.i).length ≤ 108 := fair_len m.i
  have a0 : asg (.nm 1) (.int (j : Int)) [some (.dat (.lst (ns.map D.int))), x1, x2, x3, x4, x5, x6, x7, x8, none, x10, x11, none, x13, none, none, x16, none, none] = some [some (.dat (.lst (ns.map D.int))), some (.dat (.int (j : Int))), x2, x3, x4, x5, x6, x7, x8, none, x10, x11, none, x13, none, none, x16, none, none] := by
    rw [asg_nm]; simp [f1]
  refine ⟨_, a0, ?_⟩
  have t0 := s0_22 (rest := [x3, x4, x5, x6, x7, x8, none, x10, x11, none, x13, none, none, x16, none, none]) (x2 := x2) rfl ex (by rw [List.length_map]; exact hn) e1 C.l5 nf f2
  have t1 := s1_22 (x0 := some (.dat (.lst (ns.map D.int)))) (x1 := some (.dat (.int (j : Int)))) (rest := [x5, x6, x7, x8, none, x10, x11, none, x13, none, none, x16, none, none]) e2 C.l10 f3 f4
  obtain ⟨y5, y6, y7, h5, h6, h7, t2⟩ := due_ok (n := 75) (s0 := some (.dat (.lst (ns.map D.int)))) (s1 := some (.dat (.int (j : Int)))) (s2 := some (.own dk1)) (rest := [x8, none, x10, x11, none, x13, none, none, x16, none, none]) hm (fun r hr => C.mean m.i r hm.i hr) C.l178 f5 f6 f7
  have t3 := s3_22 (x0 := some (.dat (.lst (ns.map D.int)))) (x1 := some (.dat (.int (j : Int)))) (x2 := some (.own dk1)) (x4 := some (.own (.lst ((fairL m.i).map Rnd.d)))) (x5 := y5) (x6 := y6) (x7 := y7) (rest := [none, x10, x11, none, x13, none, none, x16, none, none]) (C.fair m hm) C.l175 f8
  have t4 := s4_22 (x0 := some (.dat (.lst (ns.map D.int)))) (x1 := some (.dat (.int (j : Int)))) (x2 := some (.own dk1)) (x3 := some (.dat m.d)) (x5 := y5) (x6 := y6) (x7 := y7) (rest := [none, x10, x11, none, x13, none, none, x16, none, none]) (C.same (fairL m.i) hl) C.l25
  have t5 := s5_22 (cf := cf) (x0 := some (.dat (.lst (ns.map D.int)))) (x1 := some (.dat (.int (j : Int)))) (x2 := some (.own dk1)) (x3 := some (.dat m.d)) (x4 := some (.own (.lst ((fairL m.i).map Rnd.d)))) (x5 := y5) (x6 := y6) (x7 := y7) (rest := [none, x10, x11, none, x13, none, none, x16, none, none]) (L := (fairL m.i).map Rnd.d) (by rw [List.length_map]; omega)
  have t6 := s6_22 (x0 := some (.dat (.lst (ns.map D.int)))) (x1 := some (.dat (.int (j : Int)))) (x2 := some (.own dk1)) (x5 := y5) (x6 := y6) (x7 := y7) (x8 := some (.own (.lst ((fairL m.i).map Rnd.d ++ [.non])))) (rest := [x10, x11, none, x13, none, none, x16, none, none]) (L := fairL m.i) (f := fun r => meanD m.i r) (by omega) (C.fair m hm) C.l175 (fun r hr => by
    have hr' := List.mem_filter.mp hr
    have rok := rnds_ok r hr'.1
    refine ⟨C.won ⟨m.i, r, m.br, m.dl, m.wl⟩ ⟨hm.i, rok, hm.br, hm.dl, hm.wl⟩, ?_⟩
    rw [mean_zero hm.i rok, hr'.2]) C.l79
  have t7 := s7_22 (x0 := some (.dat (.lst (ns.map D.int)))) (x1 := some (.dat (.int (j : Int)))) (x2 := some (.own dk1)) (x4 := some (.dat (.lst ((fairL m.i).map Rnd.d)))) (x5 := y5) (x6 := y6) (x7 := y7) (x8 := some (.own (.lst ((fairL m.i).map Rnd.d ++ [.non])))) (x9 := none) (rest := [x13, none, none, x16, none, none]) (fun t => C.pin m.i t hm.i) (fun t => C.pout m.o t hm.o) C.l26 f10 f11
  have t8 := s8_22 (m := m) (x0 := some (.dat (.lst (ns.map D.int)))) (x1 := some (.dat (.int (j : Int)))) (x2 := some (.own dk1)) (x3 := some (.dat m.d)) (x4 := some (.dat (.lst ((fairL m.i).map Rnd.d)))) (x5 := y5) (x6 := y6) (x7 := y7) (x8 := some (.own (.lst ((fairL m.i).map Rnd.d ++ [.non])))) (x9 := none) (x12 := none) (rest := [x16, none, none]) C.every C.l59 f13
  have t9 := s9_22 (x0 := some (.dat (.lst (ns.map D.int)))) (x1 := some (.dat (.int (j : Int)))) (x2 := some (.own dk1)) (x4 := some (.dat (.lst ((fairL m.i).map Rnd.d)))) (x5 := y5) (x6 := y6) (x7 := y7) (x8 := some (.own (.lst ((fairL m.i).map Rnd.d ++ [.non])))) (x9 := none) (x10 := some (.dat (.lst (insL m)))) (x11 := some (.dat (.lst (outsL m)))) (x12 := none) (rest := [none, none, x16, none, none]) (gainsL_ne m) (C.wins m hm) (C.loses m hm) C.bool C.l176 C.l177 C.l56 (decide_eq_decide.mpr (wins_iff hm)) (decide_eq_decide.mpr (loses_iff hm))
  have t10 := s10_22 (cf := cf) (m := m) (x0 := some (.dat (.lst (ns.map D.int)))) (x1 := some (.dat (.int (j : Int)))) (x2 := some (.own dk1)) (x4 := some (.dat (.lst ((fairL m.i).map Rnd.d)))) (rest := [y6, y7, some (.own (.lst ((fairL m.i).map Rnd.d ++ [.non]))), none, some (.dat (.lst (insL m))), some (.dat (.lst (outsL m))), none, some (.own (.lst ((gainsL m).map D.int))), none, none, x16, none, none]) h5
  have t11 := s11_22 (cf := cf) (m := m) (x0 := some (.dat (.lst (ns.map D.int)))) (x1 := some (.dat (.int (j : Int)))) (x2 := some (.own dk1)) (x4 := some (.dat (.lst ((fairL m.i).map Rnd.d)))) (x6 := y6) (x7 := y7) (x8 := some (.own (.lst ((fairL m.i).map Rnd.d ++ [.non])))) (x9 := none) (x10 := some (.dat (.lst (insL m)))) (x11 := some (.dat (.lst (outsL m)))) (x12 := none) (x13 := some (.own (.lst ((gainsL m).map D.int)))) (x14 := none) (x15 := none) (rest := [none, none]) f16
  have t12 := s12_22 (x0 := some (.dat (.lst (ns.map D.int)))) (x1 := some (.dat (.int (j : Int)))) (x2 := some (.own dk1)) (x3 := some (.dat m.d)) (x4 := some (.dat (.lst ((fairL m.i).map Rnd.d)))) (x6 := y6) (x7 := y7) (x8 := some (.own (.lst ((fairL m.i).map Rnd.d ++ [.non])))) (x9 := none) (x10 := some (.dat (.lst (insL m)))) (x11 := some (.dat (.lst (outsL m)))) (x12 := none) (x13 := some (.own (.lst ((gainsL m).map D.int)))) (x14 := none) (x15 := none) (rest := [none, none]) (s := m.i.st) (C.fair (evenM m) (even_ok hm)) C.l175 (mem_rnd (even_mem hm))
  refine ⟨_, (exSs_step t0).trans ((exSs_step t1).trans ((exSs_step t2).trans ((exSs_step t3).trans ((exSs_step t4).trans ((exSs_step t5).trans ((exSs_step t6).trans ((exSs_step t7).trans ((exSs_step t8).trans ((exSs_step t9).trans ((exSs_step t10).trans ((exSs_step t11).trans ((exSs_step t12).trans exSs_nil)))))))))))), ?_⟩
  refine ⟨_, _, _, _, _, _, _, _, _, _, _, _, rfl, ?_⟩
  exact .cons rfl (.cons rfl (.cons rfl (.cons rfl (.cons rfl (.cons h6 (.cons h7 (.cons rfl (.cons rfl (.cons rfl (.cons rfl (.cons rfl .nil)))))))))))

end DL

namespace DL
open PySem PySem.Spec PyProof.Rows L2
def rp : Rnd := ⟨1, .down, 0⟩
def rh : Rnd := ⟨4, .near, 0⟩
def ru : Rnd := ⟨4, .up, 0⟩
def rd : Rnd := ⟨4, .down, 0⟩
def mp (a b : Rnd) : Mn := ⟨a, b, [], none, none⟩
theorem mp_ok {a b : Rnd} (ha : a.ok) (hb : b.ok) : (mp a b).ok := ⟨ha, hb, trivial, (fun _ z => nomatch z), (fun _ z => nomatch z)⟩
theorem rp_ok : rp.ok := ⟨by decide, by decide, by decide⟩
theorem rh_ok : rh.ok := ⟨by decide, by decide, by decide⟩
theorem ru_ok : ru.ok := ⟨by decide, by decide, by decide⟩
theorem rd_ok : rd.ok := ⟨by decide, by decide, by decide⟩
def six : List Rnd := [⟨1, .down, 0⟩, ⟨1, .near, 0⟩, ⟨1, .up, 0⟩, ⟨3, .down, 1⟩, ⟨3, .near, 0⟩, ⟨3, .near, 1⟩]
theorem fair_six : fairL rp = six := by kernel_rfl
theorem fair_28 : (fairL rh).length = 28 := by decide +kernel
theorem w1 : decide (maxL (gainsA ru) + maxL (gainsB rd) = 0) = true := by decide +kernel
theorem w2 : decide (minL (gainsA rd) + minL (gainsB ru) = 0) = true := by decide +kernel
theorem w3 : decide (maxL (gainsA rh) + maxL (gainsB rh) = 0) = false := by decide +kernel
theorem tail22_ok {cf : Cf} {E E2 : List D} {x0 x1 x2 x3 x4 x5 x6 x7 x8 x9 x10 x11 x12 x13 x14 x15 x16 : Option SV} (h4 : free x4 = true) (e1 : cf.run 175 [.dat (mp rp rp).d] = .ok (.own (.lst E)) none) (e2 : cf.run 175 [.dat (mp rh rh).d] = .ok (.own (.lst E2)) none) (hE : E = six.map Rnd.d) (hE2 : E2.length = 28)
    (e3 : cf.run 176 [.dat (mp ru rd).d] = .ok (.dat (.bl true)) none) (e4 : cf.run 177 [.dat (mp rd ru).d] = .ok (.dat (.bl true)) none) (e5 : cf.run 176 [.dat (mp rh rh).d] = .ok (.dat (.bl false)) none) (g1 : cf.lend 175 = false) (g2 : cf.lend 176 = false) (g3 : cf.lend 177 = false) :
    finF false (exSs cf 99 tail22 [x0, x1, x2, x3, x4, x5, x6, x7, x8, x9, x10, x11, x12, x13, x14, x15, x16, none, none]) = .ok (.dat (.bl true)) none := by
  have q : eqD (.lst E) (.lst E) = some true := by
    rw [hE]
    exact eqD_self (n := 3) (List.all_eq_true.mpr fun d hd => by obtain ⟨r, _, rfl⟩ := List.mem_map.mp hd; exact rnd_shp r)
  have a : exS cf 98 (.unp [.nm 17, .nm 18] (.tup [.tup [.tup [.cst (.int 1), .cst (.str "down"), .cst (.int 0)], .tup [.cst (.int 1), .cst (.str "down"), .cst (.int 0)], .tup [], .cst .non, .cst .non], .tup [.tup [.cst (.int 4), .cst (.str "near"), .cst (.int 0)], .tup [.cst (.int 4), .cst (.str "near"), .cst (.int 0)], .tup [], .cst .non, .cst .non]])) [x0, x1, x2, x3, x4, x5, x6, x7, x8, x9, x10, x11, x12, x13, x14, x15, x16, none, none]
      = .nx [x0, x1, x2, x3, x4, x5, x6, x7, x8, x9, x10, x11, x12, x13, x14, x15, x16, some (.dat (mp rp rp).d), some (.dat (mp rh rh).d)] := by
    simp only [mp, Mn.d, Rnd.d, rp, rh, Side.s, optD_none, List.map_nil]
    simp [ev_var, ev_cst, ev_glb, ev_fnv, ev_tup, ev_lst, ev_lmul, ev_dic_false, ev_dic_true, ev_dic1, ev_bin, ev_neg, ev_cmp, ev_chain, ev_and, ev_or, ev_not, ev_ite, ev_idx, ev_slc, ev_rev, ev_call, ev_callv, ev_bi, ev_inst, ev_get, ev_lrng, ev_dcp, ev_dprs, ev_lc, ev_lc2, ev_lc3, evT_and, evT_or, evT_not, evT_var, evT_cst, evT_glb, evT_fnv, evT_tup, evT_lst, evT_lmul, evT_dic, evT_dic1, evT_bin, evT_neg, evT_cmp, evT_chain, evT_ite, evT_idx, evT_slc, evT_rev, evT_call, evT_callv, evT_bi, evT_inst, evT_get, evT_lrng, evT_dcp, evT_dprs, evT_lc, evT_lc2, evT_lc3, opd_var, opd_cst, opd_glb, opd_fnv, opd_tup, opd_lst, opd_lmul, opd_dic, opd_dic1, opd_bin, opd_neg, opd_cmp, opd_chain, opd_and, opd_or, opd_not, opd_ite, opd_idx, opd_slc, opd_rev, opd_call, opd_callv, opd_bi, opd_inst, opd_get, opd_lrng, opd_dcp, opd_dprs, opd_lc, opd_lc2, opd_lc3, exS_set, exS_unp, exS_par, exS_parO, exS_store, exS_app, exS_expr, exS_ifs, exS_for_, exS_whil, exS_ret, exS_retv, exS_retN, exS_brk, exS_cont, exS_pass, exS_never, exSs_nil, exSs_cons, part_none, part_some, evIt, opds, vals, op2, cont, conts, Res.bind, Res.bindN, Res.sb, SRes.sq, lift, cmpP, binP, idxP, callP, finF, endF, backOf, isLent, SV.d, SV.lent, callR, lentOf, sharedSl, shLst, freezeSl, putBack, D.flat, tru, unpS, asg_tup, asg_ktup, asg_lst, asgs_cons, asgs_nil, setS_eq, asg_nm, free_none, free_dat, free_own, D.seq?, Z24, hasSlot, hasLst, modS, putAt, pushAt, retvS, lcFin, testO, DL.isP, keepO, List.replicate]
  have b : exS cf 97 (.set 4 (.lst [.tup [.cst (.int 1), .cst (.str "down"), .cst (.int 0)], .tup [.cst (.int 1), .cst (.str "near"), .cst (.int 0)], .tup [.cst (.int 1), .cst (.str "up"), .cst (.int 0)], .tup [.cst (.int 3), .cst (.str "down"), .cst (.int 1)], .tup [.cst (.int 3), .cst (.str "near"), .cst (.int 0)], .tup [.cst (.int 3), .cst (.str "near"), .cst (.int 1)]])) [x0, x1, x2, x3, x4, x5, x6, x7, x8, x9, x10, x11, x12, x13, x14, x15, x16, some (.dat (mp rp rp).d), some (.dat (mp rh rh).d)]
      = .nx [x0, x1, x2, x3, some (.own (.lst E)), x5, x6, x7, x8, x9, x10, x11, x12, x13, x14, x15, x16, some (.dat (mp rp rp).d), some (.dat (mp rh rh).d)] := by
    rw [hE]
    simp only [six, List.map_cons, List.map_nil, Rnd.d, Side.s]
    simp [ev_var, ev_cst, ev_glb, ev_fnv, ev_tup, ev_lst, ev_lmul, ev_dic_false, ev_dic_true, ev_dic1, ev_bin, ev_neg, ev_cmp, ev_chain, ev_and, ev_or, ev_not, ev_ite, ev_idx, ev_slc, ev_rev, ev_call, ev_callv, ev_bi, ev_inst, ev_get, ev_lrng, ev_dcp, ev_dprs, ev_lc, ev_lc2, ev_lc3, evT_and, evT_or, evT_not, evT_var, evT_cst, evT_glb, evT_fnv, evT_tup, evT_lst, evT_lmul, evT_dic, evT_dic1, evT_bin, evT_neg, evT_cmp, evT_chain, evT_ite, evT_idx, evT_slc, evT_rev, evT_call, evT_callv, evT_bi, evT_inst, evT_get, evT_lrng, evT_dcp, evT_dprs, evT_lc, evT_lc2, evT_lc3, opd_var, opd_cst, opd_glb, opd_fnv, opd_tup, opd_lst, opd_lmul, opd_dic, opd_dic1, opd_bin, opd_neg, opd_cmp, opd_chain, opd_and, opd_or, opd_not, opd_ite, opd_idx, opd_slc, opd_rev, opd_call, opd_callv, opd_bi, opd_inst, opd_get, opd_lrng, opd_dcp, opd_dprs, opd_lc, opd_lc2, opd_lc3, exS_set, exS_unp, exS_par, exS_parO, exS_store, exS_app, exS_expr, exS_ifs, exS_for_, exS_whil, exS_ret, exS_retv, exS_retN, exS_brk, exS_cont, exS_pass, exS_never, exSs_nil, exSs_cons, part_none, part_some, evIt, opds, vals, op2, cont, conts, Res.bind, Res.bindN, Res.sb, SRes.sq, lift, cmpP, binP, idxP, callP, finF, endF, backOf, isLent, SV.d, SV.lent, callR, lentOf, sharedSl, shLst, freezeSl, putBack, D.flat, tru, unpS, asg_tup, asg_ktup, asg_lst, asgs_cons, asgs_nil, setS_eq, asg_nm, free_none, free_dat, free_own, D.seq?, Z24, hasSlot, hasLst, modS, putAt, pushAt, retvS, lcFin, testO, DL.isP, keepO, List.replicate, h4]
  have c : exS cf 96 (.ifs (.or (.cmp .NotEq (.call 175 [.var 17]) (.var 4)) (.cmp .NotEq (.bi .len [.call 175 [.var 18]]) (.cst (.int 28)))) [.ret (.cst (.bl false))] []) [x0, x1, x2, x3, some (.own (.lst E)), x5, x6, x7, x8, x9, x10, x11, x12, x13, x14, x15, x16, some (.dat (mp rp rp).d), some (.dat (mp rh rh).d)]
      = .nx [x0, x1, x2, x3, some (.own (.lst E)), x5, x6, x7, x8, x9, x10, x11, x12, x13, x14, x15, x16, some (.dat (mp rp rp).d), some (.dat (mp rh rh).d)] := by
    clear a b hE e3 e4 e5
    generalize (mp rp rp).d = A at *
    generalize (mp rh rh).d = B at *
    simp [ev_var, ev_cst, ev_glb, ev_fnv, ev_tup, ev_lst, ev_lmul, ev_dic_false, ev_dic_true, ev_dic1, ev_bin, ev_neg, ev_cmp, ev_chain, ev_and, ev_or, ev_not, ev_ite, ev_idx, ev_slc, ev_rev, ev_call, ev_callv, ev_bi, ev_inst, ev_get, ev_lrng, ev_dcp, ev_dprs, ev_lc, ev_lc2, ev_lc3, evT_and, evT_or, evT_not, evT_var, evT_cst, evT_glb, evT_fnv, evT_tup, evT_lst, evT_lmul, evT_dic, evT_dic1, evT_bin, evT_neg, evT_cmp, evT_chain, evT_ite, evT_idx, evT_slc, evT_rev, evT_call, evT_callv, evT_bi, evT_inst, evT_get, evT_lrng, evT_dcp, evT_dprs, evT_lc, evT_lc2, evT_lc3, opd_var, opd_cst, opd_glb, opd_fnv, opd_tup, opd_lst, opd_lmul, opd_dic, opd_dic1, opd_bin, opd_neg, opd_cmp, opd_chain, opd_and, opd_or, opd_not, opd_ite, opd_idx, opd_slc, opd_rev, opd_call, opd_callv, opd_bi, opd_inst, opd_get, opd_lrng, opd_dcp, opd_dprs, opd_lc, opd_lc2, opd_lc3, exS_set, exS_unp, exS_par, exS_parO, exS_store, exS_app, exS_expr, exS_ifs, exS_for_, exS_whil, exS_ret, exS_retv, exS_retN, exS_brk, exS_cont, exS_pass, exS_never, exSs_nil, exSs_cons, part_none, part_some, evIt, opds, vals, op2, cont, conts, Res.bind, Res.bindN, Res.sb, SRes.sq, lift, cmpP, binP, idxP, callP, finF, endF, backOf, isLent, SV.d, SV.lent, callR, lentOf, sharedSl, shLst, freezeSl, putBack, D.flat, tru, unpS, asg_tup, asg_ktup, asg_lst, asgs_cons, asgs_nil, setS_eq, asg_nm, free_none, free_dat, free_own, D.seq?, Z24, hasSlot, hasLst, modS, putAt, pushAt, retvS, lcFin, testO, DL.isP, keepO, List.replicate, e1, e2, g1, q, hE2]
  have d : exS cf 95 (.ifs (.cmp .IsNot (.call 176 [.tup [.tup [.cst (.int 4), .cst (.str "up"), .cst (.int 0)], .tup [.cst (.int 4), .cst (.str "down"), .cst (.int 0)], .tup [], .cst .non, .cst .non]]) (.cst (.bl true))) [.ret (.cst (.bl false))] []) [x0, x1, x2, x3, some (.own (.lst E)), x5, x6, x7, x8, x9, x10, x11, x12, x13, x14, x15, x16, some (.dat (mp rp rp).d), some (.dat (mp rh rh).d)]
      = .nx [x0, x1, x2, x3, some (.own (.lst E)), x5, x6, x7, x8, x9, x10, x11, x12, x13, x14, x15, x16, some (.dat (mp rp rp).d), some (.dat (mp rh rh).d)] := by
    clear a b c hE e1 e2 e4 e5
    generalize (mp rp rp).d = A at *
    generalize (mp rh rh).d = B at *
    simp only [mp, Mn.d, Rnd.d, ru, rd, Side.s, optD_none, List.map_nil] at e3
    simp [ev_var, ev_cst, ev_glb, ev_fnv, ev_tup, ev_lst, ev_lmul, ev_dic_false, ev_dic_true, ev_dic1, ev_bin, ev_neg, ev_cmp, ev_chain, ev_and, ev_or, ev_not, ev_ite, ev_idx, ev_slc, ev_rev, ev_call, ev_callv, ev_bi, ev_inst, ev_get, ev_lrng, ev_dcp, ev_dprs, ev_lc, ev_lc2, ev_lc3, evT_and, evT_or, evT_not, evT_var, evT_cst, evT_glb, evT_fnv, evT_tup, evT_lst, evT_lmul, evT_dic, evT_dic1, evT_bin, evT_neg, evT_cmp, evT_chain, evT_ite, evT_idx, evT_slc, evT_rev, evT_call, evT_callv, evT_bi, evT_inst, evT_get, evT_lrng, evT_dcp, evT_dprs, evT_lc, evT_lc2, evT_lc3, opd_var, opd_cst, opd_glb, opd_fnv, opd_tup, opd_lst, opd_lmul, opd_dic, opd_dic1, opd_bin, opd_neg, opd_cmp, opd_chain, opd_and, opd_or, opd_not, opd_ite, opd_idx, opd_slc, opd_rev, opd_call, opd_callv, opd_bi, opd_inst, opd_get, opd_lrng, opd_dcp, opd_dprs, opd_lc, opd_lc2, opd_lc3, exS_set, exS_unp, exS_par, exS_parO, exS_store, exS_app, exS_expr, exS_ifs, exS_for_, exS_whil, exS_ret, exS_retv, exS_retN, exS_brk, exS_cont, exS_pass, exS_never, exSs_nil, exSs_cons, part_none, part_some, evIt, opds, vals, op2, cont, conts, Res.bind, Res.bindN, Res.sb, SRes.sq, lift, cmpP, binP, idxP, callP, finF, endF, backOf, isLent, SV.d, SV.lent, callR, lentOf, sharedSl, shLst, freezeSl, putBack, D.flat, tru, unpS, asg_tup, asg_ktup, asg_lst, asgs_cons, asgs_nil, setS_eq, asg_nm, free_none, free_dat, free_own, D.seq?, Z24, hasSlot, hasLst, modS, putAt, pushAt, retvS, lcFin, testO, DL.isP, keepO, List.replicate, e3, g2]
  have e : exS cf 94 (.ret (.and (.cmp .Is (.call 177 [.tup [.tup [.cst (.int 4), .cst (.str "down"), .cst (.int 0)], .tup [.cst (.int 4), .cst (.str "up"), .cst (.int 0)], .tup [], .cst .non, .cst .non]]) (.cst (.bl true))) (.cmp .Is (.call 176 [.var 18]) (.cst (.bl false))))) [x0, x1, x2, x3, some (.own (.lst E)), x5, x6, x7, x8, x9, x10, x11, x12, x13, x14, x15, x16, some (.dat (mp rp rp).d), some (.dat (mp rh rh).d)]
      = .rt (.dat (.bl true)) [x0, x1, x2, x3, some (.own (.lst E)), x5, x6, x7, x8, x9, x10, x11, x12, x13, x14, x15, x16, some (.dat (mp rp rp).d), some (.dat (mp rh rh).d)] := by
    clear a b c d hE e1 e2 e3
    generalize (mp rp rp).d = A at *
    generalize (mp rh rh).d = B at *
    simp only [mp, Mn.d, Rnd.d, ru, rd, Side.s, optD_none, List.map_nil] at e4
    simp [ev_var, ev_cst, ev_glb, ev_fnv, ev_tup, ev_lst, ev_lmul, ev_dic_false, ev_dic_true, ev_dic1, ev_bin, ev_neg, ev_cmp, ev_chain, ev_and, ev_or, ev_not, ev_ite, ev_idx, ev_slc, ev_rev, ev_call, ev_callv, ev_bi, ev_inst, ev_get, ev_lrng, ev_dcp, ev_dprs, ev_lc, ev_lc2, ev_lc3, evT_and, evT_or, evT_not, evT_var, evT_cst, evT_glb, evT_fnv, evT_tup, evT_lst, evT_lmul, evT_dic, evT_dic1, evT_bin, evT_neg, evT_cmp, evT_chain, evT_ite, evT_idx, evT_slc, evT_rev, evT_call, evT_callv, evT_bi, evT_inst, evT_get, evT_lrng, evT_dcp, evT_dprs, evT_lc, evT_lc2, evT_lc3, opd_var, opd_cst, opd_glb, opd_fnv, opd_tup, opd_lst, opd_lmul, opd_dic, opd_dic1, opd_bin, opd_neg, opd_cmp, opd_chain, opd_and, opd_or, opd_not, opd_ite, opd_idx, opd_slc, opd_rev, opd_call, opd_callv, opd_bi, opd_inst, opd_get, opd_lrng, opd_dcp, opd_dprs, opd_lc, opd_lc2, opd_lc3, exS_set, exS_unp, exS_par, exS_parO, exS_store, exS_app, exS_expr, exS_ifs, exS_for_, exS_whil, exS_ret, exS_retv, exS_retN, exS_brk, exS_cont, exS_pass, exS_never, exSs_nil, exSs_cons, part_none, part_some, evIt, opds, vals, op2, cont, conts, Res.bind, Res.bindN, Res.sb, SRes.sq, lift, cmpP, binP, idxP, callP, finF, endF, backOf, isLent, SV.d, SV.lent, callR, lentOf, sharedSl, shLst, freezeSl, putBack, D.flat, tru, unpS, asg_tup, asg_ktup, asg_lst, asgs_cons, asgs_nil, setS_eq, asg_nm, free_none, free_dat, free_own, D.seq?, Z24, hasSlot, hasLst, modS, putAt, pushAt, retvS, lcFin, testO, DL.isP, keepO, List.replicate, e4, e5, g2, g3]
  have z := (exSs_step (ss := _) a).trans ((exSs_step b).trans ((exSs_step c).trans (exSs_step (ss := [.ret (.and (.cmp .Is (.call 177 [.tup [.tup [.cst (.int 4), .cst (.str "down"), .cst (.int 0)], .tup [.cst (.int 4), .cst (.str "up"), .cst (.int 0)], .tup [], .cst .non, .cst .non]]) (.cst (.bl true))) (.cmp .Is (.call 176 [.var 18]) (.cst (.bl false))))]) d)))
  have z2 : exSs cf 95 [.ret (.and (.cmp .Is (.call 177 [.tup [.tup [.cst (.int 4), .cst (.str "down"), .cst (.int 0)], .tup [.cst (.int 4), .cst (.str "up"), .cst (.int 0)], .tup [], .cst .non, .cst .non]]) (.cst (.bl true))) (.cmp .Is (.call 176 [.var 18]) (.cst (.bl false))))] [x0, x1, x2, x3, some (.own (.lst E)), x5, x6, x7, x8, x9, x10, x11, x12, x13, x14, x15, x16, some (.dat (mp rp rp).d), some (.dat (mp rh rh).d)] = .rt (.dat (.bl true)) [x0, x1, x2, x3, some (.own (.lst E)), x5, x6, x7, x8, x9, x10, x11, x12, x13, x14, x15, x16, some (.dat (mp rp rp).d), some (.dat (mp rh rh).d)] := by
    rw [exSs_cons, e]
  have z3 : exSs cf 99 tail22 [x0, x1, x2, x3, x4, x5, x6, x7, x8, x9, x10, x11, x12, x13, x14, x15, x16, none, none] = _ := z.trans z2
  rw [z3]
  rfl
theorem law22_head (ns : List Int) : semK glob gvG 100 40 179 [.dat (.lst (ns.map D.int))] = finF false (exSs (cfk 39) 100 F_law_k22.body [some (.dat (.lst (ns.map D.int))), none, none, none, none, none, none, none, none, none, none, none, none, none, none, none, none, none, none]) := by
  rw [semK_eq g_law_k22, if_pos ⟨rfl, rfl⟩]
  rfl
theorem rng3 : rangeD 0 3 = [.int ((0 : Nat) : Int), .int ((1 : Nat) : Int), .int ((2 : Nat) : Int)] := rfl
theorem loop22 {cf : Cf} (C : Cf22 cf) (ns : List Int) (hn : ns.length ≤ 63) : ∃ ρ2, forGo (exSs cf 98 deck22) (.nm 1) (rangeD 0 3) [some (.dat (.lst (ns.map D.int))), none, none, none, none, none, none, none, none, none, none, none, none, none, none, none, none, none, none] = .nx ρ2 ∧ Q22P (.lst (ns.map D.int)) ρ2 := by
  rw [show rangeD 0 3 = (List.range 3).map fun i : Nat => D.int ((i : Nat) : Int) by rw [rng3]; rfl]
  obtain ⟨ρ2, e, h⟩ := for_acc (α := Unit) (body := exSs cf 98 deck22) (T := .nm 1) (fun i : Nat => D.int ((i : Nat) : Int)) (fun a _ => a) (fun _ ρ => Q22P (.lst (ns.map D.int)) ρ) (List.range 3) () [some (.dat (.lst (ns.map D.int))), none, none, none, none, none, none, none, none, none, none, none, none, none, none, none, none, none, none]
    ⟨none, none, none, none, none, none, none, none, none, none, none, none, rfl, .cons rfl (.cons rfl (.cons rfl (.cons rfl (.cons rfl (.cons rfl (.cons rfl (.cons rfl (.cons rfl (.cons rfl (.cons rfl (.cons rfl .nil)))))))))))⟩ (fun j hj _ ρ h => by
      obtain ⟨ρ1, e1, ρ2, e2, h2⟩ := deck22_ok C ns hn j (List.mem_range.mp hj) ρ h
      exact ⟨ρ1, e1, ρ2, e2, h2⟩)
  exact ⟨ρ2, e, h⟩
theorem plain_k22 (ns : List Int) (hn : ns.length ≤ 63) : semK glob gvG 100 40 179 [.dat (.lst (ns.map D.int))] = .ok (.dat (.bl true)) none := by
  have C := cf22
  rw [law22_head]
  generalize cfk 39 = cf at *
  obtain ⟨ρ2, e, x1, x2, x3, x4, x5, x6, x7, x8, x10, x11, x13, x16, rfl, fr⟩ := loop22 C ns hn
  simp only [Fr, List.forall_mem_cons] at fr
  have f4 := fr.2.2.2.1
  have it : evIt (ev cf 98) (.rng (.cst (.int 3))) [some (.dat (.lst (ns.map D.int))), none, none, none, none, none, none, none, none, none, none, none, none, none, none, none, none, none, none] = .ok (rangeD 0 3) [some (.dat (.lst (ns.map D.int))), none, none, none, none, none, none, none, none, none, none, none, none, none, none, none, none, none, none] := rng_lit (i := 3) (by decide)
  have a := exSs_step (ss := tail22) (for_nx it e)
  have b : exSs cf 100 F_law_k22.body [some (.dat (.lst (ns.map D.int))), none, none, none, none, none, none, none, none, none, none, none, none, none, none, none, none, none, none] = exSs cf 99 tail22 _ := a
  rw [b]
  exact tail22_ok f4 (C.fair _ (mp_ok rp_ok rp_ok)) (C.fair _ (mp_ok rh_ok rh_ok)) (by rw [show (mp rp rp).i = rp from rfl, fair_six]) (by rw [List.length_map]; exact fair_28)
    (by have := C.wins _ (mp_ok ru_ok rd_ok); rwa [show (mp ru rd).i = ru from rfl, show (mp ru rd).o = rd from rfl, w1] at this)
    (by have := C.loses _ (mp_ok rd_ok ru_ok); rwa [show (mp rd ru).i = rd from rfl, show (mp rd ru).o = ru from rfl, w2] at this)
    (by have := C.wins _ (mp_ok rh_ok rh_ok); rwa [show (mp rh rh).i = rh from rfl, show (mp rh rh).o = rh from rfl, w3] at this) C.l175 C.l176 C.l177
end DL

namespace DL.Law
open PySem PySem.Spec PyProof.Rows L2 DL
def top (i : Nat) : Stmt := PySem.Challenge.pw_clockcards_k22_whole_roundings_that_win.main.body.getD i (.Pass ⟨0, 0, 0, 0⟩)
def i_is_from : DefI := ⟨0, "is_from", top 9, ["value", "low", "high"], ["value", "low", "high"], F_is_from⟩
def i_is_rounding_of : DefI := ⟨1, "is_rounding_of", top 10, ["value", "step", "side", "grace"], ["value"], F_is_rounding_of⟩
def i_are_breaks_of : DefI := ⟨2, "are_breaks_of", top 11, ["value", "one"], ["value"], F_are_breaks_of⟩
def i_is_manner_of : DefI := ⟨3, "is_manner_of", top 12, ["value", "ins", "outs", "breaks", "day", "week"], ["value"], F_is_manner_of⟩
def i_need_manner : DefI := ⟨16, "need_manner", top 13, ["value"], ["value"], F_need_manner⟩
def i_came : DefI := ⟨18, "came", top 15, ["rounding", "time", "step", "side", "grace", "rest"], ["rounding", "time"], F_came⟩
def i_went : DefI := ⟨19, "went", top 16, ["rounding", "time", "step", "side", "grace", "lack"], ["rounding", "time"], F_went⟩
def i_lowest_terms : DefI := ⟨73, "lowest_terms", top 18, ["top", "bottom", "first", "second"], ["top", "bottom"], F_lowest_terms⟩
def i_ends_of : DefI := ⟨75, "ends_of", top 19, ["rounding", "is_in", "time"], ["rounding", "is_in"], F_ends_of⟩
def i_mean_of : DefI := ⟨78, "mean_of", top 20, ["manner", "first", "second"], ["manner"], F_mean_of⟩
def i_mean_won : DefI := ⟨79, "mean_won", top 21, ["manner"], ["manner"], F_mean_won⟩
def i_every_rounding : DefI := ⟨123, "every_rounding", top 23, ["step", "side", "grace"], [], F_every_rounding⟩
def i_fair_outs : DefI := ⟨175, "fair_outs", top 25, ["manner", "one"], ["manner"], F_fair_outs⟩
def i_never_wins : DefI := ⟨176, "never_wins", top 26, ["manner"], ["manner"], F_never_wins⟩
def i_never_loses : DefI := ⟨177, "never_loses", top 27, ["manner"], ["manner"], F_never_loses⟩
def i__law_deck : DefI := ⟨5, "_law_deck", top 29, ["_law_cell", "_law_turn"], ["_law_cell", "_law_turn"], F__law_deck⟩
def i__law_pick : DefI := ⟨6, "_law_pick", top 30, ["_law_deck_here", "_law_limit", "_law_found", "_law_number"], ["_law_deck_here", "_law_limit"], F__law_pick⟩
def i__law_bool : DefI := ⟨56, "_law_bool", top 31, ["_law_found", "_law_due"], ["_law_found", "_law_due"], F__law_bool⟩
def i__law_sort : DefI := ⟨24, "_law_sort", top 32, ["_law_thing"], ["_law_thing"], F__law_sort⟩
def i__law_same : DefI := ⟨25, "_law_same", top 33, ["_law_told", "_law_due", "_law_k", "_law_part"], ["_law_told", "_law_due"], F__law_same⟩
def i__law_punch : DefI := ⟨26, "_law_punch", top 34, ["_law_rounding_here", "_law_at", "_law_is_in", "_law_step", "_law_side", "_law_grace", "_law_low", "_law_high"], ["_law_rounding_here", "_law_at", "_law_is_in"], F__law_punch⟩
def i__law_rounding : DefI := ⟨9, "_law_rounding", top 38, ["_law_deck_here", "_law_step"], ["_law_deck_here"], F__law_rounding⟩
def i__law_manner : DefI := ⟨10, "_law_manner", top 39, ["_law_deck_here", "_law_breaks", "_law_start", "_law_turn", "_law_limit", "_law_most"], ["_law_deck_here"], F__law_manner⟩
def i__law_every : DefI := ⟨59, "_law_every", top 42, ["_law_found", "_law_start", "_law_end"], [], F__law_every⟩
def i__law_mean : DefI := ⟨178, "_law_mean", top 45, ["_law_r", "_law_first", "_law_second", "_law_total", "_law_at", "_law_end"], ["_law_r"], F__law_mean⟩
def i_law : DefI := ⟨179, "law", top 46, ["_law_script", "_law_k", "_law_deck_here", "_law_r", "_law_due", "_law_step", "_law_side", "_law_grace", "_law_found", "_law_one", "_law_ins", "_law_outs", "_law_at", "_law_gains", "_law_start", "_law_end", "_law_even", "_law_plain", "_law_hour"], ["_law_script"], F_law_k22⟩
def L : LawI := ⟨[i_is_from, i_is_rounding_of, i_are_breaks_of, i_is_manner_of, i_need_manner, i_came, i_went, i_lowest_terms, i_ends_of, i_mean_of, i_mean_won, i_every_rounding, i_fair_outs, i_never_wins, i_never_loses, i__law_deck, i__law_pick, i__law_bool, i__law_sort, i__law_same, i__law_punch, i__law_rounding, i__law_manner, i__law_every, i__law_mean, i_law], [⟨0, "STEPS", .tup [.int 1, .int 2, .int 3, .int 4, .int 6, .int 8, .int 12]⟩, ⟨1, "SIDES", .tup [.str "down", .str "near", .str "up"]⟩, ⟨2, "LAST", .int 96⟩, ⟨3, "MOST_MINUS", .int 8⟩, ⟨4, "MOST_DAYS", .int 5⟩], ["isinstance", "bool", "int", "len", "tuple", "str", "abs", "range", "sum", "max", "min", "list", "enumerate"]⟩
theorem o_is_from : DefOk glob L 60 i_is_from := ⟨rfl, ⟨rfl, rfl, rfl, by decide +kernel, rfl, by decide +kernel, by decide +kernel⟩, rfl, rfl, fun _ _ _ _ _ _ us hl => match us, hl with | [_, _, _], _ => rfl, by decide +kernel⟩
theorem o_is_rounding_of : DefOk glob L 60 i_is_rounding_of := ⟨rfl, ⟨rfl, rfl, rfl, by decide +kernel, rfl, by decide +kernel, by decide +kernel⟩, rfl, rfl, fun _ _ _ _ _ _ us hl => match us, hl with | [_], _ => rfl, by decide +kernel⟩
theorem o_are_breaks_of : DefOk glob L 60 i_are_breaks_of := ⟨rfl, ⟨rfl, rfl, rfl, by decide +kernel, rfl, by decide +kernel, by decide +kernel⟩, rfl, rfl, fun _ _ _ _ _ _ us hl => match us, hl with | [_], _ => rfl, by decide +kernel⟩
theorem o_is_manner_of : DefOk glob L 60 i_is_manner_of := ⟨rfl, ⟨rfl, rfl, rfl, by decide +kernel, rfl, by decide +kernel, by decide +kernel⟩, rfl, rfl, fun _ _ _ _ _ _ us hl => match us, hl with | [_], _ => rfl, by decide +kernel⟩
theorem o_need_manner : DefOk glob L 60 i_need_manner := ⟨rfl, ⟨rfl, rfl, rfl, by decide +kernel, rfl, by decide +kernel, by decide +kernel⟩, rfl, rfl, fun _ _ _ _ _ _ us hl => match us, hl with | [_], _ => rfl, by decide +kernel⟩
theorem o_came : DefOk glob L 60 i_came := ⟨rfl, ⟨rfl, rfl, rfl, by decide +kernel, rfl, by decide +kernel, by decide +kernel⟩, rfl, rfl, fun _ _ _ _ _ _ us hl => match us, hl with | [_, _], _ => rfl, by decide +kernel⟩
theorem o_went : DefOk glob L 60 i_went := ⟨rfl, ⟨rfl, rfl, rfl, by decide +kernel, rfl, by decide +kernel, by decide +kernel⟩, rfl, rfl, fun _ _ _ _ _ _ us hl => match us, hl with | [_, _], _ => rfl, by decide +kernel⟩
theorem o_lowest_terms : DefOk glob L 60 i_lowest_terms := ⟨rfl, ⟨rfl, rfl, rfl, by decide +kernel, rfl, by decide +kernel, by decide +kernel⟩, rfl, rfl, fun _ _ _ _ _ _ us hl => match us, hl with | [_, _], _ => rfl, by decide +kernel⟩
theorem o_ends_of : DefOk glob L 60 i_ends_of := ⟨rfl, ⟨rfl, rfl, rfl, by decide +kernel, rfl, by decide +kernel, by decide +kernel⟩, rfl, rfl, fun _ _ _ _ _ _ us hl => match us, hl with | [_, _], _ => rfl, by decide +kernel⟩
theorem o_mean_of : DefOk glob L 60 i_mean_of := ⟨rfl, ⟨rfl, rfl, rfl, by decide +kernel, rfl, by decide +kernel, by decide +kernel⟩, rfl, rfl, fun _ _ _ _ _ _ us hl => match us, hl with | [_], _ => rfl, by decide +kernel⟩
theorem o_mean_won : DefOk glob L 60 i_mean_won := ⟨rfl, ⟨rfl, rfl, rfl, by decide +kernel, rfl, by decide +kernel, by decide +kernel⟩, rfl, rfl, fun _ _ _ _ _ _ us hl => match us, hl with | [_], _ => rfl, by decide +kernel⟩
theorem o_every_rounding : DefOk glob L 60 i_every_rounding := ⟨rfl, ⟨rfl, rfl, rfl, by decide +kernel, rfl, by decide +kernel, by decide +kernel⟩, rfl, rfl, fun _ _ _ _ _ _ us hl => match us, hl with | [], _ => rfl, by decide +kernel⟩
theorem o_fair_outs : DefOk glob L 60 i_fair_outs := ⟨rfl, ⟨rfl, rfl, rfl, by decide +kernel, rfl, by decide +kernel, by decide +kernel⟩, rfl, rfl, fun _ _ _ _ _ _ us hl => match us, hl with | [_], _ => rfl, by decide +kernel⟩
theorem o_never_wins : DefOk glob L 60 i_never_wins := ⟨rfl, ⟨rfl, rfl, rfl, by decide +kernel, rfl, by decide +kernel, by decide +kernel⟩, rfl, rfl, fun _ _ _ _ _ _ us hl => match us, hl with | [_], _ => rfl, by decide +kernel⟩
theorem o_never_loses : DefOk glob L 60 i_never_loses := ⟨rfl, ⟨rfl, rfl, rfl, by decide +kernel, rfl, by decide +kernel, by decide +kernel⟩, rfl, rfl, fun _ _ _ _ _ _ us hl => match us, hl with | [_], _ => rfl, by decide +kernel⟩
theorem o__law_deck : DefOk glob L 60 i__law_deck := ⟨rfl, ⟨rfl, rfl, rfl, by decide +kernel, rfl, by decide +kernel, by decide +kernel⟩, rfl, rfl, fun _ _ _ _ _ _ us hl => match us, hl with | [_, _], _ => rfl, by decide +kernel⟩
theorem o__law_pick : DefOk glob L 60 i__law_pick := ⟨rfl, ⟨rfl, rfl, rfl, by decide +kernel, rfl, by decide +kernel, by decide +kernel⟩, rfl, rfl, fun _ _ _ _ _ _ us hl => match us, hl with | [_, _], _ => rfl, by decide +kernel⟩
theorem o__law_bool : DefOk glob L 60 i__law_bool := ⟨rfl, ⟨rfl, rfl, rfl, by decide +kernel, rfl, by decide +kernel, by decide +kernel⟩, rfl, rfl, fun _ _ _ _ _ _ us hl => match us, hl with | [_, _], _ => rfl, by decide +kernel⟩
theorem o__law_sort : DefOk glob L 60 i__law_sort := ⟨rfl, ⟨rfl, rfl, rfl, by decide +kernel, rfl, by decide +kernel, by decide +kernel⟩, rfl, rfl, fun _ _ _ _ _ _ us hl => match us, hl with | [_], _ => rfl, by decide +kernel⟩
theorem o__law_same : DefOk glob L 60 i__law_same := ⟨rfl, ⟨rfl, rfl, rfl, by decide +kernel, rfl, by decide +kernel, by decide +kernel⟩, rfl, rfl, fun _ _ _ _ _ _ us hl => match us, hl with | [_, _], _ => rfl, by decide +kernel⟩
theorem o__law_punch : DefOk glob L 60 i__law_punch := ⟨rfl, ⟨rfl, rfl, rfl, by decide +kernel, rfl, by decide +kernel, by decide +kernel⟩, rfl, rfl, fun _ _ _ _ _ _ us hl => match us, hl with | [_, _, _], _ => rfl, by decide +kernel⟩
theorem o__law_rounding : DefOk glob L 60 i__law_rounding := ⟨rfl, ⟨rfl, rfl, rfl, by decide +kernel, rfl, by decide +kernel, by decide +kernel⟩, rfl, rfl, fun _ _ _ _ _ _ us hl => match us, hl with | [_], _ => rfl, by decide +kernel⟩
theorem o__law_manner : DefOk glob L 60 i__law_manner := ⟨rfl, ⟨rfl, rfl, rfl, by decide +kernel, rfl, by decide +kernel, by decide +kernel⟩, rfl, rfl, fun _ _ _ _ _ _ us hl => match us, hl with | [_], _ => rfl, by decide +kernel⟩
theorem o__law_every : DefOk glob L 60 i__law_every := ⟨rfl, ⟨rfl, rfl, rfl, by decide +kernel, rfl, by decide +kernel, by decide +kernel⟩, rfl, rfl, fun _ _ _ _ _ _ us hl => match us, hl with | [], _ => rfl, by decide +kernel⟩
theorem o__law_mean : DefOk glob L 60 i__law_mean := ⟨rfl, ⟨rfl, rfl, rfl, by decide +kernel, rfl, by decide +kernel, by decide +kernel⟩, rfl, rfl, fun _ _ _ _ _ _ us hl => match us, hl with | [_], _ => rfl, by decide +kernel⟩
theorem o_law : DefOk glob L 60 i_law := ⟨rfl, ⟨rfl, rfl, rfl, by decide +kernel, rfl, by decide +kernel, by decide +kernel⟩, rfl, rfl, fun _ _ _ _ _ _ us hl => match us, hl with | [_], _ => rfl, by decide +kernel⟩
theorem LO : LawOk glob gvG L 60 := ⟨by
  intro d hd
  have hd : d ∈ [i_is_from, i_is_rounding_of, i_are_breaks_of, i_is_manner_of, i_need_manner, i_came, i_went, i_lowest_terms, i_ends_of, i_mean_of, i_mean_won, i_every_rounding, i_fair_outs, i_never_wins, i_never_loses, i__law_deck, i__law_pick, i__law_bool, i__law_sort, i__law_same, i__law_punch, i__law_rounding, i__law_manner, i__law_every, i__law_mean, i_law] := hd
  simp only [List.mem_cons, List.not_mem_nil, or_false] at hd
  rcases hd with rfl | rfl | rfl | rfl | rfl | rfl | rfl | rfl | rfl | rfl | rfl | rfl | rfl | rfl | rfl | rfl | rfl | rfl | rfl | rfl | rfl | rfl | rfl | rfl | rfl | rfl
  · exact o_is_from
  · exact o_is_rounding_of
  · exact o_are_breaks_of
  · exact o_is_manner_of
  · exact o_need_manner
  · exact o_came
  · exact o_went
  · exact o_lowest_terms
  · exact o_ends_of
  · exact o_mean_of
  · exact o_mean_won
  · exact o_every_rounding
  · exact o_fair_outs
  · exact o_never_wins
  · exact o_never_loses
  · exact o__law_deck
  · exact o__law_pick
  · exact o__law_bool
  · exact o__law_sort
  · exact o__law_same
  · exact o__law_punch
  · exact o__law_rounding
  · exact o__law_manner
  · exact o__law_every
  · exact o__law_mean
  · exact o_law
  , by decide +kernel, by
  intro c hc
  simp only [L, List.mem_cons, List.not_mem_nil, or_false] at hc
  rcases hc with rfl | rfl | rfl | rfl | rfl <;> rfl
  , by decide +kernel⟩
abbrev R : PySem.W.OpenRow := PySem.W.OpenLaw.row PySem.Challenge.rw_clockcards_k22_whole_roundings_that_win
def loose : List Str := (["CardError", "InvalidManner", "LAST", "STEPS", "SIDES", "MOST_MINUS", "MOST_DAYS", "is_from", "is_rounding_of", "are_breaks_of", "is_manner_of", "need_manner", "came", "went", "lowest_terms", "ends_of", "mean_of", "mean_won", "every_rounding", "fair_outs", "never_wins", "never_loses", "_law_deck", "_law_pick", "_law_bool", "_law_sort", "_law_same", "_law_punch", "_law_split", "_law_counts"] : List Str) ++ (["_law_worth", "_law_rounding", "_law_manner", "_law_pair", "_law_days", "_law_every", "_law_splits", "_law_alone", "_law_mean"] : List Str)
def ob (s : PySem.W.SharedT) : He.AlD × Bool := obsL 4 L (HandSHeadRun.getT s)
theorem ob_eq (s : PySem.W.SharedT) : ob s = (hookL 4 L).obs s.abs := obsL_eq (HandSHeadRun.getT_eq s)
theorem run (w : World) : HandSHeadRun.RunEq R (PySem.W.view R.prog [46]) (hookL 4 L) ob 4000 loose w := by
  intro os
  kernel_rfl
end DL.Law

open PySem PySem.W PySem.Calls PyProof.Rows
theorem PySem.Challenge.cw_clockcards_k22_whole_roundings_that_win_holds : PySem.Challenge.rw_clockcards_k22_whole_roundings_that_win.Holds := by
  w_on; o_law
  refine HandSHeadRun.head_any (r := OpenLaw.row PySem.Challenge.rw_clockcards_k22_whole_roundings_that_win) (q := view (OpenLaw.row PySem.Challenge.rw_clockcards_k22_whole_roundings_that_win).prog [46]) (H := DL.hookL 4 DL.Law.L) (ob := DL.Law.ob) (M := 4000) (loose := DL.Law.loose) (d := HandSHeadRun.topDef (OpenLaw.row PySem.Challenge.rw_clockcards_k22_whole_roundings_that_win).prog 46) (kwd := []) DL.Law.ob_eq
    (by kernel_rfl) (fun s => by kernel_rfl) DL.Law.run (by kernel_rfl) (by kernel_rfl) (by kernel_rfl) (by rfl) (by first | assumption | decide +kernel) (by decide +kernel) ⟨rfl, rfl, rfl, rfl, rfl, by decide +kernel⟩ ?hw ?hc
  case hw => w_witness2
  case hc =>
    refine L2.walk_ofE (l := PySem.Challenge.rw_clockcards_k22_whole_roundings_that_win) (n := 63) (k := 40) (x := "_law_script") (CX := L2.CX0) rfl (by decide) (by kernel_rfl) ⟨rfl, by decide, by decide⟩ ?F (fun _ _ _ _ z => z)
    intro w mg fa h Y G hmg0
    obtain ⟨K, KX, c, ex⟩ := Y
    have hmg : mg ("law" : PySem.Str) = some (.ref fa) := by
      have e : (HandSHeadRun.topDef (OpenLaw.row PySem.Challenge.rw_clockcards_k22_whole_roundings_that_win).prog 46).name = ("law" : PySem.Str) := by kernel_rfl
      rw [← e]
      exact hmg0
    obtain ⟨fd, sp, h1, h2, h3⟩ := DL.law_facts (P := (PySem.Challenge.rw_clockcards_k22_whole_roundings_that_win).prog) (w := w) (N := 63) (n := 100) (k := 40) (d := DL.Law.i_law) (x := "_law_script") DL.Law.LO KX G c ex (by unfold DL.Law.L; simp) rfl hmg DL.plain_k22
    exact ⟨K, fd, sp, KX, h1, h2, h3⟩


import PyProof.Rows.All
import Wide.All
import OpenK.AllK
import Wide.FinOn
import HandS.Base
import HandS.Call
import HandS.List
import HandS.Comp
import HandS.Ends
import HandS.Dict
import HandS.Iter
import HandS.Text
import HandS.Words
import HandS.SortInts
import HandS.Exc
import HandS.TupLe
import HandS.Deep
import HandS.TupAny
import HandS.IsInst
import HandS.Walk
import HandS.Style
import HandS.Conv
import HandS.More
import HandS.CallSlots
import HandS.Zip
import HandS.Small
import HandS.WordsExc
import HandS.Defaults
import KE.KStateDown
import HandS.Head0
import HandS.Head1
import HandS.Head2
import HandS.HeadEnd
import HandS.HeadHook1
import HandS.HeadHook2
import HandS.HeadHook4
import PySem.Challenge.RW_clockcards_k01_manners_recognized
set_option Elab.async false
set_option linter.all false
set_option maxRecDepth 100000
set_option maxHeartbeats 0
/-! data trees over the abstract heap -/
namespace DL
open PySem PySem.Spec PyProof.Rows L2

/-- data as a tree -/
inductive D where
  | non | bl (b : Bool) | int (i : Int) | str (x : Str)
  | tup (ds : List D) | ktup (ds : List D) | lst (ds : List D)
  | dK (kvs : List (Key × D)) | dT (kvs : List (List Key × D))
  | fn (j : Nat)

abbrev AP' := Addr → Prop

/-- a tuple of the written part -/
def KTup (K : PySem.W.Frag) (a : Addr) (xs : List V) : Prop :=
  ∃ (o : Obj) (its : Array Value) (n : Nat), K.lookup a = some o ∧ o.cls = .type "tuple" ∧ o.data = .seq its n ∧ its.size ≤ sizeLine ∧ Vals xs its.toList

variable (K : PySem.W.Frag) (fa : Nat → Option Addr)
mutual
inductive Rep (H : Hp) (F : AP') : V → D → Prop
  | non : Rep H F .non .non
  | bl (b : Bool) : Rep H F (.bl b) (.bl b)
  | int (i : Int) : Rep H F (.int i) (.int i)
  | str (x : Str) : Rep H F (.str x) (.str x)
  | tup {a : Addr} {xs : List V} {ds : List D} : H a = some (.tup xs) → RepL H F xs ds → Rep H F (.ref a) (.tup ds)
  | ktup {a : Addr} {xs : List V} {ds : List D} : KTup K a xs → RepL H F xs ds → Rep H F (.ref a) (.ktup ds)
  | lst {a : Addr} {xs : List V} {ds : List D} : F a → Rd H a (.lst xs) → RepL H F xs ds → Rep H F (.ref a) (.lst ds)
  | dK {a : Addr} {kvs : List (Key × V)} {kds : List (Key × D)} : F a → Rd H a (.dK kvs) → kvs.map Prod.fst = kds.map Prod.fst → RepL H F (kvs.map Prod.snd) (kds.map Prod.snd) → Rep H F (.ref a) (.dK kds)
  | dT {a : Addr} {kvs : List (List Key × V)} {kds : List (List Key × D)} : F a → Rd H a (.dT kvs) → kvs.map Prod.fst = kds.map Prod.fst → RepL H F (kvs.map Prod.snd) (kds.map Prod.snd) → Rep H F (.ref a) (.dT kds)
  | fn {j : Nat} {a : Addr} : fa j = some a → Rep H F (.ref a) (.fn j)
inductive RepL (H : Hp) (F : AP') : List V → List D → Prop
  | nil : RepL H F [] []
  | cons {v : V} {vs : List V} {d : D} {ds : List D} : Rep H F v d → RepL H F vs ds → RepL H F (v :: vs) (d :: ds)
end

variable {K : PySem.W.Frag} {fa : Nat → Option Addr}
section
variable {H H' : Hp} {F F' : AP'}
/-- what readings lean on stands -/
structure Stays (H : Hp) (F : AP') (H' : Hp) (F' : AP') : Prop where
  tup : ∀ a xs, H a = some (.tup xs) → H' a = some (.tup xs)
  rd : ∀ a u, F a → Rd H a u → Rd H' a u
  fr : ∀ a, F a → F' a
mutual
theorem Rep.stays (s : Stays H F H' F') : ∀ {v : V} {d : D}, Rep K fa H F v d → Rep K fa H' F' v d
  | _, _, .non => .non
  | _, _, .bl b => .bl b
  | _, _, .int i => .int i
  | _, _, .str x => .str x
  | _, _, .tup h r => .tup (s.tup _ _ h) (RepL.stays s r)
  | _, _, .ktup h r => .ktup h (RepL.stays s r)
  | _, _, .lst f h r => .lst (s.fr _ f) (s.rd _ _ f h) (RepL.stays s r)
  | _, _, .dK f h e r => .dK (s.fr _ f) (s.rd _ _ f h) e (RepL.stays s r)
  | _, _, .dT f h e r => .dT (s.fr _ f) (s.rd _ _ f h) e (RepL.stays s r)
  | _, _, .fn h => .fn h
theorem RepL.stays (s : Stays H F H' F') : ∀ {v : List V} {d : List D}, RepL K fa H F v d → RepL K fa H' F' v d
  | _, _, .nil => .nil
  | _, _, .cons h r => .cons (Rep.stays s h) (RepL.stays s r)
end
theorem RepL.length : ∀ {vs : List V} {ds : List D}, RepL K fa H F vs ds → vs.length = ds.length
  | _, _, .nil => rfl
  | _, _, .cons _ r => by rw [List.length_cons, List.length_cons, RepL.length r]
theorem RepL.get : ∀ {vs : List V} {ds : List D} {i : Nat} {d : D}, RepL K fa H F vs ds → ds[i]? = some d → ∃ v, vs[i]? = some v ∧ Rep K fa H F v d
  | _, _, _, _, .nil, e => by simp at e
  | _, _, 0, _, .cons h _, e => by simp at e; subst e; exact ⟨_, rfl, h⟩
  | _, _, i + 1, _, .cons _ r, e => by
    obtain ⟨v, h1, h2⟩ := RepL.get (i := i) r (by simpa using e)
    exact ⟨v, by simpa using h1, h2⟩
theorem RepL.get' : ∀ {vs : List V} {ds : List D} {i : Nat} {v : V}, RepL K fa H F vs ds → vs[i]? = some v → ∃ d, ds[i]? = some d ∧ Rep K fa H F v d
  | _, _, _, _, .nil, e => by simp at e
  | _, _, 0, _, .cons h _, e => by simp at e; subst e; exact ⟨_, rfl, h⟩
  | _, _, i + 1, _, .cons _ r, e => by
    obtain ⟨v, h1, h2⟩ := RepL.get' (i := i) r (by simpa using e)
    exact ⟨v, by simpa using h1, h2⟩
theorem RepL.append : ∀ {vs ws : List V} {ds es : List D}, RepL K fa H F vs ds → RepL K fa H F ws es → RepL K fa H F (vs ++ ws) (ds ++ es)
  | _, _, _, _, .nil, s => s
  | _, _, _, _, .cons h r, s => .cons h (RepL.append r s)
theorem RepL.take : ∀ {vs : List V} {ds : List D} (n : Nat), RepL K fa H F vs ds → RepL K fa H F (vs.take n) (ds.take n)
  | _, _, 0, _ => .nil
  | _, _, _ + 1, .nil => .nil
  | _, _, n + 1, .cons h r => .cons h (RepL.take n r)
theorem RepL.drop : ∀ {vs : List V} {ds : List D} (n : Nat), RepL K fa H F vs ds → RepL K fa H F (vs.drop n) (ds.drop n)
  | _, _, 0, r => r
  | _, _, _ + 1, .nil => .nil
  | _, _, n + 1, .cons _ r => RepL.drop n r
theorem RepL.set : ∀ {vs : List V} {ds : List D} (i : Nat) {v : V} {d : D}, RepL K fa H F vs ds → Rep K fa H F v d → RepL K fa H F (vs.set i v) (ds.set i d)
  | _, _, _, _, _, .nil, _ => .nil
  | _, _, 0, _, _, .cons _ r, h => .cons h r
  | _, _, i + 1, _, _, .cons h r, g => .cons h (RepL.set i r g)
theorem RepL.snoc {vs : List V} {ds : List D} {v : V} {d : D} (r : RepL K fa H F vs ds) (h : Rep K fa H F v d) : RepL K fa H F (vs ++ [v]) (ds ++ [d]) := r.append (.cons h .nil)
theorem RepL.reverse : ∀ {vs : List V} {ds : List D}, RepL K fa H F vs ds → RepL K fa H F vs.reverse ds.reverse
  | _, _, .nil => .nil
  | _, _, .cons h r => by rw [List.reverse_cons, List.reverse_cons]; exact (RepL.reverse r).snoc h
theorem RepL.rep_flat {k : Nat} {vs : List V} {ds : List D} (r : RepL K fa H F vs ds) : RepL K fa H F (List.replicate k vs).flatten (List.replicate k ds).flatten := by
  induction k with
  | zero => exact .nil
  | succ k ih => rw [List.replicate_succ, List.replicate_succ, List.flatten_cons, List.flatten_cons]; exact r.append ih
end

/-- a slot's content: data; a list or dict of this frame's own; one lent by the caller -/
inductive SV where
  | dat (d : D) | own (d : D) | bor (d : D)
abbrev Env' := List (Option SV)
def SV.d : SV → D
  | .dat d => d
  | .own d => d
  | .bor d => d
def SV.mine : SV → Bool
  | .dat _ => false
  | _ => true
def SV.lent : SV → Bool
  | .bor _ => true
  | _ => false

/-- the entries of a dict -/
def DRep {κ : Type} (K : PySem.W.Frag) (fa : Nat → Option Addr) (H : Hp) (F : AP') (kvs : List (κ × V)) (kds : List (κ × D)) : Prop :=
  kvs.map Prod.fst = kds.map Prod.fst ∧ RepL K fa H F (kvs.map Prod.snd) (kds.map Prod.snd)
/-- a thing that may be written: at a there stands d, its items frozen -/
inductive OwnAt (K : PySem.W.Frag) (fa : Nat → Option Addr) (H : Hp) (F : AP') (a : Addr) : D → Prop
  | lst {xs : List V} {ds : List D} : H a = some (.lst xs) → RepL K fa H F xs ds → OwnAt K fa H F a (.lst ds)
  | dK {kvs : List (Key × V)} {kds : List (Key × D)} : H a = some (.dK kvs) → DRep K fa H F kvs kds → OwnAt K fa H F a (.dK kds)
  | dT {kvs : List (List Key × V)} {kds : List (List Key × D)} : H a = some (.dT kvs) → DRep K fa H F kvs kds → OwnAt K fa H F a (.dT kds)

def RepS (K : PySem.W.Frag) (fa : Nat → Option Addr) (H : Hp) (F : AP') (v : V) : SV → Prop
  | .dat d => Rep K fa H F v d
  | .own d => ∃ a, v = .ref a ∧ ¬ F a ∧ OwnAt K fa H F a d
  | .bor d => ∃ a, v = .ref a ∧ ¬ F a ∧ OwnAt K fa H F a d

/-- the addresses that the slots own (or have on loan) -/
def Own (σ : L2.St) (ρ : Env') (a : Addr) : Prop := ∃ (i : Nat) (sv : SV), ρ[i]? = some (some sv) ∧ sv.mine = true ∧ σ[i]? = some (some (.ref a))
def Bor (σ : L2.St) (ρ : Env') (a : Addr) : Prop := ∃ (i : Nat) (sv : SV), ρ[i]? = some (some sv) ∧ sv.lent = true ∧ σ[i]? = some (some (.ref a))

structure EnvOk (K : PySem.W.Frag) (fa : Nat → Option Addr) (H : Hp) (F : AP') (σ : L2.St) (ρ : Env') : Prop where
  len : σ.length = ρ.length
  slot : ∀ (i : Nat) (sv : SV), ρ[i]? = some (some sv) → ∃ v, σ[i]? = some (some v) ∧ RepS K fa H F v sv
  apart : ∀ (i j : Nat) (sv sw : SV) (a : Addr), ρ[i]? = some (some sv) → ρ[j]? = some (some sw) → sv.mine = true → sw.mine = true → σ[i]? = some (some (.ref a)) → σ[j]? = some (some (.ref a)) → i = j
  fd : ∀ a, F a → H a ≠ none

/-- a step: what was not our own is kept; what is newly frozen is new, or was our own and not lent -/
structure Step (H : Hp) (F O B : AP') (H' : Hp) (F' O' B' : AP') : Prop where
  keep : ∀ a o, H a = some o → ¬ O a → H' a = some o
  fmono : ∀ a, F a → F' a
  fnew : ∀ a, F' a → F a ∨ H a = none ∨ (O a ∧ ¬ B a)
  onew : ∀ a, O' a → O a ∨ H a = none
  bor : ∀ a, B' a ↔ B a
  dom : ∀ a, H' a = none → H a = none

theorem Step.refl {H : Hp} {F O B : AP'} : Step H F O B H F O B :=
  ⟨fun _ _ h _ => h, fun _ h => h, fun _ h => .inl h, fun _ h => .inl h, fun _ => Iff.rfl, fun _ h => h⟩
theorem Step.trans {H H1 H2 : Hp} {F F1 F2 O O1 O2 B B1 B2 : AP'} (s : Step H F O B H1 F1 O1 B1) (t : Step H1 F1 O1 B1 H2 F2 O2 B2) : Step H F O B H2 F2 O2 B2 where
  keep := fun a o h no => t.keep a o (s.keep a o h no) fun z => by
    rcases s.onew a z with z | z
    · exact no z
    · rw [h] at z; cases z
  fmono := fun a h => t.fmono a (s.fmono a h)
  fnew := fun a h => by
    rcases t.fnew a h with h | h | ⟨h, nb⟩
    · exact s.fnew a h
    · exact .inr (.inl (s.dom a h))
    · rcases s.onew a h with h | h
      · exact .inr (.inr ⟨h, fun z => nb ((s.bor a).mpr z)⟩)
      · exact .inr (.inl h)
  onew := fun a h => by
    rcases t.onew a h with h | h
    · exact s.onew a h
    · exact .inr (s.dom a h)
  bor := fun a => (t.bor a).trans (s.bor a)
  dom := fun a h => s.dom a (t.dom a h)

section
variable {H H' : Hp} {F F' O B O' B' : AP'} {σ : L2.St} {ρ : Env'}
theorem EnvOk.own_nf (ok : EnvOk K fa H F σ ρ) {a : Addr} (h : Own σ ρ a) : ¬ F a := by
  obtain ⟨i, sv, e, m, e2⟩ := h
  obtain ⟨v, e3, r⟩ := ok.slot i sv e
  rw [e2] at e3; cases e3
  cases sv with
  | dat d => cases m
  | own d => obtain ⟨b, eb, nf, _⟩ := r; cases eb; exact nf
  | bor d => obtain ⟨b, eb, nf, _⟩ := r; cases eb; exact nf
theorem OwnAt.some {a : Addr} {d : D} (h : OwnAt K fa H F a d) : ∃ o, H a = some o ∧ (∀ xs, o ≠ .tup xs) ∧ ∀ ob u, o ≠ .frz ob u := by
  cases h with
  | lst e _ => exact ⟨_, e, (by intro _ z; cases z), (by intro _ _ z; cases z)⟩
  | dK e _ => exact ⟨_, e, (by intro _ z; cases z), (by intro _ _ z; cases z)⟩
  | dT e _ => exact ⟨_, e, (by intro _ z; cases z), (by intro _ _ z; cases z)⟩
theorem EnvOk.own_at (ok : EnvOk K fa H F σ ρ) {a : Addr} (h : Own σ ρ a) : ∃ o, H a = some o ∧ (∀ xs, o ≠ .tup xs) ∧ ∀ ob u, o ≠ .frz ob u := by
  obtain ⟨i, sv, e, m, e2⟩ := h
  obtain ⟨v, e3, r⟩ := ok.slot i sv e
  rw [e2] at e3; cases e3
  cases sv with
  | dat d => cases m
  | own d => obtain ⟨b, eb, nf, q⟩ := r; cases eb; exact q.some
  | bor d => obtain ⟨b, eb, nf, q⟩ := r; cases eb; exact q.some
/-- readings stand through a step of ours -/
theorem Step.stays (ok : EnvOk K fa H F σ ρ) (s : Step H F (Own σ ρ) B H' F' O' B') : Stays H F H' F' where
  tup := fun a xs h => by
    have no : ¬ Own σ ρ a := fun z => by
      obtain ⟨o, e, n1, n2⟩ := ok.own_at z
      rw [e] at h; exact n1 _ (Option.some.inj h)
    exact s.keep _ _ h no
  rd := fun a u f h => by
    have no : ¬ Own σ ρ a := fun z => ok.own_nf z f
    rcases h with h | ⟨ob, h⟩
    · exact .inl (s.keep _ _ h no)
    · exact .inr ⟨ob, s.keep _ _ h no⟩
  fr := s.fmono
end

/-! ### what comes out -/
/-- an exception: the class by its number, and its field -/
structure Exn where
  cls : Nat
  fld : Option D
inductive Res (α : Type) where
  | ok (a : α) (ρ : Env')
  | exc (x : Exn) (ρ : Env')
  | stuck
@[reducible] def Res.bind {α β : Type} (r : Res α) (g : α → Env' → Res β) : Res β := match r with
  | .ok a ρ => g a ρ
  | .exc x ρ => .exc x ρ
  | .stuck => .stuck

/-- an exception as it lies: EX says it of the class value, the dict and the heap -/
abbrev ExR := Exn → Value → Option Addr → Hp → Prop

/-- the result's own address is new and no slot's -/
def ResOk (K : PySem.W.Frag) (fa : Nat → Option Addr) (H0 H : Hp) (F : AP') (σ : L2.St) (ρ : Env') (v : V) (sv : SV) : Prop :=
  RepS K fa H F v sv ∧ match sv with
    | .dat _ => True
    | .own _ => ∃ a, v = .ref a ∧ H0 a = none ∧ ¬ Own σ ρ a
    | .bor _ => False

/-- behind an expression that began at H0, F0, ρ0 -/
def PostE (K : PySem.W.Frag) (fa : Nat → Option Addr) (EX : ExR) (W : WX) (σ : L2.St) (H0 : Hp) (F0 : AP') (ρ0 : Env') (r : Res SV) (Q : VK) : Prop := match r with
  | .ok sv ρ' => ∀ v H' F', Step H0 F0 (Own σ ρ0) (Bor σ ρ0) H' F' (Own σ ρ') (Bor σ ρ') → EnvOk K fa H' F' σ ρ' → ResOk K fa H0 H' F' σ ρ' v sv → Q v H'
  | .exc x ρ' => ∀ cls d H' F', Step H0 F0 (Own σ ρ0) (Bor σ ρ0) H' F' (Own σ ρ') (Bor σ ρ') → EnvOk K fa H' F' σ ρ' → EX x cls d H' → W cls d σ H'
  | .stuck => False
def tE (K : PySem.W.Frag) (fa : Nat → Option Addr) (EX : ExR) (W : WX) (f : Env' → Res SV) : TE := fun σ H Q => ∃ F ρ, EnvOk K fa H F σ ρ ∧ PostE K fa EX W σ H F ρ (f ρ) Q

theorem PE.weak {X : Cx} {e : Expr} {t t' : TE} (h : PE X e t) (w : ∀ σ H Q, t' σ H Q → t σ H Q) : PE X e t' := ⟨fun pins s σ H Q I hq => h.run pins s σ H Q I (w σ H Q hq)⟩
end DL

namespace DL
open PySem PySem.Spec PyProof.Rows L2

/-! ### data as PyData -/
mutual
def D.py : D → PyData
  | .non => .none
  | .bl b => .bool b
  | .int i => .int i
  | .str x => .str x
  | .tup ds => .tuple (pyL ds)
  | .ktup ds => .tuple (pyL ds)
  | .lst ds => .list (pyL ds)
  | .dK _ => .dict []
  | .dT _ => .dict []
  | .fn _ => .dict []
def pyL : List D → List PyData
  | [] => []
  | d :: ds => d.py :: pyL ds
end
theorem pyL_map : ∀ ds : List D, pyL ds = ds.map D.py
  | [] => rfl
  | d :: ds => by rw [pyL, List.map_cons, pyL_map ds]

section
variable {K : PySem.W.Frag} {fa : Nat → Option Addr} {H : Hp} {F : AP'}
theorem KTup.sq {a : Addr} {xs : List V} (h : KTup K a xs) : SqT K H a xs := by
  obtain ⟨o, its, n, h1, h2, h3, h4, h5⟩ := h
  exact .inr ⟨o, its, n, h1, h2, h3, h4, h5⟩
mutual
theorem Rep.dp : ∀ {v : V} {d : D}, Rep K fa H F v d → d.py.canLay0 = true → Dp K H v d.py
  | _, _, .non, _ => .non
  | _, _, .bl b, _ => .bl b
  | _, _, .int i, _ => .int i
  | _, _, .str x, _ => .str x
  | _, _, .tup h r, c => .tup (.inl (.inl h)) (RepL.dp r (by simpa [D.py, PyData.canLay0] using c))
  | _, _, .ktup h r, c => .tup h.sq (RepL.dp r (by simpa [D.py, PyData.canLay0] using c))
  | _, _, .lst f h r, c => .lst (.inl h) (RepL.dp r (by simpa [D.py, PyData.canLay0] using c))
  | _, _, .dK _ _ _ _, c => by simp [D.py, PyData.canLay0] at c
  | _, _, .dT _ _ _ _, c => by simp [D.py, PyData.canLay0] at c
  | _, _, .fn _, c => by simp [D.py, PyData.canLay0] at c
theorem RepL.dp : ∀ {vs : List V} {ds : List D}, RepL K fa H F vs ds → PyData.canLayAll0 (pyL ds) = true → DpAll K H vs (pyL ds)
  | _, _, .nil, _ => .nil
  | _, _, .cons h r, c => by
    have c' := Bool.and_eq_true_iff.mp (by simpa [pyL, PyData.canLayAll0] using c)
    exact .cons (Rep.dp h c'.1) (RepL.dp r c'.2)
end

/-! ### what is read -/
/-- x reads as d: frozen, or a thing of our own -/
def RdF (K : PySem.W.Frag) (fa : Nat → Option Addr) (H : Hp) (F : AP') (x : V) (d : D) : Prop := Rep K fa H F x d ∨ ∃ a, x = .ref a ∧ OwnAt K fa H F a d
theorem RdF.dp {x : V} {d : D} (h : RdF K fa H F x d) (c : d.py.canLay0 = true) : Dp K H x d.py := by
  rcases h with h | ⟨a, rfl, h⟩
  · exact h.dp c
  · cases h with
    | lst e r => exact .lst (.inl (.inl e)) (r.dp (by simpa [D.py, PyData.canLay0] using c))
    | dK _ _ => simp [D.py, PyData.canLay0] at c
    | dT _ _ => simp [D.py, PyData.canLay0] at c
theorem RdF.int {x : V} {i : Int} (h : RdF K fa H F x (.int i)) : x = .int i := by
  rcases h with h | ⟨a, rfl, h⟩
  · cases h; rfl
  · cases h
theorem RdF.bl {x : V} {i : Bool} (h : RdF K fa H F x (.bl i)) : x = .bl i := by
  rcases h with h | ⟨a, rfl, h⟩
  · cases h; rfl
  · cases h
theorem RdF.non {x : V} (h : RdF K fa H F x .non) : x = .non := by
  rcases h with h | ⟨a, rfl, h⟩
  · cases h; rfl
  · cases h
theorem RdF.str {x : V} {i : Str} (h : RdF K fa H F x (.str i)) : x = .str i := by
  rcases h with h | ⟨a, rfl, h⟩
  · cases h; rfl
  · cases h
theorem RdF.tup {x : V} {ds : List D} (h : RdF K fa H F x (.tup ds)) : ∃ a xs, x = .ref a ∧ H a = some (.tup xs) ∧ RepL K fa H F xs ds := by
  rcases h with h | ⟨a, rfl, h⟩
  · cases h with
    | tup e r => exact ⟨_, _, rfl, e, r⟩
  · cases h
theorem RdF.ktup {x : V} {ds : List D} (h : RdF K fa H F x (.ktup ds)) : ∃ a xs, x = .ref a ∧ KTup K a xs ∧ RepL K fa H F xs ds := by
  rcases h with h | ⟨a, rfl, h⟩
  · cases h with
    | ktup e r => exact ⟨_, _, rfl, e, r⟩
  · cases h
theorem RdF.fn {x : V} {j : Nat} (h : RdF K fa H F x (.fn j)) : ∃ a, x = .ref a ∧ fa j = some a := by
  rcases h with h | ⟨a, rfl, h⟩
  · cases h with
    | fn e => exact ⟨_, rfl, e⟩
  · cases h
theorem RdF.lst {x : V} {ds : List D} (h : RdF K fa H F x (.lst ds)) : ∃ a xs, x = .ref a ∧ Rd H a (.lst xs) ∧ RepL K fa H F xs ds := by
  rcases h with h | ⟨a, rfl, h⟩
  · cases h with
    | lst f e r => exact ⟨_, _, rfl, e, r⟩
  · cases h with
    | lst e r => exact ⟨a, _, rfl, .inl e, r⟩
theorem RdF.dK {x : V} {kds : List (Key × D)} (h : RdF K fa H F x (.dK kds)) : ∃ a kvs, x = .ref a ∧ Rd H a (.dK kvs) ∧ DRep K fa H F kvs kds := by
  rcases h with h | ⟨a, rfl, h⟩
  · cases h with
    | dK f e k r => exact ⟨_, _, rfl, e, k, r⟩
  · cases h with
    | dK e r => exact ⟨a, _, rfl, .inl e, r⟩
theorem RdF.dT {x : V} {kds : List (List Key × D)} (h : RdF K fa H F x (.dT kds)) : ∃ a kvs, x = .ref a ∧ Rd H a (.dT kvs) ∧ DRep K fa H F kvs kds := by
  rcases h with h | ⟨a, rfl, h⟩
  · cases h with
    | dT f e k r => exact ⟨_, _, rfl, e, k, r⟩
  · cases h with
    | dT e r => exact ⟨a, _, rfl, .inl e, r⟩
/-- a sequence of any kind -/
def D.seq? : D → Option (List D)
  | .tup ds => some ds
  | .ktup ds => some ds
  | .lst ds => some ds
  | _ => none
theorem RdF.seq {x : V} {d : D} {ds : List D} (h : RdF K fa H F x d) (e : d.seq? = some ds) : ∃ a xs, x = .ref a ∧ (SqL K H a xs ∨ SqT K H a xs) ∧ RepL K fa H F xs ds := by
  cases d with
  | tup es => cases e; obtain ⟨a, xs, h1, h2, h3⟩ := h.tup; exact ⟨a, xs, h1, .inr (.inl (.inl h2)), h3⟩
  | ktup es => cases e; obtain ⟨a, xs, h1, h2, h3⟩ := h.ktup; exact ⟨a, xs, h1, .inr h2.sq, h3⟩
  | lst es => cases e; obtain ⟨a, xs, h1, h2, h3⟩ := h.lst; exact ⟨a, xs, h1, .inl (.inl h2), h3⟩
  | _ => cases e

/-! ### look-ups in dicts -/
def lookD {κ : Type} [DecidableEq κ] (kds : List (κ × D)) (k : κ) : Option D := (kds.find? fun kv => decide (kv.1 = k)).map (·.2)
def putD {κ : Type} [DecidableEq κ] (kds : List (κ × D)) (k : κ) (d : D) : List (κ × D) :=
  if (kds.any fun kv => decide (kv.1 = k)) = true then kds.map (fun kv => if kv.1 = k then (kv.1, d) else kv) else kds ++ [(k, d)]
theorem DRep.look {κ : Type} [DecidableEq κ] : ∀ {kvs : List (κ × V)} {kds : List (κ × D)} (k : κ), DRep K fa H F kvs kds →
    (∃ v d, valV kvs k = some v ∧ lookD kds k = some d ∧ Rep K fa H F v d) ∨ (valV kvs k = none ∧ lookD kds k = none)
  | [], [], _, _ => .inr ⟨rfl, rfl⟩
  | [], _ :: _, _, h => by have := h.1; simp at this
  | _ :: _, [], _, h => by have := h.1; simp at this
  | p :: kvs, q :: kds, k, h => by
    obtain ⟨h1, h2⟩ := h
    simp only [List.map_cons, List.cons.injEq] at h1
    cases h2 with
    | cons hv hr =>
      by_cases e : p.1 = k
      · refine .inl ⟨p.2, q.2, valV_pos e, ?_, hv⟩
        simp [lookD, List.find?_cons, ← h1.1, e]
      · rcases DRep.look k (show DRep K fa H F kvs kds from ⟨h1.2, hr⟩) with ⟨v, d, a1, a2, a3⟩ | ⟨a1, a2⟩
        · refine .inl ⟨v, d, by rw [valV_neg e]; exact a1, ?_, a3⟩
          simpa [lookD, List.find?_cons, ← h1.1, e] using a2
        · refine .inr ⟨by rw [valV_neg e]; exact a1, ?_⟩
          simpa [lookD, List.find?_cons, ← h1.1, e] using a2
theorem DRep.length {κ : Type} {kvs : List (κ × V)} {kds : List (κ × D)} (h : DRep K fa H F kvs kds) : kvs.length = kds.length := by
  have := congrArg List.length h.1
  simpa using this
theorem drep_map {κ : Type} [DecidableEq κ] {k : κ} {v : V} {d : D} (hv : Rep K fa H F v d) : ∀ {kvs : List (κ × V)} {kds : List (κ × D)}, DRep K fa H F kvs kds →
    DRep K fa H F (kvs.map fun kv => if kv.1 = k then (kv.1, v) else kv) (kds.map fun kv => if kv.1 = k then (kv.1, d) else kv)
  | [], [], _ => ⟨rfl, .nil⟩
  | [], _ :: _, h => by have := h.1; simp at this
  | _ :: _, [], h => by have := h.1; simp at this
  | p :: kvs, q :: kds, h => by
    obtain ⟨h1, h2⟩ := h
    simp only [List.map_cons, List.cons.injEq] at h1
    cases h2 with
    | cons hp hr =>
      obtain ⟨g1, g2⟩ := drep_map (k := k) hv (show DRep K fa H F kvs kds from ⟨h1.2, hr⟩)
      by_cases e : p.1 = k
      · refine ⟨?_, ?_⟩
        · simp only [List.map_cons, ← h1.1, e, if_true, List.cons.injEq, true_and]; exact g1
        · simp only [List.map_cons, ← h1.1, e, if_true]; exact .cons hv g2
      · refine ⟨?_, ?_⟩
        · simp only [List.map_cons, ← h1.1, e, if_false, List.cons.injEq, true_and]; first | exact g1 | exact ⟨h1.1, g1⟩
        · simp only [List.map_cons, ← h1.1, e, if_false]; exact .cons hp g2
theorem drep_any {κ : Type} [DecidableEq κ] {k : κ} : ∀ {kvs : List (κ × V)} {kds : List (κ × D)}, kvs.map Prod.fst = kds.map Prod.fst → (kvs.any fun kv => decide (kv.1 = k)) = kds.any fun kv => decide (kv.1 = k)
  | [], [], _ => rfl
  | [], _ :: _, h => by simp at h
  | _ :: _, [], h => by simp at h
  | p :: kvs, q :: kds, h => by
    simp only [List.map_cons, List.cons.injEq] at h
    rw [List.any_cons, List.any_cons, h.1, drep_any h.2]
theorem DRep.put {κ : Type} [DecidableEq κ] {kvs : List (κ × V)} {kds : List (κ × D)} {k : κ} {v : V} {d : D} (h : DRep K fa H F kvs kds) (hv : Rep K fa H F v d) : DRep K fa H F (putK kvs k v) (putD kds k d) := by
  unfold putK putD
  rw [drep_any h.1]
  split
  · exact drep_map hv h
  · refine ⟨by simp [h.1], ?_⟩
    rw [List.map_append, List.map_append]
    exact h.2.append (.cons hv .nil)

/-! ### keys -/
def keyOf : D → Option Key
  | .int i => some (.inl i)
  | .str x => some (.inr x)
  | _ => none
theorem keyOf_ok {x : V} {d : D} {k : Key} (h : Rep K fa H F x d) (e : keyOf d = some k) : x = kV k := by
  cases h <;> first | (cases e; rfl) | cases e
def keysOf : List D → Option (List Key)
  | [] => some []
  | d :: ds => match keyOf d, keysOf ds with
    | some k, some ks => some (k :: ks)
    | _, _ => none
theorem keysOf_ok : ∀ {xs : List V} {ds : List D} {ks : List Key}, RepL K fa H F xs ds → keysOf ds = some ks → xs = ks.map kV
  | _, _, _, .nil, e => by cases e; rfl
  | _, _, _, .cons (d := d) (ds := ds) h r, e => by
    unfold keysOf at e
    split at e
    · rename_i k ks' e1 e2
      cases e
      rw [keyOf_ok h e1, keysOf_ok r e2]; rfl
    · cases e
end

/-! ### growing -/
structure Grow (H : Hp) (F : AP') (H' : Hp) (F' : AP') : Prop where
  keep : ∀ a o, H a = some o → H' a = some o
  fmono : ∀ a, F a → F' a
  fnew : ∀ a, F' a → F a ∨ H a = none
  fd : ∀ a, F' a → H' a ≠ none
theorem Grow.refl {H : Hp} {F : AP'} (fd : ∀ a, F a → H a ≠ none) : Grow H F H F := ⟨fun _ _ h => h, fun _ h => h, fun _ h => .inl h, fd⟩
theorem Grow.dom {H H' : Hp} {F F' : AP'} (g : Grow H F H' F') : ∀ a, H' a = none → H a = none := fun a h => by
  cases e : H a with
  | none => rfl
  | some o => rw [g.keep a o e] at h; cases h
theorem Grow.step {H H' : Hp} {F F' O B : AP'} (g : Grow H F H' F') : Step H F O B H' F' O B :=
  ⟨fun a o h _ => g.keep a o h, g.fmono, fun a h => (g.fnew a h).elim .inl fun z => .inr (.inl z), fun _ h => .inl h, fun _ => Iff.rfl, g.dom⟩
theorem Grow.stays {H H' : Hp} {F F' : AP'} (g : Grow H F H' F') : Stays H F H' F' :=
  ⟨fun a xs h => g.keep _ _ h, fun a u _ h => h.elim (fun z => .inl (g.keep _ _ z)) fun ⟨o, z⟩ => .inr ⟨o, g.keep _ _ z⟩, g.fmono⟩
section
variable {K : PySem.W.Frag} {fa : Nat → Option Addr} {H H' : Hp} {F F' : AP'} {σ : L2.St} {ρ : Env'}
theorem OwnAt.stays {a : Addr} {d : D} (h : OwnAt K fa H F a d) (e : H' a = H a) (s : Stays H F H' F') : OwnAt K fa H' F' a d := by
  cases h with
  | lst q r => exact .lst (e.trans q) (r.stays s)
  | dK q r => exact .dK (e.trans q) ⟨r.1, r.2.stays s⟩
  | dT q r => exact .dT (e.trans q) ⟨r.1, r.2.stays s⟩
theorem EnvOk.grow (ok : EnvOk K fa H F σ ρ) (g : Grow H F H' F') : EnvOk K fa H' F' σ ρ := by
  refine ⟨ok.len, fun i sv e => ?_, ok.apart, g.fd⟩
  obtain ⟨v, e2, r⟩ := ok.slot i sv e
  refine ⟨v, e2, ?_⟩
  have far : ∀ a d, v = .ref a → ¬ F a → OwnAt K fa H F a d → ¬ F' a ∧ OwnAt K fa H' F' a d := fun a d _ nf q => by
    obtain ⟨o, ho, _⟩ := q.some
    refine ⟨fun z => ?_, q.stays ((g.keep a o ho).trans ho.symm) g.stays⟩
    rcases g.fnew a z with z | z
    · exact nf z
    · rw [ho] at z; cases z
  cases sv with
  | dat d => exact Rep.stays g.stays r
  | own d => obtain ⟨a, e3, nf, q⟩ := r; exact ⟨a, e3, far a d e3 nf q⟩
  | bor d => obtain ⟨a, e3, nf, q⟩ := r; exact ⟨a, e3, far a d e3 nf q⟩
/-- a new object -/
theorem Grow.new {p : Addr} {o : HO} (fd : ∀ a, F a → H a ≠ none) (hp : H p = none) : Grow H F (upd H p o) F :=
  ⟨fun a u h => by rw [upd_ne (ne_of_none h hp)]; exact h, fun _ h => h, fun _ h => .inl h, fun a h z => by
    by_cases e : a = p
    · subst e; exact fd _ h hp
    · rw [upd_ne e] at z; exact fd _ h z⟩
theorem Grow.trans {H1 : Hp} {F1 : AP'} (a : Grow H F H1 F1) (b : Grow H1 F1 H' F') : Grow H F H' F' :=
  ⟨fun x o h => b.keep x o (a.keep x o h), fun x h => b.fmono x (a.fmono x h), fun x h => (b.fnew x h).elim (a.fnew x) fun z => .inr (a.dom x z), b.fd⟩
end

/-- what an operation hands back: the heap has grown; the result reads as sv, a thing of one's own is new -/
def Made (K : PySem.W.Frag) (fa : Nat → Option Addr) (H : Hp) (F : AP') (sv : SV) (z : V) (H' : Hp) : Prop :=
  ∃ F', Grow H F H' F' ∧ RepS K fa H' F' z sv ∧ match sv with
    | .dat _ => True
    | .own _ => ∃ a, z = .ref a ∧ H a = none
    | .bor _ => False
section
variable {K : PySem.W.Frag} {fa : Nat → Option Addr} {H H' : Hp} {F F' : AP'}
theorem made_dat {z : V} {d : D} (fd : ∀ a, F a → H a ≠ none) (r : Rep K fa H F z d) : Made K fa H F (.dat d) z H := ⟨F, Grow.refl fd, r, trivial⟩
theorem made_tup {p : Addr} {xs : List V} {ds : List D} (fd : ∀ a, F a → H a ≠ none) (hp : H p = none) (r : RepL K fa H F xs ds) : Made K fa H F (.dat (.tup ds)) (.ref p) (upd H p (.tup xs)) :=
  ⟨F, Grow.new fd hp, .tup upd_same (r.stays (Grow.new fd hp).stays), trivial⟩
theorem made_lst {p : Addr} {xs : List V} {ds : List D} (fd : ∀ a, F a → H a ≠ none) (hp : H p = none) (r : RepL K fa H F xs ds) : Made K fa H F (.own (.lst ds)) (.ref p) (upd H p (.lst xs)) :=
  ⟨F, Grow.new fd hp, ⟨p, rfl, fun z => fd p z hp, .lst upd_same (r.stays (Grow.new fd hp).stays)⟩, p, rfl, hp⟩
theorem made_dK {p : Addr} {kvs : List (Key × V)} {kds : List (Key × D)} (fd : ∀ a, F a → H a ≠ none) (hp : H p = none) (r : DRep K fa H F kvs kds) : Made K fa H F (.own (.dK kds)) (.ref p) (upd H p (.dK kvs)) :=
  ⟨F, Grow.new fd hp, ⟨p, rfl, fun z => fd p z hp, .dK upd_same ⟨r.1, r.2.stays (Grow.new fd hp).stays⟩⟩, p, rfl, hp⟩
theorem made_dT {p : Addr} {kvs : List (List Key × V)} {kds : List (List Key × D)} (fd : ∀ a, F a → H a ≠ none) (hp : H p = none) (r : DRep K fa H F kvs kds) : Made K fa H F (.own (.dT kds)) (.ref p) (upd H p (.dT kvs)) :=
  ⟨F, Grow.new fd hp, ⟨p, rfl, fun z => fd p z hp, .dT upd_same ⟨r.1, r.2.stays (Grow.new fd hp).stays⟩⟩, p, rfl, hp⟩
end
end DL

namespace DL
open PySem PySem.Spec PyProof.Rows L2

def Z24 : Nat := 16777216
theorem z24 : sizeLine = Z24 := sizeLine_eq

/-! ### operators -/
def binP (o : Operator) (d e : D) : Option SV := match o, d, e with
  | .Add, .int i, .int j => some (.dat (.int (i + j)))
  | .Add, .str x, .str y => if x.length + y.length ≤ Z24 then some (.dat (.str (x ++ y))) else none
  | .Add, .tup xs, .tup ys => if xs.length + ys.length ≤ Z24 then some (.dat (.tup (xs ++ ys))) else none
  | .Add, .lst xs, .lst ys => if xs.length + ys.length ≤ Z24 then some (.own (.lst (xs ++ ys))) else none
  | .Sub, .int i, .int j => some (.dat (.int (i - j)))
  | .Mult, .int i, .int j => if (-(2 ^ 64) < i ∧ i < 2 ^ 64) ∨ (-(2 ^ 64) < j ∧ j < 2 ^ 64) then some (.dat (.int (i * j))) else none
  | .FloorDiv, .int i, .int j => if j ≠ 0 ∧ j.natAbs < 1073741824 then some (.dat (.int (i.fdiv j))) else none
  | .Mod, .int i, .int j => if j ≠ 0 then some (.dat (.int (i.fmod j))) else none
  | .Pow, .int i, .int j => if 0 ≤ j ∧ j ≤ 1000000 ∧ i.natAbs < 2 ^ 64 then some (.dat (.int (i ^ j.toNat))) else none
  | .Add, .bl a, .int j => some (.dat (.int ((if a = true then 1 else 0) + j)))
  | _, _, _ => none

/-! ### comparisons -/
def eqD (d e : D) : Option Bool := if SeqAt.shaped d.py = true ∧ SeqAt.shaped e.py = true then some (PyData.eqv d.py e.py) else none
def memD (d : D) (ds : List D) : Option Bool := if SeqAt.shaped d.py = true ∧ SeqAt.shaped (.list (pyL ds)) = true then some ((pyL ds).any fun z => PyData.eqv z d.py) else none
def inP (d e : D) : Option Bool := match e with
  | .tup ds => memD d ds
  | .ktup ds => memD d ds
  | .lst ds => memD d ds
  | .str z => (match d with
    | .str x => if x.cps.size = 1 then some (decide (x.cps.getD 0 0 ∈ z.cps.toList)) else none
    | _ => none)
  | .dK kds => (keyOf d).map fun k => (lookD kds k).isSome
  | .dT kds => (match d with
    | .tup ks => (keysOf ks).map fun k => (lookD kds k).isSome
    | _ => none)
  | _ => none
def isP (d e : D) : Option Bool := match d, e with
  | .non, .non => some true
  | _, .non => some false
  | .bl a, .bl b => some (decide (a = b))
  | _, _ => none
def cmpP (o : CmpOp) (d e : D) : Option Bool := match o, d, e with
  | .Eq, d, e => eqD d e
  | .NotEq, d, e => (eqD d e).map not
  | .Lt, .int i, .int j => some (decide (i < j))
  | .LtE, .int i, .int j => some (decide (i ≤ j))
  | .Gt, .int i, .int j => some (decide (j < i))
  | .GtE, .int i, .int j => some (decide (j ≤ i))
  | .In, d, e => inP d e
  | .NotIn, d, e => (inP d e).map not
  | .Is, d, e => isP d e
  | .IsNot, d, e => (isP d e).map not
  | _, _, _ => none

section
variable {X : Cx} {fa : Nat → Option Addr} {F : AP'} {pins : List (Addr × Obj)} {s : Shared} {σ : L2.St} {H : Hp} {x y : V} {v u : Value} {Q : VK}

/-- the sum of two lists that are read -/
theorem op_catR : OpR X (binaryOp .Add) (fun x y H Q => ∃ l b xs zs, x = .ref l ∧ y = .ref b ∧ Rd H l (.lst xs) ∧ Rd H b (.lst zs) ∧ xs.length + zs.length ≤ sizeLine ∧ ∀ p, H p = none → Q (.ref p) (upd H p (.lst (xs ++ zs)))) := by
  rintro pins s σ H x y v u Q I rx ry ⟨l, b, xs, zs, rfl, rfl, h1, h2, hz, q⟩
  cases rx
  cases ry
  obtain ⟨_, us, n, r, e⟩ := h1.ok I.hok
  obtain ⟨_, ws, m, t, g⟩ := h2.ok I.hok
  have a1 := r.length
  have a2 := t.length
  refine PySem.P.add_list e g ?_ (by simp only [List.size_toArray]; omega)
  rw [show us.toArray ++ ws.toArray = (us ++ ws).toArray by simp]
  exact ⟨.ref _, _, I.lnew (t' := s.toks) (r.append t) (by simp only [List.length_append]; omega), rfl, q _ I.fresh⟩

theorem bin_ok {o : Operator} {d e : D} {sv : SV} (h : binP o d e = some sv) (I : Inv X pins σ H s) (rx : RelV x v) (ry : RelV y u) (hd : RdF X.K fa H F x d) (he : RdF X.K fa H F y e) (fd : ∀ a, F a → H a ≠ none)
    (q : ∀ z H', Made X.K fa H F sv z H' → Q z H') : wpAny (model X.prog X.w) X.A (binaryOp o v u) (EP X pins σ Q) X.xe s := by
  unfold binP at h
  split at h
  · cases h; cases hd.int; cases he.int
    exact op_add pins s σ H _ _ v u Q I rx ry ⟨_, _, rfl, rfl, q _ _ (made_dat fd (.int _))⟩
  · split at h
    · rename_i hl
      cases h; cases hd.str; cases he.str
      exact op_add_str pins s σ H _ _ v u Q I rx ry ⟨_, _, rfl, rfl, by rw [z24]; exact hl, q _ _ (made_dat fd (.str _))⟩
    · cases h
  · rename_i ds es
    split at h
    · rename_i hl
      cases h
      obtain ⟨a, xs, rfl, ha, ra⟩ := hd.tup
      obtain ⟨b, ys, rfl, hb, rb⟩ := he.tup
      refine op_catA pins s σ H _ _ v u Q I rx ry ⟨a, b, xs, ys, rfl, rfl, .inl (.inl ha), .inl (.inl hb), ?_, fun e1 => ?_, fun _ e2 => ?_, fun _ _ p hp => ?_⟩
      · rw [ra.length, rb.length, z24]; exact hl
      · subst e1
        cases ra
        exact q _ _ (made_dat fd (.tup hb rb))
      · subst e2
        cases rb
        rw [List.append_nil] at q
        exact q _ _ (made_dat fd (.tup ha ra))
      · exact q _ _ (made_tup fd hp (ra.append rb))
    · cases h
  · split at h
    · rename_i hl
      cases h
      obtain ⟨a, xs, rfl, ha, ra⟩ := hd.lst
      obtain ⟨b, ys, rfl, hb, rb⟩ := he.lst
      refine op_catR pins s σ H _ _ v u Q I rx ry ⟨a, b, xs, ys, rfl, rfl, ha, hb, ?_, fun p hp => ?_⟩
      · rw [ra.length, rb.length, z24]; exact hl
      · exact q _ _ (made_lst fd hp (ra.append rb))
    · cases h
  · cases h; cases hd.int; cases he.int
    exact op_sub pins s σ H _ _ v u Q I rx ry ⟨_, _, rfl, rfl, q _ _ (made_dat fd (.int _))⟩
  · split at h
    · rename_i hl
      cases h; cases hd.int; cases he.int
      exact op_mul pins s σ H _ _ v u Q I rx ry ⟨_, _, rfl, rfl, hl, q _ _ (made_dat fd (.int _))⟩
    · cases h
  · split at h
    · rename_i hl
      cases h; cases hd.int; cases he.int
      exact op_fdivN pins s σ H _ _ v u Q I rx ry ⟨_, _, rfl, rfl, hl, q _ _ (made_dat fd (.int _))⟩
    · cases h
  · split at h
    · rename_i hl
      cases h; cases hd.int; cases he.int
      exact op_modN pins s σ H _ _ v u Q I rx ry ⟨_, _, rfl, rfl, hl, q _ _ (made_dat fd (.int _))⟩
    · cases h
  · split at h
    · rename_i hl
      cases h; cases hd.int; cases he.int
      exact op_pow pins s σ H _ _ v u Q I rx ry ⟨_, _, rfl, rfl, hl, q _ _ (made_dat fd (.int _))⟩
    · cases h
  · cases h; cases hd.bl; cases he.int
    cases (show v = Value.bool _ from rx)
    obtain ⟨t', rfl⟩ := ry
    exact PySem.IntBool.add_bool_int ⟨.int _, H, I.tok _, ⟨_, rfl⟩, q _ _ (made_dat fd (.int _))⟩
  · cases h

/-! ### comparisons by values -/
theorem can_of_shaped {d : PyData} (h : SeqAt.shaped d = true) : d.canLay0 = true := SeqAt.canLay_of_shaped h
theorem eq_ok {d e : D} {b : Bool} (h : eqD d e = some b) (hu : X.A.units + 64 < cLine) (I : Inv X pins σ H s) (rx : RelV x v) (ry : RelV y u) (hd : RdF X.K fa H F x d) (he : RdF X.K fa H F y e)
    (q : Q (.bl b) H) : wpAny (model X.prog X.w) X.A (compareOp .Eq v u) (EP X pins σ Q) X.xe s := by
  unfold eqD at h
  split at h
  · rename_i c
    cases h
    exact op_eqD hu pins s σ H x y v u Q I rx ry ⟨_, _, hd.dp (can_of_shaped c.1), he.dp (can_of_shaped c.2), c.1, c.2, q⟩
  · cases h
theorem ne_ok {d e : D} {b : Bool} (h : eqD d e = some b) (hu : X.A.units + 64 < cLine) (I : Inv X pins σ H s) (rx : RelV x v) (ry : RelV y u) (hd : RdF X.K fa H F x d) (he : RdF X.K fa H F y e)
    (q : Q (.bl (!b)) H) : wpAny (model X.prog X.w) X.A (compareOp .NotEq v u) (EP X pins σ Q) X.xe s := by
  unfold eqD at h
  split at h
  · rename_i c
    cases h
    exact op_neD hu pins s σ H x y v u Q I rx ry ⟨_, _, hd.dp (can_of_shaped c.1), he.dp (can_of_shaped c.2), c.1, c.2, q⟩
  · cases h

/-- membership in a tuple of data -/
theorem op_inT (hu : X.A.units + 65 < cLine) : OpR X (compareOp .In) (fun x y H Q => ∃ d ds, Dp X.K H x d ∧ Dp X.K H y (.tuple ds) ∧ SeqAt.shaped d = true ∧ SeqAt.shaped (.tuple ds) = true ∧ Q (.bl (ds.any fun z => PyData.eqv z d)) H) := by
  rintro pins s σ H x y v u Q I rx ry ⟨d, ds, h1, h2, c1, c2, q⟩
  obtain ⟨_, g1⟩ := Dp.reads I d x v h1 rx
  obtain ⟨_, g2⟩ := Dp.reads I (.tuple ds) y u h2 ry
  exact SeqAt.in_tuple_reads g2 g1 (SeqAt.canLay_of_shaped c2) (SeqAt.canLay_of_shaped c1) (room_in_shaped (xs := ds) c1 hu) ⟨.bl _, H, I, rfl, q⟩
theorem op_notInT (hu : X.A.units + 65 < cLine) : OpR X (compareOp .NotIn) (fun x y H Q => ∃ d ds, Dp X.K H x d ∧ Dp X.K H y (.tuple ds) ∧ SeqAt.shaped d = true ∧ SeqAt.shaped (.tuple ds) = true ∧ Q (.bl (!ds.any fun z => PyData.eqv z d)) H) := by
  rintro pins s σ H x y v u Q I rx ry ⟨d, ds, h1, h2, c1, c2, q⟩
  obtain ⟨_, g1⟩ := Dp.reads I d x v h1 rx
  obtain ⟨_, g2⟩ := Dp.reads I (.tuple ds) y u h2 ry
  exact SeqAt.notIn_tuple_reads g2 g1 (SeqAt.canLay_of_shaped c2) (SeqAt.canLay_of_shaped c1) (room_in_shaped (xs := ds) c1 hu) ⟨.bl _, H, I, rfl, q⟩

theorem mem_ok {d : D} {ds : List D} {b : Bool} {e : D} (h : memD d ds = some b) (he : e = .tup ds ∨ e = .ktup ds ∨ e = .lst ds) (hu : X.A.units + 65 < cLine) (I : Inv X pins σ H s) (rx : RelV x v) (ry : RelV y u)
    (hd : RdF X.K fa H F x d) (hy : RdF X.K fa H F y e) : (Q (.bl b) H → wpAny (model X.prog X.w) X.A (compareOp .In v u) (EP X pins σ Q) X.xe s) ∧ (Q (.bl (!b)) H → wpAny (model X.prog X.w) X.A (compareOp .NotIn v u) (EP X pins σ Q) X.xe s) := by
  unfold memD at h
  split at h
  · rename_i c
    cases h
    have c2 : SeqAt.shaped (.tuple (pyL ds)) = true := c.2
    have cl : (PyData.list (pyL ds)).canLay0 = true := can_of_shaped c.2
    rcases he with rfl | rfl | rfl
    · have hy' := hy.dp (d := .tup ds) (by simpa [D.py, PyData.canLay0] using cl)
      exact ⟨fun q => op_inT hu pins s σ H x y v u Q I rx ry ⟨_, _, hd.dp (can_of_shaped c.1), hy', c.1, c2, q⟩, fun q => op_notInT hu pins s σ H x y v u Q I rx ry ⟨_, _, hd.dp (can_of_shaped c.1), hy', c.1, c2, q⟩⟩
    · have hy' := hy.dp (d := .ktup ds) (by simpa [D.py, PyData.canLay0] using cl)
      exact ⟨fun q => op_inT hu pins s σ H x y v u Q I rx ry ⟨_, _, hd.dp (can_of_shaped c.1), hy', c.1, c2, q⟩, fun q => op_notInT hu pins s σ H x y v u Q I rx ry ⟨_, _, hd.dp (can_of_shaped c.1), hy', c.1, c2, q⟩⟩
    · have hy' := hy.dp (d := .lst ds) (by simpa [D.py, PyData.canLay0] using cl)
      exact ⟨fun q => op_inD hu pins s σ H x y v u Q I rx ry ⟨_, _, hd.dp (can_of_shaped c.1), hy', c.1, c.2, q⟩, fun q => op_notInD hu pins s σ H x y v u Q I rx ry ⟨_, _, hd.dp (can_of_shaped c.1), hy', c.1, c.2, q⟩⟩
  · cases h

theorem dget_K {kds : List (Key × D)} {k : Key} {d : D} (hy : RdF X.K fa H F y (.dK kds)) (hd : RdF X.K fa H F x d) (e : keyOf d = some k) :
    ∃ a o, y = .ref a ∧ DGet H a x o ∧ ((∃ w z, o = some w ∧ lookD kds k = some z ∧ Rep X.K fa H F w z) ∨ (o = none ∧ lookD kds k = none)) := by
  obtain ⟨a, kvs, rfl, ha, r⟩ := hy.dK
  have ex : x = kV k := by
    cases d with
    | int i => cases e; exact hd.int
    | str z => cases e; exact hd.str
    | _ => cases e
  refine ⟨a, valV kvs k, rfl, .inl ⟨kvs, k, ha, ex, rfl⟩, ?_⟩
  rcases r.look k with ⟨w, z, a1, a2, a3⟩ | ⟨a1, a2⟩
  · exact .inl ⟨w, z, a1, a2, a3⟩
  · exact .inr ⟨a1, a2⟩
theorem dget_T {kds : List (List Key × D)} {ds : List D} {ks : List Key} (hy : RdF X.K fa H F y (.dT kds)) (hd : RdF X.K fa H F x (.tup ds)) (e : keysOf ds = some ks) :
    ∃ a o, y = .ref a ∧ DGet H a x o ∧ ((∃ w z, o = some w ∧ lookD kds ks = some z ∧ Rep X.K fa H F w z) ∨ (o = none ∧ lookD kds ks = none)) := by
  obtain ⟨a, kvs, rfl, ha, r⟩ := hy.dT
  obtain ⟨b, xs, rfl, hb, rb⟩ := hd.tup
  have ex := keysOf_ok rb e
  subst ex
  refine ⟨a, valV kvs ks, rfl, .inr ⟨kvs, ks, b, ha, rfl, hb, rfl⟩, ?_⟩
  rcases r.look ks with ⟨w, z, a1, a2, a3⟩ | ⟨a1, a2⟩
  · exact .inl ⟨w, z, a1, a2, a3⟩
  · exact .inr ⟨a1, a2⟩

theorem in_ok {d e : D} {b : Bool} (h : inP d e = some b) (hu : X.A.units + 65 < cLine) (I : Inv X pins σ H s) (rx : RelV x v) (ry : RelV y u) (hd : RdF X.K fa H F x d) (he : RdF X.K fa H F y e) :
    (Q (.bl b) H → wpAny (model X.prog X.w) X.A (compareOp .In v u) (EP X pins σ Q) X.xe s) ∧ (Q (.bl (!b)) H → wpAny (model X.prog X.w) X.A (compareOp .NotIn v u) (EP X pins σ Q) X.xe s) := by
  unfold inP at h
  have hu1 : X.A.units + 1 < cLine := by omega
  have byD : ∀ a o, y = .ref a → DGet H a x o → (o.isSome = b) → (Q (.bl b) H → wpAny (model X.prog X.w) X.A (compareOp .In v u) (EP X pins σ Q) X.xe s) ∧ (Q (.bl (!b)) H → wpAny (model X.prog X.w) X.A (compareOp .NotIn v u) (EP X pins σ Q) X.xe s) := by
    intro a o ea g eb
    subst ea
    cases ry
    exact ⟨fun q => d_in hu1 I g rx fun s3 I3 => ⟨.bl o.isSome, H, I3, rfl, by rw [eb]; exact q⟩, fun q => d_notIn hu1 I g rx fun s3 I3 => ⟨.bl (!o.isSome), H, I3, rfl, by rw [eb]; exact q⟩⟩
  split at h
  · exact mem_ok h (.inl rfl) hu I rx ry hd he
  · exact mem_ok h (.inr (.inl rfl)) hu I rx ry hd he
  · exact mem_ok h (.inr (.inr rfl)) hu I rx ry hd he
  · split at h
    · split at h
      · rename_i z _ x1 hs
        cases h
        cases hd.str
        cases he.str
        obtain ⟨l⟩ := x1
        obtain ⟨c, hc⟩ : ∃ c, l = #[c] := by
          match l, hs with
          | ⟨[c]⟩, _ => exact ⟨c, rfl⟩
        subst hc
        refine ⟨fun q => op_in_sign pins s σ H _ _ v u Q I rx ry ⟨c, _, rfl, rfl, ?_⟩, fun q => op_notIn_sign pins s σ H _ _ v u Q I rx ry ⟨c, _, rfl, rfl, ?_⟩⟩
        · simpa using q
        · simpa using q
      · cases h
    · cases h
  · rename_i kds
    cases ek : keyOf d with
    | none => rw [ek] at h; cases h
    | some k =>
      rw [ek] at h
      cases h
      obtain ⟨a, o, ea, g, r⟩ := dget_K he hd ek
      refine byD a o ea g ?_
      show o.isSome = (lookD kds k).isSome
      rcases r with ⟨w, z, a1, a2, _⟩ | ⟨a1, a2⟩
      · rw [a1, a2]; rfl
      · rw [a1, a2]; rfl
  · split at h
    · rename_i kds _ ks
      cases ek : keysOf ks with
      | none => rw [ek] at h; cases h
      | some k =>
        rw [ek] at h
        cases h
        obtain ⟨a, o, ea, g, r⟩ := dget_T he hd ek
        refine byD a o ea g ?_
        show o.isSome = (lookD kds k).isSome
        rcases r with ⟨w, z, a1, a2, _⟩ | ⟨a1, a2⟩
        · rw [a1, a2]; rfl
        · rw [a1, a2]; rfl
    · cases h
  · cases h

theorem is_ok {d e : D} {b : Bool} (h : isP d e = some b) (I : Inv X pins σ H s) (rx : RelV x v) (ry : RelV y u) (hd : RdF X.K fa H F x d) (he : RdF X.K fa H F y e) :
    (Q (.bl b) H → wpAny (model X.prog X.w) X.A (compareOp .Is v u) (EP X pins σ Q) X.xe s) ∧ (Q (.bl (!b)) H → wpAny (model X.prog X.w) X.A (compareOp .IsNot v u) (EP X pins σ Q) X.xe s) := by
  unfold isP at h
  split at h
  · cases h
    cases hd.non
    cases he.non
    exact ⟨fun q => op_isN pins s σ H _ _ v u Q I rx ry ⟨rfl, by simpa using q⟩, fun q => op_notN pins s σ H _ _ v u Q I rx ry ⟨rfl, by simpa using q⟩⟩
  · rename_i nn
    cases h
    cases he.non
    have ne : x ≠ .non := fun z => by
      subst z
      rcases hd with hd | ⟨a, z, _⟩
      · cases hd; exact nn rfl
      · cases z
    exact ⟨fun q => op_isN pins s σ H _ _ v u Q I rx ry ⟨rfl, by simpa [ne] using q⟩, fun q => op_notN pins s σ H _ _ v u Q I rx ry ⟨rfl, by simpa [ne] using q⟩⟩
  · cases h
    cases hd.bl
    cases he.bl
    exact ⟨fun q => op_is_bl pins s σ H _ _ v u Q I rx ry ⟨_, _, rfl, rfl, q⟩, fun q => op_isnot_bl pins s σ H _ _ v u Q I rx ry ⟨_, _, rfl, rfl, q⟩⟩
  · cases h

theorem cmp_ok {o : CmpOp} {d e : D} {b : Bool} (h : cmpP o d e = some b) (hu : X.A.units + 65 < cLine) (I : Inv X pins σ H s) (rx : RelV x v) (ry : RelV y u) (hd : RdF X.K fa H F x d) (he : RdF X.K fa H F y e)
    (q : Q (.bl b) H) : wpAny (model X.prog X.w) X.A (compareOp o v u) (EP X pins σ Q) X.xe s := by
  have hu' : X.A.units + 64 < cLine := by omega
  unfold cmpP at h
  split at h
  · exact eq_ok h hu' I rx ry hd he q
  · obtain ⟨b', h1, rfl⟩ := Option.map_eq_some_iff.mp h
    exact ne_ok h1 hu' I rx ry hd he q
  · cases h; cases hd.int; cases he.int
    exact op_lt pins s σ H _ _ v u Q I rx ry ⟨_, _, rfl, rfl, q⟩
  · cases h; cases hd.int; cases he.int
    exact op_le pins s σ H _ _ v u Q I rx ry ⟨_, _, rfl, rfl, q⟩
  · cases h; cases hd.int; cases he.int
    exact op_gt pins s σ H _ _ v u Q I rx ry ⟨_, _, rfl, rfl, q⟩
  · cases h; cases hd.int; cases he.int
    exact op_ge pins s σ H _ _ v u Q I rx ry ⟨_, _, rfl, rfl, q⟩
  · exact (in_ok h hu I rx ry hd he).1 q
  · obtain ⟨b', h1, rfl⟩ := Option.map_eq_some_iff.mp h
    exact (in_ok h1 hu I rx ry hd he).2 q
  · exact (is_ok h I rx ry hd he).1 q
  · obtain ⟨b', h1, rfl⟩ := Option.map_eq_some_iff.mp h
    exact (is_ok h1 I rx ry hd he).2 q
  · cases h
end
end DL

namespace DL
open PySem PySem.Spec PyProof.Rows L2

/-! ### subscripts -/
section
variable {K : PySem.W.Frag} {fa : Nat → Option Addr} {H : Hp} {F : AP'}
theorem RepL.atI {xs : List V} {ds : List D} {i : Int} {d : D} (r : RepL K fa H F xs ds) (e : L2.atI ds i = some d) : ∃ v, L2.atI xs i = some v ∧ Rep K fa H F v d := by
  unfold L2.atI at e ⊢
  rw [r.length]
  cases q : ixN ds.length i with
  | none => rw [q] at e; cases e
  | some j =>
    rw [q] at e
    obtain ⟨v, h1, h2⟩ := r.get (show ds[j]? = some d from e)
    exact ⟨v, h1, h2⟩
end
def idxP (d e : D) : Option D := match d, e with
  | .dK kds, e => (keyOf e).bind (lookD kds)
  | .dT kds, .tup ks => (keysOf ks).bind (lookD kds)
  | .str z, .int i => if z.length ≤ Z24 then (atI z.cps.toList i).map fun c => .str ⟨#[c]⟩ else none
  | .tup ds, .int i => atI ds i
  | .ktup ds, .int i => atI ds i
  | .lst ds, .int i => atI ds i
  | _, _ => none
section
variable {X : Cx} {fa : Nat → Option Addr} {F : AP'} {pins : List (Addr × Obj)} {s : Shared} {σ : L2.St} {H : Hp} {x y : V} {v u : Value} {Q : VK}
theorem idx_ok {d e z : D} (h : idxP d e = some z) (hu : X.A.units + 1 < cLine) (value slice : Expr) (I : Inv X pins σ H s) (rx : RelV x v) (ry : RelV y u) (hd : RdF X.K fa H F x d) (he : RdF X.K fa H F y e)
    (hs : subscripted slice false v u = operate [v, u] (getItem v u)) (q : ∀ w, Rep X.K fa H F w z → Q w H) : wpAny (model X.prog X.w) X.A (subscriptTail value slice v u) (EP X pins σ Q) X.xe s := by
  have byD : ∀ (a : Addr) (o : Option V) (w : V), x = .ref a → DGet H a y o → o = some w → Rep X.K fa H F w z → wpAny (model X.prog X.w) X.A (subscriptTail value slice v u) (EP X pins σ Q) X.xe s := by
    intro a o w ea g eo rw'
    subst ea eo
    cases rx
    exact tail_any (dict_typeIs I g) PySem.F.slot_dict_getitem.lookup (d_getItem hu I g ry fun w' s3 I3 r3 => ⟨w, H, I3, r3, q w rw'⟩) hs
  unfold idxP at h
  split at h
  · rename_i kds
    cases ek : keyOf e with
    | none => rw [ek] at h; cases h
    | some k =>
      rw [ek] at h
      obtain ⟨a, o, ea, g, r⟩ := dget_K hd he ek
      rcases r with ⟨w, z', a1, a2, a3⟩ | ⟨a1, a2⟩
      · rw [show lookD kds k = some z from h] at a2; cases a2
        exact byD a o w ea g a1 a3
      · rw [show lookD kds k = some z from h] at a2; cases a2
  · rename_i kds ks
    cases ek : keysOf ks with
    | none => rw [ek] at h; cases h
    | some k =>
      rw [ek] at h
      obtain ⟨a, o, ea, g, r⟩ := dget_T hd he ek
      rcases r with ⟨w, z', a1, a2, a3⟩ | ⟨a1, a2⟩
      · rw [show lookD kds k = some z from h] at a2; cases a2
        exact byD a o w ea g a1 a3
      · rw [show lookD kds k = some z from h] at a2; cases a2
  · split at h
    · rename_i zz i hl
      cases hd.str
      cases he.int
      cases e1 : atI zz.cps.toList i with
      | none => rw [e1] at h; cases h
      | some c =>
        rw [e1] at h
        cases h
        exact ix_str value slice pins s σ H _ _ v u Q I rx ry ⟨zz, i, c, rfl, rfl, by rw [z24]; exact hl, e1, q _ (.str _)⟩ hs
    · cases h
  · cases he.int
    obtain ⟨a, xs, rfl, ha, ra⟩ := hd.tup
    obtain ⟨w, h1, h2⟩ := ra.atI h
    exact ix_tup value slice pins s σ H _ _ v u Q I rx ry ⟨a, xs, _, w, rfl, rfl, .inl (.inl ha), h1, q w h2⟩ hs
  · cases he.int
    obtain ⟨a, xs, rfl, ha, ra⟩ := hd.ktup
    obtain ⟨w, h1, h2⟩ := ra.atI h
    exact ix_tup value slice pins s σ H _ _ v u Q I rx ry ⟨a, xs, _, w, rfl, rfl, ha.sq, h1, q w h2⟩ hs
  · cases he.int
    obtain ⟨a, xs, rfl, ha, ra⟩ := hd.lst
    obtain ⟨w, h1, h2⟩ := ra.atI h
    exact ix_list value slice pins s σ H _ _ v u Q I rx ry ⟨a, xs, _, w, rfl, rfl, .inl ha, h1, q w h2⟩ hs
  · cases h
end

/-! ### slices -/
def cutD (ds : List D) (lo hi : Option Int) : List D := (ds.drop (HT.sIx ds.length 0 lo)).take (HT.sIx ds.length ds.length hi - HT.sIx ds.length 0 lo)
def slP (d : D) (lo hi : Option Int) : Option SV := match d with
  | .tup ds => some (.dat (.tup (cutD ds lo hi)))
  | .lst ds => some (.own (.lst (cutD ds lo hi)))
  | .str z => if z.length ≤ Z24 then some (.dat (.str (cutS z lo hi))) else none
  | _ => none
section
variable {K : PySem.W.Frag} {fa : Nat → Option Addr} {H : Hp} {F : AP'}
theorem RepL.cut {xs : List V} {ds : List D} (r : RepL K fa H F xs ds) (lo hi : Option Int) : RepL K fa H F (cutV xs lo hi) (cutD ds lo hi) := by
  unfold cutV cutD
  rw [r.length]
  exact (r.drop _).take _
theorem cutD_whole {ds : List D} {lo hi : Option Int} (h1 : HT.sIx ds.length 0 lo = 0) (h2 : HT.sIx ds.length ds.length hi = ds.length) : cutD ds lo hi = ds := by
  unfold cutD
  rw [h1, h2, List.drop_zero, Nat.sub_zero, List.take_length]
end
def SlOk (X : Cx) (fa : Nat → Option Addr) (F : AP') (d : D) (sv : SV) : V → Option Int → Option Int → Hp → VK → Prop := fun x lo hi H Q => slP d lo hi = some sv ∧ RdF X.K fa H F x d ∧ (∀ a, F a → H a ≠ none) ∧ ∀ z H', Made X.K fa H F sv z H' → Q z H'
theorem sl_ok {X : Cx} {fa : Nat → Option Addr} : SlR X (fun x lo hi H Q => ∃ F d sv, SlOk X fa F d sv x lo hi H Q) := by
  rintro pins s σ H x v vl vu lo hi sl Q I rx hs pl pu ⟨F, d, sv, h, hd, fd, q⟩
  unfold slP at h
  split at h
  · rename_i ds
    cases h
    obtain ⟨a, xs, rfl, ha, ra⟩ := hd.tup
    refine sl_tupA pins s σ H _ v vl vu lo hi sl Q I rx hs pl pu ⟨a, xs, rfl, .inl (.inl ha), fun hw => ?_, fun _ p hp => ?_⟩
    · rw [ra.length] at hw
      rw [cutD_whole hw.1 hw.2] at q
      exact q _ _ (made_dat fd (.tup ha ra))
    · exact q _ _ (made_tup fd hp (ra.cut lo hi))
  · cases h
    obtain ⟨a, xs, rfl, ha, ra⟩ := hd.lst
    exact sl_list pins s σ H _ v vl vu lo hi sl Q I rx hs pl pu ⟨a, xs, rfl, .inl ha, fun p hp => q _ _ (made_lst fd hp (ra.cut lo hi))⟩
  · split at h
    · rename_i hl
      cases h
      cases hd.str
      exact sl_str pins s σ H _ v vl vu lo hi sl Q I rx hs pl pu ⟨_, rfl, by rw [z24]; exact hl, q _ _ (made_dat fd (.str _))⟩
    · cases h
  · cases h

/-! ### built-in functions -/
inductive BI where
  | len | abs | int | str | tuple | list | sum | max | min | all | any | sorted
def intsOf : List D → Option (List Int)
  | [] => some []
  | .int i :: ds => (intsOf ds).map (i :: ·)
  | _ :: _ => none
def boolsOf : List D → Option (List Bool)
  | [] => some []
  | .bl i :: ds => (boolsOf ds).map (i :: ·)
  | _ :: _ => none
section
variable {K : PySem.W.Frag} {fa : Nat → Option Addr} {H : Hp} {F : AP'}
theorem intsOf_ok : ∀ {xs : List V} {ds : List D} {ns : List Int}, RepL K fa H F xs ds → intsOf ds = some ns → xs = ns.map V.int
  | _, _, _, .nil, e => by cases e; rfl
  | _, _, _, .cons h r, e => by
    unfold intsOf at e
    split at e
    · rename_i heq; cases heq
    · rename_i heq
      cases heq
      obtain ⟨ms, e2, rfl⟩ := Option.map_eq_some_iff.mp e
      cases h
      rw [intsOf_ok r e2]; rfl
    · cases e
theorem boolsOf_ok : ∀ {xs : List V} {ds : List D} {ns : List Bool}, RepL K fa H F xs ds → boolsOf ds = some ns → xs = ns.map V.bl
  | _, _, _, .nil, e => by cases e; rfl
  | _, _, _, .cons h r, e => by
    unfold boolsOf at e
    split at e
    · rename_i heq; cases heq
    · rename_i heq
      cases heq
      obtain ⟨ms, e2, rfl⟩ := Option.map_eq_some_iff.mp e
      cases h
      rw [boolsOf_ok r e2]; rfl
    · cases e
theorem repL_ints : ∀ ns : List Int, RepL K fa H F (ns.map V.int) (ns.map D.int)
  | [] => .nil
  | n :: ns => .cons (.int n) (repL_ints ns)
end
/-- the greatest, the smallest of a list that is not empty -/
def maxI : Int → List Int → Int
  | m, [] => m
  | m, n :: ns => maxI (if n > m then n else m) ns
def minI : Int → List Int → Int
  | m, [] => m
  | m, n :: ns => minI (if n < m then n else m) ns
theorem maxI_mem : ∀ (ns : List Int) (m : Int), maxI m ns ∈ m :: ns
  | [], m => by simp [maxI]
  | n :: ns, m => by
    have := maxI_mem ns (if n > m then n else m)
    rw [maxI]
    split at this <;> rename_i c
    · rw [if_pos c]; exact List.mem_cons_of_mem _ this
    · rw [if_neg c]
      rcases List.mem_cons.mp this with e | e
      · rw [e]; exact List.mem_cons_self
      · exact List.mem_cons_of_mem _ (List.mem_cons_of_mem _ e)
theorem maxI_ge : ∀ (ns : List Int) (m : Int), m ≤ maxI m ns ∧ ∀ n ∈ ns, n ≤ maxI m ns
  | [], m => by simp [maxI]
  | n :: ns, m => by
    obtain ⟨h1, h2⟩ := maxI_ge ns (if n > m then n else m)
    rw [maxI]
    refine ⟨?_, fun k hk => ?_⟩
    · split at h1 <;> rename_i c
      · rw [if_pos c]; omega
      · rw [if_neg c]; exact h1
    · rcases List.mem_cons.mp hk with e | e
      · subst e
        split at h1 <;> rename_i c
        · rw [if_pos c]; exact h1
        · rw [if_neg c]; omega
      · exact h2 k e
theorem minI_mem : ∀ (ns : List Int) (m : Int), minI m ns ∈ m :: ns
  | [], m => by simp [minI]
  | n :: ns, m => by
    have := minI_mem ns (if n < m then n else m)
    rw [minI]
    split at this <;> rename_i c
    · rw [if_pos c]; exact List.mem_cons_of_mem _ this
    · rw [if_neg c]
      rcases List.mem_cons.mp this with e | e
      · rw [e]; exact List.mem_cons_self
      · exact List.mem_cons_of_mem _ (List.mem_cons_of_mem _ e)
theorem minI_le : ∀ (ns : List Int) (m : Int), minI m ns ≤ m ∧ ∀ n ∈ ns, minI m ns ≤ n
  | [], m => by simp [minI]
  | n :: ns, m => by
    obtain ⟨h1, h2⟩ := minI_le ns (if n < m then n else m)
    rw [minI]
    refine ⟨?_, fun k hk => ?_⟩
    · split at h1 <;> rename_i c
      · rw [if_pos c]; omega
      · rw [if_neg c]; exact h1
    · rcases List.mem_cons.mp hk with e | e
      · subst e
        split at h1 <;> rename_i c
        · rw [if_pos c]; exact h1
        · rw [if_neg c]; omega
      · exact h2 k e
def leB (a b : Int) : Bool := decide (a ≤ b)
def sortI (ns : List Int) : List Int := ns.mergeSort leB
theorem sortI_perm (ns : List Int) : (sortI ns).Perm ns := List.mergeSort_perm ns leB
theorem sortI_sorted (ns : List Int) : (sortI ns).Pairwise (· ≤ ·) := by
  have h := List.pairwise_mergeSort (le := leB) (fun a b c h1 h2 => decide_eq_true (Int.le_trans (of_decide_eq_true h1) (of_decide_eq_true h2)))
    (fun a b => by rcases Int.le_total a b with h | h <;> simp [leB, h]) ns
  exact h.imp fun q => of_decide_eq_true q
theorem sorted_one : ∀ {as bs : List Int}, as.Perm bs → as.Pairwise (· ≤ ·) → bs.Pairwise (· ≤ ·) → as = bs := fun p a b => p.eq_of_pairwise (fun x y _ _ h1 h2 => Int.le_antisymm h1 h2) a b

def callP (b : BI) (ds : List D) : Option SV := match b, ds with
  | .len, [.str z] => if z.length ≤ Z24 then some (.dat (.int z.length)) else none
  | .len, [d] => d.seq?.map fun es => .dat (.int es.length)
  | .abs, [.int i] => some (.dat (.int (if i < 0 then -i else i)))
  | .int, [.int i] => some (.dat (.int i))
  | .int, [.bl k] => some (.dat (.int (if k then 1 else 0)))
  | .str, [.int i] => if i.natAbs.log2 < 1920 then some (.dat (.str (toString i))) else none
  | .tuple, [.lst es] => some (.dat (.tup es))
  | .tuple, [.tup es] => some (.dat (.tup es))
  | .list, [d] => d.seq?.map fun es => .own (.lst es)
  | .sum, [.lst es] => (intsOf es).map fun ns => .dat (.int ns.sum)
  | .max, [.int i, .int j] => some (.dat (.int (if j > i then j else i)))
  | .max, [.lst es] => (intsOf es).bind fun ns => match ns with
    | [] => none
    | n :: r => some (.dat (.int (maxI n r)))
  | .min, [.int i, .int j] => some (.dat (.int (if j < i then j else i)))
  | .min, [.lst es] => (intsOf es).bind fun ns => match ns with
    | [] => none
    | n :: r => some (.dat (.int (minI n r)))
  | .all, [.lst es] => (boolsOf es).map fun bs => .dat (.bl (bs.all id))
  | .any, [.lst es] => (boolsOf es).map fun bs => .dat (.bl (bs.any id))
  | .sorted, [.lst es] => (intsOf es).map fun ns => .own (.lst ((sortI ns).map D.int))
  | _, _ => none
def BI.name : BI → Str
  | .len => "len" | .abs => "abs" | .int => "int" | .str => "str" | .tuple => "tuple" | .list => "list" | .sum => "sum" | .max => "max" | .min => "min" | .all => "all" | .any => "any" | .sorted => "sorted"
def BI.val : BI → Value
  | .len => .builtin "len" | .abs => .builtin "abs" | .int => .type "int" | .str => .type "str" | .tuple => .type "tuple" | .list => .type "list" | .sum => .builtin "sum" | .max => .builtin "max" | .min => .builtin "min"
  | .all => .builtin "all" | .any => .builtin "any" | .sorted => .builtin "sorted"

/-- all of them read -/
inductive RdFs (K : PySem.W.Frag) (fa : Nat → Option Addr) (H : Hp) (F : AP') : List V → List D → Prop
  | nil : RdFs K fa H F [] []
  | cons {v : V} {vs : List V} {d : D} {ds : List D} : RdF K fa H F v d → RdFs K fa H F vs ds → RdFs K fa H F (v :: vs) (d :: ds)
section
variable {K : PySem.W.Frag} {fa : Nat → Option Addr} {H : Hp} {F : AP'}
theorem RdFs.one {xs : List V} {d : D} (h : RdFs K fa H F xs [d]) : ∃ x, xs = [x] ∧ RdF K fa H F x d := by
  cases h with
  | cons a b => cases b; exact ⟨_, rfl, a⟩
theorem RdFs.two {xs : List V} {d e : D} (h : RdFs K fa H F xs [d, e]) : ∃ x y, xs = [x, y] ∧ RdF K fa H F x d ∧ RdF K fa H F y e := by
  cases h with
  | cons a b =>
    cases b with
    | cons c t => cases t; exact ⟨_, _, rfl, a, c⟩
end
section
variable {X : Cx} {fa : Nat → Option Addr} {F : AP'} {pins : List (Addr × Obj)} {s : Shared} {σ : L2.St} {H : Hp} {xs : List V} {us : List Value} {Q : VK}
theorem call_ok {b : BI} {ds : List D} {sv : SV} (h : callP b ds = some sv) (hc : X.calm = true) (I : Inv X pins σ H s) (r : Vals xs us) (hd : RdFs X.K fa H F xs ds) (fd : ∀ a, F a → H a ≠ none)
    (q : ∀ z H', Made X.K fa H F sv z H' → Q z H') : wpAny (model X.prog X.w) X.A (call b.val us) (EP X pins σ Q) X.xe s := by
  unfold callP at h
  split at h
  · split at h
    · rename_i hl
      cases h
      obtain ⟨x, rfl, h1⟩ := hd.one
      cases h1.str
      exact call_len_str pins s σ H _ us Q I r ⟨_, rfl, by rw [z24]; exact hl, q _ _ (made_dat fd (.int _))⟩
    · cases h
  · obtain ⟨x, rfl, h1⟩ := hd.one
    obtain ⟨es, e1, rfl⟩ := Option.map_eq_some_iff.mp h
    obtain ⟨a, ys, rfl, h2, h3⟩ := h1.seq e1
    refine call_len_seq pins s σ H _ us Q I r ⟨a, ys, rfl, h2, ?_⟩
    rw [h3.length]
    exact q _ _ (made_dat fd (.int _))
  · cases h
    obtain ⟨x, rfl, h1⟩ := hd.one
    cases h1.int
    exact call_abs pins s σ H _ us Q I r ⟨_, rfl, q _ _ (made_dat fd (.int _))⟩
  · cases h
    obtain ⟨x, rfl, h1⟩ := hd.one
    cases h1.int
    exact call_int1 pins s σ H _ us Q I r (.inl ⟨_, rfl, q _ _ (made_dat fd (.int _))⟩)
  · cases h
    obtain ⟨x, rfl, h1⟩ := hd.one
    cases h1.bl
    exact call_int1 pins s σ H _ us Q I r (.inr ⟨_, rfl, q _ _ (made_dat fd (.int _))⟩)
  · split at h
    · rename_i hl
      cases h
      obtain ⟨x, rfl, h1⟩ := hd.one
      cases h1.int
      exact call_str_int pins s σ H _ us Q I r ⟨_, rfl, hl, q _ _ (made_dat fd (.str _))⟩
    · cases h
  · cases h
    obtain ⟨x, rfl, h1⟩ := hd.one
    obtain ⟨a, ys, rfl, h2, h3⟩ := h1.lst
    exact call_tuple_of pins s σ H _ us Q I r ⟨a, ys, rfl, .inl ⟨.inl h2, fun p hp => q _ _ (made_tup fd hp h3)⟩⟩
  · cases h
    obtain ⟨x, rfl, h1⟩ := hd.one
    obtain ⟨a, ys, rfl, h2, h3⟩ := h1.tup
    exact call_tuple_of pins s σ H _ us Q I r ⟨a, ys, rfl, .inr ⟨.inl (.inl h2), q _ _ (made_dat fd (.tup h2 h3))⟩⟩
  · obtain ⟨x, rfl, h1⟩ := hd.one
    obtain ⟨es, e1, rfl⟩ := Option.map_eq_some_iff.mp h
    obtain ⟨a, ys, rfl, h2, h3⟩ := h1.seq e1
    exact call_list_of pins s σ H _ us Q I r ⟨a, ys, rfl, h2, fun p hp => q _ _ (made_lst fd hp h3)⟩
  · obtain ⟨x, rfl, h1⟩ := hd.one
    obtain ⟨ns, e1, rfl⟩ := Option.map_eq_some_iff.mp h
    obtain ⟨a, ys, rfl, h2, h3⟩ := h1.lst
    cases intsOf_ok h3 e1
    exact cr_sum hc pins s σ H _ us Q I r ⟨a, ns, rfl, .inl h2, q _ _ (made_dat fd (.int _))⟩
  · cases h
    obtain ⟨x, y, rfl, h1, h2⟩ := hd.two
    cases h1.int
    cases h2.int
    exact call_max2 hc pins s σ H _ us Q I r ⟨_, _, rfl, q _ _ (made_dat fd (.int _))⟩
  · obtain ⟨x, rfl, h1⟩ := hd.one
    obtain ⟨ns, e1, h⟩ := Option.bind_eq_some_iff.mp h
    obtain ⟨a, ys, rfl, h2, h3⟩ := h1.lst
    cases intsOf_ok h3 e1
    cases ns with
    | nil => cases h
    | cons n ms =>
      cases h
      refine cr_max hc pins s σ H _ us Q I r ⟨a, n :: ms, rfl, .inl h2, Nat.succ_pos _, fun m hm hle => ?_⟩
      have e : m = maxI n ms := by
        have g1 := hle _ (maxI_mem ms n)
        have g2 := maxI_ge ms n
        rcases List.mem_cons.mp hm with e | e
        · omega
        · have := g2.2 m e; omega
      rw [e]
      exact q _ _ (made_dat fd (.int _))
  · cases h
    obtain ⟨x, y, rfl, h1, h2⟩ := hd.two
    cases h1.int
    cases h2.int
    exact call_min2 hc pins s σ H _ us Q I r ⟨_, _, rfl, q _ _ (made_dat fd (.int _))⟩
  · obtain ⟨x, rfl, h1⟩ := hd.one
    obtain ⟨ns, e1, h⟩ := Option.bind_eq_some_iff.mp h
    obtain ⟨a, ys, rfl, h2, h3⟩ := h1.lst
    cases intsOf_ok h3 e1
    cases ns with
    | nil => cases h
    | cons n ms =>
      cases h
      refine cr_min hc pins s σ H _ us Q I r ⟨a, n :: ms, rfl, .inl h2, Nat.succ_pos _, fun m hm hle => ?_⟩
      have e : m = minI n ms := by
        have g1 := hle _ (minI_mem ms n)
        have g2 := minI_le ms n
        rcases List.mem_cons.mp hm with e | e
        · omega
        · have := g2.2 m e; omega
      rw [e]
      exact q _ _ (made_dat fd (.int _))
  · obtain ⟨x, rfl, h1⟩ := hd.one
    obtain ⟨ns, e1, rfl⟩ := Option.map_eq_some_iff.mp h
    obtain ⟨a, ys, rfl, h2, h3⟩ := h1.lst
    cases boolsOf_ok h3 e1
    exact cr_all hc pins s σ H _ us Q I r ⟨a, ns, rfl, .inl h2, q _ _ (made_dat fd (.bl _))⟩
  · obtain ⟨x, rfl, h1⟩ := hd.one
    obtain ⟨ns, e1, rfl⟩ := Option.map_eq_some_iff.mp h
    obtain ⟨a, ys, rfl, h2, h3⟩ := h1.lst
    cases boolsOf_ok h3 e1
    exact cr_any hc pins s σ H _ us Q I r ⟨a, ns, rfl, .inl h2, q _ _ (made_dat fd (.bl _))⟩
  · obtain ⟨x, rfl, h1⟩ := hd.one
    obtain ⟨ns, e1, rfl⟩ := Option.map_eq_some_iff.mp h
    obtain ⟨a, ys, rfl, h2, h3⟩ := h1.lst
    cases intsOf_ok h3 e1
    refine cr_sortedI pins s σ H _ us Q I r ⟨a, ns, rfl, .inl h2, fun ns' p hp hs hn => ?_⟩
    have e : ns' = sortI ns := sorted_one (hp.trans (sortI_perm ns).symm) hs (sortI_sorted ns)
    rw [e]
    exact q _ _ (made_lst fd hn (repL_ints _))
  · cases h

/-! ### isinstance -/
def tyN : D → Option String
  | .non => some "NoneType" | .bl _ => some "bool" | .int _ => some "int" | .str _ => some "str" | .tup _ => some "tuple" | .ktup _ => some "tuple" | .lst _ => some "list"
  | _ => none
/-- isinstance(d, T) -/
def instP (d : D) (T : String) : Option Bool := match d with
  | .non => if T ∈ ["bool", "int", "str", "tuple", "list"] then some false else none
  | .bl _ => if T ∈ ["bool", "int"] then some true else if T ∈ ["str", "tuple", "list"] then some false else none
  | .int _ => if T = "int" then some true else if T ∈ ["bool", "str", "tuple", "list"] then some false else none
  | .str _ => if T = "str" then some true else if T ∈ ["bool", "int", "tuple", "list"] then some false else none
  | .tup _ => if T = "tuple" then some true else if T ∈ ["bool", "int", "str", "list"] then some false else none
  | .ktup _ => if T = "tuple" then some true else if T ∈ ["bool", "int", "str", "list"] then some false else none
  | .lst _ => if T = "list" then some true else if T ∈ ["bool", "int", "str", "tuple"] then some false else none
  | _ => none
theorem kit_all : ∀ p ∈ [("NoneType", "bool", false), ("NoneType", "int", false), ("NoneType", "str", false), ("NoneType", "tuple", false), ("NoneType", "list", false), ("bool", "bool", true), ("bool", "int", true), ("bool", "str", false), ("bool", "tuple", false), ("bool", "list", false),
    ("int", "int", true), ("int", "bool", false), ("int", "str", false), ("int", "tuple", false), ("int", "list", false), ("str", "str", true), ("str", "bool", false), ("str", "int", false), ("str", "tuple", false), ("str", "list", false),
    ("tuple", "tuple", true), ("tuple", "bool", false), ("tuple", "int", false), ("tuple", "str", false), ("tuple", "list", false), ("list", "list", true), ("list", "bool", false), ("list", "int", false), ("list", "str", false), ("list", "tuple", false)], kitB p.1 p.2.1 = some p.2.2 := by
  decide +kernel
theorem inst_kit {d : D} {T : String} {b : Bool} (h : instP d T = some b) : ∃ t, tyN d = some t ∧ kitB t T = some b := by
  have k := kit_all
  unfold instP at h
  split at h
  all_goals try (cases h; done)
  all_goals refine ⟨_, rfl, ?_⟩
  all_goals (split at h)
  all_goals try (split at h)
  all_goals try (cases h; done)
  all_goals cases h
  all_goals (rename_i c)
  all_goals try simp only [List.mem_cons, List.not_mem_nil, or_false] at c
  all_goals first
    | (rcases c with rfl | rfl | rfl | rfl | rfl <;> exact k (_, _, _) (by decide))
    | (rcases c with rfl | rfl | rfl | rfl <;> exact k (_, _, _) (by decide))
    | (rcases c with rfl | rfl | rfl <;> exact k (_, _, _) (by decide))
    | (rcases c with rfl | rfl <;> exact k (_, _, _) (by decide))
    | (subst c; exact k (_, _, _) (by decide))
theorem tyX_of {x : V} {d : D} {t : String} (h : RdF X.K fa H F x d) (e : tyN d = some t) : TyX X.K H x (.type t) := by
  cases d with
  | non => cases e; cases h.non; exact .base .non
  | bl b => cases e; cases h.bl; exact .base (.bl _)
  | int i => cases e; cases h.int; exact .base (.int _)
  | str z => cases e; cases h.str; exact .base (.str _)
  | tup ds => cases e; obtain ⟨a, xs, rfl, h1, _⟩ := h.tup; exact .base (.tup h1)
  | ktup ds => cases e; obtain ⟨a, xs, rfl, ⟨o, _, _, h1, h2, _⟩, _⟩ := h.ktup; exact .kTuple h1 h2
  | lst ds =>
    cases e
    obtain ⟨a, xs, rfl, h1, _⟩ := h.lst
    rcases h1 with h1 | ⟨o, h1⟩
    · exact .base (.lst h1)
    · exact .base (.frz h1)
  | _ => cases e
theorem inst_ok {d : D} {T : String} {b : Bool} {x : V} (h : instP d T = some b) (I : Inv X pins σ H s) (r : Vals [x, .ty T] us) (hd : RdF X.K fa H F x d) (q : Q (.bl b) H) :
    wpAny (model X.prog X.w) X.A (call (.builtin "isinstance") us) (EP X pins σ Q) X.xe s := by
  obtain ⟨t, e1, e2⟩ := inst_kit h
  exact call_isi pins s σ H _ us Q I r ⟨x, .ty T, .type t, .type T, b, rfl, .ty T, tyX_of hd e1, kit_ty e2, q⟩
end
end DL

namespace DL
open PySem PySem.Spec PyProof.Rows L2

/-! ### the small language -/
inductive Tg where
  | nm (i : Nat) | tup (ts : List Tg)
mutual
inductive Q where
  | var (i : Nat) | cst (d : D) | glb (j : Nat)
  | tup (qs : List Q) | lst (qs : List Q) | lmul (qs : List Q) (b : Q)
  | dic (t : Bool) | dic1 (k v : Q)
  | bin (o : Operator) (a b : Q) | neg (a : Q) | cmp (o : CmpOp) (a b : Q) | chain (o o' : CmpOp) (a b c : Q)
  | and (a b : Q) | or (a b : Q) | not (a : Q) | ite (c a b : Q)
  | idx (a b : Q) | slc (a : Q) (lo hi : Option Q) | rev (a : Q)
  | call (j : Nat) (args : List Q) | callv (i : Nat) (args : List Q)
  | bi (b : BI) (args : List Q) | inst (a : Q) (T : String) | get (a k d : Q)
  | lrng (a : Q)
  | dcp (a : Q) | dprs (a : Q)
  | lc (own : List Nat) (tg : Tg) (it : It) (c : Option Q) (e : Q)
  | lc2 (own own1 : List Nat) (tg : Tg) (it : It) (tg1 : Tg) (it1 : It) (c : Option Q) (e : Q)
inductive It where
  | seq (q : Q) | rng (a : Q) | rng2 (a b : Q) | enum (q : Q) | zip (a b : Q) | zip3 (a b c : Q) | items (q : Q)
end
inductive S where
  | set (i : Nat) (q : Q) | unp (ts : List Tg) (q : Q) | par (i j : Nat) (a b : Q)
  | store (i : Nat) (k v : Q) | app (i : Nat) (q : Q) | expr (q : Q)
  | ifs (c : Q) (a b : List S) | for_ (tg : Tg) (it : It) (body : List S) | whil (m : Nat) (c : Q) (body : List S)
  | ret (q : Q) | retv (i : Nat) | retN | brk | cont | pass | never

/-- an operand: the name in a slot, or a value -/
inductive PV where
  | sl (i : Nat) | dd (d : D)
def cont (ρ : Env') : PV → Option D
  | .sl i => (match ρ[i]? with
    | some (some sv) => some sv.d
    | _ => none)
  | .dd d => some d
def conts (ρ : Env') : List PV → Option (List D)
  | [] => some []
  | p :: ps => match cont ρ p, conts ρ ps with
    | some d, some ds => some (d :: ds)
    | _, _ => none
def lift {α : Type} (o : Option α) (ρ : Env') : Res α := match o with
  | some a => .ok a ρ
  | none => .stuck

inductive FRes where
  | ok (sv : SV) (b : Option D) | exc (x : Exn) (b : Option D) | stuck
structure Cf where
  run : Nat → List SV → FRes
  lend : Nat → Bool
  gv : Nat → Option D

section
variable (ev' : Q → Env' → Res SV)
def opd (q : Q) (ρ : Env') : Res PV := match q with
  | .var i => (match ρ[i]? with
    | some (some _) => .ok (.sl i) ρ
    | _ => .stuck)
  | q => (ev' q ρ).bind fun sv ρ' => .ok (.dd sv.d) ρ'
def opds : List Q → Env' → Res (List PV)
  | [], ρ => .ok [] ρ
  | q :: qs, ρ => (opd ev' q ρ).bind fun p ρ1 => (opds qs ρ1).bind fun ps ρ2 => .ok (p :: ps) ρ2
/-- values, frozen -/
def vals : List Q → Env' → Res (List D)
  | [], ρ => .ok [] ρ
  | q :: qs, ρ => (ev' q ρ).bind fun sv ρ1 => (vals qs ρ1).bind fun ds ρ2 => .ok (sv.d :: ds) ρ2
/-- two operands, then f of what they hold -/
def op2 {α : Type} (f : D → D → Option α) (a b : Q) (ρ : Env') : Res α :=
  (opd ev' a ρ).bind fun p ρ1 => (opd ev' b ρ1).bind fun r ρ2 => match cont ρ2 p, cont ρ2 r with
    | some d, some e => lift (f d e) ρ2
    | _, _ => .stuck
end

def tru : D → Option Bool
  | .non => some false
  | .bl b => some b
  | .int i => some (i != 0)
  | _ => none
def D.flat : D → Bool
  | .non => true | .bl _ => true | .int _ => true | .str _ => true
  | _ => false

def isDic : Option D → Bool
  | some (.dK _) => true
  | some (.dT _) => true
  | _ => false

/-! ### targets -/
mutual
def asg : Tg → D → Env' → Option Env'
  | .nm i, d, ρ => (match ρ[i]? with
    | some none => some (ρ.set i (some (.dat d)))
    | some (some sv) => if sv.lent then none else some (ρ.set i (some (.dat d)))
    | none => none)
  | .tup ts, d, ρ => (match d with
    | .tup ds => asgs ts ds ρ
    | .ktup ds => asgs ts ds ρ
    | _ => none)
def asgs : List Tg → List D → Env' → Option Env'
  | [], [], ρ => some ρ
  | t :: ts, d :: ds, ρ => (asg t d ρ).bind fun ρ1 => asgs ts ds ρ1
  | _, _, _ => none
end

/-! ### calls -/
/-- the slots of our own (or lent to us) that the callee reads -/
def sharedSl (ρ : Env') : List PV → List Nat
  | [] => []
  | .sl i :: ps => (match ρ[i]? with
    | some (some (.dat _)) => sharedSl ρ ps
    | _ => i :: sharedSl ρ ps)
  | .dd _ :: ps => sharedSl ρ ps
/-- they are frozen -/
def freezeSl (ρ : Env') : List Nat → Option Env'
  | [] => some ρ
  | i :: is => (match ρ[i]? with
    | some (some (.own d)) => freezeSl (ρ.set i (some (.dat d))) is
    | some (some (.dat _)) => freezeSl ρ is
    | _ => none)
/-- the lent thing's new content -/
def putBack (ρ : Env') (i : Nat) (d : D) : Option Env' := match ρ[i]? with
  | some (some (.own _)) => some (ρ.set i (some (.own d)))
  | some (some (.bor _)) => some (ρ.set i (some (.bor d)))
  | _ => none
def lentOf (ρ : Env') : List PV → Option (Nat × D × List PV)
  | .sl i :: ps => (match ρ[i]? with
    | some (some (.own d)) => some (i, d, ps)
    | some (some (.bor d)) => some (i, d, ps)
    | _ => none)
  | _ => none
def callR (cf : Cf) (j : Nat) (ps : List PV) (ρ : Env') : Res SV :=
  if cf.lend j = true then match lentOf ρ ps with
    | none => .stuck
    | some (i, d, rest) => match conts ρ rest, freezeSl ρ (sharedSl ρ rest) with
      | some ds, some ρ1 => (match cf.run j (.bor d :: ds.map .dat) with
        | .ok sv (some d') => (match putBack ρ1 i d' with
          | some ρ2 => .ok sv ρ2
          | none => .stuck)
        | .exc x (some d') => (match putBack ρ1 i d' with
          | some ρ2 => .exc x ρ2
          | none => .stuck)
        | _ => .stuck)
      | _, _ => .stuck
  else match conts ρ ps with
    | none => .stuck
    | some ds => match cf.run j (ds.map .dat) with
      | .ok sv none => if sv.d.flat = true then .ok (.dat sv.d) ρ else (match freezeSl ρ (sharedSl ρ ps) with
        | some ρ2 => .ok sv ρ2
        | none => .stuck)
      | .exc x none => (match freezeSl ρ (sharedSl ρ ps) with
        | some ρ2 => .exc x ρ2
        | none => .stuck)
      | _ => .stuck
def pairsK : List D → Option (List (Key × D))
  | [] => some []
  | .tup [k, v] :: ds => (match keyOf k, pairsK ds with
    | some kk, some r => some ((kk, v) :: r)
    | _, _ => none)
  | _ :: _ => none

/-! ### what is walked -/
def keyD : Key → D
  | .inl i => .int i
  | .inr x => .str x
def zipD : List D → List D → List D
  | a :: as, b :: bs => .tup [a, b] :: zipD as bs
  | _, _ => []
def zipP (a b : D) : Option (List D) := match a, b with
  | .lst xs, .lst ys => some (zipD xs ys)
  | .tup xs, .tup ys => some (zipD xs ys)
  | .ktup xs, .tup ys => some (zipD xs ys)
  | .tup xs, .ktup ys => some (zipD xs ys)
  | .ktup xs, .ktup ys => some (zipD xs ys)
  | _, _ => none
def zip3D : List D → List D → List D → List D
  | a :: as, b :: bs, c :: cs => .tup [a, b, c] :: zip3D as bs cs
  | _, _, _ => []
def enumD : Nat → List D → List D
  | _, [] => []
  | n, a :: as => .tup [.int (n : Nat), a] :: enumD (n + 1) as
def rangeD (lo : Int) (n : Nat) : List D := (List.range n).map fun i => .int (lo + (i : Nat))
def walkOf : D → Option (List D)
  | .tup ds => some ds
  | .ktup ds => some ds
  | .lst ds => some ds
  | .dK kds => some (kds.map fun kv => keyD kv.1)
  | .dT kds => some (kds.map fun kv => .tup (kv.1.map keyD))
  | _ => none
def itemsOf : D → Option (List D)
  | .dK kds => some (kds.map fun kv => .tup [keyD kv.1, kv.2])
  | .dT kds => some (kds.map fun kv => .tup [.tup (kv.1.map keyD), kv.2])
  | _ => none
def small62 (i : Int) : Bool := decide (-(2 ^ 62) ≤ i) && decide (i < 2 ^ 62)
section
variable (ev' : Q → Env' → Res SV)
def evIt (it : It) (ρ : Env') : Res (List D) := match it with
  | .seq q => (ev' q ρ).bind fun sv ρ1 => lift sv.d.seq? ρ1
  | .rng a => (ev' a ρ).bind fun sv ρ1 => (match sv.d with
    | .int j => if small62 j = true then .ok (rangeD 0 j.toNat) ρ1 else .stuck
    | _ => .stuck)
  | .rng2 a b => (ev' a ρ).bind fun sv ρ1 => (ev' b ρ1).bind fun sw ρ2 => (match sv.d, sw.d with
    | .int i, .int j => if (small62 i && small62 j) = true then .ok (rangeD i (j - i).toNat) ρ2 else .stuck
    | _, _ => .stuck)
  | .enum q => (ev' q ρ).bind fun sv ρ1 => (match sv.d with
    | .lst ds => .ok (enumD 0 ds) ρ1
    | _ => .stuck)
  | .zip a b => (ev' a ρ).bind fun sv ρ1 => (ev' b ρ1).bind fun sw ρ2 => lift (zipP sv.d sw.d) ρ2
  | .zip3 a b c => (ev' a ρ).bind fun sv ρ1 => (ev' b ρ1).bind fun sw ρ2 => (ev' c ρ2).bind fun sz ρ3 => (match sv.d.seq?, sw.d.seq?, sz.d.seq? with
    | some xs, some ys, some zs => .ok (zip3D xs ys zs) ρ3
    | _, _, _ => .stuck)
  | .items q => (ev' q ρ).bind fun sv ρ1 => lift (itemsOf sv.d) ρ1
end

/-! ### comprehensions -/
def wipeR (ρ : Env') : List Nat → Env'
  | [] => ρ
  | i :: is => (wipeR ρ is).set i none
/-- a comprehension's own slots as they were -/
def backR (ρ0 : Env') (ρ : Env') : List Nat → Env'
  | [] => ρ
  | i :: is => (backR ρ0 ρ is).set i ((ρ0[i]?).getD none)
def tame (ρ : Env') (own : List Nat) : Bool := own.all fun i => match ρ[i]? with
  | some none => true
  | some (some (.dat _)) => true
  | _ => false
section
variable (ev' : Q → Env' → Res SV) (evT' : Q → Env' → Res Bool)
def testO (c : Option Q) (ρ : Env') : Res Bool := match c with
  | none => .ok true ρ
  | some q => evT' q ρ
def lcGo (own : List Nat) (tg : Tg) (c : Option Q) (e : Q) : List D → List D → Env' → Res (List D)
  | [], acc, ρ => .ok acc ρ
  | d :: ds, acc, ρ => match asg tg d ρ with
    | none => .stuck
    | some ρ1 => (testO evT' c ρ1).bind fun b ρ2 =>
      if b = true then (ev' e ρ2).bind fun sv ρ3 => if acc.length < Z24 then lcGo own tg c e ds (acc ++ [sv.d]) (wipeR ρ3 own) else .stuck
      else lcGo own tg c e ds acc (wipeR ρ2 own)
/-- two fors -/
def lc2Go (own own1 : List Nat) (tg : Tg) (tg1 : Tg) (it1 : It) (c : Option Q) (e : Q) : List D → List D → Env' → Res (List D)
  | [], acc, ρ => .ok acc ρ
  | d :: ds, acc, ρ => match asg tg d ρ with
    | none => .stuck
    | some ρ1 => (evIt ev' it1 ρ1).bind fun items ρ2 => (lcGo ev' evT' own1 tg1 c e items acc ρ2).bind fun acc' ρ3 => lc2Go own own1 tg tg1 it1 c e ds acc' (wipeR ρ3 own)
end

/-! ### the evaluator -/
mutual
def ev (cf : Cf) : Nat → Q → Env' → Res SV
  | 0, _, _ => .stuck
  | n + 1, q, ρ => match q with
    | .var i => (match ρ[i]? with
      | some (some (.dat d)) => .ok (.dat d) ρ
      | some (some (.own d)) => .ok (.dat d) (ρ.set i (some (.dat d)))
      | _ => .stuck)
    | .cst d => .ok (.dat d) ρ
    | .glb j => (match cf.gv j with
      | some d => .ok (.dat d) ρ
      | none => .stuck)
    | .tup qs => (vals (ev cf n) qs ρ).bind fun ds ρ1 => if ds.length ≤ Z24 then .ok (.dat (.tup ds)) ρ1 else .stuck
    | .lst qs => (vals (ev cf n) qs ρ).bind fun ds ρ1 => if ds.length ≤ Z24 then .ok (.own (.lst ds)) ρ1 else .stuck
    | .lmul qs b => (vals (ev cf n) qs ρ).bind fun ds ρ1 => if ds.length ≤ Z24 then (ev cf n b ρ1).bind fun sv ρ2 => (match sv.d with
      | .int k => if (-(2 ^ 63) ≤ k ∧ k < 2 ^ 63) ∧ ds.length * k.toNat ≤ Z24 then .ok (.own (.lst (List.replicate k.toNat ds).flatten)) ρ2 else .stuck
      | _ => .stuck) else .stuck
    | .dic false => .ok (.own (.dK [])) ρ
    | .dic true => .ok (.own (.dT [])) ρ
    | .dic1 k v => (ev cf n k ρ).bind fun sk ρ1 => (ev cf n v ρ1).bind fun sv ρ2 => (match keyOf sk.d with
      | some kk => .ok (.own (.dK [(kk, sv.d)])) ρ2
      | none => .stuck)
    | .bin o a b => op2 (ev cf n) (binP o) a b ρ
    | .neg a => (ev cf n a ρ).bind fun sv ρ1 => (match sv.d with
      | .int i => .ok (.dat (.int (-i))) ρ1
      | _ => .stuck)
    | .cmp o a b => (op2 (ev cf n) (cmpP o) a b ρ).bind fun c ρ1 => .ok (.dat (.bl c)) ρ1
    | .chain o o' a b c => (ev cf n a ρ).bind fun sa ρ1 => (ev cf n b ρ1).bind fun sb ρ2 => (match cmpP o sa.d sb.d with
      | some true => (ev cf n c ρ2).bind fun sc ρ3 => (match cmpP o' sb.d sc.d with
        | some r => .ok (.dat (.bl r)) ρ3
        | none => .stuck)
      | some false => .ok (.dat (.bl false)) ρ2
      | none => .stuck)
    | .and a b => (ev cf n a ρ).bind fun sa ρ1 => (match sa.d with
      | .bl true => (ev cf n b ρ1).bind fun sb ρ2 => .ok (.dat sb.d) ρ2
      | .bl false => .ok (.dat (.bl false)) ρ1
      | _ => .stuck)
    | .or a b => (ev cf n a ρ).bind fun sa ρ1 => (match sa.d with
      | .bl false => (ev cf n b ρ1).bind fun sb ρ2 => .ok (.dat sb.d) ρ2
      | .bl true => .ok (.dat (.bl true)) ρ1
      | _ => .stuck)
    | .not a => (ev cf n a ρ).bind fun sa ρ1 => (match sa.d with
      | .bl b => .ok (.dat (.bl (!b))) ρ1
      | _ => .stuck)
    | .ite c a b => (evT cf n c ρ).bind fun t ρ1 => if t = true then ev cf n a ρ1 else ev cf n b ρ1
    | .idx a b => (op2 (ev cf n) idxP a b ρ).bind fun d ρ1 => .ok (.dat d) ρ1
    | .slc a lo hi => (opd (ev cf n) a ρ).bind fun p ρ1 => (part cf n lo ρ1).bind fun l ρ2 => (part cf n hi ρ2).bind fun h ρ3 => (match cont ρ3 p with
      | some d => lift (slP d l h) ρ3
      | none => .stuck)
    | .rev a => (opd (ev cf n) a ρ).bind fun p ρ1 => (match cont ρ1 p with
      | some (.tup ds) => .ok (.dat (.tup ds.reverse)) ρ1
      | some (.lst ds) => .ok (.own (.lst ds.reverse)) ρ1
      | _ => .stuck)
    | .call j args => (opds (ev cf n) args ρ).bind fun ps ρ1 => callR cf j ps ρ1
    | .callv i args => (match ρ[i]? with
      | some (some (.dat (.fn j))) => (opds (ev cf n) args ρ).bind fun ps ρ1 => callR cf j ps ρ1
      | _ => .stuck)
    | .bi b args => (opds (ev cf n) args ρ).bind fun ps ρ1 => (match conts ρ1 ps with
      | some ds => lift (callP b ds) ρ1
      | none => .stuck)
    | .inst a T => (opd (ev cf n) a ρ).bind fun p ρ1 => (match cont ρ1 p with
      | some d => (match instP d T with
        | some b => .ok (.dat (.bl b)) ρ1
        | none => .stuck)
      | none => .stuck)
    | .get a k d => (opd (ev cf n) a ρ).bind fun p ρ1 => if isDic (cont ρ1 p) = true then (ev cf n k ρ1).bind fun sk ρ2 => (ev cf n d ρ2).bind fun sd ρ3 => (match cont ρ3 p with
      | some (.dK kds) => (match keyOf sk.d with
        | some kk => .ok (.dat ((lookD kds kk).getD sd.d)) ρ3
        | none => .stuck)
      | some (.dT kds) => (match sk.d with
        | .tup ks => (match keysOf ks with
          | some kk => .ok (.dat ((lookD kds kk).getD sd.d)) ρ3
          | none => .stuck)
        | _ => .stuck)
      | _ => .stuck) else .stuck
    | .lrng a => (ev cf n a ρ).bind fun sa ρ1 => (match sa.d with
      | .int j => if 0 ≤ j ∧ j ≤ Z24 then .ok (.own (.lst (rangeD 0 j.toNat))) ρ1 else .stuck
      | _ => .stuck)
    | .dcp a => (opd (ev cf n) a ρ).bind fun p ρ1 => (match cont ρ1 p with
      | some (.dK kds) => .ok (.own (.dK kds)) ρ1
      | _ => .stuck)
    | .dprs a => (opd (ev cf n) a ρ).bind fun p ρ1 => (match cont ρ1 p with
      | some (.lst es) => (match pairsK es with
        | some kds => .ok (.own (.dK (kds.foldl (fun acc kv => putD acc kv.1 kv.2) []))) ρ1
        | none => .stuck)
      | _ => .stuck)
    | .lc own tg it c e => (evIt (ev cf n) it ρ).bind fun items ρ1 => if tame ρ1 own = true then
        (lcGo (ev cf n) (evT cf n) own tg c e items [] (wipeR ρ1 own)).bind fun acc ρ2 => .ok (.own (.lst acc)) (backR ρ1 ρ2 own) else .stuck
    | .lc2 own own1 tg it tg1 it1 c e => (evIt (ev cf n) it ρ).bind fun items ρ1 => if tame ρ1 own = true then
        (lc2Go (ev cf n) (evT cf n) own own1 tg tg1 it1 c e items [] (wipeR ρ1 own)).bind fun acc ρ2 => .ok (.own (.lst acc)) (backR ρ1 ρ2 own) else .stuck
def evT (cf : Cf) : Nat → Q → Env' → Res Bool
  | 0, _, _ => .stuck
  | n + 1, q, ρ => match q with
    | .and a b => (evT cf n a ρ).bind fun t ρ1 => if t = true then evT cf n b ρ1 else .ok false ρ1
    | .or a b => (evT cf n a ρ).bind fun t ρ1 => if t = true then .ok true ρ1 else evT cf n b ρ1
    | .not a => (evT cf n a ρ).bind fun t ρ1 => .ok (!t) ρ1
    | q => (ev cf n q ρ).bind fun sv ρ1 => lift (tru sv.d) ρ1
def part (cf : Cf) : Nat → Option Q → Env' → Res (Option Int)
  | 0, _, _ => .stuck
  | _ + 1, none, ρ => .ok none ρ
  | n + 1, some q, ρ => (ev cf n q ρ).bind fun sv ρ1 => (match sv.d with
    | .int i => .ok (some i) ρ1
    | _ => .stuck)
end

/-! ### statements -/
inductive SRes where
  | nx (ρ : Env') | rt (sv : SV) (ρ : Env') | bk (ρ : Env') | ct (ρ : Env') | exc (x : Exn) (ρ : Env') | stuck
@[reducible] def Res.sb {α : Type} (r : Res α) (g : α → Env' → SRes) : SRes := match r with
  | .ok a ρ => g a ρ
  | .exc x ρ => .exc x ρ
  | .stuck => .stuck
@[reducible] def SRes.sq (r : SRes) (g : Env' → SRes) : SRes := match r with
  | .nx ρ => g ρ
  | .rt sv ρ => .rt sv ρ
  | .bk ρ => .bk ρ
  | .ct ρ => .ct ρ
  | .exc x ρ => .exc x ρ
  | .stuck => .stuck
/-- a name is stored -/
def setS (i : Nat) (sv : SV) (ρ : Env') : SRes := if sv.lent = true then .stuck else match ρ[i]? with
  | some none => .nx (ρ.set i (some sv))
  | some (some sw) => if sw.lent = true then .stuck else .nx (ρ.set i (some sv))
  | none => .stuck
def unpS (T : Tg) (d : D) (ρ : Env') : SRes := match asg T d ρ with
  | some ρ1 => .nx ρ1
  | none => .stuck
/-- a thing of ours is written -/
def putAt (d k v : D) : Option D := match d with
  | .lst ds => (match k with
    | .int i => (ixN ds.length i).map fun j => .lst (ds.set j v)
    | _ => none)
  | .dK kds => if kds.length < Z24 then (keyOf k).map fun kk => .dK (putD kds kk v) else none
  | .dT kds => if kds.length < Z24 then (match k with
    | .tup ks => (keysOf ks).map fun kk => .dT (putD kds kk v)
    | _ => none) else none
  | _ => none
def hasSlot (ρ : Env') (i : Nat) : Bool := match ρ[i]? with
  | some (some _) => true
  | _ => false
def hasLst (ρ : Env') (i : Nat) : Bool := match ρ[i]? with
  | some (some (.own (.lst _))) => true
  | some (some (.bor (.lst _))) => true
  | _ => false
def pushAt (d v : D) : Option D := match d with
  | .lst ds => if ds.length < Z24 then some (.lst (ds ++ [v])) else none
  | _ => none
def modS (i : Nat) (g : D → Option D) (ρ : Env') : SRes := match ρ[i]? with
  | some (some (.own d)) => (match g d with
    | some d' => .nx (ρ.set i (some (.own d')))
    | none => .stuck)
  | some (some (.bor d)) => (match g d with
    | some d' => .nx (ρ.set i (some (.bor d')))
    | none => .stuck)
  | _ => .stuck
def retvS (i : Nat) (ρ : Env') : SRes := match ρ[i]? with
  | some (some (.own d)) => .rt (.own d) ρ
  | some (some (.dat d)) => .rt (.dat d) ρ
  | _ => .stuck
def forGo (body : Env' → SRes) (T : Tg) : List D → Env' → SRes
  | [], ρ => .nx ρ
  | d :: ds, ρ => match asg T d ρ with
    | none => .stuck
    | some ρ1 => match body ρ1 with
      | .nx ρ2 => forGo body T ds ρ2
      | .ct ρ2 => forGo body T ds ρ2
      | .bk ρ2 => .nx ρ2
      | .rt sv ρ2 => .rt sv ρ2
      | .exc x ρ2 => .exc x ρ2
      | .stuck => .stuck
def whGo (c : Env' → Res Bool) (body : Env' → SRes) : Nat → Env' → SRes
  | 0, _ => .stuck
  | m + 1, ρ => (c ρ).sb fun b ρ1 => if b = true then match body ρ1 with
      | .nx ρ2 => whGo c body m ρ2
      | .ct ρ2 => whGo c body m ρ2
      | .bk ρ2 => .nx ρ2
      | .rt sv ρ2 => .rt sv ρ2
      | .exc x ρ2 => .exc x ρ2
      | .stuck => .stuck
    else .nx ρ1
mutual
def exS (cf : Cf) : Nat → S → Env' → SRes
  | 0, _, _ => .stuck
  | n + 1, s, ρ => match s with
    | .set i q => (ev cf n q ρ).sb fun sv ρ1 => setS i sv ρ1
    | .unp ts q => (ev cf n q ρ).sb fun sv ρ1 => unpS (.tup ts) sv.d ρ1
    | .par i j a b => (ev cf n a ρ).sb fun sv ρ1 => (ev cf n b ρ1).sb fun sw ρ2 => (setS i (.dat sv.d) ρ2).sq fun ρ3 => setS j (.dat sw.d) ρ3
    | .store i k v => (ev cf n v ρ).sb fun sv ρ1 => if hasSlot ρ1 i = true then (ev cf n k ρ1).sb fun sk ρ2 => modS i (fun d => putAt d sk.d sv.d) ρ2 else .stuck
    | .app i q => if hasLst ρ i = true then (ev cf n q ρ).sb fun sv ρ1 => modS i (fun d => pushAt d sv.d) ρ1 else .stuck
    | .expr q => (ev cf n q ρ).sb fun _ ρ1 => .nx ρ1
    | .ifs c a b => (evT cf n c ρ).sb fun t ρ1 => if t = true then exSs cf n a ρ1 else exSs cf n b ρ1
    | .for_ T it body => (evIt (ev cf n) it ρ).sb fun items ρ1 => forGo (exSs cf n body) T items ρ1
    | .whil m c body => whGo (evT cf n c) (exSs cf n body) m ρ
    | .ret q => (ev cf n q ρ).sb fun sv ρ1 => .rt sv ρ1
    | .retv i => retvS i ρ
    | .retN => .rt (.dat .non) ρ
    | .brk => .bk ρ
    | .cont => .ct ρ
    | .pass => .nx ρ
    | .never => .stuck
def exSs (cf : Cf) : Nat → List S → Env' → SRes
  | 0, _, _ => .stuck
  | _ + 1, [], ρ => .nx ρ
  | n + 1, s :: ss, ρ => (exS cf n s ρ).sq fun ρ1 => exSs cf n ss ρ1
end
/-- a def -/
structure Fd where
  np : Nat
  nl : Nat
  lend : Bool
  body : List S
def backOf (ρ : Env') : Option D := match ρ with
  | some (.bor d) :: _ => some d
  | _ => none
def endF (lend : Bool) (ρ : Env') (g : Option D → FRes) : FRes := if lend = true then match backOf ρ with
  | some d => g (some d)
  | none => .stuck else g none
def finF (lend : Bool) (r : SRes) : FRes := match r with
  | .nx ρ => endF lend ρ fun b => .ok (.dat .non) b
  | .rt sv ρ => endF lend ρ fun b => .ok sv b
  | .exc x ρ => endF lend ρ fun b => .exc x b
  | _ => .stuck
def isLent : List SV → Bool
  | .bor _ :: _ => true
  | _ => false
/-- what def j computes with k calls deep, n the fuel of a body -/
def semK (defs : Nat → Option Fd) (gv : Nat → Option D) (n : Nat) : Nat → Nat → List SV → FRes
  | 0, _, _ => .stuck
  | k + 1, j, svs => match defs j with
    | none => .stuck
    | some fd => if svs.length = fd.np ∧ isLent svs = fd.lend then
        finF fd.lend (exSs ⟨semK defs gv n k, fun i => match defs i with
          | some g => g.lend
          | none => false, gv⟩ n fd.body (svs.map some ++ List.replicate (fd.nl - fd.np) none))
      else .stuck
end DL

namespace DL
open PySem PySem.Spec PyProof.Rows L2

section
variable {K : PySem.W.Frag} {fa : Nat → Option Addr} {H H' H0 H1 H2 : Hp} {F F' F0 F1 : AP'} {σ : L2.St} {ρ ρ' ρ0 : Env'}

abbrev StepE (H : Hp) (F : AP') (σ : L2.St) (ρ : Env') (H' : Hp) (F' : AP') (σ' : L2.St) (ρ' : Env') : Prop := Step H F (Own σ ρ) (Bor σ ρ) H' F' (Own σ' ρ') (Bor σ' ρ')

theorem set_get {α : Type} {l : List α} {i j : Nat} {x y : α} (h : (l.set i x)[j]? = some y) : (i = j ∧ y = x) ∨ (i ≠ j ∧ l[j]? = some y) := by
  by_cases e : i = j
  · subst e
    by_cases hi : i < l.length
    · rw [List.getElem?_set_self hi] at h; cases h; exact .inl ⟨rfl, rfl⟩
    · rw [List.getElem?_eq_none (by simpa using hi)] at h; cases h
  · rw [List.getElem?_set_ne e] at h; exact .inr ⟨e, h⟩
theorem get_lt {α : Type} {l : List α} {i : Nat} {x : α} (h : l[i]? = some x) : i < l.length := (List.getElem?_eq_some_iff.mp h).1

/-- a name of our own is frozen -/
theorem EnvOk.freeze {i : Nat} {d : D} {a : Addr} (ok : EnvOk K fa H F σ ρ) (e : ρ[i]? = some (some (.own d))) (es : σ[i]? = some (some (.ref a))) :
    EnvOk K fa H (fun b => F b ∨ b = a) σ (ρ.set i (some (.dat d))) ∧ StepE H F σ ρ H (fun b => F b ∨ b = a) σ (ρ.set i (some (.dat d))) ∧ Rep K fa H (fun b => F b ∨ b = a) (.ref a) d := by
  obtain ⟨v, e2, b, e3, nf, ow⟩ := ok.slot i _ e
  rw [es] at e2; cases e2; cases e3
  have st : Stays H F H (fun b => F b ∨ b = a) := ⟨fun _ _ h => h, fun _ _ _ h => h, fun _ h => .inl h⟩
  have rep : Rep K fa H (fun b => F b ∨ b = a) (.ref a) d := by
    cases ow with
    | lst q r => exact .lst (.inr rfl) (.inl q) (r.stays st)
    | dK q r => exact .dK (.inr rfl) (.inl q) r.1 (r.2.stays st)
    | dT q r => exact .dT (.inr rfl) (.inl q) r.1 (r.2.stays st)
  have own' : ∀ b, Own σ (ρ.set i (some (.dat d))) b → Own σ ρ b ∧ b ≠ a := fun b ⟨j, sv, h1, h2, h3⟩ => by
    rcases set_get h1 with ⟨_, h⟩ | ⟨ne, h⟩
    · cases h; cases h2
    · refine ⟨⟨j, sv, h, h2, h3⟩, fun z => ?_⟩
      subst z
      exact ne (ok.apart i j _ _ b e h rfl h2 es h3)
  refine ⟨⟨by rw [List.length_set]; exact ok.len, fun j sv h => ?_, fun j k sv sw b h1 h2 m1 m2 s1 s2 => ?_, fun b h => ?_⟩, ⟨fun _ _ h _ => h, fun _ h => .inl h, fun b h => ?_, fun b h => .inl (own' b h).1, fun b => ?_, fun _ h => h⟩, rep⟩
  · rcases set_get h with ⟨rfl, g⟩ | ⟨ne, h⟩
    · cases g; exact ⟨_, es, rep⟩
    · obtain ⟨w, h1, h2⟩ := ok.slot j sv h
      refine ⟨w, h1, ?_⟩
      have far : ∀ c d', w = .ref c → ¬ F c → sv.mine = true → OwnAt K fa H F c d' → ¬ (F c ∨ c = a) ∧ OwnAt K fa H (fun b => F b ∨ b = a) c d' := fun c d' ew nc m q => by
        refine ⟨fun z => ?_, q.stays rfl st⟩
        rcases z with z | z
        · exact nc z
        · subst z ew
          exact ne (ok.apart i j _ _ c e h rfl m es h1)
      cases sv with
      | dat d' => exact Rep.stays st h2
      | own d' => obtain ⟨c, ew, nc, q⟩ := h2; exact ⟨c, ew, far c d' ew nc rfl q⟩
      | bor d' => obtain ⟨c, ew, nc, q⟩ := h2; exact ⟨c, ew, far c d' ew nc rfl q⟩
  · rcases set_get h1 with ⟨_, h⟩ | ⟨ne, h⟩
    · cases h; cases m1
    · rcases set_get h2 with ⟨_, h'⟩ | ⟨ne', h'⟩
      · cases h'; cases m2
      · exact ok.apart j k sv sw b h h' m1 m2 s1 s2
  · rcases h with h | h
    · exact ok.fd b h
    · subst h
      obtain ⟨o, ho, _⟩ := ow.some
      rw [ho]; exact fun z => nomatch z
  · rcases h with h | h
    · exact .inl h
    · subst h
      refine .inr (.inr ⟨⟨i, _, e, rfl, es⟩, fun ⟨j, sv, h1, h2, h3⟩ => ?_⟩)
      have hj := ok.apart i j _ _ b e h1 rfl (by cases sv <;> first | rfl | cases h2) es h3
      subst hj
      rw [e] at h1; cases h1; cases h2
  · constructor
    · rintro ⟨j, sv, h1, h2, h3⟩
      rcases set_get h1 with ⟨_, h⟩ | ⟨ne, h⟩
      · cases h; cases h2
      · exact ⟨j, sv, h, h2, h3⟩
    · rintro ⟨j, sv, h1, h2, h3⟩
      refine ⟨j, sv, ?_, h2, h3⟩
      rw [List.getElem?_set_ne ?_]
      · exact h1
      · intro z; subst z; rw [e] at h1; cases h1; cases h2

/-- the names of the frame, whatever the heap: a slot is stored anew -/
structure CanSet (K : PySem.W.Frag) (fa : Nat → Option Addr) (H : Hp) (F : AP') (σ : L2.St) (ρ : Env') (v : V) (sv : SV) : Prop where
  rep : RepS K fa H F v sv
  new : ∀ a, v = .ref a → sv.mine = true → ¬ Own σ ρ a
  nolend : sv.lent = false
theorem EnvOk.setSlot {i : Nat} {v : V} {sv : SV} (ok : EnvOk K fa H F σ ρ) (hi : i < ρ.length) (nl : ∀ sw, ρ[i]? = some (some sw) → sw.lent = false) (c : CanSet K fa H F σ ρ v sv) :
    EnvOk K fa H F (σ.set i (some v)) (ρ.set i (some sv)) ∧ (∀ a, Own (σ.set i (some v)) (ρ.set i (some sv)) a → Own σ ρ a ∨ (v = .ref a ∧ sv.mine = true)) ∧ ∀ a, Bor (σ.set i (some v)) (ρ.set i (some sv)) a ↔ Bor σ ρ a := by
  have hiσ : i < σ.length := by rw [ok.len]; exact hi
  refine ⟨⟨by rw [List.length_set, List.length_set]; exact ok.len, fun j sw h => ?_, fun j k sw sz b h1 h2 m1 m2 s1 s2 => ?_, ok.fd⟩, fun a ⟨j, sw, h1, h2, h3⟩ => ?_, fun a => ⟨fun ⟨j, sw, h1, h2, h3⟩ => ?_, fun ⟨j, sw, h1, h2, h3⟩ => ?_⟩⟩
  · rcases set_get h with ⟨rfl, g⟩ | ⟨ne, h⟩
    · cases g
      exact ⟨v, by rw [List.getElem?_set_self hiσ], c.rep⟩
    · obtain ⟨w, q1, q2⟩ := ok.slot j sw h
      exact ⟨w, by rw [List.getElem?_set_ne ne]; exact q1, q2⟩
  · rcases set_get h1 with ⟨rfl, g1⟩ | ⟨n1, g1⟩
    · rcases set_get h2 with ⟨rfl, g2⟩ | ⟨n2, g2⟩
      · rfl
      · cases g1
        rw [List.getElem?_set_self hiσ] at s1
        rw [List.getElem?_set_ne n2] at s2
        have e1 : v = .ref b := Option.some.inj (Option.some.inj s1)
        exact absurd ⟨k, sz, g2, m2, s2⟩ (c.new b e1 m1)
    · rw [List.getElem?_set_ne n1] at s1
      rcases set_get h2 with ⟨rfl, g2⟩ | ⟨n2, g2⟩
      · cases g2
        rw [List.getElem?_set_self hiσ] at s2
        have e1 : v = .ref b := Option.some.inj (Option.some.inj s2)
        exact absurd ⟨j, sw, g1, m1, s1⟩ (c.new b e1 m2)
      · rw [List.getElem?_set_ne n2] at s2
        exact ok.apart j k sw sz b g1 g2 m1 m2 s1 s2
  · rcases set_get h1 with ⟨rfl, g⟩ | ⟨ne, g⟩
    · cases g
      rw [List.getElem?_set_self hiσ] at h3
      exact .inr ⟨Option.some.inj (Option.some.inj h3), h2⟩
    · rw [List.getElem?_set_ne ne] at h3
      exact .inl ⟨j, sw, g, h2, h3⟩
  · rcases set_get h1 with ⟨rfl, g⟩ | ⟨ne, g⟩
    · cases g
      rw [c.nolend] at h2; cases h2
    · rw [List.getElem?_set_ne ne] at h3
      exact ⟨j, sw, g, h2, h3⟩
  · have ne : i ≠ j := by
      intro z; subst z
      rw [nl sw h1] at h2; cases h2
    exact ⟨j, sw, by rw [List.getElem?_set_ne ne]; exact h1, h2, by rw [List.getElem?_set_ne ne]; exact h3⟩

/-- what we own is written -/
theorem EnvOk.mutate {i : Nat} {sv sw : SV} {a : Addr} {o : HO} {d : D} (ok : EnvOk K fa H F σ ρ) (e : ρ[i]? = some (some sv)) (m : sv.mine = true) (es : σ[i]? = some (some (.ref a)))
    (hs : (sv.lent = false ∧ sw = .own d) ∨ (sv.lent = true ∧ sw = .bor d)) (hw : OwnAt K fa (upd H a o) F a d) :
    EnvOk K fa (upd H a o) F σ (ρ.set i (some sw)) ∧ StepE H F σ ρ (upd H a o) F σ (ρ.set i (some sw)) := by
  have oa : Own σ ρ a := ⟨i, sv, e, m, es⟩
  have nfa : ¬ F a := ok.own_nf oa
  obtain ⟨o0, ho0, nt, _⟩ := ok.own_at oa
  have hi := get_lt e
  have mw : sw.mine = true := by rcases hs with ⟨_, rfl⟩ | ⟨_, rfl⟩ <;> rfl
  have lw : sw.lent = sv.lent := by rcases hs with ⟨h, rfl⟩ | ⟨h, rfl⟩ <;> rw [h] <;> rfl
  have own' : ∀ b, Own σ (ρ.set i (some sw)) b → Own σ ρ b := fun b ⟨j, sz, h1, h2, h3⟩ => by
    rcases set_get h1 with ⟨rfl, g⟩ | ⟨ne, g⟩
    · exact ⟨i, sv, e, m, h3⟩
    · exact ⟨j, sz, g, h2, h3⟩
  have st : Stays H F (upd H a o) F := by
    refine ⟨fun b xs h => ?_, fun b u f h => ?_, fun _ h => h⟩
    · have ne : b ≠ a := by intro z; subst z; rw [ho0] at h; exact nt _ (Option.some.inj h)
      rw [upd_ne ne]; exact h
    · have ne : b ≠ a := by intro z; subst z; exact nfa f
      unfold Rd
      rw [upd_ne ne]; exact h
  refine ⟨⟨by rw [List.length_set]; exact ok.len, fun j sz h => ?_, fun j k sz sy b h1 h2 m1 m2 s1 s2 => ?_, fun b f => ?_⟩, ⟨fun b u h no => ?_, fun _ h => h, fun _ h => .inl h, fun b h => .inl (own' b h), fun b => ?_, fun b h => ?_⟩⟩
  · rcases set_get h with ⟨rfl, g⟩ | ⟨ne, g⟩
    · cases g
      refine ⟨_, es, ?_⟩
      rcases hs with ⟨_, rfl⟩ | ⟨_, rfl⟩ <;> exact ⟨a, rfl, nfa, hw⟩
    · obtain ⟨w, q1, q2⟩ := ok.slot j sz g
      refine ⟨w, q1, ?_⟩
      have far : ∀ c d', w = .ref c → sz.mine = true → OwnAt K fa H F c d' → OwnAt K fa (upd H a o) F c d' := fun c d' ew mz q => by
        have nc : c ≠ a := by
          intro z; subst z ew
          exact ne (ok.apart i j _ _ c e g m mz es q1)
        exact q.stays (upd_ne nc) st
      cases sz with
      | dat d' => exact Rep.stays st q2
      | own d' => obtain ⟨c, ew, nc, q⟩ := q2; exact ⟨c, ew, nc, far c d' ew rfl q⟩
      | bor d' => obtain ⟨c, ew, nc, q⟩ := q2; exact ⟨c, ew, nc, far c d' ew rfl q⟩
  · have low : ∀ (j : Nat) (sz : SV), (ρ.set i (some sw))[j]? = some (some sz) → sz.mine = true → ∃ sz' : SV, ρ[j]? = some (some sz') ∧ sz'.mine = true := fun j sz h mz => by
      rcases set_get h with ⟨rfl, g⟩ | ⟨ne, g⟩
      · exact ⟨sv, e, m⟩
      · exact ⟨sz, g, mz⟩
    obtain ⟨z1, g1, n1⟩ := low j sz h1 m1
    obtain ⟨z2, g2, n2⟩ := low k sy h2 m2
    exact ok.apart j k z1 z2 b g1 g2 n1 n2 s1 s2
  · by_cases z : b = a
    · subst z; rw [upd_same]; exact fun q => nomatch q
    · rw [upd_ne z]; exact ok.fd b f
  · have ne : b ≠ a := by intro z; subst z; exact no oa
    rw [upd_ne ne]; exact h
  · constructor
    · rintro ⟨j, sz, h1, h2, h3⟩
      rcases set_get h1 with ⟨rfl, g⟩ | ⟨ne, g⟩
      · cases g
        exact ⟨i, sv, e, by rw [← lw]; exact h2, h3⟩
      · exact ⟨j, sz, g, h2, h3⟩
    · rintro ⟨j, sz, h1, h2, h3⟩
      by_cases ne : i = j
      · subst ne
        rw [e] at h1; cases h1
        exact ⟨i, sw, by rw [List.getElem?_set_self hi], by rw [lw]; exact h2, h3⟩
      · exact ⟨j, sz, by rw [List.getElem?_set_ne ne]; exact h1, h2, h3⟩
  · by_cases z : b = a
    · subst z; rw [upd_same] at h; cases h
    · rw [upd_ne z] at h; exact h

/-- a result that nobody owns yet is frozen -/
theorem ResOk.freeze {v : V} {sv : SV} (ok : EnvOk K fa H F σ ρ) (r : ResOk K fa H0 H F σ ρ v sv) : ∃ F1, EnvOk K fa H F1 σ ρ ∧ Rep K fa H F1 v sv.d ∧ (∀ b, F b → F1 b) ∧ ∀ b, F1 b → F b ∨ H0 b = none := by
  obtain ⟨r1, r2⟩ := r
  cases sv with
  | dat d => exact ⟨F, ok, r1, fun _ h => h, fun _ h => .inl h⟩
  | own d =>
    obtain ⟨a, rfl, nf, ow⟩ := r1
    obtain ⟨b, eb, nn, no⟩ := r2
    cases eb
    have st : Stays H F H (fun b => F b ∨ b = a) := ⟨fun _ _ h => h, fun _ _ _ h => h, fun _ h => .inl h⟩
    refine ⟨fun b => F b ∨ b = a, ⟨ok.len, fun j sz h => ?_, ok.apart, fun b f => ?_⟩, ?_, fun _ h => .inl h, fun b h => ?_⟩
    · obtain ⟨w, q1, q2⟩ := ok.slot j sz h
      refine ⟨w, q1, ?_⟩
      have far : ∀ c d', w = .ref c → sz.mine = true → ¬ F c → OwnAt K fa H F c d' → ¬ (F c ∨ c = a) ∧ OwnAt K fa H (fun b => F b ∨ b = a) c d' := fun c d' ew mz nc q => by
        refine ⟨fun z => ?_, q.stays rfl st⟩
        rcases z with z | z
        · exact nc z
        · subst z ew
          exact no ⟨j, sz, h, mz, q1⟩
      cases sz with
      | dat d' => exact Rep.stays st q2
      | own d' => obtain ⟨c, ew, nc, q⟩ := q2; exact ⟨c, ew, far c d' ew rfl nc q⟩
      | bor d' => obtain ⟨c, ew, nc, q⟩ := q2; exact ⟨c, ew, far c d' ew rfl nc q⟩
    · rcases f with f | f
      · exact ok.fd b f
      · subst f
        obtain ⟨o, ho, _⟩ := ow.some
        rw [ho]; exact fun z => nomatch z
    · cases ow with
      | lst q r => exact .lst (.inr rfl) (.inl q) (r.stays st)
      | dK q r => exact .dK (.inr rfl) (.inl q) r.1 (r.2.stays st)
      | dT q r => exact .dT (.inr rfl) (.inl q) r.1 (r.2.stays st)
    · rcases h with h | h
      · exact .inl h
      · subst h; exact .inr nn
  | bor d => exact r2.elim
/-- the step behind which more is frozen, new since H0 -/
theorem Step.more {O B O' B' : AP'} (s : Step H0 F0 O B H F O' B') (h1 : ∀ b, F b → F1 b) (h2 : ∀ b, F1 b → F b ∨ H0 b = none) : Step H0 F0 O B H F1 O' B' :=
  ⟨s.keep, fun b h => h1 b (s.fmono b h), fun b h => (h2 b h).elim (s.fnew b) fun z => .inr (.inl z), s.onew, s.bor, s.dom⟩
end

/-! ### operands -/
def PVok (K : PySem.W.Frag) (fa : Nat → Option Addr) (H : Hp) (F : AP') (σ : L2.St) (x : V) : PV → Prop
  | .sl i => σ[i]? = some (some x)
  | .dd d => Rep K fa H F x d
section
variable {K : PySem.W.Frag} {fa : Nat → Option Addr} {H H' : Hp} {F F' : AP'} {σ : L2.St} {ρ : Env'}
theorem PVok.stays {x : V} {p : PV} (h : PVok K fa H F σ x p) (s : Stays H F H' F') : PVok K fa H' F' σ x p := by
  cases p with
  | sl i => exact h
  | dd d => exact Rep.stays s h
theorem RepS.rd {v : V} {sv : SV} (h : RepS K fa H F v sv) : RdF K fa H F v sv.d := by
  cases sv with
  | dat d => exact .inl h
  | own d => obtain ⟨a, e, _, q⟩ := h; exact .inr ⟨a, e, q⟩
  | bor d => obtain ⟨a, e, _, q⟩ := h; exact .inr ⟨a, e, q⟩
theorem PVok.read {x : V} {p : PV} {d : D} (h : PVok K fa H F σ x p) (ok : EnvOk K fa H F σ ρ) (e : cont ρ p = some d) : RdF K fa H F x d := by
  cases p with
  | sl i =>
    unfold cont at e
    dsimp only at e
    split at e
    · rename_i sv h1
      cases e
      obtain ⟨v, h2, h3⟩ := ok.slot i sv h1
      rw [show σ[i]? = some (some x) from h] at h2
      cases h2
      exact h3.rd
    · cases e
  | dd d' => cases e; exact .inl h
inductive PVs (K : PySem.W.Frag) (fa : Nat → Option Addr) (H : Hp) (F : AP') (σ : L2.St) : List V → List PV → Prop
  | nil : PVs K fa H F σ [] []
  | cons {x : V} {xs : List V} {p : PV} {ps : List PV} : PVok K fa H F σ x p → PVs K fa H F σ xs ps → PVs K fa H F σ (x :: xs) (p :: ps)
theorem PVs.stays (s : Stays H F H' F') : ∀ {xs : List V} {ps : List PV}, PVs K fa H F σ xs ps → PVs K fa H' F' σ xs ps
  | _, _, .nil => .nil
  | _, _, .cons h r => .cons (h.stays s) (PVs.stays s r)
theorem PVs.read (ok : EnvOk K fa H F σ ρ) : ∀ {xs : List V} {ps : List PV} {ds : List D}, PVs K fa H F σ xs ps → conts ρ ps = some ds → RdFs K fa H F xs ds
  | _, _, _, .nil, e => by cases e; exact .nil
  | _, _, _, .cons h r, e => by
    unfold conts at e
    split at e
    · rename_i d ds e1 e2
      cases e
      exact .cons (h.read ok e1) (PVs.read ok r e2)
    · cases e
end
end DL

namespace DL
open PySem PySem.Spec PyProof.Rows L2

/-- what is fixed: the functions' addresses, how an exception lies, the wish about it -/
structure Fix where
  fa : Nat → Option Addr
  EX : ExR
  W : WX

section
variable (K : PySem.W.Frag) (Z : Fix)
/-- behind a reading that began at H0, F0, ρ0; R: how a result lies -/
def PostG {α β : Type} (R : Hp → α → β → Hp → AP' → L2.St → Env' → Prop) (σ : L2.St) (H0 : Hp) (F0 : AP') (ρ0 : Env') (r : Res α) (Q : β → Hp → Prop) : Prop := match r with
  | .ok a ρ' => ∀ b H' F', StepE H0 F0 σ ρ0 H' F' σ ρ' → EnvOk K Z.fa H' F' σ ρ' → R H0 a b H' F' σ ρ' → Q b H'
  | .exc x ρ' => ∀ cls d H' F', StepE H0 F0 σ ρ0 H' F' σ ρ' → EnvOk K Z.fa H' F' σ ρ' → Z.EX x cls d H' → Z.W cls d σ H'
  | .stuck => False
/-- R looks at its beginning only for what is new -/
def Late {α β : Type} (R : Hp → α → β → Hp → AP' → L2.St → Env' → Prop) : Prop := ∀ H0 H1 a b H' F' σ ρ', (∀ x, H1 x = none → H0 x = none) → R H1 a b H' F' σ ρ' → R H0 a b H' F' σ ρ'
def RSV : Hp → SV → V → Hp → AP' → L2.St → Env' → Prop := fun H0 sv v H F σ ρ => ResOk K Z.fa H0 H F σ ρ v sv
def RD : Hp → D → V → Hp → AP' → L2.St → Env' → Prop := fun _ d v H F _ _ => Rep K Z.fa H F v d
def RPV : Hp → PV → V → Hp → AP' → L2.St → Env' → Prop := fun _ p v H F σ _ => PVok K Z.fa H F σ v p
def RPVs : Hp → List PV → List V → Hp → AP' → L2.St → Env' → Prop := fun _ p v H F σ _ => PVs K Z.fa H F σ v p
def RDs : Hp → List D → List V → Hp → AP' → L2.St → Env' → Prop := fun _ d v H F _ _ => RepL K Z.fa H F v d
def RB : Hp → Bool → Bool → Hp → AP' → L2.St → Env' → Prop := fun _ b c _ _ _ _ => b = c
def RPt : Hp → Option Int → Option Int → Hp → AP' → L2.St → Env' → Prop := fun _ b c _ _ _ _ => b = c
end
section
variable {K : PySem.W.Frag} {Z : Fix} {α β α' β' : Type} {R : Hp → α → β → Hp → AP' → L2.St → Env' → Prop} {R' : Hp → α' → β' → Hp → AP' → L2.St → Env' → Prop}
variable {σ : L2.St} {H0 H1 : Hp} {F0 F1 : AP'} {ρ0 ρ1 : Env'}
theorem late_RSV : Late (RSV K Z) := fun H0 H1 sv v H' F' σ ρ' d h => by
  obtain ⟨h1, h2⟩ := h
  refine ⟨h1, ?_⟩
  cases sv with
  | dat _ => trivial
  | own _ => obtain ⟨a, e, n, o⟩ := h2; exact ⟨a, e, d a n, o⟩
  | bor _ => exact h2
theorem late_RD : Late (RD K Z) := fun _ _ _ _ _ _ _ _ _ h => h
theorem late_RPV : Late (RPV K Z) := fun _ _ _ _ _ _ _ _ _ h => h
theorem late_RPVs : Late (RPVs K Z) := fun _ _ _ _ _ _ _ _ _ h => h
theorem late_RDs : Late (RDs K Z) := fun _ _ _ _ _ _ _ _ _ h => h
theorem late_RB : Late RB := fun _ _ _ _ _ _ _ _ _ h => h
theorem late_RPt : Late RPt := fun _ _ _ _ _ _ _ _ _ h => h
theorem PostG.after {r : Res α} {Q : β → Hp → Prop} (l : Late R) (st : StepE H0 F0 σ ρ0 H1 F1 σ ρ1) (h : PostG K Z R σ H0 F0 ρ0 r Q) : PostG K Z R σ H1 F1 ρ1 r Q := by
  cases r with
  | ok a ρ' => exact fun b H' F' s ok r => h b H' F' (st.trans s) ok (l _ _ _ _ _ _ _ _ st.dom r)
  | exc x ρ' => exact fun cls d H' F' s ok r => h cls d H' F' (st.trans s) ok r
  | stuck => exact h
/-- one reading, then another -/
theorem PostG.bind {f : Res α} {g : α → Env' → Res α'} {Q : β' → Hp → Prop} (l : Late R') (h : PostG K Z R' σ H0 F0 ρ0 (f.bind g) Q) :
    PostG K Z R σ H0 F0 ρ0 f (fun b H1 => ∃ a F1 ρ1, EnvOk K Z.fa H1 F1 σ ρ1 ∧ StepE H0 F0 σ ρ0 H1 F1 σ ρ1 ∧ R H0 a b H1 F1 σ ρ1 ∧ PostG K Z R' σ H1 F1 ρ1 (g a ρ1) Q) := by
  cases f with
  | ok a ρ' => exact fun b H' F' s ok r => ⟨a, F', ρ', ok, s, r, PostG.after l s h⟩
  | exc x ρ' => exact h
  | stuck => exact h
/-- .. the value frozen -/
theorem PostG.bindF {f : Res SV} {g : SV → Env' → Res α'} {Q : β' → Hp → Prop} (l : Late R') (h : PostG K Z R' σ H0 F0 ρ0 (f.bind g) Q) :
    PostG K Z (RSV K Z) σ H0 F0 ρ0 f (fun v H1 => ∃ sv F1 ρ1, EnvOk K Z.fa H1 F1 σ ρ1 ∧ StepE H0 F0 σ ρ0 H1 F1 σ ρ1 ∧ Rep K Z.fa H1 F1 v sv.d ∧ PostG K Z R' σ H1 F1 ρ1 (g sv ρ1) Q) := by
  cases f with
  | ok sv ρ' =>
    intro v H' F' s ok r
    obtain ⟨F1, ok1, rep, m1, m2⟩ := ResOk.freeze ok r
    exact ⟨sv, F1, ρ', ok1, s.more m1 m2, rep, PostG.after l (s.more m1 m2) h⟩
  | exc x ρ' => exact h
  | stuck => exact h
theorem PostG.imp {r : Res α} {Q Q' : β → Hp → Prop} (h : PostG K Z R σ H0 F0 ρ0 r Q) (i : ∀ b H, Q b H → Q' b H) : PostG K Z R σ H0 F0 ρ0 r Q' := by
  cases r with
  | ok a ρ' => exact fun b H' F' s ok r => i _ _ (h b H' F' s ok r)
  | exc x ρ' => exact h
  | stuck => exact h
theorem RSV.of_made {sv : SV} {z : V} {H' : Hp} (ok : EnvOk K Z.fa H0 F0 σ ρ0) (m : Made K Z.fa H0 F0 sv z H') : ∃ F', StepE H0 F0 σ ρ0 H' F' σ ρ0 ∧ EnvOk K Z.fa H' F' σ ρ0 ∧ ResOk K Z.fa H0 H' F' σ ρ0 z sv := by
  obtain ⟨F', g, r, n⟩ := m
  refine ⟨F', g.step, ok.grow g, r, ?_⟩
  cases sv with
  | dat _ => trivial
  | own _ =>
    obtain ⟨a, e, nn⟩ := n
    refine ⟨a, e, nn, fun o => ?_⟩
    obtain ⟨u, hu, _⟩ := ok.own_at o
    rw [nn] at hu; cases hu
  | bor _ => exact n
/-- a value made at the end -/
theorem PostG.made {sv : SV} {z : V} {H' : Hp} {Q : VK} (ok : EnvOk K Z.fa H0 F0 σ ρ0) (h : PostG K Z (RSV K Z) σ H0 F0 ρ0 (.ok sv ρ0) Q) (m : Made K Z.fa H0 F0 sv z H') : Q z H' := by
  obtain ⟨F', s, ok', r⟩ := RSV.of_made ok m
  exact h z H' F' s ok' r
theorem PostG.rep {z : V} {d : D} {Q : VK} (ok : EnvOk K Z.fa H0 F0 σ ρ0) (h : PostG K Z (RSV K Z) σ H0 F0 ρ0 (.ok (.dat d) ρ0) Q) (r : Rep K Z.fa H0 F0 z d) : Q z H0 := h.made ok (made_dat ok.fd r)
theorem PostG.test {b : Bool} {Q : Bool → Hp → Prop} (ok : EnvOk K Z.fa H0 F0 σ ρ0) (h : PostG K Z RB σ H0 F0 ρ0 (.ok b ρ0) Q) : Q b H0 := h b H0 F0 Step.refl ok rfl
end

/-! ### the judgements over data -/
section
variable (X : Cx) (Z : Fix)
def tD {α β : Type} (R : Hp → α → β → Hp → AP' → L2.St → Env' → Prop) (f : Env' → Res α) : L2.St → Hp → (β → Hp → Prop) → Prop :=
  fun σ H Q => ∃ F ρ, EnvOk X.K Z.fa H F σ ρ ∧ PostG X.K Z R σ H F ρ (f ρ) Q
abbrev PEd (e : Expr) (f : Env' → Res SV) : Prop := PE X e (tD X Z (RSV X.K Z) f)
abbrev POd (e : Expr) (f : Env' → Res PV) : Prop := PE X e (tD X Z (RPV X.K Z) f)
abbrev PTd (e : Expr) (f : Env' → Res Bool) : Prop := PT X e (tD X Z RB f)
abbrev PWd (e : Expr) (f : Env' → Res Bool) : Prop := PW X e (tD X Z RB f)
abbrev PAd (es : List Expr) (f : Env' → Res (List PV)) : Prop := PA X es (tD X Z (RPVs X.K Z) f)
abbrev PVd (es : List Expr) (f : Env' → Res (List D)) : Prop := PA X es (tD X Z (RDs X.K Z) f)
end
section
variable {X : Cx} {Z : Fix} {e a b c : Expr} {pos : Pos}

/-! ### names and constants -/
theorem pd_var {i : Nat} {x : Str} (hN : X.N[i]? = some x) (hv : Vis X.env.scope x) (hd : (x == ("__debug__" : Str)) = false) (hcd : (x == ("__classdict__" : Str)) = false) :
    PEd X Z (.Name x pos) (fun ρ => match ρ[i]? with
      | some (some (.dat d)) => .ok (.dat d) ρ
      | some (some (.own d)) => .ok (.dat d) (ρ.set i (some (.dat d)))
      | _ => .stuck) := by
  refine PE.weak (pe_var hN hv hd hcd) ?_
  rintro σ H Q ⟨F, ρ, ok, h⟩
  dsimp only at h
  split at h
  · rename_i d e1
    obtain ⟨v, e2, r⟩ := ok.slot i _ e1
    exact ⟨v, e2, h.rep ok r⟩
  · rename_i d e1
    obtain ⟨v, e2, a, ea, nf, ow⟩ := ok.slot i _ e1
    subst ea
    obtain ⟨ok', st, rep⟩ := ok.freeze e1 e2
    exact ⟨_, e2, h _ _ _ st ok' ⟨rep, trivial⟩⟩
  · exact h.elim
theorem po_var {i : Nat} {x : Str} (hN : X.N[i]? = some x) (hv : Vis X.env.scope x) (hd : (x == ("__debug__" : Str)) = false) (hcd : (x == ("__classdict__" : Str)) = false) :
    POd X Z (.Name x pos) (fun ρ => match ρ[i]? with
      | some (some _) => .ok (.sl i) ρ
      | _ => .stuck) := by
  refine PE.weak (pe_var hN hv hd hcd) ?_
  rintro σ H Q ⟨F, ρ, ok, h⟩
  dsimp only at h
  split at h
  · rename_i sv e1
    obtain ⟨v, e2, r⟩ := ok.slot i _ e1
    exact ⟨v, e2, h v H F Step.refl ok e2⟩
  · exact h.elim
theorem po_val {f : Env' → Res SV} (h : PEd X Z e f) : POd X Z e (fun ρ => (f ρ).bind fun sv ρ' => .ok (.dd sv.d) ρ') := by
  refine PE.weak h ?_
  rintro σ H Q ⟨F, ρ, ok, h⟩
  refine ⟨F, ρ, ok, (PostG.bindF late_RPV h).imp ?_⟩
  rintro v H1 ⟨sv, F1, ρ1, ok1, st, rep, h1⟩
  exact h1 v H1 F1 Step.refl ok1 rep
/-- a constant of any kind by its reading -/
theorem pd_con {v : V} {d : D} (h : PE X e (tC v)) (r : ∀ H F, Rep X.K Z.fa H F v d) : PEd X Z e (fun ρ => .ok (.dat d) ρ) := by
  refine PE.weak h ?_
  rintro σ H Q ⟨F, ρ, ok, h⟩
  exact h.rep ok (r H F)

/-! ### two operands -/
theorem PEd.run2 {α β : Type} {R : Hp → α → β → Hp → AP' → L2.St → Env' → Prop} {f1 f2 : Env' → Res PV} {g : D → D → Option α} {pins : List (Addr × Obj)} {s : Shared} {σ : L2.St} {H : Hp} {F : AP'} {ρ : Env'} {Q : β → Hp → Prop} {P : Value → Shared → Prop} {k : Value → Value → Sem Value}
    (l : Late R) (ha : POd X Z a f1) (hb : POd X Z b f2) (I : Inv X pins σ H s) (ok : EnvOk X.K Z.fa H F σ ρ)
    (h : PostG X.K Z R σ H F ρ ((f1 ρ).bind fun p ρ1 => (f2 ρ1).bind fun r ρ2 => match cont ρ2 p, cont ρ2 r with
      | some d, some e => lift (g d e) ρ2
      | _, _ => .stuck) Q)
    (hk : ∀ v u s2 x y H2 F2 ρ2 d e z, Inv X pins σ H2 s2 → RelV x v → RelV y u → EnvOk X.K Z.fa H2 F2 σ ρ2 → RdF X.K Z.fa H2 F2 x d → RdF X.K Z.fa H2 F2 y e → g d e = some z → PostG X.K Z R σ H2 F2 ρ2 (.ok z ρ2) Q →
      wpAny (model X.prog X.w) X.A (k v u) P X.xe s2) :
    wpAny (model X.prog X.w) X.A (eval a X.env) (fun v s₁ => wpAny (model X.prog X.w) X.A (eval b X.env) (fun u s₂ => wpAny (model X.prog X.w) X.A (k v u) P X.xe s₂) X.xe s₁) X.xe s := by
  refine binT ha hb (R := fun x y H2 => ∃ F2 ρ2 d e z, EnvOk X.K Z.fa H2 F2 σ ρ2 ∧ RdF X.K Z.fa H2 F2 x d ∧ RdF X.K Z.fa H2 F2 y e ∧ g d e = some z ∧ PostG X.K Z R σ H2 F2 ρ2 (.ok z ρ2) Q) I ?_ ?_
  · refine ⟨F, ρ, ok, (PostG.bind l h).imp ?_⟩
    rintro x H1 ⟨p, F1, ρ1, ok1, st1, r1, h1⟩
    refine ⟨F1, ρ1, ok1, (PostG.bind l h1).imp ?_⟩
    rintro y H2 ⟨r, F2, ρ2, ok2, st2, r2, h2⟩
    have r1' : PVok X.K Z.fa H2 F2 σ x p := PVok.stays r1 (st2.stays ok1)
    split at h2
    · rename_i d e e1 e2
      unfold lift at h2
      split at h2
      · rename_i z e3
        exact ⟨F2, ρ2, d, e, z, ok2, r1'.read ok2 e1, PVok.read r2 ok2 e2, e3, h2⟩
      · exact h2.elim
    · exact h2.elim
  · rintro v u s2 x y H2 I2 rx ry ⟨F2, ρ2, d, e, z, ok2, q1, q2, q3, q4⟩
    exact hk v u s2 x y H2 F2 ρ2 d e z I2 rx ry ok2 q1 q2 q3 q4
theorem pd_bin {o : Operator} {f1 f2 : Env' → Res PV} (ha : POd X Z a f1) (hb : POd X Z b f2) :
    PEd X Z (.BinOp a o b pos) (fun ρ => (f1 ρ).bind fun p ρ1 => (f2 ρ1).bind fun r ρ2 => match cont ρ2 p, cont ρ2 r with
      | some d, some e => lift (binP o d e) ρ2
      | _, _ => .stuck) := by
  refine ⟨?_⟩
  rintro pins s σ H Q I ⟨F, ρ, ok, h⟩
  refine wpAny_BinOp (PEd.run2 late_RSV ha hb I ok h ?_)
  intro v u s2 x y H2 F2 ρ2 d e z I2 rx ry ok2 q1 q2 q3 q4
  exact bin_ok q3 I2 rx ry q1 q2 ok2.fd fun w H' m => q4.made ok2 m
theorem pd_idx {f1 f2 : Env' → Res PV} (hu : X.A.units + 1 < cLine) (ha : POd X Z a f1) (hb : POd X Z b f2) (hs : PlainIx b) :
    PEd X Z (.Subscript a b pos) (fun ρ => ((f1 ρ).bind fun p ρ1 => (f2 ρ1).bind fun r ρ2 => match cont ρ2 p, cont ρ2 r with
      | some d, some e => lift (idxP d e) ρ2
      | _, _ => .stuck).bind fun d ρ1 => .ok (.dat d) ρ1) := by
  refine ⟨?_⟩
  rintro pins s σ H Q I ⟨F, ρ, ok, h⟩
  refine Subscript_ (PEd.run2 (R := RD X.K Z) (g := idxP) (Q := Q) late_RD ha hb I ok ?_ ?_)
  · have h1 := PostG.bind (R := RD X.K Z) late_RSV h
    refine h1.imp ?_
    rintro v H1 ⟨d, F1, ρ1, ok1, st, r, h2⟩
    exact h2.rep ok1 r
  · intro v u s2 x y H2 F2 ρ2 d e z I2 rx ry ok2 q1 q2 q3 q4
    exact idx_ok q3 hu a b I2 rx ry q1 q2 (hs _ _) fun w r => q4 w H2 F2 Step.refl ok2 r

/-! ### comparisons -/
theorem pc_cmp {o : CmpOp} {f1 f2 : Env' → Res PV} (hu : X.A.units + 65 < cLine) (ha : POd X Z a f1) (hb : POd X Z b f2) {pins : List (Addr × Obj)} {s : Shared} {σ : L2.St} {H : Hp} {F : AP'} {ρ : Env'} {Q : Bool → Hp → Prop} (I : Inv X pins σ H s) (ok : EnvOk X.K Z.fa H F σ ρ)
    (h : PostG X.K Z RB σ H F ρ ((f1 ρ).bind fun p ρ1 => (f2 ρ1).bind fun r ρ2 => match cont ρ2 p, cont ρ2 r with
      | some d, some e => lift (cmpP o d e) ρ2
      | _, _ => .stuck) Q) :
    wpAny (model X.prog X.w) X.A (eval a X.env) (fun v s₁ => wpAny (model X.prog X.w) X.A (eval b X.env) (fun u s₂ => wpAny (model X.prog X.w) X.A (compareOp o v u) (EP X pins σ fun v H => ∃ k, v = .bl k ∧ Q k H) X.xe s₂) X.xe s₁) X.xe s := by
  refine PEd.run2 late_RB ha hb I ok h ?_
  intro v u s2 x y H2 F2 ρ2 d e z I2 rx ry ok2 q1 q2 q3 q4
  exact cmp_ok q3 hu I2 rx ry q1 q2 ⟨z, rfl, q4.test ok2⟩
theorem pd_cmp {o : CmpOp} {f1 f2 : Env' → Res PV} (hu : X.A.units + 65 < cLine) (ha : POd X Z a f1) (hb : POd X Z b f2) (hm : behindInMarks o b = false) :
    PEd X Z (.Compare a [o] [b] pos) (fun ρ => ((f1 ρ).bind fun p ρ1 => (f2 ρ1).bind fun r ρ2 => match cont ρ2 p, cont ρ2 r with
      | some d, some e => lift (cmpP o d e) ρ2
      | _, _ => .stuck).bind fun c ρ1 => .ok (.dat (.bl c)) ρ1) := by
  refine ⟨?_⟩
  rintro pins s σ H Q I ⟨F, ρ, ok, h⟩
  refine wpAny_Compare1 (thn (pc_cmp hu ha hb (Q := fun k H => Q (.bl k) H) I ok ?_) fun v s1 h1 => thn h1 fun u s2 h2 => thn h2 ?_) hm
  · refine (PostG.bind (R := RB) late_RSV h).imp ?_
    rintro k H1 ⟨k', F1, ρ1, ok1, st, r, h2⟩
    cases r
    exact h2.rep ok1 (.bl _)
  · rintro w s3 ⟨x, H', I', rx, k, rfl, q⟩
    exact ⟨_, H', I', rx, q⟩
theorem ptd_cmp {o : CmpOp} {f1 f2 : Env' → Res PV} (hu : X.A.units + 65 < cLine) (ha : POd X Z a f1) (hb : POd X Z b f2) (hm : behindInMarks o b = false) :
    PTd X Z (.Compare a [o] [b] pos) (fun ρ => (f1 ρ).bind fun p ρ1 => (f2 ρ1).bind fun r ρ2 => match cont ρ2 p, cont ρ2 r with
      | some d, some e => lift (cmpP o d e) ρ2
      | _, _ => .stuck) := by
  refine ⟨?_⟩
  rintro pins s σ H Q I ⟨F, ρ, ok, h⟩
  refine wpAny_isTrue_Compare1 (thn (pc_cmp hu ha hb I ok h) fun v s1 h1 => thn h1 fun u s2 h2 => thn h2 ?_) hm
  rintro w s3 ⟨x, H', I', rx, k, rfl, q⟩
  cases rx
  exact wpAny_truthy_bool ⟨H', I', q⟩
end
end DL

namespace DL
open PySem PySem.Spec PyProof.Rows L2

section
variable {X : Cx} {Z : Fix} {e a b c : Expr} {es rest : List Expr} {pos : Pos}

/-! ### values by truth -/
theorem pd_neg {f : Env' → Res SV} (ha : PEd X Z a f) : PEd X Z (.UnaryOp .USub a pos) (fun ρ => (f ρ).bind fun sv ρ1 => (match sv.d with
      | .int i => .ok (.dat (.int (-i))) ρ1
      | _ => .stuck)) := by
  refine PE.weak (pe_un un_neg ha) ?_
  rintro σ H Q ⟨F, ρ, ok, h⟩
  refine ⟨F, ρ, ok, (PostG.bindF late_RSV h).imp ?_⟩
  rintro v H1 ⟨sv, F1, ρ1, ok1, st, r, h1⟩
  split at h1
  · rename_i i e1
    rw [e1] at r
    cases r
    exact ⟨_, rfl, h1.rep ok1 (.int _)⟩
  · exact h1.elim
theorem pd_and {f g : Env' → Res SV} (ha : PEd X Z a f) (hb : PEd X Z (.BoolOp .And (b :: rest) pos) g) : PEd X Z (.BoolOp .And (a :: b :: rest) pos) (fun ρ => (f ρ).bind fun sa ρ1 => (match sa.d with
      | .bl true => (g ρ1).bind fun sb ρ2 => .ok (.dat sb.d) ρ2
      | .bl false => .ok (.dat (.bl false)) ρ1
      | _ => .stuck)) := by
  refine PE.weak (pe_and ha hb) ?_
  rintro σ H Q ⟨F, ρ, ok, h⟩
  refine ⟨F, ρ, ok, (PostG.bindF late_RSV h).imp ?_⟩
  rintro v H1 ⟨sv, F1, ρ1, ok1, st, r, h1⟩
  split at h1
  · rename_i e1
    rw [e1] at r
    cases r
    refine ⟨true, rfl, ?_⟩
    rw [if_pos rfl]
    refine ⟨F1, ρ1, ok1, (PostG.bindF late_RSV h1).imp ?_⟩
    rintro w H2 ⟨sw, F2, ρ2, ok2, st2, r2, h2⟩
    exact h2.rep ok2 r2
  · rename_i e1
    rw [e1] at r
    cases r
    exact ⟨false, rfl, h1.rep ok1 (.bl _)⟩
  · exact h1.elim
theorem pd_or {f g : Env' → Res SV} (ha : PEd X Z a f) (hb : PEd X Z (.BoolOp .Or (b :: rest) pos) g) : PEd X Z (.BoolOp .Or (a :: b :: rest) pos) (fun ρ => (f ρ).bind fun sa ρ1 => (match sa.d with
      | .bl false => (g ρ1).bind fun sb ρ2 => .ok (.dat sb.d) ρ2
      | .bl true => .ok (.dat (.bl true)) ρ1
      | _ => .stuck)) := by
  refine PE.weak (pe_or ha hb) ?_
  rintro σ H Q ⟨F, ρ, ok, h⟩
  refine ⟨F, ρ, ok, (PostG.bindF late_RSV h).imp ?_⟩
  rintro v H1 ⟨sv, F1, ρ1, ok1, st, r, h1⟩
  split at h1
  · rename_i e1
    rw [e1] at r
    cases r
    refine ⟨false, rfl, ?_⟩
    rw [if_neg (by decide)]
    refine ⟨F1, ρ1, ok1, (PostG.bindF late_RSV h1).imp ?_⟩
    rintro w H2 ⟨sw, F2, ρ2, ok2, st2, r2, h2⟩
    exact h2.rep ok2 r2
  · rename_i e1
    rw [e1] at r
    cases r
    exact ⟨true, rfl, h1.rep ok1 (.bl _)⟩
  · exact h1.elim
theorem pd_not {f : Env' → Res SV} (ha : PEd X Z a f) : PEd X Z (.UnaryOp .Not a pos) (fun ρ => (f ρ).bind fun sa ρ1 => (match sa.d with
      | .bl b => .ok (.dat (.bl (!b))) ρ1
      | _ => .stuck)) := by
  refine PE.weak (pe_not ha) ?_
  rintro σ H Q ⟨F, ρ, ok, h⟩
  refine ⟨F, ρ, ok, (PostG.bindF late_RSV h).imp ?_⟩
  rintro v H1 ⟨sv, F1, ρ1, ok1, st, r, h1⟩
  split at h1
  · rename_i k e1
    rw [e1] at r
    cases r
    exact ⟨k, rfl, h1.rep ok1 (.bl _)⟩
  · exact h1.elim
theorem pd_ite {t : Env' → Res Bool} {f g : Env' → Res SV} (hc : PTd X Z c t) (ha : PEd X Z a f) (hb : PEd X Z b g) : PEd X Z (.IfExp c a b pos) (fun ρ => (t ρ).bind fun k ρ1 => if k = true then f ρ1 else g ρ1) := by
  refine PE.weak (pe_ifExp hc ha hb) ?_
  rintro σ H Q ⟨F, ρ, ok, h⟩
  refine ⟨F, ρ, ok, (PostG.bind late_RSV h).imp ?_⟩
  rintro k H1 ⟨k', F1, ρ1, ok1, st, r, h1⟩
  cases r
  split at h1 <;> rename_i e1
  · rw [if_pos e1]; exact ⟨F1, ρ1, ok1, h1⟩
  · rw [if_neg e1]; exact ⟨F1, ρ1, ok1, h1⟩

/-! ### tests -/
theorem ptd_val {f : Env' → Res SV} (ha : PEd X Z a f) (he : ∀ whole, isTrue a X.env whole = (do let v ← whole; standAt a.pos; holding [v] (truthy v))) :
    PTd X Z a (fun ρ => (f ρ).bind fun sv ρ1 => lift (tru sv.d) ρ1) := by
  refine ⟨?_⟩
  rintro pins s σ H Q I ⟨F, ρ, ok, h⟩
  refine isTrue_plain (thn (ha.run pins s σ H _ I ⟨F, ρ, ok, PostG.bindF late_RB h⟩) ?_) (he _)
  rintro v s1 ⟨x, H1, I1, rx, sv, F1, ρ1, ok1, st, r, h1⟩
  unfold lift at h1
  split at h1
  · rename_i k e1
    refine tru_ok pins s1 σ H1 x v Q I1 rx ⟨k, ?_, h1.test ok1⟩
    unfold tru at e1
    split at e1
    · rename_i e2
      rw [e2] at r
      cases r
      cases e1
      rfl
    · rename_i e2
      rw [e2] at r
      cases r
      cases e1
      rfl
    · rename_i e2
      rw [e2] at r
      cases r
      cases e1
      rfl
    · cases e1
  · exact h1.elim
theorem pwd_and1 {f : Env' → Res Bool} (ha : PTd X Z a f) : PWd X Z (.BoolOp .And [a] pos) f := pw_and1 ha
theorem pwd_or1 {f : Env' → Res Bool} (ha : PTd X Z a f) : PWd X Z (.BoolOp .Or [a] pos) f := pw_or1 ha
theorem PW.weak {t t' : TT} (h : PW X e t) (w : ∀ σ H Q, t' σ H Q → t σ H Q) : PW X e t' := ⟨fun wh pins s σ H Q I hq => h.run wh pins s σ H Q I (w σ H Q hq)⟩
theorem PT.weak {t t' : TT} (h : PT X e t) (w : ∀ σ H Q, t' σ H Q → t σ H Q) : PT X e t' := ⟨fun pins s σ H Q I hq => h.run pins s σ H Q I (w σ H Q hq)⟩
theorem pwd_and {f g : Env' → Res Bool} (ha : PTd X Z a f) (hb : PWd X Z (.BoolOp .And (b :: rest) pos) g) : PWd X Z (.BoolOp .And (a :: b :: rest) pos) (fun ρ => (f ρ).bind fun t ρ1 => if t = true then g ρ1 else .ok false ρ1) := by
  refine PW.weak (pw_and ha hb) ?_
  rintro σ H Q ⟨F, ρ, ok, h⟩
  refine ⟨F, ρ, ok, (PostG.bind late_RB h).imp ?_⟩
  rintro k H1 ⟨k', F1, ρ1, ok1, st, r, h1⟩
  cases r
  split at h1 <;> rename_i e1
  · rw [if_pos e1]; exact ⟨F1, ρ1, ok1, h1⟩
  · rw [if_neg e1]; exact h1.test ok1
theorem pwd_or {f g : Env' → Res Bool} (ha : PTd X Z a f) (hb : PWd X Z (.BoolOp .Or (b :: rest) pos) g) : PWd X Z (.BoolOp .Or (a :: b :: rest) pos) (fun ρ => (f ρ).bind fun t ρ1 => if t = true then .ok true ρ1 else g ρ1) := by
  refine PW.weak (pw_or ha hb) ?_
  rintro σ H Q ⟨F, ρ, ok, h⟩
  refine ⟨F, ρ, ok, (PostG.bind late_RB h).imp ?_⟩
  rintro k H1 ⟨k', F1, ρ1, ok1, st, r, h1⟩
  cases r
  split at h1 <;> rename_i e1
  · rw [if_pos e1]; exact h1.test ok1
  · rw [if_neg e1]; exact ⟨F1, ρ1, ok1, h1⟩
theorem ptd_not {f : Env' → Res Bool} (ha : PTd X Z a f) : PTd X Z (.UnaryOp .Not a pos) (fun ρ => (f ρ).bind fun t ρ1 => .ok (!t) ρ1) := by
  refine PT.weak (pt_not ha) ?_
  rintro σ H Q ⟨F, ρ, ok, h⟩
  refine ⟨F, ρ, ok, (PostG.bind late_RB h).imp ?_⟩
  rintro k H1 ⟨k', F1, ρ1, ok1, st, r, h1⟩
  cases r
  exact h1.test ok1

/-! ### chains of two comparisons -/
theorem op_cmpD {o : CmpOp} (hu : X.A.units + 65 < cLine) : OpR X (compareOp o) (fun x y H Q => ∃ F d e b, cmpP o d e = some b ∧ RdF X.K Z.fa H F x d ∧ RdF X.K Z.fa H F y e ∧ Q (.bl b) H) := by
  rintro pins s σ H x y v u Q I rx ry ⟨F, d, e, b, h, q1, q2, q⟩
  exact cmp_ok h hu I rx ry q1 q2 q
theorem pd_chain {o o' : CmpOp} {f g k : Env' → Res SV} (hu : X.A.units + 65 < cLine) (ha : PEd X Z a f) (hb : PEd X Z b g) (hc : PEd X Z c k) (hm : lastMarks [o, o'] [b, c] = false) :
    PEd X Z (.Compare a [o, o'] [b, c] pos) (fun ρ => (f ρ).bind fun sa ρ1 => (g ρ1).bind fun sb ρ2 => (match cmpP o sa.d sb.d with
      | some true => (k ρ2).bind fun sc ρ3 => (match cmpP o' sb.d sc.d with
        | some r => .ok (.dat (.bl r)) ρ3
        | none => .stuck)
      | some false => .ok (.dat (.bl false)) ρ2
      | none => .stuck)) := by
  refine PE.weak (pe_chain (op_cmpD (Z := Z) hu) (op_cmpD (Z := Z) hu) ha hb hc hm) ?_
  rintro σ H Q ⟨F, ρ, ok, h⟩
  refine ⟨F, ρ, ok, (PostG.bindF late_RSV h).imp ?_⟩
  rintro v1 H1 ⟨sa, F1, ρ1, ok1, st1, r1, h1⟩
  refine ⟨F1, ρ1, ok1, (PostG.bindF late_RSV h1).imp ?_⟩
  rintro v2 H2 ⟨sb, F2, ρ2, ok2, st2, r2, h2⟩
  have r1' := Rep.stays (st2.stays ok1) r1
  split at h2
  · rename_i e1
    refine ⟨F2, _, _, true, e1, .inl r1', .inl r2, true, rfl, ?_⟩
    rw [if_pos rfl]
    refine ⟨F2, ρ2, ok2, (PostG.bindF late_RSV h2).imp ?_⟩
    rintro v3 H3 ⟨sc, F3, ρ3, ok3, st3, r3, h3⟩
    split at h3
    · rename_i r e2
      exact ⟨F3, _, _, r, e2, .inl (Rep.stays (st3.stays ok2) r2), .inl r3, h3.rep ok3 (.bl _)⟩
    · exact h3.elim
  · rename_i e1
    refine ⟨F2, _, _, false, e1, .inl r1', .inl r2, false, rfl, ?_⟩
    rw [if_neg (by decide)]
    exact h2.rep ok2 (.bl _)
  · exact h2.elim
theorem PostG.bool {σ : L2.St} {H0 : Hp} {F0 : AP'} {ρ0 : Env'} {r : Res SV} {Q : Bool → Hp → Prop} (hb : ∀ sv ρ', r = .ok sv ρ' → ∃ k, sv = .dat (.bl k)) (h : PostG X.K Z RB σ H0 F0 ρ0 (r.bind fun sv ρ1 => lift (tru sv.d) ρ1) Q) :
    PostG X.K Z (RSV X.K Z) σ H0 F0 ρ0 r (fun v H1 => ∃ k, v = .bl k ∧ Q k H1) := by
  cases r with
  | ok sv ρ' =>
    obtain ⟨k, rfl⟩ := hb sv ρ' rfl
    intro v H' F' s ok rr
    have r1 : Rep X.K Z.fa H' F' v (.bl k) := rr.1
    cases r1
    exact ⟨k, rfl, h k H' F' s ok rfl⟩
  | exc x ρ' => exact h
  | stuck => exact h
theorem bind_ok {α β : Type} {r : Res α} {g : α → Env' → Res β} {b : β} {ρ' : Env'} (h : r.bind g = .ok b ρ') : ∃ a ρ1, r = .ok a ρ1 ∧ g a ρ1 = .ok b ρ' := by
  cases r with
  | ok a ρ1 => exact ⟨a, ρ1, rfl, h⟩
  | exc x ρ1 => cases h
  | stuck => cases h
theorem ptd_chain {o o' : CmpOp} {f g k : Env' → Res SV} (hu : X.A.units + 65 < cLine) (ha : PEd X Z a f) (hb : PEd X Z b g) (hc : PEd X Z c k) (hm : lastMarks [o, o'] [b, c] = false) :
    PTd X Z (.Compare a [o, o'] [b, c] pos) (fun ρ => Res.bind (α := SV) ((f ρ).bind fun sa ρ1 => (g ρ1).bind fun sb ρ2 => (match cmpP o sa.d sb.d with
      | some true => (k ρ2).bind fun sc ρ3 => (match cmpP o' sb.d sc.d with
        | some r => .ok (.dat (.bl r)) ρ3
        | none => .stuck)
      | some false => .ok (.dat (.bl false)) ρ2
      | none => .stuck)) fun sv ρ1 => lift (tru sv.d) ρ1) := by
  refine PT.weak (pt_chain (op_cmpD (Z := Z) hu) (op_cmpD (Z := Z) hu) ha hb hc hm) ?_
  rintro σ H Q ⟨F, ρ, ok, h⟩
  have h' := PostG.bool (fun sv ρ' e => by
    obtain ⟨sa, ρ1, _, e⟩ := bind_ok e
    obtain ⟨sb, ρ2, _, e⟩ := bind_ok e
    split at e
    · obtain ⟨sc, ρ3, _, e⟩ := bind_ok e
      split at e
      · cases e; exact ⟨_, rfl⟩
      · cases e
    · cases e; exact ⟨_, rfl⟩
    · cases e) h
  refine ⟨F, ρ, ok, (PostG.bindF late_RSV h').imp ?_⟩
  rintro v1 H1 ⟨sa, F1, ρ1, ok1, st1, r1, h1⟩
  refine ⟨F1, ρ1, ok1, (PostG.bindF late_RSV h1).imp ?_⟩
  rintro v2 H2 ⟨sb, F2, ρ2, ok2, st2, r2, h2⟩
  have r1' := Rep.stays (st2.stays ok1) r1
  split at h2
  · rename_i e1
    refine ⟨F2, _, _, true, e1, .inl r1', .inl r2, true, rfl, ?_⟩
    rw [if_pos rfl]
    refine ⟨F2, ρ2, ok2, (PostG.bindF late_RSV h2).imp ?_⟩
    rintro v3 H3 ⟨sc, F3, ρ3, ok3, st3, r3, h3⟩
    split at h3
    · rename_i r e2
      exact ⟨F3, _, _, r, e2, .inl (Rep.stays (st3.stays ok2) r2), .inl r3, h3.rep ok3 (.bl _)⟩
    · exact h3.elim
  · rename_i e1
    refine ⟨F2, _, _, false, e1, .inl r1', .inl r2, false, rfl, ?_⟩
    rw [if_neg (by decide)]
    exact h2.rep ok2 (.bl _)
  · exact h2.elim

/-! ### lists of operands, of values -/
def plainE : Expr → Bool
  | .Starred _ _ => false
  | _ => true
theorem star_plain {env : Env} (h : plainE e = true) : starEach (e :: es) env = (false, eval e env) :: starEach es env := by
  cases e <;> first | rfl | cases h
theorem back_plain {env : Env} {p : Pos} : ∀ {es : List Expr}, es.all plainE = true → (backTo p (starEach es env)).any (·.1) = false
  | [], _ => rfl
  | e :: es, h => by
    rw [List.all_cons, Bool.and_eq_true] at h
    rw [star_plain h.1]
    have ih := back_plain (env := env) (p := p) h.2
    unfold backTo at ih ⊢
    rw [List.map_cons, List.any_cons, ih]
    rfl
theorem PA.weak {t t' : TA} (h : PA X es t) (w : ∀ σ H Q, t' σ H Q → t σ H Q) : PA X es t' := ⟨fun p pins s σ H Q I hq => h.run p pins s σ H Q I (w σ H Q hq)⟩
theorem pad_nil : PAd X Z [] (fun ρ => .ok [] ρ) := by
  refine PA.weak pa_nil ?_
  rintro σ H Q ⟨F, ρ, ok, h⟩
  exact h [] H F Step.refl ok .nil
theorem pad_cons {f : Env' → Res PV} {g : Env' → Res (List PV)} (ha : POd X Z e f) (hr : PAd X Z es g) (hs : plainE e = true) : PAd X Z (e :: es) (fun ρ => (f ρ).bind fun p ρ1 => (g ρ1).bind fun ps ρ2 => .ok (p :: ps) ρ2) := by
  refine PA.weak (pa_cons ha hr (star_plain hs)) ?_
  rintro σ H Q ⟨F, ρ, ok, h⟩
  refine ⟨F, ρ, ok, (PostG.bind late_RPVs h).imp ?_⟩
  rintro v H1 ⟨p, F1, ρ1, ok1, st1, r1, h1⟩
  refine ⟨F1, ρ1, ok1, (PostG.bind late_RPVs h1).imp ?_⟩
  rintro vs H2 ⟨ps, F2, ρ2, ok2, st2, r2, h2⟩
  exact h2 (v :: vs) H2 F2 Step.refl ok2 (.cons (PVok.stays r1 (st2.stays ok1)) r2)
theorem pvd_nil : PVd X Z [] (fun ρ => .ok [] ρ) := by
  refine PA.weak pa_nil ?_
  rintro σ H Q ⟨F, ρ, ok, h⟩
  exact h [] H F Step.refl ok .nil
theorem pvd_cons {f : Env' → Res SV} {g : Env' → Res (List D)} (ha : PEd X Z e f) (hr : PVd X Z es g) (hs : plainE e = true) : PVd X Z (e :: es) (fun ρ => (f ρ).bind fun sv ρ1 => (g ρ1).bind fun ds ρ2 => .ok (sv.d :: ds) ρ2) := by
  refine PA.weak (pa_cons ha hr (star_plain hs)) ?_
  rintro σ H Q ⟨F, ρ, ok, h⟩
  refine ⟨F, ρ, ok, (PostG.bindF late_RDs h).imp ?_⟩
  rintro v H1 ⟨sv, F1, ρ1, ok1, st1, r1, h1⟩
  refine ⟨F1, ρ1, ok1, (PostG.bind late_RDs h1).imp ?_⟩
  rintro vs H2 ⟨ds, F2, ρ2, ok2, st2, r2, h2⟩
  exact h2 (v :: vs) H2 F2 Step.refl ok2 (.cons (Rep.stays (st2.stays ok1) r1) r2)

/-! ### displays -/
theorem pd_tup {k : Nat} {f : Env' → Res (List D)} (h : PVd X Z es f) : PEd X Z (.Tuple es k pos) (fun ρ => (f ρ).bind fun ds ρ1 => if ds.length ≤ Z24 then .ok (.dat (.tup ds)) ρ1 else .stuck) := by
  refine PE.weak (pe_tup h) ?_
  rintro σ H Q ⟨F, ρ, ok, h⟩
  refine ⟨F, ρ, ok, (PostG.bind late_RSV h).imp ?_⟩
  rintro vs H1 ⟨ds, F1, ρ1, ok1, st1, r1, h1⟩
  split at h1
  · rename_i hl
    refine ⟨by rw [RepL.length r1, z24]; exact hl, fun p hp => h1.made ok1 (made_tup ok1.fd hp r1)⟩
  · exact h1.elim
theorem pd_lst {f : Env' → Res (List D)} (h : PVd X Z es f) : PEd X Z (.List es pos) (fun ρ => (f ρ).bind fun ds ρ1 => if ds.length ≤ Z24 then .ok (.own (.lst ds)) ρ1 else .stuck) := by
  refine PE.weak (pe_lst h) ?_
  rintro σ H Q ⟨F, ρ, ok, h⟩
  refine ⟨F, ρ, ok, (PostG.bind late_RSV h).imp ?_⟩
  rintro vs H1 ⟨ds, F1, ρ1, ok1, st1, r1, h1⟩
  split at h1
  · rename_i hl
    refine ⟨by rw [RepL.length r1, z24]; exact hl, fun p hp => h1.made ok1 (made_lst ok1.fd hp r1)⟩
  · exact h1.elim
theorem pd_dicK : PEd X Z (.Dict [] [] pos) (fun ρ => .ok (.own (.dK [])) ρ) := by
  refine PE.weak pe_dnewK ?_
  rintro σ H Q ⟨F, ρ, ok, h⟩
  exact fun p hp => h.made ok (made_dK ok.fd hp ⟨rfl, .nil⟩)
theorem pd_dicT : PEd X Z (.Dict [] [] pos) (fun ρ => .ok (.own (.dT [])) ρ) := by
  refine PE.weak pe_dnewT ?_
  rintro σ H Q ⟨F, ρ, ok, h⟩
  exact fun p hp => h.made ok (made_dT ok.fd hp ⟨rfl, .nil⟩)
/-- [..] * b -/
theorem pd_lmul {f : Env' → Res (List D)} {g : Env' → Res SV} {p2 : Pos} (h : PVd X Z es f) (hb : PEd X Z b g) : PEd X Z (.BinOp (.List es p2) .Mult b pos) (fun ρ => (f ρ).bind fun ds ρ1 => if ds.length ≤ Z24 then (g ρ1).bind fun sv ρ2 => (match sv.d with
      | .int k => if (-(2 ^ 63) ≤ k ∧ k < 2 ^ 63) ∧ ds.length * k.toNat ≤ Z24 then .ok (.own (.lst (List.replicate k.toNat ds).flatten)) ρ2 else .stuck
      | _ => .stuck) else .stuck) := by
  refine PE.weak (pe_op op_rep (pe_lst h) hb) ?_
  rintro σ H Q ⟨F, ρ, ok, h⟩
  refine ⟨F, ρ, ok, (PostG.bind late_RSV h).imp ?_⟩
  rintro vs H1 ⟨ds, F1, ρ1, ok1, st1, r1, h1⟩
  split at h1
  · rename_i hl
    refine ⟨by rw [RepL.length r1, z24]; exact hl, fun p hp => ?_⟩
    have gr : Grow H1 F1 (upd H1 p (.lst vs)) F1 := Grow.new ok1.fd hp
    have ok1' := ok1.grow gr
    have nop : ¬ Own σ ρ1 p := fun o => by
      obtain ⟨u, hu, _⟩ := ok1.own_at o
      rw [hp] at hu; cases hu
    refine ⟨F1, ρ1, ok1', (PostG.bindF late_RSV (PostG.after late_RSV gr.step h1)).imp ?_⟩
    rintro v H2 ⟨sv, F2, ρ2, ok2, st2, r2, h2⟩
    split at h2
    · rename_i k e2
      rw [e2] at r2
      cases r2
      split at h2
      · rename_i hk
        have hp2 : H2 p = some (.lst vs) := st2.keep p _ upd_same nop
        have r1' := RepL.stays (st2.stays ok1') (RepL.stays gr.stays r1)
        refine ⟨p, k, vs, rfl, rfl, hp2, hk.1.1, hk.1.2, by rw [RepL.length r1, z24]; exact hk.2, fun q hq => ?_⟩
        exact h2.made ok2 (made_lst ok2.fd hq r1'.rep_flat)
      · exact h2.elim
    · exact h2.elim
  · exact h1.elim
end
end DL

namespace DL
open PySem PySem.Spec PyProof.Rows L2

/-! ### tuples backwards -/
section
variable {prog : Program} {w : World} {A : Around} {E : Value → Shared → Prop} {s : Shared}
theorem fm_congr {α β : Type} {f g : α → Option β} : ∀ {l : List α}, (∀ x ∈ l, f x = g x) → l.filterMap f = l.filterMap g
  | [], _ => rfl
  | x :: l, h => by
    rw [List.filterMap_cons, List.filterMap_cons, h x List.mem_cons_self, fm_congr fun y hy => h y (List.mem_cons_of_mem _ hy)]
theorem back_pick (xs : Array Value) : ((List.range xs.size).filterMap fun (m : Nat) => xs[((xs.size : Int) - 1 + (m : Int) * (-1)).toNat]?).toArray = xs.toList.reverse.toArray := by
  have e : ∀ m ∈ List.range xs.size, xs[((xs.size : Int) - 1 + (m : Int) * (-1)).toNat]? = xs[xs.size - 1 - m]? := fun m hm => by
    have := List.mem_range.mp hm
    rw [show ((xs.size : Int) - 1 + (m : Int) * (-1)).toNat = xs.size - 1 - m by omega]
  rw [fm_congr e]
  have q := PySem.W.krv_all xs
  rw [← q, ← List.filterMap_reverse, ← PySem.W.krv_range, List.filterMap_map]
  rfl
theorem sliceApplied_back {sl : Addr} {vl vu : Value} {t : Tok} {n : Nat} {Q : Int × Int × Nat → Shared → Prop} (hs : s.heap.IsSliceOf sl .none .none (.int (-1) t))
    (h : Q ((n : Int) - 1, -1, n) s) : wpAny (model prog w) A (Builtin.Slice.sliceApplied (.ref sl) (pure (n : Int))) Q E s := by
  obtain ⟨os, hos, hcs, hds⟩ := id hs
  unfold Builtin.Slice.sliceApplied Builtin.Slice.sliceFields
  refine wpAny_bind (wpAny_bind (wpAny_field hos hds (x := .none) rfl (wpAny_bind (wpAny_field hos hds (x := .none) rfl (wpAny_bind (wpAny_field hos hds (x := .int (-1) t) rfl (wpAny_pure ?_)))))))
  refine wpAny_bind (HT.slicePart_ (.int (-1) t) ?_)
  show wpAny _ _ (if ((-1 : Int) == 0) = true then _ else _) _ _ s
  rw [if_neg (by decide)]
  refine wpAny_bind (HT.slicePart_ .none (wpAny_bind (HT.slicePart_ .none (wpAny_bind (wpAny_pure ?_)))))
  show wpAny _ _ (match Builtin.Slice.sliceAdjust none none (-1) (n : Int) with | (lo, hi) => pure (lo, (-1 : Int), Builtin.Slice.slicePlaces lo hi (-1))) _ _ s
  have e : Builtin.Slice.sliceAdjust none none (-1) (n : Int) = ((n : Int) - 1, -1) := by
    unfold Builtin.Slice.sliceAdjust
    rfl
  have e2 : Builtin.Slice.slicePlaces ((n : Int) - 1) (-1) (-1) = n := by
    unfold Builtin.Slice.slicePlaces
    have h1 : ¬ ((-1 : Int) > 0) := by omega
    simp only [h1, if_false]
    split <;> simp <;> omega
  rw [e]
  show wpAny _ _ (pure ((n : Int) - 1, (-1 : Int), Builtin.Slice.slicePlaces ((n : Int) - 1) (-1) (-1))) _ _ s
  rw [e2]
  exact wpAny_pure h
theorem getItem_tuple_back {t sl : Addr} {items : Array Value} {tk : Tok} {Q : Value → Shared → Prop} (ht : IsTup s.heap t items) (hs : s.heap.IsSliceOf sl .none .none (.int (-1) tk))
    (h : Q (.ref s.heap.objs.size) { s with heap := s.heap.push { cls := .type "tuple", data := .seq items.toList.reverse.toArray } }) (hsz : items.size ≤ sizeLine) : wpAny (model prog w) A (getItem (.ref t) (.ref sl)) Q E s := by
  have hk : sizeOk (.seq items.toList.reverse.toArray) := by
    show items.toList.reverse.toArray.size ≤ sizeLine
    rw [List.size_toArray, List.length_reverse, Array.length_toList]
    exact hsz
  obtain ⟨os, hos, hcs, hds⟩ := id hs
  have hT : s.TypeIs (.ref sl) "slice" := ⟨os, hos, hcs⟩
  unfold getItem
  try with_reducible refine wpAny_holding ?_
  first | refine wpAny_bind (wpAny_pure ?_) | skip
  refine wpAny_bind (wpAny_sequenceKey ht.typeIs (by decide) ?_)
  refine wpAny_bind (wpAny_callSpecial?_slot (name := Str.ofString "__getitem__") ht.typeIs PyProof.Rows.slot_tuple_getitem (wpAny_call_entry PyProof.Rows.slot_tuple_getitem ht.typeIs entry_tuple_getitem ?_ (args_tuple_getitem _ _)))
  show wpAny _ _ (Builtin.Tuple.tupleItemsOf (.ref t) >>= _) _ _ s
  refine wpAny_bind (tupleItemsOf_ ht ?_)
  refine wpAny_bind (wpAny_typeOf hT ?_)
  rw [if_pos (by decide)]
  refine wpAny_bind (sliceApplied_back (vl := .none) (vu := .none) hs ?_)
  show wpAny _ _ (if (((items.size : Int) - 1) == 0 && (-1 : Int) == 1 && items.size == items.size) = true then _ else _) _ _ s
  rw [if_neg (by simp), back_pick]
  first
    | exact wpAny_bind (m := Builtin.Tuple.tupleExact _) (wpAny_newObj_type (wpAny_pure ⟨_, rfl, wpAny_pure h⟩) hk)
    | exact wpAny_bind (m := Builtin.Tuple.tupleExact _) (wpAny_newObj_type (wpAny_bind (wpAny_pure (wpAny_pure ⟨_, rfl, wpAny_pure h⟩))) hk)
    | exact wpAny_bind (wpAny_bind (m := Builtin.Tuple.tupleExact _) (wpAny_newObj_type (wpAny_pure (wpAny_pure ⟨_, rfl, wpAny_pure h⟩)) hk))
    | exact wpAny_bind (wpAny_bind (m := Builtin.Tuple.tupleExact _) (wpAny_newObj_type (wpAny_pure ⟨_, rfl, wpAny_pure h⟩) hk))
end

section
variable {X : Cx} {Z : Fix} {e a b c : Expr} {es rest : List Expr} {pos p p2 : Pos}
/-! ### slices -/
theorem PO.weak {o : Option Expr} {t t' : TO} (h : PO X o t) (w : ∀ σ H Q, t' σ H Q → t σ H Q) : PO X o t' := ⟨fun pins s σ H Q I hq => h.run pins s σ H Q I (w σ H Q hq)⟩
abbrev POpt (X : Cx) (Z : Fix) (o : Option Expr) (f : Env' → Res (Option Int)) : Prop := PO X o (tD X Z RPt f)
theorem pod_none : POpt X Z none (fun ρ => .ok none ρ) := by
  refine PO.weak po_none ?_
  rintro σ H Q ⟨F, ρ, ok, h⟩
  exact h none H F Step.refl ok rfl
theorem pod_some {f : Env' → Res SV} (h : PEd X Z e f) : POpt X Z (some e) (fun ρ => (f ρ).bind fun sv ρ1 => (match sv.d with
    | .int i => .ok (some i) ρ1
    | _ => .stuck)) := by
  refine PO.weak (po_some h) ?_
  rintro σ H Q ⟨F, ρ, ok, h⟩
  refine ⟨F, ρ, ok, (PostG.bindF late_RPt h).imp ?_⟩
  rintro v H1 ⟨sv, F1, ρ1, ok1, st, r, h1⟩
  split at h1
  · rename_i i e1
    rw [e1] at r
    cases r
    exact ⟨i, rfl, h1 (some i) H1 F1 Step.refl ok1 rfl⟩
  · exact h1.elim
theorem pd_slc {lo hi : Option Expr} {f : Env' → Res PV} {g k : Env' → Res (Option Int)} (ha : POd X Z a f) (hl : POpt X Z lo g) (hh : POpt X Z hi k) :
    PEd X Z (.Subscript a (.Slice lo hi none p2) pos) (fun ρ => (f ρ).bind fun p ρ1 => (g ρ1).bind fun l ρ2 => (k ρ2).bind fun h ρ3 => (match cont ρ3 p with
      | some d => lift (slP d l h) ρ3
      | none => .stuck)) := by
  refine PE.weak (pe_slice (sl_ok (fa := Z.fa)) ha hl hh) ?_
  rintro σ H Q ⟨F, ρ, ok, h⟩
  refine ⟨F, ρ, ok, (PostG.bind late_RSV h).imp ?_⟩
  rintro v H1 ⟨pv, F1, ρ1, ok1, st1, r1, h1⟩
  refine ⟨F1, ρ1, ok1, (PostG.bind late_RSV h1).imp ?_⟩
  rintro l H2 ⟨l', F2, ρ2, ok2, st2, r2, h2⟩
  cases r2
  refine ⟨F2, ρ2, ok2, (PostG.bind late_RSV h2).imp ?_⟩
  rintro u H3 ⟨u', F3, ρ3, ok3, st3, r3, h3⟩
  cases r3
  have r1' := PVok.stays (PVok.stays r1 (st2.stays ok1)) (st3.stays ok2)
  split at h3
  · rename_i d e1
    unfold lift at h3
    split at h3
    · rename_i sv e2
      exact ⟨F3, d, sv, e2, r1'.read ok3 e1, ok3.fd, fun z H' m => h3.made ok3 m⟩
    · exact h3.elim
  · exact h3.elim
/-- e[::-1] -/
theorem pd_rev {k : Nat} {p3 p4 : Pos} {f : Env' → Res PV} (ha : POd X Z a f) : PEd X Z (.Subscript a (.Slice none none (some (.UnaryOp .USub (.Constant (.int 1) k p3) p4)) p2) pos) (fun ρ => (f ρ).bind fun p ρ1 => (match cont ρ1 p with
      | some (.tup ds) => .ok (.dat (.tup ds.reverse)) ρ1
      | some (.lst ds) => .ok (.own (.lst ds.reverse)) ρ1
      | _ => .stuck)) := by
  refine ⟨?_⟩
  rintro pins s σ H Q I ⟨F, ρ, ok, h⟩
  refine Subscript_ (thn (ha.run pins s σ H _ I ⟨F, ρ, ok, PostG.bind late_RSV h⟩) ?_)
  rintro v s1 ⟨x, H1, I1, rx, pv, F1, ρ1, ok1, st1, r1, h1⟩
  have hst : PO X (some (.UnaryOp .USub (.Constant (.int 1) k p3) p4)) (tPart (tUn (rU fun i => .int (-i)) (tC (.int 1)))) := po_some (pe_un un_neg pe_int)
  refine wpAny_Slice (thn (po_none.run pins s1 σ H1 (fun o H2 => o = none ∧ H2 = H1) I1 ⟨rfl, rfl⟩) ?_)
  rintro vl s2 ⟨l, H2, I2, pl, rfl, rfl⟩
  refine thn (po_none.run pins s2 σ H2 (fun o H3 => o = none ∧ H3 = H2) I2 ⟨rfl, rfl⟩) ?_
  rintro vu s3 ⟨u, H3, I3, pu, rfl, rfl⟩
  refine thn (hst.run pins s3 σ H3 (fun o H4 => o = some (-1) ∧ H4 = H3) I3 ⟨1, rfl, -1, rfl, rfl, rfl⟩) ?_
  rintro vs s4 ⟨o, H4, I4, ps, rfl, rfl⟩
  have I5 : Inv X pins σ H4 { s4 with heap := s4.heap.push { cls := .type "slice", data := .fields #[vl, vu, vs] } } := I4.kept (t' := s4.toks) fun b ob q => Heap.get?_push_of_some _ q
  have sl := Heap.IsSliceOf.new s4.heap vl vu vs
  split at h1
  · rename_i ds e1
    obtain ⟨t, xs, rfl, ht, rt⟩ := (PVok.read r1 ok1 e1).tup
    cases rx
    cases pl
    cases pu
    cases ps
    obtain ⟨its, r, tt, hz⟩ := I5.tuple (.inl (.inl ht))
    refine tail_any (ops := [.ref t, .ref s4.heap.objs.size]) tt.typeIs PyProof.Rows.slot_tuple_getitem.lookup ?_ (by with_unfolding_all rfl)
    refine getItem_tuple_back tt sl ?_ (by rw [List.size_toArray, ← r.length]; exact hz)
    refine ⟨.ref _, _, I5.laid (t' := s4.toks) (o := .tup xs.reverse) (fun b ob q => Heap.get?_push_of_some _ q) (Nat.le_refl _) ?_, rfl, ?_⟩
    · exact ⟨by rw [List.length_reverse]; exact hz, _, r.reverse, IsTup.new _ _⟩
    · exact h1.made ok1 (made_tup ok1.fd (I5.hok.fresh (Nat.le_refl _)) rt.reverse)
  · rename_i ds e1
    obtain ⟨t, xs, rfl, ht, rt⟩ := (PVok.read r1 ok1 e1).lst
    cases rx
    obtain ⟨its, r, tt, hz⟩ := I5.list (.inl ht)
    refine tail_any (ops := [.ref t, .ref s4.heap.objs.size]) tt.isList.typeIs PySem.slot_list_getitem.lookup ?_ (by with_unfolding_all rfl)
    have hl := r.length
    refine wpAny_getItem_list_slice tt.isList sl pl pu ps (by decide) ?_ (by rw [List.size_toArray]; omega)
    rw [PySem.W.krv_pick]
    refine ⟨.ref _, _, I5.laid (t' := s4.toks) (o := .lst xs.reverse) (fun b ob q => Heap.get?_push_of_some _ q) (Nat.le_refl _) ?_, rfl, ?_⟩
    · exact ⟨by rw [List.length_reverse]; exact hz, _, 0, r.reverse, Heap.get?_push_size _ rfl⟩
    · exact h1.made ok1 (made_lst ok1.fd (I5.hok.fresh (Nat.le_refl _)) rt.reverse)
  · exact h1.elim

/-! ### built-in functions -/
theorem callR_D {f : Value} {r : List V → Hp → VK → Prop} : True := trivial
def rBI (X : Cx) (fa : Nat → Option Addr) (b : BI) : List V → Hp → VK → Prop := fun xs H Q => ∃ F ds sv, callP b ds = some sv ∧ RdFs X.K fa H F xs ds ∧ (∀ a, F a → H a ≠ none) ∧ ∀ z H', Made X.K fa H F sv z H' → Q z H'
theorem cr_bi {bi : BI} {fa : Nat → Option Addr} (hc : X.calm = true) : CallR X bi.val (rBI X fa bi) := by
  rintro pins s σ H xs us Q I r ⟨F, ds, sv, h, hd, fd, q⟩
  exact call_ok h hc I r hd fd q
theorem bi_boot (bi : BI) : bootBuiltins bi.name = some bi.val := by cases bi <;> decide +kernel
theorem bi_name (bi : BI) : bi.name ≠ "__name__" ∧ (bi.name == ("__debug__" : Str)) = false := by cases bi <;> decide
theorem pe_bi {bi : BI} {fa : Nat → Option Addr} {t : TA} (hc : X.calm = true) (hg : Gl X bi.name) (hm : X.mg bi.name = none) (ha : PA X (e :: es) t) (hs : (e :: es).all plainE = true) : PE X (.Call (.Name bi.name p) (e :: es) [] pos) (tCB (rBI X fa bi) t) := by
  rw [List.all_cons, Bool.and_eq_true] at hs
  have hr : CallR X bi.val (rBI X fa bi) := cr_bi hc
  have h1 := bi_boot bi
  have h2 := bi_name bi
  cases bi with
  | len => exact pe_callB hr hg hm h1 ha h2.1 h2.2 (star_plain hs.1) (back_plain hs.2)
  | abs => exact pe_callB hr hg hm h1 ha h2.1 h2.2 (star_plain hs.1) (back_plain hs.2)
  | int => exact pe_callTy hr hg hm h1 ha h2.1 h2.2 (star_plain hs.1) (back_plain hs.2)
  | str => exact pe_callTy hr hg hm h1 ha h2.1 h2.2 (star_plain hs.1) (back_plain hs.2)
  | tuple => exact pe_callTy hr hg hm h1 ha h2.1 h2.2 (star_plain hs.1) (back_plain hs.2)
  | list => exact pe_callTy hr hg hm h1 ha h2.1 h2.2 (star_plain hs.1) (back_plain hs.2)
  | sum => exact pe_callB hr hg hm h1 ha h2.1 h2.2 (star_plain hs.1) (back_plain hs.2)
  | max => exact pe_callB hr hg hm h1 ha h2.1 h2.2 (star_plain hs.1) (back_plain hs.2)
  | min => exact pe_callB hr hg hm h1 ha h2.1 h2.2 (star_plain hs.1) (back_plain hs.2)
  | all => exact pe_callB hr hg hm h1 ha h2.1 h2.2 (star_plain hs.1) (back_plain hs.2)
  | any => exact pe_callB hr hg hm h1 ha h2.1 h2.2 (star_plain hs.1) (back_plain hs.2)
  | sorted => exact pe_callB hr hg hm h1 ha h2.1 h2.2 (star_plain hs.1) (back_plain hs.2)
theorem pd_bi {bi : BI} {f : Env' → Res (List PV)} (hc : X.calm = true) (hg : Gl X bi.name) (hm : X.mg bi.name = none) (ha : PAd X Z (e :: es) f) (hs : (e :: es).all plainE = true) :
    PEd X Z (.Call (.Name bi.name p) (e :: es) [] pos) (fun ρ => (f ρ).bind fun ps ρ1 => (match conts ρ1 ps with
      | some ds => lift (callP bi ds) ρ1
      | none => .stuck)) := by
  refine PE.weak (pe_bi (fa := Z.fa) hc hg hm ha hs) ?_
  rintro σ H Q ⟨F, ρ, ok, h⟩
  refine ⟨F, ρ, ok, (PostG.bind late_RSV h).imp ?_⟩
  rintro vs H1 ⟨ps, F1, ρ1, ok1, st1, r1, h1⟩
  split at h1
  · rename_i ds e1
    unfold lift at h1
    split at h1
    · rename_i sv e2
      exact ⟨F1, ds, sv, e2, PVs.read ok1 r1 e1, ok1.fd, fun z H' m => h1.made ok1 m⟩
    · exact h1.elim
  · exact h1.elim
/-- isinstance(e, T) -/
def rIn1 (X : Cx) (fa : Nat → Option Addr) (T : String) : List V → Hp → VK → Prop := fun xs H Q => ∃ F x d b, xs = [x, .ty T] ∧ instP d T = some b ∧ RdF X.K fa H F x d ∧ Q (.bl b) H
theorem cr_inst {T : String} {fa : Nat → Option Addr} : CallR X (.builtin "isinstance") (rIn1 X fa T) := by
  rintro pins s σ H xs us Q I r ⟨F, x, d, b, rfl, h, hd, q⟩
  exact inst_ok h I r hd q
theorem pd_inst {T : String} {x2 : Str} {p3 : Pos} {f : Env' → Res PV} (hg : Gl X "isinstance") (hm : X.mg "isinstance" = none) (hg2 : Gl X x2) (hm2 : X.mg x2 = none) (hv2 : bootBuiltins x2 = some (.type T)) (hn2 : x2 ≠ "__name__") (hd2 : (x2 == ("__debug__" : Str)) = false)
    (ha : POd X Z a f) (hs : plainE a = true) :
    PEd X Z (.Call (.Name "isinstance" p) [a, .Name x2 p3] [] pos) (fun ρ => (f ρ).bind fun p ρ1 => (match cont ρ1 p with
      | some d => (match instP d T with
        | some b => .ok (.dat (.bl b)) ρ1
        | none => .stuck)
      | none => .stuck)) := by
  have hty : PE X (.Name x2 p3) (tC (.ty T)) := pe_bltn hg2 hm2 hv2 rfl hn2 hd2
  refine PE.weak (pe_callB (cr_inst (fa := Z.fa) (T := T)) hg hm (by decide +kernel) (pa_cons ha (pa_cons hty pa_nil (star_plain rfl)) (star_plain hs)) (by decide) (by decide) (star_plain hs) (back_plain (es := [.Name x2 p3]) rfl)) ?_
  rintro σ H Q ⟨F, ρ, ok, h⟩
  refine ⟨F, ρ, ok, (PostG.bind late_RSV h).imp ?_⟩
  rintro v H1 ⟨pv, F1, ρ1, ok1, st1, r1, h1⟩
  split at h1
  · rename_i d e1
    split at h1
    · rename_i b e2
      exact ⟨F1, v, d, b, rfl, e2, PVok.read r1 ok1 e1, h1.rep ok1 (.bl _)⟩
    · exact h1.elim
  · exact h1.elim
/-- list(range(a)) -/
theorem rgV_rep {K : PySem.W.Frag} {fa : Nat → Option Addr} {H : Hp} {F : AP'} (lo : Int) (n : Nat) : RepL K fa H F ((List.range n).map fun i => V.int (lo + (i : Nat))) (rangeD lo n) := by
  unfold rangeD
  induction (List.range n) with
  | nil => exact .nil
  | cons i l ih => exact .cons (.int _) ih
theorem pd_lrng {p3 : Pos} {f : Env' → Res SV} (hc : X.calm = true) (hg : Gl X "list") (hm : X.mg "list" = none) (hg2 : Gl X "range") (hm2 : X.mg "range" = none) (ha : PEd X Z a f) (hs : plainE a = true) :
    PEd X Z (.Call (.Name "list" p) [.Call (.Name "range" p2) [a] [] p3] [] pos) (fun ρ => (f ρ).bind fun sa ρ1 => (match sa.d with
      | .int j => if 0 ≤ j ∧ j ≤ Z24 then .ok (.own (.lst (rangeD 0 j.toNat))) ρ1 else .stuck
      | _ => .stuck)) := by
  refine PE.weak (pe_listRg hc hg hm (prg_1 hg2 hm2 ha (star_plain hs)) (star_plain rfl)) ?_
  rintro σ H Q ⟨F, ρ, ok, h⟩
  refine ⟨F, ρ, ok, (PostG.bindF late_RSV h).imp ?_⟩
  rintro v H1 ⟨sv, F1, ρ1, ok1, st1, r1, h1⟩
  split at h1
  · rename_i j e1
    rw [e1] at r1
    cases r1
    split at h1
    · rename_i hj
      have hz : (Z24 : Int) = 16777216 := rfl
      refine ⟨j, rfl, RgOk.of_le (Int.le_refl 0) (by omega) (by omega) hj.1, fun q hq => ?_⟩
      refine h1.made ok1 (made_lst ok1.fd hq ?_)
      unfold rgV
      rw [Int.sub_zero]
      exact rgV_rep 0 _
    · exact h1.elim
  · exact h1.elim

/-! ### dicts -/
def rDcp (X : Cx) (fa : Nat → Option Addr) : List V → Hp → VK → Prop := fun xs H Q => ∃ F x kds, xs = [x] ∧ RdF X.K fa H F x (.dK kds) ∧ (∀ a, F a → H a ≠ none) ∧ ∀ z H', Made X.K fa H F (.own (.dK kds)) z H' → Q z H'
theorem cr_dcp {fa : Nat → Option Addr} : CallR X (.type "dict") (rDcp X fa) := by
  rintro pins s σ H xs us Q I r ⟨F, x, kds, rfl, hd, fd, q⟩
  obtain ⟨a, kvs, rfl, h1, h2⟩ := hd.dK
  exact call_dictD pins s σ H _ us Q I r ⟨a, kvs, rfl, h1, fun p hp => q _ _ (made_dK fd hp h2)⟩
theorem pd_dcp {f : Env' → Res PV} (hg : Gl X "dict") (hm : X.mg "dict" = none) (ha : POd X Z a f) (hs : plainE a = true) : PEd X Z (.Call (.Name "dict" p) [a] [] pos) (fun ρ => (f ρ).bind fun p ρ1 => (match cont ρ1 p with
      | some (.dK kds) => .ok (.own (.dK kds)) ρ1
      | _ => .stuck)) := by
  refine PE.weak (pe_callTy (cr_dcp (fa := Z.fa)) hg hm (by decide +kernel) (pa_cons ha pa_nil (star_plain hs)) (by decide) (by decide) (star_plain hs) (back_plain (es := []) rfl)) ?_
  rintro σ H Q ⟨F, ρ, ok, h⟩
  refine ⟨F, ρ, ok, (PostG.bind late_RSV h).imp ?_⟩
  rintro v H1 ⟨pv, F1, ρ1, ok1, st1, r1, h1⟩
  split at h1
  · rename_i kds e1
    exact ⟨F1, v, kds, rfl, PVok.read r1 ok1 e1, ok1.fd, fun z H' m => h1.made ok1 m⟩
  · exact h1.elim
theorem pairs_ok {K : PySem.W.Frag} {fa : Nat → Option Addr} {H : Hp} {F : AP'} : ∀ {xs : List V} {ds : List D} {kds : List (Key × D)}, RepL K fa H F xs ds → pairsK ds = some kds →
    ∃ (ps : List Addr) (kvs : List (Key × V)), xs = ps.map V.ref ∧ Paired (fun p kv => SqT K H p [kV kv.1, kv.2]) ps kvs ∧ DRep K fa H F kvs kds
  | _, _, _, .nil, e => by cases e; exact ⟨[], [], rfl, .nil, rfl, .nil⟩
  | _, _, _, .cons (ds := ds) h r, e => by
    unfold pairsK at e
    split at e
    · rename_i heq; cases heq
    · rename_i k v ds' heq
      cases heq
      split at e
      · rename_i kk rr e1 e2
        cases e
        obtain ⟨ps, kvs, a1, a2, a3⟩ := pairs_ok r e2
        cases h with
        | tup ht hr =>
          rename_i a xs'
          cases hr with
          | cons hk hr2 =>
            cases hr2 with
            | cons hv hr3 =>
              cases hr3
              have := keyOf_ok hk e1
              subst this
              refine ⟨a :: ps, (kk, _) :: kvs, by rw [a1]; rfl, .cons (.inl (.inl ht)) a2, by simp [a3.1], .cons hv a3.2⟩
      · cases e
    · cases e
theorem merge_rep {K : PySem.W.Frag} {fa : Nat → Option Addr} {H : Hp} {F : AP'} : ∀ {kvs : List (Key × V)} {kds : List (Key × D)} {acc : List (Key × V)} {dac : List (Key × D)}, DRep K fa H F kvs kds → DRep K fa H F acc dac →
    DRep K fa H F (mergeK acc kvs) (kds.foldl (fun a kv => putD a kv.1 kv.2) dac)
  | [], [], _, _, _, q => q
  | [], _ :: _, _, _, h, _ => by have := h.1; simp at this
  | _ :: _, [], _, _, h, _ => by have := h.1; simp at this
  | p :: kvs, q :: kds, acc, dac, h, g => by
    obtain ⟨h1, h2⟩ := h
    simp only [List.map_cons, List.cons.injEq] at h1
    cases h2 with
    | cons hv hr =>
      have g' := g.put (k := q.1) hv
      rw [List.foldl_cons]
      have := merge_rep (show DRep K fa H F kvs kds from ⟨h1.2, hr⟩) g'
      rw [← h1.1] at this
      rw [← h1.1]
      exact this
def rDpr (X : Cx) (fa : Nat → Option Addr) : List V → Hp → VK → Prop := fun xs H Q => ∃ F x es kds, xs = [x] ∧ RdF X.K fa H F x (.lst es) ∧ pairsK es = some kds ∧ (∀ a, F a → H a ≠ none) ∧ ∀ z H', Made X.K fa H F (.own (.dK (kds.foldl (fun acc kv => putD acc kv.1 kv.2) []))) z H' → Q z H'
theorem cr_dpr {fa : Nat → Option Addr} (hc : X.calm = true) : CallR X (.type "dict") (rDpr X fa) := by
  rintro pins s σ H xs us Q I r ⟨F, x, es, kds, rfl, hd, hp, fd, q⟩
  obtain ⟨a, ys, rfl, h1, h2⟩ := hd.lst
  obtain ⟨ps, kvs, rfl, a2, a3⟩ := pairs_ok h2 hp
  exact call_dictP hc pins s σ H _ us Q I r ⟨a, ps, kvs, rfl, .inl h1, a2, fun p hp => q _ _ (made_dK fd hp (merge_rep a3 ⟨rfl, .nil⟩))⟩
theorem pd_dprs {f : Env' → Res PV} (hc : X.calm = true) (hg : Gl X "dict") (hm : X.mg "dict" = none) (ha : POd X Z a f) (hs : plainE a = true) : PEd X Z (.Call (.Name "dict" p) [a] [] pos) (fun ρ => (f ρ).bind fun p ρ1 => (match cont ρ1 p with
      | some (.lst es) => (match pairsK es with
        | some kds => .ok (.own (.dK (kds.foldl (fun acc kv => putD acc kv.1 kv.2) []))) ρ1
        | none => .stuck)
      | _ => .stuck)) := by
  refine PE.weak (pe_callTy (cr_dpr (fa := Z.fa) hc) hg hm (by decide +kernel) (pa_cons ha pa_nil (star_plain hs)) (by decide) (by decide) (star_plain hs) (back_plain (es := []) rfl)) ?_
  rintro σ H Q ⟨F, ρ, ok, h⟩
  refine ⟨F, ρ, ok, (PostG.bind late_RSV h).imp ?_⟩
  rintro v H1 ⟨pv, F1, ρ1, ok1, st1, r1, h1⟩
  split at h1
  · rename_i es e1
    split at h1
    · rename_i kds e2
      exact ⟨F1, v, es, kds, rfl, PVok.read r1 ok1 e1, e2, ok1.fd, fun z H' m => h1.made ok1 m⟩
    · exact h1.elim
  · exact h1.elim
theorem PostG.bindX {K : PySem.W.Frag} {Z : Fix} {α' β' : Type} {R' : Hp → α' → β' → Hp → AP' → L2.St → Env' → Prop} {σ : L2.St} {H0 Hs : Hp} {F0 Fs : AP'} {ρ0 ρs : Env'} {f : Res SV} {g : SV → Env' → Res α'} {Q : β' → Hp → Prop}
    (st : StepE H0 F0 σ ρ0 Hs Fs σ ρs) (h : PostG K Z R' σ H0 F0 ρ0 (f.bind g) Q) :
    PostG K Z (RSV K Z) σ Hs Fs ρs f (fun v H1 => ∃ sv F1 ρ1, EnvOk K Z.fa H1 F1 σ ρ1 ∧ StepE Hs Fs σ ρs H1 F1 σ ρ1 ∧ Rep K Z.fa H1 F1 v sv.d ∧ PostG K Z R' σ H0 F0 ρ0 (g sv ρ1) Q) := by
  cases f with
  | ok sv ρ' =>
    intro v H' F' s ok r
    obtain ⟨F1, ok1, rep, m1, m2⟩ := ResOk.freeze ok r
    exact ⟨sv, F1, ρ', ok1, s.more m1 m2, rep, h⟩
  | exc x ρ' => exact fun cls d H' F' s ok r => h cls d H' F' (st.trans s) ok r
  | stuck => exact h
/-- {k: v} -/
theorem pd_dic1 {f g : Env' → Res SV} (ha : PEd X Z a f) (hb : PEd X Z b g) : PEd X Z (.Dict [some a] [b] pos) (fun ρ => (f ρ).bind fun sk ρ1 => (g ρ1).bind fun sv ρ2 => (match keyOf sk.d with
      | some kk => .ok (.own (.dK [(kk, sv.d)])) ρ2
      | none => .stuck)) := by
  refine PE.weak (pe_disp (pps_cons ha hb pps_nil) rfl rfl (fun z => by cases z) (Nat.le_add_left 1 14)) ?_
  rintro σ H Q ⟨F, ρ, ok, h⟩
  intro p hp
  -- the dict is laid ahead of its entries
  have gr : Grow H F (upd H p (.dK [])) F := Grow.new ok.fd hp
  have ok' := ok.grow gr
  have nop : ∀ {ρ1 : Env'}, (∀ x, Own σ ρ1 x → Own σ ρ x ∨ upd H p (.dK []) x = none) → ¬ Own σ ρ1 p := fun {ρ1} hn o => by
    rcases hn p o with o | o
    · obtain ⟨u, hu, _⟩ := ok.own_at o
      rw [hp] at hu; cases hu
    · rw [upd_same] at o; cases o
  refine ⟨F, ρ, ok', (PostG.bindX gr.step h).imp ?_⟩
  rintro v H1 ⟨sk, F1, ρ1, ok1, st1, r1, h1⟩
  refine ⟨F1, ρ1, ok1, (PostG.bindX (gr.step.trans st1) h1).imp ?_⟩
  rintro w H2 ⟨sv, F2, ρ2, ok2, st2, r2, h2⟩
  split at h2
  · rename_i kk e1
    have r1' := Rep.stays (st2.stays ok1) r1
    have hk := keyOf_ok r1' e1
    subst hk
    have q1 : H1 p = some (.dK []) := st1.keep p _ upd_same (nop fun x o => .inl o)
    have q2 : H2 p = some (.dK []) := st2.keep p _ q1 (nop st1.onew)
    refine ⟨q2, [(kk, w)], rfl, by simp, ?_⟩
    -- the dict at p, new since the beginning, is written
    have nF2 : ¬ F2 p := fun z => by
      rcases st2.fnew p z with z | z | ⟨z, _⟩
      · rcases st1.fnew p z with z | z | ⟨z, _⟩
        · exact ok.fd p z hp
        · rw [upd_same] at z; cases z
        · exact nop (fun x o => .inl o) z
      · rw [q1] at z; cases z
      · exact nop st1.onew z
    have no2 : ¬ Own σ ρ2 p := by
      refine nop fun x o => ?_
      rcases st2.onew x o with o | o
      · exact st1.onew x o
      · exact .inr (st1.dom x o)
    have sta : Stays H2 F2 (upd H2 p (.dK (mergeK [] [(kk, w)]))) F2 := by
      refine ⟨fun b xs hb => ?_, fun b u fb hb => ?_, fun _ z => z⟩
      · have ne : b ≠ p := by intro z; subst z; rw [q2] at hb; cases hb
        rw [upd_ne ne]; exact hb
      · have ne : b ≠ p := by intro z; subst z; exact nF2 fb
        unfold Rd
        rw [upd_ne ne]; exact hb
    have hmk : mergeK [] [(kk, w)] = [(kk, w)] := by simp [mergeK, putK]
    rw [hmk] at sta ⊢
    have okE : EnvOk X.K Z.fa (upd H2 p (.dK [(kk, w)])) F2 σ ρ2 := by
      refine ⟨ok2.len, fun i sz e => ?_, ok2.apart, fun b fb => ?_⟩
      · obtain ⟨y, g1, g2⟩ := ok2.slot i sz e
        refine ⟨y, g1, ?_⟩
        have far : ∀ c d', y = .ref c → sz.mine = true → OwnAt X.K Z.fa H2 F2 c d' → OwnAt X.K Z.fa (upd H2 p (.dK [(kk, w)])) F2 c d' := fun c d' ey mz q => by
          have ne : c ≠ p := by
            intro z; subst z ey
            exact no2 ⟨i, sz, e, mz, g1⟩
          exact q.stays (upd_ne ne) sta
        cases sz with
        | dat d' => exact Rep.stays sta g2
        | own d' => obtain ⟨c, ey, nc, q⟩ := g2; exact ⟨c, ey, nc, far c d' ey rfl q⟩
        | bor d' => obtain ⟨c, ey, nc, q⟩ := g2; exact ⟨c, ey, nc, far c d' ey rfl q⟩
      · by_cases z : b = p
        · subst z; rw [upd_same]; exact fun q => nomatch q
        · rw [upd_ne z]; exact ok2.fd b fb
    have full : StepE H F σ ρ (upd H2 p (.dK [(kk, w)])) F2 σ ρ2 := by
      have st02 := (gr.step (O := Own σ ρ) (B := Bor σ ρ)).trans (st1.trans st2)
      refine ⟨fun b u hb no => ?_, st02.fmono, st02.fnew, st02.onew, st02.bor, fun b hb => ?_⟩
      · have ne : b ≠ p := by intro z; subst z; rw [hp] at hb; cases hb
        rw [upd_ne ne]; exact st02.keep b u hb no
      · by_cases z : b = p
        · subst z; rw [upd_same] at hb; cases hb
        · rw [upd_ne z] at hb; exact st02.dom b hb
    exact h2 (.ref p) _ F2 full okE ⟨⟨p, rfl, nF2, .dK upd_same ⟨rfl, .cons (Rep.stays sta r2) .nil⟩⟩, p, rfl, hp, no2⟩
  · exact h2.elim
end
end DL

namespace DL
open PySem PySem.Spec PyProof.Rows L2

/-! ### what a def promises -/
inductive RepSs (K : PySem.W.Frag) (fa : Nat → Option Addr) (H : Hp) (F : AP') : List V → List SV → Prop
  | nil : RepSs K fa H F [] []
  | cons {v : V} {vs : List V} {d : SV} {ds : List SV} : RepS K fa H F v d → RepSs K fa H F vs ds → RepSs K fa H F (v :: vs) (d :: ds)
/-- at most the first argument is lent -/
def ArgsOk : List SV → Prop
  | [] => True
  | s :: ss => (∀ d, s ≠ .own d) ∧ ∀ t ∈ ss, ∃ d, t = .dat d
def lentA : List V → List SV → Addr → Prop
  | v :: _, .bor _ :: _, a => v = .ref a
  | _, _, _ => False
def lentD : List SV → Option D
  | .bor d :: _ => some d
  | _ => none
def Back (K : PySem.W.Frag) (fa : Nat → Option Addr) (vs : List V) (svs : List SV) (b : Option D) (H : Hp) (F : AP') : Prop := match vs, svs, b with
  | v :: _, .bor _ :: _, some d => ∃ a, v = .ref a ∧ ¬ F a ∧ OwnAt K fa H F a d
  | _, .bor _ :: _, none => False
  | _, _, none => True
  | _, _, some _ => False
def PostF (K : PySem.W.Frag) (fa : Nat → Option Addr) (EX : ExR) (H : Hp) (F : AP') (vs : List V) (svs : List SV) (r : FRes) (Q : VK) (E : XK) : Prop := match r with
  | .ok sv b => ∀ v H' F', Step H F (lentA vs svs) (lentA vs svs) H' F' (lentA vs svs) (lentA vs svs) → (∀ a, F' a → H' a ≠ none) → RepS K fa H' F' v sv → (sv.mine = true → ∃ d a, sv = .own d ∧ v = .ref a ∧ H a = none) → Back K fa vs svs b H' F' → Q v H'
  | .exc x b => ∀ cls d H' F', Step H F (lentA vs svs) (lentA vs svs) H' F' (lentA vs svs) (lentA vs svs) → (∀ a, F' a → H' a ≠ none) → Back K fa vs svs b H' F' → EX x cls d H' → E cls d H'
  | .stuck => False
def spF (K : PySem.W.Frag) (fa : Nat → Option Addr) (EX : ExR) (g : List SV → FRes) : Sp := fun vs H Q E => ∃ F svs, (∀ a, F a → H a ≠ none) ∧ RepSs K fa H F vs svs ∧ ArgsOk svs ∧ PostF K fa EX H F vs svs (g svs) Q E

section
variable {K : PySem.W.Frag} {fa : Nat → Option Addr} {H H' : Hp} {F F' : AP'} {σ : L2.St} {ρ ρ1 ρ2 : Env'}
/-! ### slots that a callee reads -/
def ShA (σ : L2.St) (ρ : Env') (sh : List Nat) (a : Addr) : Prop := ∃ i ∈ sh, (∃ sv : SV, ρ[i]? = some (some sv) ∧ sv.mine = true) ∧ σ[i]? = some (some (.ref a))
theorem shA_own {σ : L2.St} {ρ : Env'} {sh : List Nat} {a : Addr} (h : ShA σ ρ sh a) : Own σ ρ a := by
  obtain ⟨i, _, ⟨sv, e, m⟩, es⟩ := h
  exact ⟨i, sv, e, m, es⟩
theorem freezeSl_ok {K : PySem.W.Frag} {fa : Nat → Option Addr} {H : Hp} {σ : L2.St} {ρ2 : Env'} : ∀ {sh : List Nat} {ρ : Env'} {F : AP'}, EnvOk K fa H F σ ρ → freezeSl ρ sh = some ρ2 → EnvOk K fa H (fun a => F a ∨ ShA σ ρ sh a) σ ρ2 ∧ StepE H F σ ρ H (fun a => F a ∨ ShA σ ρ sh a) σ ρ2
  | [], ρ, F, ok, e => by
    cases e
    have eq : ∀ q, (fun a => F a ∨ ShA σ q [] a) = F := by
      intro q
      funext a
      exact propext ⟨fun h => h.elim id (fun ⟨i, hi, _⟩ => nomatch hi), .inl⟩
    rw [eq _]
    exact ⟨ok, Step.refl⟩
  | i :: is, ρ, F, ok, e => by
    unfold freezeSl at e
    split at e
    · rename_i d e1
      obtain ⟨v, es, a, ea, nf, ow⟩ := ok.slot i _ e1
      subst ea
      obtain ⟨ok1, st1, _⟩ := ok.freeze e1 es
      obtain ⟨ok2, st2⟩ := freezeSl_ok ok1 e
      have eq : (fun b => (F b ∨ b = a) ∨ ShA σ (ρ.set i (some (.dat d))) is b) = fun b => F b ∨ ShA σ ρ (i :: is) b := by
        funext b
        refine propext ⟨fun h => ?_, fun h => ?_⟩
        · rcases h with (h | h) | h
          · exact .inl h
          · subst h; exact .inr ⟨i, List.mem_cons_self, ⟨_, e1, rfl⟩, es⟩
          · obtain ⟨j, hj, ⟨sv, q1, q2⟩, q3⟩ := h
            rcases set_get q1 with ⟨rfl, q⟩ | ⟨ne, q⟩
            · cases q; cases q2
            · exact .inr ⟨j, List.mem_cons_of_mem _ hj, ⟨sv, q, q2⟩, q3⟩
        · rcases h with h | ⟨j, hj, ⟨sv, q1, q2⟩, q3⟩
          · exact .inl (.inl h)
          · by_cases ne : i = j
            · subst ne
              rw [es] at q3
              cases q3
              exact .inl (.inr rfl)
            · rcases List.mem_cons.mp hj with rfl | hj
              · exact absurd rfl ne
              · exact .inr ⟨j, hj, ⟨sv, by rw [List.getElem?_set_ne ne]; exact q1, q2⟩, q3⟩
      rw [eq] at ok2 st2
      exact ⟨ok2, st1.trans st2⟩
    · rename_i d e1
      obtain ⟨ok2, st2⟩ := freezeSl_ok ok e
      have eq : (fun b => F b ∨ ShA σ ρ is b) = fun b => F b ∨ ShA σ ρ (i :: is) b := by
        funext b
        refine propext ⟨fun h => ?_, fun h => ?_⟩
        · rcases h with h | ⟨j, hj, q⟩
          · exact .inl h
          · exact .inr ⟨j, List.mem_cons_of_mem _ hj, q⟩
        · rcases h with h | ⟨j, hj, ⟨sv, q1, q2⟩, q3⟩
          · exact .inl h
          · rcases List.mem_cons.mp hj with rfl | hj
            · rw [e1] at q1; cases q1; cases q2
            · exact .inr ⟨j, hj, ⟨sv, q1, q2⟩, q3⟩
      rw [eq] at ok2 st2
      exact ⟨ok2, st2⟩
    · cases e
/-- a frozen name is data from then on -/
theorem freezeSl_dat {ρ2 : Env'} : ∀ {sh : List Nat} {ρ : Env'}, freezeSl ρ sh = some ρ2 → (∀ i ∈ sh, ∃ d, ρ2[i]? = some (some (.dat d))) ∧ ∀ (i : Nat) (d : D), ρ[i]? = some (some (.dat d)) → ρ2[i]? = some (some (.dat d))
  | [], ρ, e => by cases e; exact ⟨fun _ h => (nomatch h), fun _ _ h => h⟩
  | i :: is, ρ, e => by
    unfold freezeSl at e
    split at e
    · rename_i d e1
      obtain ⟨h1, h2⟩ := freezeSl_dat e
      have hi : (ρ.set i (some (.dat d)))[i]? = some (some (.dat d)) := by rw [List.getElem?_set_self (get_lt e1)]
      refine ⟨fun j hj => ?_, fun j d' hj => ?_⟩
      · rcases List.mem_cons.mp hj with rfl | hj
        · exact ⟨d, h2 _ _ hi⟩
        · exact h1 j hj
      · refine h2 j d' ?_
        rw [List.getElem?_set_ne ?_]
        · exact hj
        · intro z; subst z; rw [e1] at hj; cases hj
    · rename_i d e1
      obtain ⟨h1, h2⟩ := freezeSl_dat e
      refine ⟨fun j hj => ?_, h2⟩
      rcases List.mem_cons.mp hj with rfl | hj
      · exact ⟨d, h2 _ _ e1⟩
      · exact h1 j hj
    · cases e
/-- other names stand -/
theorem freezeSl_other {ρ2 : Env'} : ∀ {sh : List Nat} {ρ : Env'} {i : Nat}, freezeSl ρ sh = some ρ2 → i ∉ sh → ρ2[i]? = ρ[i]?
  | [], ρ, i, e, _ => by cases e; rfl
  | k :: is, ρ, i, e, h => by
    have h1 : i ≠ k := fun z => h (z ▸ List.mem_cons_self)
    have h2 : i ∉ is := fun z => h (List.mem_cons_of_mem _ z)
    unfold freezeSl at e
    split at e
    · rw [freezeSl_other e h2, List.getElem?_set_ne (Ne.symm h1)]
    · exact freezeSl_other e h2
    · cases e

/-- the arguments that are read, as data, with the shared names frozen -/
theorem args_read (ok : EnvOk K fa H F σ ρ) : ∀ {xs : List V} {ps : List PV} {ds : List D} {G : AP'}, PVs K fa H F σ xs ps → conts ρ ps = some ds → (∀ a, F a → G a) → (∀ a, ShA σ ρ (sharedSl ρ ps) a → G a) → RepSs K fa H G xs (ds.map .dat)
  | _, _, _, _, .nil, e, _, _ => by cases e; exact .nil
  | x :: xs, p :: ps, _, G, .cons h r, e, hF, hS => by
    have st : Stays H F H G := ⟨fun _ _ h => h, fun _ _ _ h => h, hF⟩
    unfold conts at e
    split at e
    · rename_i d ds e1 e2
      cases e
      have tail : RepSs K fa H G xs (ds.map .dat) := args_read ok r e2 hF fun a ⟨i, hi, q⟩ => hS a ⟨i, by
        cases p with
        | dd d' => exact hi
        | sl j =>
          unfold sharedSl
          split
          · exact hi
          · exact List.mem_cons_of_mem _ hi, q⟩
      refine .cons ?_ tail
      cases p with
      | dd d' => cases e1; exact Rep.stays st h
      | sl i =>
        unfold cont at e1
        dsimp only at e1
        split at e1
        · rename_i sv hsv
          cases e1
          obtain ⟨v, q1, q2⟩ := ok.slot i sv hsv
          rw [show σ[i]? = some (some x) from h] at q1
          cases q1
          have own : ∀ d', sv.mine = true → (∃ a, x = .ref a ∧ ¬ F a ∧ OwnAt K fa H F a d') → Rep K fa H G x d' := fun d' m ⟨a, ea, nf, ow⟩ => by
            subst ea
            have ga : G a := hS a ⟨i, by
              unfold sharedSl
              split
              · rename_i d2 hd2; rw [hsv] at hd2; cases hd2; cases m
              · exact List.mem_cons_self, ⟨sv, hsv, m⟩, h⟩
            cases ow with
            | lst q r => exact .lst ga (.inl q) (r.stays st)
            | dK q r => exact .dK ga (.inl q) r.1 (r.2.stays st)
            | dT q r => exact .dT ga (.inl q) r.1 (r.2.stays st)
          cases sv with
          | dat d' => exact Rep.stays st q2
          | own d' => exact own d' rfl q2
          | bor d' => exact own d' rfl q2
        · cases e1
    · cases e
theorem flat_rep {v : V} {sv : SV} (h : RepS K fa H F v sv) (f : sv.d.flat = true) : ∀ H' F', Rep K fa H' F' v sv.d := by
  intro H' F'
  cases sv with
  | dat d =>
    cases (show Rep K fa H F v d from h) <;> first | exact .non | exact .bl _ | exact .int _ | exact .str _ | cases f
  | own d => obtain ⟨a, _, _, ow⟩ := h; cases ow <;> cases f
  | bor d => obtain ⟨a, _, _, ow⟩ := h; cases ow <;> cases f
/-- behind a call that had a thing of ours on loan -/
theorem EnvOk.lent {i : Nat} {sv sw : SV} {a : Addr} {d : D} {O : AP'} (ok : EnvOk K fa H F σ ρ) (e : ρ[i]? = some (some sv)) (m : sv.mine = true) (es : σ[i]? = some (some (.ref a)))
    (hs : (sv.lent = false ∧ sw = .own d) ∨ (sv.lent = true ∧ sw = .bor d)) (hO : ∀ b, O b → b = a) (st : Step H F O O H' F' O O) (fd : ∀ b, F' b → H' b ≠ none) (nf : ¬ F' a) (hw : OwnAt K fa H' F' a d) :
    EnvOk K fa H' F' σ (ρ.set i (some sw)) ∧ StepE H F σ ρ H' F' σ (ρ.set i (some sw)) ∧ ∀ b, Own σ (ρ.set i (some sw)) b → Own σ ρ b := by
  have oa : Own σ ρ a := ⟨i, sv, e, m, es⟩
  have hi := get_lt e
  have mw : sw.mine = true := by rcases hs with ⟨_, rfl⟩ | ⟨_, rfl⟩ <;> rfl
  have lw : sw.lent = sv.lent := by rcases hs with ⟨h, rfl⟩ | ⟨h, rfl⟩ <;> rw [h] <;> rfl
  have own' : ∀ b, Own σ (ρ.set i (some sw)) b → Own σ ρ b := fun b ⟨j, sz, h1, h2, h3⟩ => by
    rcases set_get h1 with ⟨rfl, g⟩ | ⟨ne, g⟩
    · exact ⟨i, sv, e, m, h3⟩
    · exact ⟨j, sz, g, h2, h3⟩
  have fnew : ∀ b, F' b → F b ∨ H b = none := fun b h => by
    rcases st.fnew b h with h | h | ⟨h, n⟩
    · exact .inl h
    · exact .inr h
    · exact absurd h n
  have sta : Stays H F H' F' := by
    refine ⟨fun b xs h => ?_, fun b u f h => ?_, st.fmono⟩
    · have ne : b ≠ a := by
        intro z; subst z
        obtain ⟨o0, ho0, nt, _⟩ := ok.own_at oa
        rw [ho0] at h; exact nt _ (Option.some.inj h)
      exact st.keep _ _ h fun z => ne (hO b z)
    · have ne : b ≠ a := by intro z; subst z; exact ok.own_nf oa f
      rcases h with h | ⟨o, h⟩
      · exact .inl (st.keep _ _ h fun z => ne (hO b z))
      · exact .inr ⟨o, st.keep _ _ h fun z => ne (hO b z)⟩
  refine ⟨⟨by rw [List.length_set]; exact ok.len, fun j sz h => ?_, fun j k sz sy b h1 h2 m1 m2 s1 s2 => ?_, fd⟩, ⟨fun b u h no => ?_, st.fmono, fun b h => ?_, fun b h => .inl (own' b h), fun b => ?_, st.dom⟩, own'⟩
  · rcases set_get h with ⟨rfl, g⟩ | ⟨ne, g⟩
    · cases g
      refine ⟨_, es, ?_⟩
      rcases hs with ⟨_, rfl⟩ | ⟨_, rfl⟩ <;> exact ⟨a, rfl, nf, hw⟩
    · obtain ⟨w, q1, q2⟩ := ok.slot j sz g
      refine ⟨w, q1, ?_⟩
      have far : ∀ c d', w = .ref c → sz.mine = true → ¬ F c → OwnAt K fa H F c d' → ¬ F' c ∧ OwnAt K fa H' F' c d' := fun c d' ew mz nc q => by
        have nca : c ≠ a := by
          intro z; subst z ew
          exact ne (ok.apart i j _ _ c e g m mz es q1)
        obtain ⟨o, ho, _⟩ := q.some
        refine ⟨fun z => ?_, q.stays ((st.keep c o ho fun z => nca (hO c z)).trans ho.symm) sta⟩
        rcases fnew c z with z | z
        · exact nc z
        · rw [ho] at z; cases z
      cases sz with
      | dat d' => exact Rep.stays sta q2
      | own d' => obtain ⟨c, ew, nc, q⟩ := q2; exact ⟨c, ew, far c d' ew rfl nc q⟩
      | bor d' => obtain ⟨c, ew, nc, q⟩ := q2; exact ⟨c, ew, far c d' ew rfl nc q⟩
  · have low : ∀ (j : Nat) (sz : SV), (ρ.set i (some sw))[j]? = some (some sz) → sz.mine = true → ∃ sz' : SV, ρ[j]? = some (some sz') ∧ sz'.mine = true := fun j sz h mz => by
      rcases set_get h with ⟨rfl, g⟩ | ⟨ne, g⟩
      · exact ⟨sv, e, m⟩
      · exact ⟨sz, g, mz⟩
    obtain ⟨z1, g1, n1⟩ := low j sz h1 m1
    obtain ⟨z2, g2, n2⟩ := low k sy h2 m2
    exact ok.apart j k z1 z2 b g1 g2 n1 n2 s1 s2
  · exact st.keep b u h fun z => by rw [hO b z] at no; exact no oa
  · exact (fnew b h).elim .inl fun z => .inr (.inl z)
  · constructor
    · rintro ⟨j, sz, h1, h2, h3⟩
      rcases set_get h1 with ⟨rfl, g⟩ | ⟨ne, g⟩
      · cases g
        exact ⟨i, sv, e, by rw [← lw]; exact h2, h3⟩
      · exact ⟨j, sz, g, h2, h3⟩
    · rintro ⟨j, sz, h1, h2, h3⟩
      by_cases ne : i = j
      · subst ne
        rw [e] at h1; cases h1
        exact ⟨i, sw, by rw [List.getElem?_set_self hi], by rw [lw]; exact h2, h3⟩
      · exact ⟨j, sz, by rw [List.getElem?_set_ne ne]; exact h1, h2, h3⟩
theorem datArgs : ∀ ds : List D, ArgsOk (ds.map SV.dat) ∧ (∀ vs a, ¬ lentA vs (ds.map SV.dat) a)
  | [] => ⟨trivial, (fun vs a h => by cases vs <;> exact h)⟩
  | d :: ds => ⟨⟨(fun _ z => nomatch z), (fun t ht => by obtain ⟨e, _, rfl⟩ := List.mem_map.mp ht; exact ⟨e, rfl⟩)⟩, (fun vs a h => by cases vs <;> exact h)⟩
theorem back_dat {vs : List V} {ds : List D} {b : Option D} (h : b = none) : Back K fa vs (ds.map SV.dat) b H F := by
  subst h
  cases ds <;> cases vs <;> trivial
end
end DL

namespace DL
open PySem PySem.Spec PyProof.Rows L2

section
variable {K : PySem.W.Frag} {Z : Fix} {H : Hp} {F : AP'} {σ : L2.St} {ρ : Env'} {cf : Cf} {j : Nat}
theorem shA_fd {sh : List Nat} (ok : EnvOk K Z.fa H F σ ρ) : ∀ a, (F a ∨ ShA σ ρ sh a) → H a ≠ none := fun a h => h.elim (ok.fd a) fun h => by
  obtain ⟨o, ho, _⟩ := ok.own_at (shA_own h)
  rw [ho]; exact fun z => nomatch z
theorem lentOf_ok {ps rest : List PV} {i : Nat} {d : D} (h : lentOf ρ ps = some (i, d, rest)) : ps = .sl i :: rest ∧ ∃ sv : SV, ρ[i]? = some (some sv) ∧ sv.mine = true ∧ sv.d = d := by
  unfold lentOf at h
  split at h
  · split at h
    · rename_i e; cases h; exact ⟨rfl, _, e, rfl, rfl⟩
    · rename_i e; cases h; exact ⟨rfl, _, e, rfl, rfl⟩
    · cases h
  · cases h
theorem putBack_ok {ρ2 : Env'} {i : Nat} {d : D} (h : putBack ρ i d = some ρ2) : ∃ sv sw : SV, ρ[i]? = some (some sv) ∧ sv.mine = true ∧ ρ2 = ρ.set i (some sw) ∧ ((sv.lent = false ∧ sw = .own d) ∨ (sv.lent = true ∧ sw = .bor d)) := by
  unfold putBack at h
  split at h
  · rename_i e; cases h; exact ⟨_, _, e, rfl, rfl, .inl ⟨rfl, rfl⟩⟩
  · rename_i e; cases h; exact ⟨_, _, e, rfl, rfl, .inr ⟨rfl, rfl⟩⟩
  · cases h
theorem RepS.mineAt {v : V} {sv : SV} (h : RepS K Z.fa H F v sv) (m : sv.mine = true) : ∃ a, v = .ref a ∧ ¬ F a ∧ OwnAt K Z.fa H F a sv.d := by
  cases sv with
  | dat _ => cases m
  | own d => exact h
  | bor d => exact h
theorem grow_of {G F' : AP'} {H' : Hp} {vs : List V} {ds : List D} (st : Step H G (lentA vs (ds.map .dat)) (lentA vs (ds.map .dat)) H' F' (lentA vs (ds.map .dat)) (lentA vs (ds.map .dat))) (fd : ∀ a, F' a → H' a ≠ none) : Grow H G H' F' :=
  ⟨fun a o h => st.keep a o h ((datArgs ds).2 vs a), st.fmono, fun a h => by
    rcases st.fnew a h with h | h | h
    · exact .inl h
    · exact .inr h
    · exact absurd h.1 ((datArgs ds).2 vs a), fd⟩
theorem call_sp {vs : List V} {ps : List PV} {Q : VK} (r : PVs K Z.fa H F σ vs ps) (ok : EnvOk K Z.fa H F σ ρ) (h : PostG K Z (RSV K Z) σ H F ρ (callR cf j ps ρ) Q) : spF K Z.fa Z.EX (cf.run j) vs H Q (WE Z.W σ) := by
  unfold callR at h
  split at h
  · split at h
    · exact h.elim
    · rename_i i d rest e1
      obtain ⟨rfl, sv0, e2, m0, rfl⟩ := lentOf_ok e1
      cases r with
      | cons r0 rr =>
        rename_i v0 vs0
        have r0' : σ[i]? = some (some v0) := r0
        obtain ⟨w, q1, q2⟩ := ok.slot i sv0 e2
        rw [r0'] at q1; cases q1
        obtain ⟨a, rfl, nf, ow⟩ := q2.mineAt m0
        split at h
        · rename_i ds ρ1 e3 e4
          obtain ⟨ok1, st1⟩ := freezeSl_ok ok e4
          have sta : Stays H F H (fun b => F b ∨ ShA σ ρ (sharedSl ρ rest) b) := ⟨fun _ _ h => h, fun _ _ _ h => h, fun _ h => .inl h⟩
          have rest' := args_read ok rr e3 (G := fun b => F b ∨ ShA σ ρ (sharedSl ρ rest) b) (fun _ h => .inl h) (fun _ h => .inr h)
          have key : ∀ {d' : D} {ρ2 : Env'}, putBack ρ1 i d' = some ρ2 → ¬ (F a ∨ ShA σ ρ (sharedSl ρ rest) a) ∧ ∀ {H' : Hp} {F' : AP'}, Step H (fun b => F b ∨ ShA σ ρ (sharedSl ρ rest) b) (fun b => V.ref a = .ref b) (fun b => V.ref a = .ref b) H' F' (fun b => V.ref a = .ref b) (fun b => V.ref a = .ref b) → (∀ b, F' b → H' b ≠ none) → ¬ F' a → OwnAt K Z.fa H' F' a d' →
              EnvOk K Z.fa H' F' σ ρ2 ∧ StepE H F σ ρ H' F' σ ρ2 ∧ ∀ b, Own σ ρ2 b → H b ≠ none := by
            intro d' ρ2 e5
            obtain ⟨sv, sw, f1, f2, rfl, f4⟩ := putBack_ok e5
            refine ⟨ok1.own_nf ⟨i, sv, f1, f2, r0'⟩, fun st fd nf' hw => ?_⟩
            obtain ⟨g1, g2, g3⟩ := ok1.lent f1 f2 r0' f4 (O := fun b => V.ref a = .ref b) (fun b z => by cases z; rfl) st fd nf' hw
            refine ⟨g1, st1.trans g2, fun b hb => ?_⟩
            obtain ⟨o, ho, _⟩ := ok1.own_at (g3 b hb)
            rw [ho]; exact fun z => nomatch z
          have fd1 := ok1.fd
          split at h
          · rename_i sv d' hr
            split at h
            · rename_i ρ2 e5
              obtain ⟨nG, fin⟩ := key e5
              refine ⟨_, .bor sv0.d :: ds.map .dat, fd1, .cons ⟨a, rfl, nG, ow.stays rfl sta⟩ rest', ⟨(fun _ z => nomatch z), (fun t ht => by obtain ⟨e, _, rfl⟩ := List.mem_map.mp ht; exact ⟨e, rfl⟩)⟩, ?_⟩
              rw [hr]
              intro v H' F' st fd rep mine back
              obtain ⟨b, eb, nb, owb⟩ := back
              cases eb
              obtain ⟨g1, g2, g3⟩ := fin st fd nb owb
              refine h v H' F' g2 g1 ⟨rep, ?_⟩
              cases sv with
              | dat _ => trivial
              | own dd =>
                obtain ⟨d2, a2, e6, e7, e8⟩ := mine rfl
                exact ⟨a2, e7, e8, fun z => g3 a2 z e8⟩
              | bor dd =>
                obtain ⟨d2, a2, e6, e7, e8⟩ := mine rfl
                cases e6
            · exact h.elim
          · rename_i x d' hr
            split at h
            · rename_i ρ2 e5
              obtain ⟨nG, fin⟩ := key e5
              refine ⟨_, .bor sv0.d :: ds.map .dat, fd1, .cons ⟨a, rfl, nG, ow.stays rfl sta⟩ rest', ⟨(fun _ z => nomatch z), (fun t ht => by obtain ⟨e, _, rfl⟩ := List.mem_map.mp ht; exact ⟨e, rfl⟩)⟩, ?_⟩
              rw [hr]
              intro cls dd H' F' st fd back hx
              obtain ⟨b, eb, nb, owb⟩ := back
              cases eb
              obtain ⟨g1, g2, g3⟩ := fin st fd nb owb
              exact h cls dd H' F' g2 g1 hx
            · exact h.elim
          · exact h.elim
        · exact h.elim
  · split at h
    · exact h.elim
    · rename_i ds e3
      have rest' := args_read ok r e3 (G := fun b => F b ∨ ShA σ ρ (sharedSl ρ ps) b) (fun _ h => .inl h) (fun _ h => .inr h)
      have fd1 := shA_fd (sh := sharedSl ρ ps) ok
      split at h
      · rename_i sv hr
        refine ⟨_, ds.map .dat, fd1, rest', (datArgs ds).1, ?_⟩
        rw [hr]
        intro v H' F' st fd rep mine back
        have gr := grow_of st fd
        split at h
        · rename_i fl
          have g2 : Grow H F H' F := ⟨gr.keep, fun _ h => h, fun _ h => .inl h, fun b hb hn => ok.fd b hb (gr.dom b hn)⟩
          exact h v H' F g2.step (ok.grow g2) ⟨flat_rep rep fl H' F, trivial⟩
        · split at h
          · rename_i ρ2 e4
            obtain ⟨ok1, st1⟩ := freezeSl_ok ok e4
            refine h v H' F' (st1.trans gr.step) (ok1.grow gr) ⟨rep, ?_⟩
            cases sv with
            | dat _ => trivial
            | own dd =>
              obtain ⟨d2, a2, e6, e7, e8⟩ := mine rfl
              refine ⟨a2, e7, e8, fun z => ?_⟩
              obtain ⟨o, ho, _⟩ := ok1.own_at z
              rw [e8] at ho; cases ho
            | bor dd =>
              obtain ⟨d2, a2, e6, e7, e8⟩ := mine rfl
              cases e6
          · exact h.elim
      · rename_i x hr
        refine ⟨_, ds.map .dat, fd1, rest', (datArgs ds).1, ?_⟩
        rw [hr]
        intro cls dd H' F' st fd back hx
        have gr := grow_of st fd
        split at h
        · rename_i ρ2 e4
          obtain ⟨ok1, st1⟩ := freezeSl_ok ok e4
          exact h cls dd H' F' (st1.trans gr.step) (ok1.grow gr) hx
        · exact h.elim
      · exact h.elim
end
section
variable {X : Cx} {Z : Fix} {e : Expr} {es : List Expr} {pos p : Pos} {cf : Cf} {j k : Nat} {f : Addr} {fd : FuncData} {ps : List Str} {x : Str} {g : Env' → Res (List PV)}
theorem pd_call (F : FnOk X.prog X.w X.K X.mg X.base (CX X.prog X.w) k f fd ps (spF X.K Z.fa Z.EX (cf.run j))) (tk : Takes X Z.W) (hr : Room k X.A) (hg : Gl X x) (hm : X.mg x = some (.ref f)) (hk : PySem.W.keepIn X.K (.ref f) = true) (hb : Binds X.K fd ps [])
    (ha : PAd X Z (e :: es) g) (hdb : (x == ("__debug__" : Str)) = false) (he : starEach (e :: es) X.env = (false, eval e X.env) :: starEach es X.env) (hpl : (backTo pos (starEach es X.env)).any (·.1) = false) :
    PEd X Z (.Call (.Name x p) (e :: es) [] pos) (fun ρ => (g ρ).bind fun ps ρ1 => callR cf j ps ρ1) := by
  refine PE.weak (pe_callSD (dvs := []) (E := WE Z.W) F hr hg hm hk hb .nil (fun σ => passAt tk σ) ha hdb he hpl) ?_
  rintro σ H Q ⟨F, ρ, ok, h⟩
  refine ⟨F, ρ, ok, (PostG.bind late_RSV h).imp ?_⟩
  rintro vs H1 ⟨pv, F1, ρ1, ok1, st1, r1, h1⟩
  rw [List.append_nil]
  exact call_sp r1 ok1 h1
theorem pd_call0 (F : FnOk X.prog X.w X.K X.mg X.base (CX X.prog X.w) k f fd ps (spF X.K Z.fa Z.EX (cf.run j))) (tk : Takes X Z.W) (hr : Room k X.A) (hg : Gl X x) (hm : X.mg x = some (.ref f)) (hk : PySem.W.keepIn X.K (.ref f) = true) (hb : Binds X.K fd ps [])
    (hdb : (x == ("__debug__" : Str)) = false) :
    PEd X Z (.Call (.Name x p) [] [] pos) (fun ρ => callR cf j [] ρ) := by
  refine ⟨fun pins s σ H Q I h => ?_⟩
  obtain ⟨F', ρ, ok, h⟩ := h
  refine wpAny_Call_Name_kw (ld_glob I hg hm ?_ hdb)
  refine PySem.W.callWith_K0 I.kIn hk (run_fnSD (us := []) (dvs := []) (E := WE Z.W) F hr hb .nil (passAt tk σ) I .nil ?_)
  exact call_sp (ps := []) .nil ok h
end
end DL

namespace DL
open PySem PySem.Spec PyProof.Rows L2

theorem Stays.refl {H : Hp} {F : AP'} : Stays H F H F := ⟨fun _ _ h => h, fun _ _ _ h => h, fun _ h => h⟩
theorem Stays.trans {H H1 H2 : Hp} {F F1 F2 : AP'} (a : Stays H F H1 F1) (b : Stays H1 F1 H2 F2) : Stays H F H2 F2 :=
  ⟨fun x u h => b.tup x u (a.tup x u h), fun x u f h => b.rd x u (a.fr x f) (a.rd x u f h), fun x h => b.fr x (a.fr x h)⟩

/-! ### what is walked -/
structure WalkD (K : PySem.W.Frag) (fa : Nat → Option Addr) (J : L2.It) (items : List D) (H0 : Hp) (F0 : AP') : Prop where
  goes : ∀ i H F, Stays H0 F0 H F → i < items.length → J.go i H
  stops : ∀ i H F, Stays H0 F0 H F → items.length ≤ i → J.stop i H
  yields : ∀ i H F x H', Stays H0 F0 H F → (∀ a, F a → H a ≠ none) → i < items.length → J.yld i H x H' → ∃ d, items[i]? = some d ∧ Made K fa H F (.dat d) x H'
def RW (K : PySem.W.Frag) (Z : Fix) : Hp → List D → L2.It → Hp → AP' → L2.St → Env' → Prop := fun _ ds J H F _ _ => WalkD K Z.fa J ds H F
theorem late_RW {K : PySem.W.Frag} {Z : Fix} : Late (RW K Z) := fun _ _ _ _ _ _ _ _ _ h => h
abbrev PId (X : Cx) (Z : Fix) (tg e : Expr) (f : Env' → Res (List D)) : Prop := PI X tg e (tD X Z (RW X.K Z) f)
section
variable {K : PySem.W.Frag} {fa : Nat → Option Addr} {H : Hp} {F : AP'}
theorem get_of {α : Type} {l : List α} {i : Nat} (h : i < l.length) : l[i]? = some l[i] := List.getElem?_eq_getElem h
theorem walkD_lst {a : Addr} {xs : List V} {ds : List D} (f : F a) (h : Rd H a (.lst xs)) (r : RepL K fa H F xs ds) : WalkD K fa (Itl K a) ds H F where
  goes := fun i H' F' s hi => ⟨xs, xs[i]'(by rw [r.length]; exact hi), .inl (s.rd _ _ f h), get_of _⟩
  stops := fun i H' F' s hi => ⟨xs, .inl (s.rd _ _ f h), by rw [r.length]; exact hi⟩
  yields := fun i H' F' x H2 s fd hi y => by
    obtain ⟨rfl, y⟩ := y
    obtain ⟨d, h1, h2⟩ := (RepL.stays s r).get' (y xs (.inl (s.rd _ _ f h)))
    exact ⟨d, h1, made_dat fd h2⟩
theorem walkD_tup {a : Addr} {xs : List V} {ds : List D} (h : ∀ H' F', Stays H F H' F' → SqT K H' a xs) (r : RepL K fa H F xs ds) : WalkD K fa (Itt K a) ds H F where
  goes := fun i H' F' s hi => ⟨xs, xs[i]'(by rw [r.length]; exact hi), h _ _ s, get_of _⟩
  stops := fun i H' F' s hi => ⟨xs, h _ _ s, by rw [r.length]; exact hi⟩
  yields := fun i H' F' x H2 s fd hi y => by
    obtain ⟨rfl, y⟩ := y
    obtain ⟨d, h1, h2⟩ := (RepL.stays s r).get' (y xs (h _ _ s))
    exact ⟨d, h1, made_dat fd h2⟩
theorem rangeD_get {lo : Int} {n i : Nat} (h : i < n) : (rangeD lo n)[i]? = some (.int (lo + (i : Nat))) := by
  unfold rangeD
  rw [List.getElem?_map, List.getElem?_range h]; rfl
theorem rangeD_len {lo : Int} {n : Nat} : (rangeD lo n).length = n := by unfold rangeD; simp
theorem walkD_rng {lo : Int} {n : Nat} : WalkD K fa (Itr lo n) (rangeD lo n) H F where
  goes := fun i H' F' s hi => by rw [rangeD_len] at hi; exact hi
  stops := fun i H' F' s hi => by rw [rangeD_len] at hi; exact hi
  yields := fun i H' F' x H2 s fd hi y => by
    obtain ⟨rfl, rfl⟩ := y
    rw [rangeD_len] at hi
    exact ⟨_, rangeD_get hi, made_dat fd (.int _)⟩
theorem enumD_get : ∀ {ds : List D} {n i : Nat} {d : D}, ds[i]? = some d → (enumD n ds)[i]? = some (.tup [.int ((n + i : Nat)), d])
  | [], _, _, _, h => by simp at h
  | a :: as, n, 0, d, h => by simp at h; subst h; rfl
  | a :: as, n, i + 1, d, h => by
    have := enumD_get (ds := as) (n := n + 1) (i := i) (by simpa using h)
    rw [enumD, List.getElem?_cons_succ, this, show n + 1 + i = n + (i + 1) by omega]
theorem enumD_len : ∀ {ds : List D} {n : Nat}, (enumD n ds).length = ds.length
  | [], _ => rfl
  | a :: as, n => by rw [enumD, List.length_cons, List.length_cons, enumD_len]
theorem made_pair {T : Addr} {x y : V} {d e : D} (fd : ∀ a, F a → H a ≠ none) (hT : H T = none) (h1 : Rep K fa H F x d) (h2 : Rep K fa H F y e) : Made K fa H F (.dat (.tup [d, e])) (.ref T) (upd H T (.tup [x, y])) :=
  made_tup fd hT (.cons h1 (.cons h2 .nil))
theorem walkD_enum {a : Addr} {xs : List V} {ds : List D} (f : F a) (h : Rd H a (.lst xs)) (r : RepL K fa H F xs ds) : WalkD K fa (Ite K a) (enumD 0 ds) H F where
  goes := fun i H' F' s hi => ⟨xs, xs[i]'(by rw [r.length]; rw [enumD_len] at hi; exact hi), .inl (s.rd _ _ f h), get_of _⟩
  stops := fun i H' F' s hi => ⟨xs, .inl (s.rd _ _ f h), by rw [r.length]; rw [enumD_len] at hi; exact hi⟩
  yields := fun i H' F' x H2 s fd hi y => by
    obtain ⟨T, v, rfl, hT, rfl, y⟩ := y
    obtain ⟨d, h1, h2⟩ := (RepL.stays s r).get' (y xs (.inl (s.rd _ _ f h)))
    refine ⟨.tup [.int ((i : Nat)), d], by have := enumD_get (n := 0) h1; rwa [Nat.zero_add] at this, made_pair fd hT (.int _) h2⟩
theorem zipD_get : ∀ {ds es : List D} {i : Nat} {d e : D}, ds[i]? = some d → es[i]? = some e → (zipD ds es)[i]? = some (.tup [d, e])
  | [], _, _, _, _, h, _ => by simp at h
  | _ :: _, [], _, _, _, _, h => by simp at h
  | a :: as, b :: bs, 0, d, e, h, g => by simp at h g; subst h g; rfl
  | a :: as, b :: bs, i + 1, d, e, h, g => by
    rw [zipD, List.getElem?_cons_succ]
    exact zipD_get (by simpa using h) (by simpa using g)
theorem zipD_len : ∀ {ds es : List D}, (zipD ds es).length = min ds.length es.length
  | [], _ => by simp [zipD]
  | _ :: _, [] => by simp [zipD]
  | a :: as, b :: bs => by rw [zipD, List.length_cons, zipD_len, List.length_cons, List.length_cons]; omega
theorem walkD_zip {a b : Addr} {xs ys : List V} {ds es : List D} (h : ∀ H' F', Stays H F H' F' → SqL K H' a xs) (g : ∀ H' F', Stays H F H' F' → SqL K H' b ys) (r : RepL K fa H F xs ds) (q : RepL K fa H F ys es) : WalkD K fa (Itz K a b) (zipD ds es) H F where
  goes := fun i H' F' s hi => by
    rw [zipD_len, ← r.length, ← q.length] at hi
    exact ⟨xs, ys, xs[i]'(by omega), ys[i]'(by omega), h _ _ s, g _ _ s, get_of _, get_of _⟩
  stops := fun i H' F' s hi => ⟨xs, ys, h _ _ s, g _ _ s, by rw [zipD_len, ← r.length, ← q.length] at hi; omega⟩
  yields := fun i H' F' x H2 s fd hi y => by
    obtain ⟨T, v, w, rfl, hT, rfl, y, z⟩ := y
    obtain ⟨d, h1, h2⟩ := (RepL.stays s r).get' (y xs (h _ _ s))
    obtain ⟨e, g1, g2⟩ := (RepL.stays s q).get' (z ys (g _ _ s))
    exact ⟨_, zipD_get h1 g1, made_pair fd hT h2 g2⟩
theorem walkD_zipT {a b : Addr} {xs ys : List V} {ds es : List D} (h : ∀ H' F', Stays H F H' F' → SqT K H' a xs) (g : ∀ H' F', Stays H F H' F' → SqT K H' b ys) (r : RepL K fa H F xs ds) (q : RepL K fa H F ys es) : WalkD K fa (RZ.ItzT K a b) (zipD ds es) H F where
  goes := fun i H' F' s hi => by
    rw [zipD_len, ← r.length, ← q.length] at hi
    exact ⟨xs, ys, xs[i]'(by omega), ys[i]'(by omega), h _ _ s, g _ _ s, get_of _, get_of _⟩
  stops := fun i H' F' s hi => ⟨xs, ys, h _ _ s, g _ _ s, by rw [zipD_len, ← r.length, ← q.length] at hi; omega⟩
  yields := fun i H' F' x H2 s fd hi y => by
    obtain ⟨T, v, w, rfl, hT, rfl, y, z⟩ := y
    obtain ⟨d, h1, h2⟩ := (RepL.stays s r).get' (y xs (h _ _ s))
    obtain ⟨e, g1, g2⟩ := (RepL.stays s q).get' (z ys (g _ _ s))
    exact ⟨_, zipD_get h1 g1, made_pair fd hT h2 g2⟩
/-- a frozen tuple's items, whatever comes -/
theorem Rep.tupAt {v : V} {d : D} {ds : List D} (r : Rep K fa H F v d) (e : d = .tup ds ∨ d = .ktup ds) : ∃ a xs, v = .ref a ∧ (∀ H' F', Stays H F H' F' → SqT K H' a xs) ∧ RepL K fa H F xs ds := by
  rcases e with rfl | rfl
  · cases r with
    | tup h q => exact ⟨_, _, rfl, fun H' F' s => .inl (.inl (s.tup _ _ h)), q⟩
  · cases r with
    | ktup h q => exact ⟨_, _, rfl, fun H' F' s => h.sq, q⟩
theorem Rep.lstAt {v : V} {ds : List D} (r : Rep K fa H F v (.lst ds)) : ∃ a xs, v = .ref a ∧ F a ∧ Rd H a (.lst xs) ∧ RepL K fa H F xs ds := by
  cases r with
  | lst f h q => exact ⟨_, _, rfl, f, h, q⟩
end
section
variable {X : Cx} {Z : Fix} {tg a b e : Expr} {pos p : Pos}
theorem PI.weak {wi wi' : TI} (h : PI X tg e wi) (w : ∀ σ H R, wi' σ H R → wi σ H R) : PI X tg e wi' := ⟨fun pins s σ H R I hq => h.run pins s σ H R I (w σ H R hq)⟩
theorem PostG.bindF' {K : PySem.W.Frag} {Z : Fix} {α' β' : Type} {R' : Hp → α' → β' → Hp → AP' → L2.St → Env' → Prop} {σ : L2.St} {H0 : Hp} {F0 : AP'} {ρ0 : Env'} {f : Res SV} {g : SV → Env' → Res α'} {Q : β' → Hp → Prop} (l : Late R') (h : PostG K Z R' σ H0 F0 ρ0 (f.bind g) Q) :
    PostG K Z (RSV K Z) σ H0 F0 ρ0 f (fun v H1 => ∃ sv F1 ρ1, f = .ok sv ρ1 ∧ EnvOk K Z.fa H1 F1 σ ρ1 ∧ StepE H0 F0 σ ρ0 H1 F1 σ ρ1 ∧ Rep K Z.fa H1 F1 v sv.d ∧ PostG K Z R' σ H1 F1 ρ1 (g sv ρ1) Q) := by
  cases f with
  | ok sv ρ' =>
    intro v H' F' s ok r
    obtain ⟨F1, ok1, rep, m1, m2⟩ := ResOk.freeze ok r
    exact ⟨sv, F1, ρ', rfl, ok1, s.more m1 m2, rep, PostG.after l (s.more m1 m2) h⟩
  | exc x ρ' => exact h
  | stuck => exact h
theorem pid_seq {l : Expr} {f : Env' → Res SV} (hl : PEd X Z l f) : PId X Z tg l (fun ρ => (f ρ).bind fun sv ρ1 => lift sv.d.seq? ρ1) := by
  refine ⟨fun pins s σ H R I h => ?_⟩
  obtain ⟨F, ρ, ok, h⟩ := h
  have h2 := PostG.bindF' late_RW h
  have tupC : (∀ sv ρ1, f ρ = .ok sv ρ1 → ∀ ds, sv.d ≠ .lst ds) → wpAny (model X.prog X.w) X.A (eval l X.env) (fun v s1 => wpAny (model X.prog X.w) X.A (pyIter v) (PIE X pins σ tg R) X.xe s1) X.xe s := fun hc => by
    refine (pi_tup hl).run pins s σ H R I ⟨F, ρ, ok, h2.imp ?_⟩
    rintro v H1 ⟨sv, F1, ρ1, e, ok1, st, r, h1⟩
    unfold lift at h1
    split at h1
    · rename_i ds e2
      have : sv.d = .tup ds ∨ sv.d = .ktup ds := by
        have := hc sv ρ1 e
        cases hd : sv.d <;> rw [hd] at e2 <;> first | (cases e2; exact .inl rfl) | (cases e2; exact .inr rfl) | (cases e2; exact absurd hd (this _)) | cases e2
      obtain ⟨a, xs, rfl, sq, rl⟩ := r.tupAt this
      exact ⟨a, rfl, ⟨xs, sq _ _ Stays.refl⟩, h1 _ H1 F1 Step.refl ok1 (walkD_tup sq rl)⟩
    · exact h1.elim
  by_cases hc : ∃ sv ρ1 ds, f ρ = .ok sv ρ1 ∧ sv.d = .lst ds
  · obtain ⟨sv0, ρ10, ds, e0, ed⟩ := hc
    refine (pi_list hl).run pins s σ H R I ⟨F, ρ, ok, h2.imp ?_⟩
    rintro v H1 ⟨sv, F1, ρ1, e, ok1, st, r, h1⟩
    rw [e0] at e
    cases e
    rw [ed] at r h1
    obtain ⟨a, xs, rfl, fa, rd, rl⟩ := r.lstAt
    exact ⟨a, rfl, ⟨xs, .inl rd⟩, h1 _ H1 F1 Step.refl ok1 (walkD_lst fa rd rl)⟩
  · exact tupC fun sv ρ1 e ds ed => hc ⟨sv, ρ1, ds, e, ed⟩
theorem Rep.intAt {K : PySem.W.Frag} {fa : Nat → Option Addr} {H : Hp} {F : AP'} {v : V} {j : Int} (r : Rep K fa H F v (.int j)) : v = .int j := by cases r; rfl
theorem small_iff {j : Int} (h : small62 j = true) : -(2 ^ 62) ≤ j ∧ j < 2 ^ 62 := by
  unfold small62 at h
  simpa using h
theorem pid_rng {f : Env' → Res SV} (hg : Gl X "range") (hm : X.mg "range" = none) (ha : PEd X Z a f) (hs : starEach [a] X.env = (false, eval a X.env) :: starEach [] X.env) : PId X Z tg (.Call (.Name "range" p) [a] [] pos) (fun ρ => (f ρ).bind fun sv ρ1 => (match sv.d with
    | .int j => if small62 j = true then .ok (rangeD 0 j.toNat) ρ1 else .stuck
    | _ => .stuck)) := by
  refine PI.weak (pi_range1 hg hm (pa_cons ha pa_nil hs) (by rw [hs]; rfl)) ?_
  rintro σ H R ⟨F, ρ, ok, h⟩
  refine ⟨F, ρ, ok, (PostG.bindF late_RW h).imp ?_⟩
  rintro v H1 ⟨sv, F1, ρ1, ok1, st, r, h1⟩
  split at h1
  · rename_i j e1
    rw [e1] at r
    cases r
    split at h1
    · rename_i e2
      exact ⟨j, rfl, (small_iff e2).1, (small_iff e2).2, h1 _ H1 F1 Step.refl ok1 walkD_rng⟩
    · exact h1.elim
  · exact h1.elim
theorem pid_rng2 {f g : Env' → Res SV} (hg : Gl X "range") (hm : X.mg "range" = none) (ha : PEd X Z a f) (hb : PEd X Z b g) (hs : starEach [a, b] X.env = (false, eval a X.env) :: starEach [b] X.env) (hs2 : starEach [b] X.env = (false, eval b X.env) :: starEach [] X.env) :
    PId X Z tg (.Call (.Name "range" p) [a, b] [] pos) (fun ρ => (f ρ).bind fun sv ρ1 => (g ρ1).bind fun sw ρ2 => (match sv.d, sw.d with
    | .int i, .int j => if (small62 i && small62 j) = true then .ok (rangeD i (j - i).toNat) ρ2 else .stuck
    | _, _ => .stuck)) := by
  refine PI.weak (pi_range2 hg hm (pa_cons ha (pa_cons hb pa_nil hs2) hs) (by rw [hs, hs2]; rfl) (by rw [hs2]; rfl)) ?_
  rintro σ H R ⟨F, ρ, ok, h⟩
  refine ⟨F, ρ, ok, (PostG.bindF late_RW h).imp ?_⟩
  rintro v H1 ⟨sv, F1, ρ1, ok1, st, r, h1⟩
  refine ⟨F1, ρ1, ok1, (PostG.bindF late_RW h1).imp ?_⟩
  rintro w H2 ⟨sw, F2, ρ2, ok2, st2, r2, h2⟩
  split at h2
  · rename_i i j e1 e2
    rw [e1] at r
    rw [e2] at r2
    cases r
    cases r2
    split at h2
    · rename_i e3
      have e3' := Bool.and_eq_true_iff.mp e3
      exact ⟨i, j, rfl, ⟨(small_iff e3'.1).1, (small_iff e3'.1).2, (small_iff e3'.2).1, (small_iff e3'.2).2⟩, h2 _ H2 F2 Step.refl ok2 walkD_rng⟩
    · exact h2.elim
  · exact h2.elim
theorem pid_enum {elts : List Expr} {kk : Nat} {tpos : Pos} {f : Env' → Res SV} (hg : Gl X "enumerate") (hm : X.mg "enumerate" = none) (ha : PEd X Z a f) (hs : starEach [a] X.env = (false, eval a X.env) :: starEach [] X.env) :
    PId X Z (.Tuple elts kk tpos) (.Call (.Name "enumerate" p) [a] [] pos) (fun ρ => (f ρ).bind fun sv ρ1 => (match sv.d with
    | .lst ds => .ok (enumD 0 ds) ρ1
    | _ => .stuck)) := by
  refine PI.weak (pi_enum hg hm (pa_cons ha pa_nil hs) (by rw [hs]; rfl)) ?_
  rintro σ H R ⟨F, ρ, ok, h⟩
  refine ⟨F, ρ, ok, (PostG.bindF late_RW h).imp ?_⟩
  rintro v H1 ⟨sv, F1, ρ1, ok1, st, r, h1⟩
  split at h1
  · rename_i ds e1
    rw [e1] at r
    obtain ⟨a, xs, rfl, fa, rd, rl⟩ := r.lstAt
    exact ⟨a, xs, rfl, .inl rd, h1 _ H1 F1 Step.refl ok1 (walkD_enum fa rd rl)⟩
  · exact h1.elim
theorem pid_zip {elts : List Expr} {kk : Nat} {tpos : Pos} {f g : Env' → Res SV} (hg : Gl X "zip") (hm : X.mg "zip" = none) (ha : PEd X Z a f) (hb : PEd X Z b g) (hs : starEach [a, b] X.env = (false, eval a X.env) :: starEach [b] X.env) (hs2 : starEach [b] X.env = (false, eval b X.env) :: starEach [] X.env) :
    PId X Z (.Tuple elts kk tpos) (.Call (.Name "zip" p) [a, b] [] pos) (fun ρ => (f ρ).bind fun sv ρ1 => (g ρ1).bind fun sw ρ2 => lift (zipP sv.d sw.d) ρ2) := by
  refine PI.weak (RZ.pi_zipA hg hm (pa_cons ha (pa_cons hb pa_nil hs2) hs) hs (by rw [hs2]; rfl)) ?_
  rintro σ H R ⟨F, ρ, ok, h⟩
  refine ⟨F, ρ, ok, (PostG.bindF late_RW h).imp ?_⟩
  rintro v H1 ⟨sv, F1, ρ1, ok1, st, r, h1⟩
  refine ⟨F1, ρ1, ok1, (PostG.bindF late_RW h1).imp ?_⟩
  rintro w H2 ⟨sw, F2, ρ2, ok2, st2, r2, h2⟩
  have r' := Rep.stays (st2.stays ok1) r
  unfold lift at h2
  split at h2
  · rename_i ds e
    have tt : ∀ xs ys, (sv.d = .tup xs ∨ sv.d = .ktup xs) → (sw.d = .tup ys ∨ sw.d = .ktup ys) → ds = zipD xs ys → ∃ a b xs ys, [v, w] = [.ref a, .ref b] ∧ ((SqL X.K H2 a xs ∧ SqL X.K H2 b ys ∧ R (Itz X.K a b) H2) ∨ (SqT X.K H2 a xs ∧ SqT X.K H2 b ys ∧ R (RZ.ItzT X.K a b) H2)) := fun xs ys e1 e2 e3 => by
      obtain ⟨a, us, rfl, q1, q2⟩ := r'.tupAt e1
      obtain ⟨b, ws, rfl, q3, q4⟩ := r2.tupAt e2
      subst e3
      exact ⟨a, b, us, ws, rfl, .inr ⟨q1 _ _ Stays.refl, q3 _ _ Stays.refl, h2 _ H2 F2 Step.refl ok2 (walkD_zipT q1 q3 q2 q4)⟩⟩
    unfold zipP at e
    split at e
    · rename_i xs ys e1 e2
      cases e
      rw [e1] at r'
      rw [e2] at r2
      obtain ⟨a, us, rfl, f1, q1, q2⟩ := r'.lstAt
      obtain ⟨b, ws, rfl, f2, q3, q4⟩ := r2.lstAt
      exact ⟨a, b, us, ws, rfl, .inl ⟨.inl q1, .inl q3, h2 _ H2 F2 Step.refl ok2 (walkD_zip (fun H' F' s => .inl (s.rd _ _ f1 q1)) (fun H' F' s => .inl (s.rd _ _ f2 q3)) q2 q4)⟩⟩
    · rename_i xs ys e1 e2; cases e; exact tt xs ys (.inl e1) (.inl e2) rfl
    · rename_i xs ys e1 e2; cases e; exact tt xs ys (.inr e1) (.inl e2) rfl
    · rename_i xs ys e1 e2; cases e; exact tt xs ys (.inl e1) (.inr e2) rfl
    · rename_i xs ys e1 e2; cases e; exact tt xs ys (.inr e1) (.inr e2) rfl
    · cases e
  · exact h2.elim
end
end DL

namespace DL
open PySem PySem.Spec PyProof.Rows L2

/-! ### targets -/
section
variable (X : Cx) (Z : Fix)
def tG (T : Tg) : TG := fun v σ H Q => ∃ F ρ d ρ', EnvOk X.K Z.fa H F σ ρ ∧ Rep X.K Z.fa H F v d ∧ asg T d ρ = some ρ' ∧ ∀ σ', EnvOk X.K Z.fa H F σ' ρ' → StepE H F σ ρ H F σ' ρ' → Q σ' H
def tGs (T : List Tg) : TGs := fun vs σ H Q => ∃ F ρ ds ρ', EnvOk X.K Z.fa H F σ ρ ∧ RepL X.K Z.fa H F vs ds ∧ asgs T ds ρ = some ρ' ∧ ∀ σ', EnvOk X.K Z.fa H F σ' ρ' → StepE H F σ ρ H F σ' ρ' → Q σ' H
abbrev PGd (e : Expr) (T : Tg) : Prop := PG X e (tG X Z T)
abbrev PGsd (es : List Expr) (T : List Tg) : Prop := PGs X es (tGs X Z T)
end
section
variable {X : Cx} {Z : Fix} {e : Expr} {es : List Expr} {pos : Pos}
theorem PG.weak {t t' : TG} (h : PG X e t) (w : ∀ v σ H Q, t' v σ H Q → t v σ H Q) : PG X e t' := ⟨fun pins s σ H v u Q I r hq => h.run pins s σ H v u Q I r (w v σ H Q hq)⟩
theorem PGs.weak {t t' : TGs} (h : PGs X es t) (w : ∀ v σ H Q, t' v σ H Q → t v σ H Q) : PGs X es t' := ⟨fun pins s σ H v u Q I r hq => h.run pins s σ H v u Q I r (w v σ H Q hq)⟩
theorem step_set {K : PySem.W.Frag} {fa : Nat → Option Addr} {H : Hp} {F : AP'} {σ : L2.St} {ρ : Env'} {i : Nat} {v : V} {d : D} (ok : EnvOk K fa H F σ ρ) (hi : i < ρ.length) (nl : ∀ sw, ρ[i]? = some (some sw) → sw.lent = false) (r : Rep K fa H F v d) :
    EnvOk K fa H F (σ.set i (some v)) (ρ.set i (some (.dat d))) ∧ StepE H F σ ρ H F (σ.set i (some v)) (ρ.set i (some (.dat d))) := by
  obtain ⟨h1, h2, h3⟩ := ok.setSlot (sv := .dat d) hi nl ⟨r, fun _ _ m => (by cases m), rfl⟩
  refine ⟨h1, fun _ _ h _ => h, fun _ h => h, fun _ h => .inl h, fun a h => ?_, h3, fun _ h => h⟩
  rcases h2 a h with h | ⟨_, m⟩
  · exact .inl h
  · cases m
theorem pgd_name {i : Nat} {x : Str} (hN : X.N.Nodup) (hi : X.N[i]? = some x) (hx : X.env.scope.names.lookup x = some .local) : PGd X Z (.Name x pos) (.nm i) := by
  refine PG.weak (pg_name hN hi (.inl hx) (.inr hx)) ?_
  rintro v σ H Q ⟨F, ρ, d, ρ', ok, r, e, h⟩
  show Q (σ.set i (some v)) H
  unfold asg at e
  split at e
  · rename_i e1
    cases e
    obtain ⟨o, s⟩ := step_set (v := v) ok (get_lt e1) (fun sw z => by rw [e1] at z; cases z) r
    exact h _ o s
  · rename_i sv e1
    split at e
    · cases e
    · rename_i nl
      cases e
      obtain ⟨o, s⟩ := step_set (v := v) ok (get_lt e1) (fun sw z => by rw [e1] at z; cases z; simpa using nl) r
      exact h _ o s
  · cases e
theorem pgsd_nil : PGsd X Z [] [] := by
  refine PGs.weak pgs_nil ?_
  rintro vs σ H Q ⟨F, ρ, ds, ρ', ok, r, e, h⟩
  cases r with
  | nil => cases e; exact ⟨rfl, h _ ok Step.refl⟩
  | cons _ _ => cases e
theorem pgsd_cons {T : Tg} {Ts : List Tg} (h1 : PGd X Z e T) (h2 : PGsd X Z es Ts) (hs : (assignEach (e :: es) X.env).map (·.2) = assign e X.env :: (assignEach es X.env).map (·.2)) : PGsd X Z (e :: es) (T :: Ts) := by
  refine PGs.weak (pgs_cons h1 h2 hs) ?_
  rintro vs σ H Q ⟨F, ρ, ds, ρ', ok, r, e, h⟩
  cases r with
  | nil => cases e
  | cons r0 rr =>
    rename_i v vs d ds
    unfold asgs at e
    cases e1 : asg T d ρ with
    | none => rw [e1] at e; cases e
    | some ρ1 =>
      rw [e1] at e
      refine ⟨_, _, rfl, F, ρ, d, ρ1, ok, r0, e1, fun σ1 ok1 st1 => ?_⟩
      exact ⟨F, ρ1, ds, ρ', ok1, rr, e, fun σ2 ok2 st2 => h σ2 ok2 (st1.trans st2)⟩
theorem pgd_tup {k : Nat} {Ts : List Tg} (hc : X.calm = true) (h : PGsd X Z es Ts) (hl : es.length = Ts.length) (hn : (assignEach es X.env).length = es.length) (hst : (assignEach es X.env).findIdx? (·.1) = none) : PGd X Z (.Tuple es k pos) (.tup Ts) := by
  refine PG.weak (pg_tup hc h hn hst) ?_
  rintro v σ H Q ⟨F, ρ, d, ρ', ok, r, e, h⟩
  have len : ∀ {Ts : List Tg} {ds : List D} {ρ ρ' : Env'}, asgs Ts ds ρ = some ρ' → ds.length = Ts.length := by
    intro Ts
    induction Ts with
    | nil => intro ds ρ ρ' e; cases ds <;> first | rfl | cases e
    | cons T Ts ih =>
      intro ds ρ ρ' e
      cases ds with
      | nil => cases e
      | cons d ds =>
        unfold asgs at e
        cases e1 : asg T d ρ with
        | none => rw [e1] at e; cases e
        | some ρ1 => rw [e1] at e; rw [List.length_cons, List.length_cons, ih e]
  have go : ∀ ds, (d = .tup ds ∨ d = .ktup ds) → asgs Ts ds ρ = some ρ' → gTup X.K es.length (tGs X Z Ts) v σ H Q := fun ds ed e => by
    obtain ⟨a, xs, rfl, sq, rl⟩ := r.tupAt ed
    exact ⟨a, xs, rfl, sq _ _ Stays.refl, by rw [rl.length, len e, hl], F, ρ, ds, ρ', ok, rl, e, h⟩
  unfold asg at e
  split at e
  · exact go _ (.inl rfl) e
  · exact go _ (.inr rfl) e
  · cases e
end

/-! ### statements -/
section
variable (K : PySem.W.Frag) (Z : Fix)
def RetOk (H0 : Hp) (v : V) (sv : SV) (H : Hp) (F : AP') (σ : L2.St) (ρ : Env') : Prop := RepS K Z.fa H F v sv ∧ match sv with
  | .dat _ => True
  | .own _ => ∃ a, v = .ref a ∧ ¬ Bor σ ρ a ∧ (Own σ ρ a ∨ H0 a = none)
  | .bor _ => False
def PostS (σ : L2.St) (H : Hp) (F : AP') (ρ : Env') (r : SRes) (D : Ends) : Prop := match r with
  | .nx ρ' => ∀ σ' H' F', StepE H F σ ρ H' F' σ' ρ' → EnvOk K Z.fa H' F' σ' ρ' → D.nx σ' H'
  | .bk ρ' => ∀ σ' H' F', StepE H F σ ρ H' F' σ' ρ' → EnvOk K Z.fa H' F' σ' ρ' → D.bk σ' H'
  | .ct ρ' => ∀ σ' H' F', StepE H F σ ρ H' F' σ' ρ' → EnvOk K Z.fa H' F' σ' ρ' → D.ct σ' H'
  | .rt sv ρ' => ∀ v σ' H' F', StepE H F σ ρ H' F' σ' ρ' → EnvOk K Z.fa H' F' σ' ρ' → RetOk K Z H v sv H' F' σ' ρ' → D.rt v H'
  | .exc x ρ' => ∀ cls d σ' H' F', StepE H F σ ρ H' F' σ' ρ' → EnvOk K Z.fa H' F' σ' ρ' → Z.EX x cls d H' → Z.W cls d σ' H'
  | .stuck => False
end
section
variable {K : PySem.W.Frag} {Z : Fix} {σ σ1 : L2.St} {H H1 : Hp} {F F1 : AP'} {ρ ρ1 : Env'} {D : Ends} {r : SRes} {α β : Type} {R : Hp → α → β → Hp → AP' → L2.St → Env' → Prop}
theorem RetOk.early {v : V} {sv : SV} {H2 : Hp} {F2 : AP'} {σ2 : L2.St} {ρ2 : Env'} (st : ∀ a, H1 a = none → H a = none) (h : RetOk K Z H1 v sv H2 F2 σ2 ρ2) : RetOk K Z H v sv H2 F2 σ2 ρ2 := by
  obtain ⟨h1, h2⟩ := h
  refine ⟨h1, ?_⟩
  cases sv with
  | dat _ => trivial
  | own _ => obtain ⟨a, e, nb, o⟩ := h2; exact ⟨a, e, nb, o.elim .inl fun z => .inr (st a z)⟩
  | bor _ => exact h2
theorem PostS.after (st : StepE H F σ ρ H1 F1 σ1 ρ1) (h : PostS K Z σ H F ρ r D) : PostS K Z σ1 H1 F1 ρ1 r D := by
  cases r with
  | nx ρ' => exact fun σ' H' F' s ok => h σ' H' F' (st.trans s) ok
  | bk ρ' => exact fun σ' H' F' s ok => h σ' H' F' (st.trans s) ok
  | ct ρ' => exact fun σ' H' F' s ok => h σ' H' F' (st.trans s) ok
  | rt sv ρ' => exact fun v σ' H' F' s ok q => h v σ' H' F' (st.trans s) ok (q.early st.dom)
  | exc x ρ' => exact fun cls d σ' H' F' s ok q => h cls d σ' H' F' (st.trans s) ok q
  | stuck => exact h
theorem PostS.seq {g : Env' → SRes} (h : PostS K Z σ H F ρ (r.sq g) D) : PostS K Z σ H F ρ r { D with nx := fun σ1 H1 => ∃ F1 ρ1, EnvOk K Z.fa H1 F1 σ1 ρ1 ∧ PostS K Z σ1 H1 F1 ρ1 (g ρ1) D } := by
  cases r with
  | nx ρ' => exact fun σ' H' F' s ok => ⟨F', ρ', ok, PostS.after s h⟩
  | bk ρ' => exact h
  | ct ρ' => exact h
  | rt sv ρ' => exact h
  | exc x ρ' => exact h
  | stuck => exact h
/-- a reading, then a statement -/
theorem PostS.sb {f : Res α} {g : α → Env' → SRes} (h : PostS K Z σ H F ρ (f.sb g) D) :
    PostG K Z R σ H F ρ f (fun b H1 => ∃ a F1 ρ1, EnvOk K Z.fa H1 F1 σ ρ1 ∧ StepE H F σ ρ H1 F1 σ ρ1 ∧ R H a b H1 F1 σ ρ1 ∧ PostS K Z σ H1 F1 ρ1 (g a ρ1) D) := by
  cases f with
  | ok a ρ' => exact fun b H' F' s ok r => ⟨a, F', ρ', ok, s, r, PostS.after s h⟩
  | exc x ρ' => exact fun cls d H' F' s ok q => h cls d σ H' F' s ok q
  | stuck => exact h
theorem PostS.sbF {f : Res SV} {g : SV → Env' → SRes} (h : PostS K Z σ H F ρ (f.sb g) D) :
    PostG K Z (RSV K Z) σ H F ρ f (fun v H1 => ∃ sv F1 ρ1, EnvOk K Z.fa H1 F1 σ ρ1 ∧ StepE H F σ ρ H1 F1 σ ρ1 ∧ Rep K Z.fa H1 F1 v sv.d ∧ PostS K Z σ H1 F1 ρ1 (g sv ρ1) D) := by
  cases f with
  | ok sv ρ' =>
    intro v H' F' s ok r
    obtain ⟨F1, ok1, rep, m1, m2⟩ := ResOk.freeze ok r
    exact ⟨sv, F1, ρ', ok1, s.more m1 m2, rep, PostS.after (s.more m1 m2) h⟩
  | exc x ρ' => exact fun cls d H' F' s ok q => h cls d σ H' F' s ok q
  | stuck => exact h
theorem PostS.nx0 (ok : EnvOk K Z.fa H F σ ρ) (h : PostS K Z σ H F ρ (.nx ρ) D) : D.nx σ H := h σ H F Step.refl ok
end
section
variable (X : Cx) (Z : Fix)
def tSd (f : Env' → SRes) : TS := fun D σ H => ∃ F ρ, EnvOk X.K Z.fa H F σ ρ ∧ PostS X.K Z σ H F ρ (f ρ) D
abbrev PSd (st : Stmt) (f : Env' → SRes) : Prop := PS X st (tSd X Z f)
abbrev PSsd (st : List Stmt) (f : Env' → SRes) : Prop := PSs X st (tSd X Z f)
end
section
variable {X : Cx} {Z : Fix} {e c k : Expr} {st : Stmt} {sts body a b : List Stmt} {pos p p2 : Pos} {i j : Nat} {x y : Str}
theorem PS.weak {t t' : TS} (h : PS X st t) (w : ∀ D σ H, t' D σ H → t D σ H) : PS X st t' := ⟨fun pins s σ H D I hq => h.run pins s σ H D I (w D σ H hq)⟩
theorem PSs.weak {t t' : TS} (h : PSs X sts t) (w : ∀ D σ H, t' D σ H → t D σ H) : PSs X sts t' := ⟨fun pins s σ H D I hq => h.run pins s σ H D I (w D σ H hq)⟩
theorem pssd_nil : PSsd X Z [] (fun ρ => .nx ρ) := by
  refine PSs.weak pss_nil ?_
  rintro D σ H ⟨F, ρ, ok, h⟩
  exact h.nx0 ok
theorem pssd_cons {f g : Env' → SRes} (h1 : PSd X Z st f) (h2 : PSsd X Z sts g) : PSsd X Z (st :: sts) (fun ρ => (f ρ).sq g) := by
  refine PSs.weak (pss_cons h1 h2) ?_
  rintro D σ H ⟨F, ρ, ok, h⟩
  exact ⟨F, ρ, ok, PostS.seq h⟩
theorem psd_pass : PSd X Z (.Pass pos) (fun ρ => .nx ρ) := by
  refine PS.weak ps_pass ?_
  rintro D σ H ⟨F, ρ, ok, h⟩
  exact h.nx0 ok
theorem psd_brk : PSd X Z (.Break pos) (fun ρ => .bk ρ) := by
  refine PS.weak ps_break ?_
  rintro D σ H ⟨F, ρ, ok, h⟩
  exact h σ H F Step.refl ok
theorem psd_cont : PSd X Z (.Continue pos) (fun ρ => .ct ρ) := by
  refine PS.weak ps_continue ?_
  rintro D σ H ⟨F, ρ, ok, h⟩
  exact h σ H F Step.refl ok
theorem psd_never : PSd X Z st (fun _ => .stuck) := by
  refine PS.weak ps_never ?_
  rintro D σ H ⟨F, ρ, ok, h⟩
  exact h
theorem psd_expr {f : Env' → Res SV} (h : PEd X Z e f) (hs : swapsWith e none pos.line X.env = pure false) : PSd X Z (.Expr e pos) (fun ρ => (f ρ).sb fun _ ρ1 => .nx ρ1) := by
  refine PS.weak (ps_expr h hs) ?_
  rintro D σ H ⟨F, ρ, ok, h⟩
  refine ⟨F, ρ, ok, (PostS.sb h).imp ?_⟩
  rintro v H1 ⟨sv, F1, ρ1, ok1, st, r, h1⟩
  exact h1.nx0 ok1
theorem psd_ret {f : Env' → Res SV} (h : PEd X Z e f) : PSd X Z (.Return (some e) pos) (fun ρ => (f ρ).sb fun sv ρ1 => .rt sv ρ1) := by
  refine PS.weak (ps_ret h) ?_
  rintro D σ H ⟨F, ρ, ok, h⟩
  refine ⟨F, ρ, ok, ?_⟩
  cases hf : f ρ with
  | ok sv ρ' =>
    dsimp only at h
    rw [hf] at h
    refine fun v H' F' s ok r => h v σ H' F' s ok ⟨r.1, ?_⟩
    cases sv with
    | dat _ => trivial
    | own _ =>
      obtain ⟨a, e, n, no⟩ := r.2
      exact ⟨a, e, fun ⟨i, sv, h1, h2, h3⟩ => no ⟨i, sv, h1, (by cases sv <;> first | rfl | cases h2), h3⟩, .inr n⟩
    | bor _ => exact r.2
  | exc x ρ' => dsimp only at h; rw [hf] at h; exact fun cls d H' F' s ok q => h cls d σ H' F' s ok q
  | stuck => dsimp only at h; rw [hf] at h; exact h
theorem psd_retN : PSd X Z (.Return none pos) (fun ρ => .rt (.dat .non) ρ) := by
  refine PS.weak ps_retN ?_
  rintro D σ H ⟨F, ρ, ok, h⟩
  exact h _ σ H F Step.refl ok ⟨.non, trivial⟩
theorem psd_retv (hN : X.N[i]? = some x) (hv : Vis X.env.scope x) (hd : (x == ("__debug__" : Str)) = false) (hcd : (x == ("__classdict__" : Str)) = false) : PSd X Z (.Return (some (.Name x p)) pos) (retvS i) := by
  refine PS.weak (ps_ret (pe_var hN hv hd hcd)) ?_
  rintro D σ H ⟨F, ρ, ok, h⟩
  unfold retvS at h
  split at h
  · rename_i d e1
    obtain ⟨v, e2, a, rfl, nf, ow⟩ := ok.slot i _ e1
    refine ⟨_, e2, h _ σ H F Step.refl ok ⟨⟨a, rfl, nf, ow⟩, a, rfl, ?_, .inl ⟨i, _, e1, rfl, e2⟩⟩⟩
    rintro ⟨j, sv, h1, h2, h3⟩
    have := ok.apart i j _ sv a e1 h1 rfl (by cases sv <;> first | rfl | cases h2) e2 h3
    subst this
    rw [e1] at h1; cases h1; cases h2
  · rename_i d e1
    obtain ⟨v, e2, r⟩ := ok.slot i _ e1
    exact ⟨_, e2, h _ σ H F Step.refl ok ⟨r, trivial⟩⟩
  · exact h.elim
theorem psd_if {fc : Env' → Res Bool} {fa fb : Env' → SRes} (hc : PTd X Z c fc) (ha : PSsd X Z a fa) (hb : PSsd X Z b fb) : PSd X Z (.If c a b pos) (fun ρ => (fc ρ).sb fun t ρ1 => if t = true then fa ρ1 else fb ρ1) := by
  refine PS.weak (ps_if hc ha hb) ?_
  rintro D σ H ⟨F, ρ, ok, h⟩
  refine ⟨F, ρ, ok, (PostS.sb (R := RB) h).imp ?_⟩
  rintro t H1 ⟨t', F1, ρ1, ok1, st, rfl, h1⟩
  cases t' with
  | true => rw [if_pos rfl] at h1 ⊢; exact ⟨F1, ρ1, ok1, h1⟩
  | false => rw [if_neg Bool.false_ne_true] at h1 ⊢; exact ⟨F1, ρ1, ok1, h1⟩
/-- a result is stored -/
theorem set_core {K : PySem.W.Frag} {σ : L2.St} {H H1 : Hp} {F F1 : AP'} {ρ ρ1 : Env'} {v : V} {sv : SV} (ok1 : EnvOk K Z.fa H1 F1 σ ρ1) (r : ResOk K Z.fa H H1 F1 σ ρ1 v sv)
    (st : StepE H F σ ρ H1 F1 σ ρ1) : setS i sv ρ1 = .stuck ∨ ∃ ρ2, setS i sv ρ1 = .nx ρ2 ∧ EnvOk K Z.fa H1 F1 (σ.set i (some v)) ρ2 ∧ StepE H F σ ρ H1 F1 (σ.set i (some v)) ρ2 := by
  unfold setS
  split
  · exact .inl rfl
  · rename_i nl
    have nl' : sv.lent = false := by simpa using nl
    have go : i < ρ1.length → (∀ sw, ρ1[i]? = some (some sw) → sw.lent = false) → EnvOk K Z.fa H1 F1 (σ.set i (some v)) (ρ1.set i (some sv)) ∧ StepE H F σ ρ H1 F1 (σ.set i (some v)) (ρ1.set i (some sv)) := fun hi hl => by
      have can : CanSet K Z.fa H1 F1 σ ρ1 v sv := ⟨r.1, (fun a ea m => by
        cases sv with
        | dat _ => cases m
        | own _ => obtain ⟨b, eb, n, no⟩ := r.2; subst ea; cases eb; exact no
        | bor _ => cases nl'), nl'⟩
      obtain ⟨h1, h2, h3⟩ := ok1.setSlot hi hl can
      refine ⟨h1, st.keep, st.fmono, st.fnew, fun a z => ?_, fun a => (h3 a).trans (st.bor a), st.dom⟩
      rcases h2 a z with z | ⟨zz, m⟩
      · exact st.onew a z
      · cases sv with
        | dat _ => cases m
        | own _ => obtain ⟨b, eb, n, no⟩ := r.2; rw [zz] at eb; cases eb; exact .inr n
        | bor _ => cases nl'
    split
    · rename_i e1
      exact .inr ⟨_, rfl, go (get_lt e1) (fun sw z => by rw [e1] at z; cases z)⟩
    · rename_i sw e1
      split
      · exact .inl rfl
      · rename_i nsw
        exact .inr ⟨_, rfl, go (get_lt e1) (fun sw' z => by rw [e1] at z; cases z; simpa using nsw)⟩
    · exact .inl rfl
theorem set_step {K : PySem.W.Frag} {σ : L2.St} {H H1 : Hp} {F F1 : AP'} {ρ ρ1 : Env'} {D : Ends} {v : V} {sv : SV} (ok1 : EnvOk K Z.fa H1 F1 σ ρ1) (r : ResOk K Z.fa H H1 F1 σ ρ1 v sv)
    (h : PostS K Z σ H F ρ (setS i sv ρ1) D) (st : StepE H F σ ρ H1 F1 σ ρ1) : D.nx (σ.set i (some v)) H1 := by
  rcases set_core (i := i) ok1 r st with e | ⟨ρ2, e, ok2, st2⟩
  · rw [e] at h; exact h.elim
  · rw [e] at h; exact h _ H1 F1 st2 ok2
theorem psd_set {f : Env' → Res SV} (hN : X.N.Nodup) (hi : X.N[i]? = some x) (hx : X.env.scope.names.lookup x = some .local) (h : PEd X Z e f) (hs : swapsWith e (some (.Name x p)) pos.line X.env = pure false) :
    PSd X Z (.Assign [.Name x p] e pos) (fun ρ => (f ρ).sb fun sv ρ1 => setS i sv ρ1) := by
  refine PS.weak (ps_set hN hi (.inl hx) h hs (.inr hx)) ?_
  rintro D σ H ⟨F, ρ, ok, h⟩
  refine ⟨F, ρ, ok, ?_⟩
  cases hf : f ρ with
  | ok sv ρ' =>
    dsimp only at h
    rw [hf] at h
    exact fun v H' F' s ok r => set_step ok r h s
  | exc x ρ' => dsimp only at h; rw [hf] at h; exact fun cls d H' F' s ok q => h cls d σ H' F' s ok q
  | stuck => dsimp only at h; rw [hf] at h; exact h
theorem psd_unp {f : Env' → Res SV} {T : Tg} {tg : Expr} (h : PEd X Z e f) (hg : PGd X Z tg T) (hs : swapsWithSole [tg] e pos.line X.env = pure false) (hw : swappedStores [tg] e X.env = pure none)
    (h1 : (assignEach [tg] X.env).map (·.2) = [assign tg X.env]) : PSd X Z (.Assign [tg] e pos) (fun ρ => (f ρ).sb fun sv ρ1 => unpS T sv.d ρ1) := by
  refine PS.weak (ps_asg h hg hs hw h1) ?_
  rintro D σ H ⟨F, ρ, ok, h⟩
  refine ⟨F, ρ, ok, (PostS.sbF h).imp ?_⟩
  rintro v H1 ⟨sv, F1, ρ1, ok1, st, r, h1⟩
  unfold unpS at h1
  split at h1
  · rename_i ρ2 e2
    exact ⟨F1, ρ1, sv.d, ρ2, ok1, r, e2, fun σ' ok2 st2 => h1 σ' H1 F1 st2 ok2⟩
  · exact h1.elim
theorem psd_par {f g : Env' → Res SV} {a b : Expr} {px py pt pt2 : Pos} {kt k2} (hc : X.calm = true) (hN : X.N.Nodup) (hi : X.N[i]? = some x) (hj : X.N[j]? = some y) (hij : i ≠ j)
    (hx : X.env.scope.names.lookup x = some .local) (hy : X.env.scope.names.lookup y = some .local) (ha : PEd X Z a f) (hb : PEd X Z b g) (hs1 : starEach [a, b] X.env = (false, eval a X.env) :: starEach [b] X.env) (hs2 : starEach [b] X.env = (false, eval b X.env) :: starEach [] X.env)
    (hw : swappedStores [.Tuple [.Name x px, .Name y py] kt pt] (.Tuple [a, b] k2 pt2) X.env = pure (some [x, y]))
    (hs : swapsWithSole [.Tuple [.Name x px, .Name y py] kt pt] (.Tuple [a, b] k2 pt2) pos.line X.env = pure false) :
    PSd X Z (.Assign [.Tuple [.Name x px, .Name y py] kt pt] (.Tuple [a, b] k2 pt2) pos) (fun ρ => (f ρ).sb fun sv ρ1 => (g ρ1).sb fun sw ρ2 => (setS i (.dat sv.d) ρ2).sq fun ρ3 => setS j (.dat sw.d) ρ3) := by
  refine PS.weak (ps_par hc hN hi hj hij hx hy (pa_cons ha (pa_cons hb pa_nil hs2) hs1) hw hs) ?_
  rintro D σ H ⟨F, ρ, ok, h⟩
  refine ⟨F, ρ, ok, (PostS.sbF h).imp ?_⟩
  rintro v H1 ⟨sv, F1, ρ1, ok1, st, r, h1⟩
  refine ⟨F1, ρ1, ok1, (PostS.sbF h1).imp ?_⟩
  rintro w H2 ⟨sw, F2, ρ2, ok2, st2, r2, h2⟩
  refine ⟨v, w, rfl, ?_⟩
  have r' := Rep.stays (st2.stays ok1) r
  rcases set_core (i := i) ok2 (⟨r', trivial⟩ : ResOk X.K Z.fa H2 H2 F2 σ ρ2 v (.dat sv.d)) Step.refl with e3 | ⟨ρ3, e3, ok3, st3⟩
  · rw [e3] at h2; exact h2.elim
  · rw [e3] at h2
    have h3 : PostS X.K Z σ H2 F2 ρ2 (setS j (.dat sw.d) ρ3) D := h2
    rcases set_core (i := j) ok3 (⟨r2, trivial⟩ : ResOk X.K Z.fa H2 H2 F2 (σ.set i (some v)) ρ3 w (.dat sw.d)) Step.refl with e4 | ⟨ρ4, e4, ok4, st4⟩
    · rw [e4] at h3; exact h3.elim
    · rw [e4] at h3
      exact h3 _ H2 F2 (st3.trans st4) ok4
/-! ### loops -/
theorem psd_for {tg iter : Expr} {T : Tg} {f : Env' → Res (List D)} {g : Env' → SRes} (hp : PassesOwn (model X.prog X.w) X.A X.env X.xe) (hc : X.calm = true) (hi : PId X Z tg iter f) (hg : PGd X Z tg T) (hb : PSsd X Z body g) (hs : ∀ x, foldedSetIterable iter X.env x = pure x) :
    PSd X Z (.For tg iter body [] pos) (fun ρ => (f ρ).sb fun items ρ1 => forGo g T items ρ1) := by
  refine PS.weak (ps_for hp hc hi hg hb hs) ?_
  rintro D σ H ⟨F, ρ, ok, h⟩
  refine ⟨F, ρ, ok, (PostS.sb h).imp ?_⟩
  rintro J H1 ⟨items, F1, ρ1, ok1, st1, w, h1⟩
  refine ⟨fun i m σ' H' => m = items.length - i ∧ i ≤ items.length ∧ ∃ F' ρ', EnvOk X.K Z.fa H' F' σ' ρ' ∧ Stays H1 F1 H' F' ∧ PostS X.K Z σ' H' F' ρ' (forGo g T (items.drop i) ρ') D, ⟨_, rfl, Nat.zero_le _, F1, ρ1, ok1, Stays.refl, h1⟩, ?_⟩
  rintro i m σ' H' ⟨rfl, hi, F', ρ', ok', sy, h'⟩
  by_cases hlt : i < items.length
  · refine .inr ⟨w.goes i H' F' sy hlt, fun σ2 H2 => i + 1 ≤ items.length ∧ ∃ F2 ρ2, EnvOk X.K Z.fa H2 F2 σ2 ρ2 ∧ Stays H1 F1 H2 F2 ∧ PostS X.K Z σ2 H2 F2 ρ2 (forGo g T (items.drop (i + 1)) ρ2) D, fun σ2 H2 ⟨q1, q2⟩ => ⟨items.length - (i + 1), by omega, rfl, q1, q2⟩, fun x H2 y => ?_⟩
    obtain ⟨d, e1, F2, gr, rx, _⟩ := w.yields i H' F' x H2 sy ok'.fd hlt y
    have e2 : items.drop i = d :: items.drop (i + 1) := by
      obtain ⟨hh, e3⟩ := List.getElem?_eq_some_iff.mp e1
      rw [List.drop_eq_getElem_cons hh, e3]
    rw [e2] at h'
    unfold forGo at h'
    split at h'
    · exact h'.elim
    · rename_i ρ2 e3
      have ok2 := ok'.grow gr
      refine ⟨F2, ρ', d, ρ2, ok2, rx, e3, fun σ3 ok3 st3 => ⟨F2, ρ2, ok3, ?_⟩⟩
      have stp : StepE H' F' σ' ρ' H2 F2 σ3 ρ2 := Step.trans gr.step st3
      have fin : ∀ σ4 H4 F4 ρ4, StepE H2 F2 σ3 ρ2 H4 F4 σ4 ρ4 → EnvOk X.K Z.fa H4 F4 σ4 ρ4 → PostS X.K Z σ' H' F' ρ' (forGo g T (items.drop (i + 1)) ρ4) D → i + 1 ≤ items.length ∧ ∃ F2 ρ2, EnvOk X.K Z.fa H4 F2 σ4 ρ2 ∧ Stays H1 F1 H4 F2 ∧ PostS X.K Z σ4 H4 F2 ρ2 (forGo g T (items.drop (i + 1)) ρ2) D := fun σ4 H4 F4 ρ4 s4 ok4 h4 =>
        ⟨hlt, F4, ρ4, ok4, sy.trans ((stp.trans s4).stays ok'), PostS.after (stp.trans s4) h4⟩
      cases hg2 : g ρ2 with
      | nx ρ4 => rw [hg2] at h'; exact fun σ4 H4 F4 s4 ok4 => fin σ4 H4 F4 ρ4 s4 ok4 h'
      | ct ρ4 => rw [hg2] at h'; exact fun σ4 H4 F4 s4 ok4 => fin σ4 H4 F4 ρ4 s4 ok4 h'
      | bk ρ4 => rw [hg2] at h'; exact fun σ4 H4 F4 s4 ok4 => h' σ4 H4 F4 (stp.trans s4) ok4
      | rt sv ρ4 => rw [hg2] at h'; exact fun v σ4 H4 F4 s4 ok4 q => h' v σ4 H4 F4 (stp.trans s4) ok4 (q.early stp.dom)
      | exc x ρ4 => rw [hg2] at h'; exact fun cls d σ4 H4 F4 s4 ok4 q => h' cls d σ4 H4 F4 (stp.trans s4) ok4 q
      | stuck => rw [hg2] at h'; exact h'
  · have e : items.drop i = [] := List.drop_eq_nil_iff.mpr (by omega)
    rw [e] at h'
    exact .inl ⟨w.stops i H' F' sy (by omega), h'.nx0 ok'⟩
theorem psd_while {m : Nat} {fc : Env' → Res Bool} {g : Env' → SRes} (hp : PassesOwn (model X.prog X.w) X.A X.env X.xe) (hc : PTd X Z c fc) (hb : PSsd X Z body g) : PSd X Z (.While c body [] pos) (whGo fc g m) := by
  refine PS.weak (ps_while hp hc hb) ?_
  rintro D σ H ⟨F, ρ, ok, h⟩
  refine ⟨fun m σ H => ∃ F ρ, EnvOk X.K Z.fa H F σ ρ ∧ PostS X.K Z σ H F ρ (whGo fc g m ρ) D, ⟨m, F, ρ, ok, h⟩, ?_⟩
  rintro m σ H ⟨F, ρ, ok, h⟩
  cases m with
  | zero => exact h.elim
  | succ m =>
    unfold whGo at h
    refine ⟨F, ρ, ok, (PostS.sb (R := RB) h).imp ?_⟩
    rintro b H1 ⟨b', F1, ρ1, ok1, st1, rfl, h1⟩
    cases b' with
    | false => rw [if_neg Bool.false_ne_true] at h1 ⊢; exact h1.nx0 ok1
    | true =>
      rw [if_pos rfl] at h1 ⊢
      refine ⟨fun σ2 H2 => ∃ F2 ρ2, EnvOk X.K Z.fa H2 F2 σ2 ρ2 ∧ PostS X.K Z σ2 H2 F2 ρ2 (whGo fc g m ρ2) D, fun σ' H' q => ⟨m, Nat.lt_succ_self _, q⟩, F1, ρ1, ok1, ?_⟩
      cases hg2 : g ρ1 with
      | nx ρ4 => rw [hg2] at h1; exact fun σ4 H4 F4 s4 ok4 => ⟨F4, ρ4, ok4, PostS.after s4 h1⟩
      | ct ρ4 => rw [hg2] at h1; exact fun σ4 H4 F4 s4 ok4 => ⟨F4, ρ4, ok4, PostS.after s4 h1⟩
      | bk ρ4 => rw [hg2] at h1; exact h1
      | rt sv ρ4 => rw [hg2] at h1; exact h1
      | exc x ρ4 => rw [hg2] at h1; exact h1
      | stuck => rw [hg2] at h1; exact h1
end
end DL

namespace DL
open PySem PySem.Spec PyProof.Rows L2

/-! ### what is ours is written -/
section
variable {X : Cx} {Z : Fix} {e k : Expr} {st : Stmt} {pos p p2 : Pos} {i j : Nat} {x y : Str}
/-- a PSet of lists and dicts -/
def rPut : TSet := fun o i v H Q => rSetL o i v H Q ∨ rSetD o i v H Q
theorem set_put (hu : X.A.units + 1 < cLine) : PSet X rPut := by
  intro pins s σ H o i v ov iv u Q I ro ri rv h
  rcases h with h | h
  · exact set_list pins s σ H o i v ov iv u Q I ro ri rv h
  · exact set_dict hu pins s σ H o i v ov iv u Q I ro ri rv h
theorem modS_ok {K : PySem.W.Frag} {σ : L2.St} {H : Hp} {F : AP'} {ρ : Env'} {De : Ends} {g : D → Option D} (ok : EnvOk K Z.fa H F σ ρ) (h : PostS K Z σ H F ρ (modS i g ρ) De) :
    ∃ a d d', σ[i]? = some (some (.ref a)) ∧ g d = some d' ∧ OwnAt K Z.fa H F a d ∧ ¬ F a ∧ ∀ o, OwnAt K Z.fa (upd H a o) F a d' → De.nx σ (upd H a o) := by
  unfold modS at h
  split at h
  · rename_i d e1
    split at h
    · rename_i d' e2
      obtain ⟨v, e3, a, rfl, nf, ow⟩ := ok.slot i _ e1
      refine ⟨a, d, d', e3, e2, ow, nf, fun o how => ?_⟩
      obtain ⟨ok', st⟩ := ok.mutate (sw := .own d') e1 rfl e3 (.inl ⟨rfl, rfl⟩) how
      exact h σ _ F st ok'
    · exact h.elim
  · rename_i d e1
    split at h
    · rename_i d' e2
      obtain ⟨v, e3, a, rfl, nf, ow⟩ := ok.slot i _ e1
      refine ⟨a, d, d', e3, e2, ow, nf, fun o how => ?_⟩
      obtain ⟨ok', st⟩ := ok.mutate (sw := .bor d') e1 rfl e3 (.inr ⟨rfl, rfl⟩) how
      exact h σ _ F st ok'
    · exact h.elim
  · exact h.elim
theorem DRep.here {κ : Type} {K : PySem.W.Frag} {fa : Nat → Option Addr} {H H' : Hp} {F F' : AP'} {kvs : List (κ × V)} {kds : List (κ × D)} (s : Stays H F H' F') (h : DRep K fa H F kvs kds) : DRep K fa H' F' kvs kds := ⟨h.1, h.2.stays s⟩
/-- a write to what is ours leaves readings -/
theorem stays_upd {K : PySem.W.Frag} {fa : Nat → Option Addr} {H : Hp} {F : AP'} {a : Addr} {d : D} {o : HO} (ow : OwnAt K fa H F a d) (nf : ¬ F a) : Stays H F (upd H a o) F := by
  obtain ⟨o0, ho0, nt, _⟩ := ow.some
  refine ⟨fun b xs h => ?_, fun b u f h => ?_, fun _ h => h⟩
  · have ne : b ≠ a := by intro z; subst z; rw [ho0] at h; exact nt _ (Option.some.inj h)
    rw [upd_ne ne]; exact h
  · have ne : b ≠ a := by intro z; subst z; exact nf f
    unfold Rd
    rw [upd_ne ne]; exact h
theorem psd_store {fv fk : Env' → Res SV} (hu : X.A.units + 1 < cLine) (hN : X.N[i]? = some x) (hvs : Vis X.env.scope x) (hd : (x == ("__debug__" : Str)) = false) (hcd : (x == ("__classdict__" : Str)) = false) (hv : PEd X Z e fv) (hk : PEd X Z k fk)
    (hs : swapsWithSole [.Subscript (.Name x p) k p2] e pos.line X.env = pure false) (hw : swappedStores [.Subscript (.Name x p) k p2] e X.env = pure none)
    (ha : ∀ v, assign (.Subscript (.Name x p) k p2) X.env v = (do
      let ov ← holding [v] (eval (.Name x p) X.env)
      let iv ← holding [v, ov] (eval k X.env)
      standAt p2
      holding [v, ov, iv] (setItem ov iv v)
      release [v, ov, iv] []))
    (h1 : (assignEach [.Subscript (.Name x p) k p2] X.env).map (·.2) = [assign (.Subscript (.Name x p) k p2) X.env]) :
    PSd X Z (.Assign [.Subscript (.Name x p) k p2] e pos) (fun ρ => (fv ρ).sb fun sv ρ1 => if hasSlot ρ1 i = true then (fk ρ1).sb fun sk ρ2 => modS i (fun d => putAt d sk.d sv.d) ρ2 else .stuck) := by
  refine PS.weak (ps_asg hv (pg_sub (pe_var hN hvs hd hcd) hk (set_put hu) ha) hs hw h1) ?_
  rintro De σ H ⟨F, ρ, ok, h⟩
  refine ⟨F, ρ, ok, (PostS.sbF h).imp ?_⟩
  rintro v H1 ⟨sv, F1, ρ1, ok1, st, r, h1⟩
  split at h1
  · rename_i hsl
    have ex : ∃ o, σ[i]? = some (some o) := by
      unfold hasSlot at hsl
      split at hsl
      · rename_i sw e1
        obtain ⟨o, e2, _⟩ := ok1.slot i sw e1
        exact ⟨o, e2⟩
      · cases hsl
    obtain ⟨o, e0⟩ := ex
    refine ⟨o, e0, F1, ρ1, ok1, (PostS.sbF h1).imp ?_⟩
    rintro y H2 ⟨sk, F2, ρ2, ok2, st2, r2, h2⟩
    obtain ⟨a, d, d', e3, eg, ow, nf, q⟩ := modS_ok ok2 h2
    rw [e0] at e3
    cases e3
    have r' := Rep.stays (st2.stays ok1) r
    cases ow with
    | lst hq rl =>
      rename_i xs ds
      unfold putAt at eg
      dsimp only at eg
      split at eg
      · rename_i n ek
        rw [ek] at r2
        cases r2
        cases ej : ixN ds.length n with
        | none => rw [ej] at eg; cases eg
        | some j =>
          rw [ej] at eg
          cases eg
          refine .inl ⟨a, xs, n, j, rfl, rfl, hq, by rw [rl.length]; exact ej, q _ ?_⟩
          have sy : Stays H2 F2 (upd H2 a (.lst (xs.set j v))) F2 := stays_upd (.lst hq rl) nf
          exact .lst upd_same ((rl.set j r').stays sy)
      · cases eg
    | dK hq rl =>
      rename_i kvs kds
      unfold putAt at eg
      dsimp only at eg
      split at eg
      · rename_i hl
        cases ek : keyOf sk.d with
        | none => rw [ek] at eg; cases eg
        | some kk =>
          rw [ek] at eg
          cases eg
          obtain rfl := keyOf_ok r2 ek
          refine .inr ⟨a, _, rfl, DPut.k hq (by rw [rl.length, z24]; exact hl), q _ ?_⟩
          have sy : Stays H2 F2 (upd H2 a (.dK (putK kvs kk v))) F2 := stays_upd (.dK hq rl) nf
          exact .dK upd_same ((rl.put r').here sy)
      · cases eg
    | dT hq rl =>
      rename_i kvs kds
      unfold putAt at eg
      dsimp only at eg
      split at eg
      · rename_i hl
        split at eg
        · rename_i ks ek0
          rw [ek0] at r2
          cases ek : keysOf ks with
          | none => rw [ek] at eg; cases eg
          | some kk =>
            rw [ek] at eg
            cases eg
            cases r2 with
            | tup hb rb =>
              obtain rfl := keysOf_ok rb ek
              refine .inr ⟨a, _, rfl, DPut.t hq hb (by rw [rl.length, z24]; exact hl), q _ ?_⟩
              have sy : Stays H2 F2 (upd H2 a (.dT (putK kvs kk v))) F2 := stays_upd (.dT hq rl) nf
              exact .dT upd_same ((rl.put r').here sy)
        · cases eg
      · cases eg
  · exact h1.elim
theorem psd_app {f : Env' → Res SV} (hN : X.N[i]? = some x) (hvs : Vis X.env.scope x) (hd : (x == ("__debug__" : Str)) = false) (hcd : (x == ("__classdict__" : Str)) = false) (hv : PEd X Z e f)
    (hbase : attributeBase (.Name x p) "append" X.env (eval (.Name x p) X.env) = eval (.Name x p) X.env)
    (hfew : ((backTo p2 (starEach (e :: []) X.env)).all (fun x => !x.1) && (backToKw p2 (keywordEach [] X.env)).all (fun x => x.1.isSome)
      && decide ((e :: ([] : List Expr)).length + ([] : List Keyword).length + (if ([] : List Keyword).isEmpty then 0 else 1) < 30)) = true) {apos : Pos}
    (hline : (apos.endLine == p2.line) = true) (hs : starEach (e :: []) X.env = (false, eval e X.env) :: starEach [] X.env)
    (hsw : swapsWith (.Call (.Attribute (.Name x p) "append" apos) [e] [] p2) none pos.line X.env = pure false) :
    PSd X Z (.Expr (.Call (.Attribute (.Name x p) "append" apos) [e] [] p2) pos) (fun ρ => if hasLst ρ i = true then (f ρ).sb fun sv ρ1 => modS i (fun d => pushAt d sv.d) ρ1 else .stuck) := by
  refine PS.weak (ps_expr (pe_bm PySem.F.plainAttrs_list PySem.F.slot_list_append PySem.F.type_list_append mt_append (pe_var hN hvs hd hcd) (pa_cons hv pa_nil hs) hbase hfew hline hs rfl) hsw) ?_
  rintro De σ H ⟨F, ρ, ok, h⟩
  dsimp only at h
  split at h
  · rename_i hl
    have ex : ∃ a ds, σ[i]? = some (some (.ref a)) ∧ OwnAt X.K Z.fa H F a (.lst ds) := by
      unfold hasLst at hl
      split at hl
      · rename_i ds e1
        obtain ⟨o, e2, a, rfl, nf, ow⟩ := ok.slot i _ e1
        exact ⟨a, ds, e2, ow⟩
      · rename_i ds e1
        obtain ⟨o, e2, a, rfl, nf, ow⟩ := ok.slot i _ e1
        exact ⟨a, ds, e2, ow⟩
      · cases hl
    obtain ⟨a, ds, e0, ow⟩ := ex
    refine ⟨_, e0, ?_, F, ρ, ok, (PostS.sbF h).imp ?_⟩
    · cases ow with
      | lst hq rl => exact .inl ⟨rfl, _, .inl (.inl hq)⟩
    · rintro v H1 ⟨sv, F1, ρ1, ok1, st, r, h1⟩
      obtain ⟨a', d, d', e3, eg, ow', nf, q⟩ := modS_ok ok1 h1
      rw [e0] at e3
      cases e3
      cases ow' with
      | lst hq rl =>
        unfold pushAt at eg
        dsimp only at eg
        split at eg
        · rename_i hz
          cases eg
          refine ⟨a, _, v, rfl, rfl, hq, by rw [rl.length, z24]; exact hz, q _ ?_⟩
          exact .lst upd_same ((rl.snoc r).stays (stays_upd (.lst hq rl) nf))
        · cases eg
      | dK _ _ => cases eg
      | dT _ _ => cases eg
  · exact h.elim
end
end DL

namespace DL
open PySem PySem.Spec PyProof.Rows L2

section
variable {K : PySem.W.Frag} {fa : Nat → Option Addr} {EX : ExR} {H : Hp} {F : AP'}
theorem RepSs.length : ∀ {vs : List V} {svs : List SV}, RepSs K fa H F vs svs → vs.length = svs.length
  | _, _, .nil => rfl
  | _, _, .cons _ r => by rw [List.length_cons, List.length_cons, RepSs.length r]
theorem RepSs.get : ∀ {vs : List V} {svs : List SV} {i : Nat} {sv : SV}, RepSs K fa H F vs svs → svs[i]? = some sv → ∃ v, vs[i]? = some v ∧ RepS K fa H F v sv
  | _, _, _, _, .nil, h => by simp at h
  | _, _, 0, _, .cons h _, e => by simp at e; subst e; exact ⟨_, rfl, h⟩
  | _, _, i + 1, _, .cons _ r, e => by
    obtain ⟨v, h1, h2⟩ := RepSs.get (i := i) r (by simpa using e)
    exact ⟨v, by simpa using h1, h2⟩
def env0 (svs : List SV) (m : Nat) : Env' := svs.map some ++ List.replicate m none
theorem env0_get {svs : List SV} {m i : Nat} {sv : SV} (h : (env0 svs m)[i]? = some (some sv)) : svs[i]? = some sv := by
  unfold env0 at h
  by_cases hi : i < svs.length
  · rw [List.getElem?_append_left (by simpa using hi), List.getElem?_map] at h
    cases e : svs[i]? with
    | none => rw [e] at h; cases h
    | some a => rw [e] at h; cases h; rfl
  · rw [List.getElem?_append_right (by simpa using hi), List.getElem?_replicate] at h
    split at h <;> cases h
theorem start_get {N : List Str} {vs : List V} {i : Nat} {v : V} (h : vs[i]? = some v) : (start N vs)[i]? = some (some v) := by
  unfold L2.start
  rw [List.getElem?_append_left (by simpa using get_lt h), List.getElem?_map, h]; rfl
theorem start_get' {N : List Str} {vs : List V} {i : Nat} {v : V} (h : (start N vs)[i]? = some (some v)) : vs[i]? = some v := by
  unfold L2.start at h
  by_cases hi : i < vs.length
  · rw [List.getElem?_append_left (by simpa using hi), List.getElem?_map] at h
    cases e : vs[i]? with
    | none => rw [e] at h; cases h
    | some a => rw [e] at h; cases h; rfl
  · rw [List.getElem?_append_right (by simpa using hi), List.getElem?_replicate] at h
    split at h <;> cases h
theorem args_mine {svs : List SV} {i : Nat} {sv : SV} (a : ArgsOk svs) (h : svs[i]? = some sv) (m : sv.mine = true) : i = 0 ∧ sv.lent = true := by
  cases svs with
  | nil => simp at h
  | cons s ss =>
    obtain ⟨a1, a2⟩ := a
    cases i with
    | zero =>
      simp at h; subst h
      cases s with
      | dat _ => cases m
      | own d => exact absurd rfl (a1 d)
      | bor d => exact ⟨rfl, rfl⟩
    | succ i =>
      have := a2 sv (List.mem_of_getElem? (by simpa using h))
      obtain ⟨d, rfl⟩ := this
      cases m
theorem own_lent {N : List Str} {vs : List V} {svs : List SV} {m : Nat} (r : RepSs K fa H F vs svs) (a : ArgsOk svs) (x : Addr) : (Own (start N vs) (env0 svs m) x → lentA vs svs x) ∧ (lentA vs svs x → Bor (start N vs) (env0 svs m) x) := by
  refine ⟨fun ⟨i, sv, h1, h2, h3⟩ => ?_, fun h => ?_⟩
  · have e1 := env0_get h1
    have e3 := start_get' h3
    obtain ⟨rfl, l⟩ := args_mine a e1 h2
    cases r with
    | nil => simp at e1
    | @cons v vs0 s ss r0 rr =>
      have e1' : s = sv := by simpa using e1
      have e3' : v = .ref x := by simpa using e3
      rw [← e1'] at l
      cases s with
      | dat _ => cases l
      | own _ => cases l
      | bor _ => exact e3'
  · cases r with
    | nil => exact h.elim
    | cons r0 rr =>
      rename_i v vs sv svs
      cases sv with
      | dat _ => exact h.elim
      | own _ => exact h.elim
      | bor d =>
        cases (show v = .ref x from h)
        exact ⟨0, .bor d, rfl, rfl, rfl⟩
theorem bor_own {σ : L2.St} {ρ : Env'} {x : Addr} (h : Bor σ ρ x) : Own σ ρ x := by
  obtain ⟨i, sv, h1, h2, h3⟩ := h
  exact ⟨i, sv, h1, (by cases sv <;> first | rfl | cases h2), h3⟩
theorem env0_ok {N : List Str} {vs : List V} {svs : List SV} (r : RepSs K fa H F vs svs) (a : ArgsOk svs) (fd : ∀ a, F a → H a ≠ none) : EnvOk K fa H F (start N vs) (env0 svs (N.length - svs.length)) := by
  refine ⟨?_, fun i sv h => ?_, fun i j sv sw x h1 h2 m1 m2 _ _ => ?_, fd⟩
  · unfold L2.start env0
    simp [r.length]
  · obtain ⟨v, h1, h2⟩ := r.get (env0_get h)
    exact ⟨v, start_get h1, h2⟩
  · rw [(args_mine a (env0_get h1) m1).1, (args_mine a (env0_get h2) m2).1]
theorem isLent_iff {svs : List SV} : isLent svs = true ↔ ∃ d r, svs = .bor d :: r := by
  constructor
  · intro h
    unfold isLent at h
    split at h
    · exact ⟨_, _, rfl⟩
    · cases h
  · rintro ⟨d, r, rfl⟩; rfl
/-- a body's end as the def's -/
theorem fin_ok {Z : Fix} {E : XK} {Q : VK} {N : List Str} {vs : List V} {svs : List SV} {r : SRes} (hZ : Z = ⟨fa, EX, fun cls d _ H => E cls d H⟩) (rr : RepSs K fa H F vs svs) (a : ArgsOk svs)
    (h : PostF K fa EX H F vs svs (finF (isLent svs) r) Q E) : PostS K Z (start N vs) H F (env0 svs (N.length - svs.length)) r { nx := fun _ H' => Q .non H', rt := Q } := by
  subst hZ
  have toStep : ∀ {H' F' σ' ρ'}, StepE H F (start N vs) (env0 svs (N.length - svs.length)) H' F' σ' ρ' → Step H F (lentA vs svs) (lentA vs svs) H' F' (lentA vs svs) (lentA vs svs) := fun {H' F' σ' ρ'} s =>
    ⟨fun x o e no => s.keep x o e fun z => no ((own_lent rr a x).1 z), s.fmono, fun x f => by
      rcases s.fnew x f with z | z | ⟨z1, z2⟩
      · exact .inl z
      · exact .inr (.inl z)
      · exact absurd ((own_lent rr a x).2 ((own_lent rr a x).1 z1)) z2, fun x h => .inl h, fun x => Iff.rfl, s.dom⟩
  -- the end with what is handed back
  have fin : ∀ {ρ' : Env'} {g : Option D → FRes}, PostF K fa EX H F vs svs (endF (isLent svs) ρ' g) Q E → ∃ b, PostF K fa EX H F vs svs (g b) Q E ∧ ∀ H' F' σ', StepE H F (start N vs) (env0 svs (N.length - svs.length)) H' F' σ' ρ' → EnvOk K fa H' F' σ' ρ' → Back K fa vs svs b H' F' := fun {ρ' g} h => by
    unfold endF at h
    split at h
    · rename_i hl
      obtain ⟨d0, rest, rfl⟩ := isLent_iff.mp hl
      split at h
      · rename_i d hb
        refine ⟨some d, h, fun H' F' σ' s ok => ?_⟩
        unfold backOf at hb
        split at hb
        · rename_i d' ρr
          cases hb
          cases rr with
          | cons r0 rr' =>
            rename_i v vs'
            obtain ⟨w, e1, x, rfl, nf, ow⟩ := ok.slot 0 (.bor d) rfl
            have hbx : Bor σ' (some (.bor d) :: ρr) x := ⟨0, .bor d, rfl, rfl, e1⟩
            have := (own_lent (N := N) (m := N.length - (SV.bor d0 :: rest).length) (.cons r0 rr') a x).1 (bor_own ((s.bor x).mp hbx))
            exact ⟨x, this, nf, ow⟩
        · cases hb
      · exact h.elim
    · rename_i hl
      refine ⟨none, h, fun H' F' σ' s ok => ?_⟩
      cases svs with
      | nil => cases vs <;> trivial
      | cons sv svs =>
        cases sv with
        | dat _ => cases vs <;> trivial
        | own d => exact absurd rfl (a.1 d)
        | bor _ => exact absurd rfl hl
  cases r with
  | nx ρ' =>
    obtain ⟨b, h1, h2⟩ := fin h
    exact fun σ' H' F' s ok => h1 .non H' F' (toStep s) ok.fd .non (fun m => by cases m) (h2 H' F' σ' s ok)
  | rt sv ρ' =>
    obtain ⟨b, h1, h2⟩ := fin h
    refine fun v σ' H' F' s ok q => h1 v H' F' (toStep s) ok.fd q.1 (fun m => ?_) (h2 H' F' σ' s ok)
    cases sv with
    | dat _ => cases m
    | own d =>
      obtain ⟨x, e, nb, o⟩ := q.2
      refine ⟨d, x, rfl, e, ?_⟩
      rcases o with o | o
      · rcases s.onew x o with z | z
        · exact absurd ((s.bor x).mpr ((own_lent rr a x).2 ((own_lent rr a x).1 z))) nb
        · exact z
      · exact o
    | bor _ => exact q.2.elim
  | exc x ρ' =>
    obtain ⟨b, h1, h2⟩ := fin h
    exact fun cls d σ' H' F' s ok q => h1 cls d H' F' (toStep s) ok.fd (h2 H' F' σ' s ok) q
  | bk ρ' => exact h.elim
  | ct ρ' => exact h.elim
  | stuck => exact h.elim
end
section
variable {P : Program} {w : World} {K : PySem.W.Frag} {mg : Str → Option Value} {base : Heap} {fa : Nat → Option Addr} {EX : ExR}
theorem fn_ok {x qual : Str} {st : Stmt} {f : Addr} {fd : FuncData} {N ps : List Str} {k n j : Nat} {defs : Nat → Option Fd} {gv : Nat → Option D} {dj : Fd} (F : L2.FunD K x qual (defArgs st) (defBody st) (defScope st) [] [] f fd) (S : FnScope N ps (defScope st)) (hj : defs j = some dj) (hp : dj.np = ps.length) (hl : dj.nl = N.length)
    (hbody : ∀ (cdv : Value) (A : Around) (outer : List Env) (s : Shared) (H : Hp) (E : XK), Room k (A.deeper (envOfC qual (defScope st) s.heap.objs.size f cdv)) →
      PSsd (cxOf (L2.CX P w) P w K mg base N qual (defScope st) f cdv A outer s H E) ⟨fa, EX, fun cls d _ H => E cls d H⟩ (defBody st) (exSs ⟨semK defs gv n k, fun i => match defs i with
          | some g => g.lend
          | none => false, gv⟩ n dj.body)) : FnOk P w K mg base (L2.CX P w) (k + 1) f fd ps (spF K fa EX (semK defs gv n (k + 1) j)) := by
  have unf : ∀ {vs H Q E}, spF K fa EX (semK defs gv n (k + 1) j) vs H Q E → ∃ F svs, (∀ a, F a → H a ≠ none) ∧ RepSs K fa H F vs svs ∧ ArgsOk svs ∧ svs.length = ps.length ∧ PostF K fa EX H F vs svs (finF (isLent svs) (exSs ⟨semK defs gv n k, fun i => match defs i with
          | some g => g.lend
          | none => false, gv⟩ n dj.body (env0 svs (N.length - svs.length)))) Q E := by
    rintro vs H Q E ⟨F, svs, fd, rr, a, h⟩
    unfold semK at h
    rw [hj] at h
    dsimp only at h
    split at h
    · rename_i hc
      refine ⟨F, svs, fd, rr, a, hc.1.trans hp, ?_⟩
      rw [← hl, hc.2, hc.1]
      exact h
    · exact h.elim
  refine L2.FunD.ok F S (fun vs H Q E h => ?_) fun cdv A outer s H vs Q E hr h => ?_
  · obtain ⟨F, svs, fd, rr, a, e, _⟩ := unf h
    rw [rr.length, e]
  · obtain ⟨F, svs, fd, rr, a, e, h⟩ := unf h
    exact ⟨_, hbody cdv A outer s H E hr, F, _, env0_ok rr a fd, fin_ok rfl rr a h⟩
end
end DL

namespace DL
open PySem PySem.Spec PyProof.Rows L2

/-! ### what is seen of a def ahead of its run -/
structure Ck where
  N : List Str
  nm : List (Str × NameKind)
  fn : List (Str × Nat)
  gd : List (Str × Nat)
  bl : List Str
def Ck.loc (C : Ck) (x : Str) (i : Nat) : Bool := (C.N[i]? == some x) && (C.nm.lookup x == some .local)
def Ck.vis (C : Ck) (x : Str) (i : Nat) : Bool := (C.N[i]? == some x) && (C.nm.lookup x == some .local || C.nm.lookup x == some .free || C.nm.lookup x == some .cell) && !(x == ("__debug__" : Str)) && !(x == ("__classdict__" : Str))
def Ck.glob (C : Ck) (x : Str) : Bool := C.nm.lookup x == some .globalImplicit
structure CtxOk (X : Cx) (Z : Fix) (C : Ck) (cf : Cf) : Prop where
  N : X.N = C.N
  nd : X.N.Nodup
  nm : X.env.scope.names = C.nm
  kind : X.env.scope.kind = .function
  calm : X.calm = true
  tk : Takes X Z.W
  po : PassesOwn (model X.prog X.w) X.A X.env X.xe
  room : X.A.units + 65 < cLine
  fn : ∀ x j, C.fn.lookup x = some j → (x == ("__debug__" : Str)) = false ∧ ∃ k f fd ps, FnOk X.prog X.w X.K X.mg X.base (CX X.prog X.w) k f fd ps (spF X.K Z.fa Z.EX (cf.run j)) ∧ Room k X.A ∧ X.mg x = some (.ref f) ∧ PySem.W.keepIn X.K (.ref f) = true ∧ Binds X.K fd ps []
  gd : ∀ x j, C.gd.lookup x = some j → (x == ("__debug__" : Str)) = false ∧ ∃ u v d, X.mg x = some u ∧ RelV v u ∧ cf.gv j = some d ∧ ∀ H F, Rep X.K Z.fa H F v d
  bl : ∀ x, x ∈ C.bl → X.mg x = none
section
variable {X : Cx} {Z : Fix} {C : Ck} {cf : Cf} {x : Str} {i : Nat}
theorem CtxOk.hloc (c : CtxOk X Z C cf) (h : C.loc x i = true) : X.N[i]? = some x ∧ X.env.scope.names.lookup x = some .local := by
  unfold Ck.loc at h
  obtain ⟨h1, h2⟩ := Bool.and_eq_true_iff.mp h
  rw [c.N, c.nm]
  exact ⟨by simpa using h1, by simpa using h2⟩
theorem CtxOk.hvis (c : CtxOk X Z C cf) (h : C.vis x i = true) : X.N[i]? = some x ∧ Vis X.env.scope x ∧ (x == ("__debug__" : Str)) = false ∧ (x == ("__classdict__" : Str)) = false := by
  unfold Ck.vis at h
  simp only [Bool.and_eq_true, Bool.or_eq_true, beq_iff_eq, Bool.not_eq_true'] at h
  obtain ⟨⟨⟨h1, h2⟩, h3⟩, h4⟩ := h
  refine ⟨by rw [c.N]; exact h1, ?_, h3, h4⟩
  unfold Vis
  rw [c.nm]
  rcases h2 with (h | h) | h
  · exact .inl h
  · exact .inr (.inr h)
  · exact .inr (.inl h)
theorem CtxOk.hgl (c : CtxOk X Z C cf) (h : C.glob x = true) : Gl X x := by
  unfold Ck.glob at h
  show X.env.scope.names.lookup x = _
  rw [c.nm]
  simpa using h
end

/-! ### shapes -/
def plainT : Expr → Bool
  | .UnaryOp .Not _ _ => false
  | .BoolOp _ _ _ => false
  | .IfExp _ _ _ _ => false
  | .Compare _ _ _ _ => false
  | _ => true
theorem plainT_ok {e : Expr} (h : plainT e = true) {env : Env} : ∀ whole, isTrue e env whole = (do let v ← whole; standAt e.pos; holding [v] (truthy v)) := by
  intro whole
  cases e with
  | UnaryOp o a p => cases o <;> first | rfl | cases h
  | _ => first | rfl | cases h
def plainI : Expr → Bool
  | .Slice _ _ _ _ => false
  | _ => true
theorem plainI_ok {e : Expr} (h : plainI e = true) : PlainIx e := by
  intro o i
  cases e <;> first | rfl | cases h
/-- not a comprehension -/
def plainC : Expr → Bool
  | .ListComp _ _ _ _ => false
  | .SetComp _ _ _ _ => false
  | .DictComp _ _ _ _ _ => false
  | _ => true
theorem plainC_ok {e : Expr} (h : plainC e = true) {t : Option Expr} {l : Nat} {env : Env} : swapsWith e t l env = pure false := by
  cases e <;> first | rfl | cases h
theorem plainC_sole {e tg : Expr} (h : plainC e = true) {l : Nat} {env : Env} : swapsWithSole [tg] e l env = pure false := plainC_ok h
def plainF : Expr → Bool
  | .Set _ _ _ => false
  | _ => true
theorem plainF_ok {e : Expr} (h : plainF e = true) {env : Env} : ∀ x, foldedSetIterable e env x = pure x := by
  intro x
  cases e <;> first | rfl | cases h
theorem assign_plain {e : Expr} {es : List Expr} {env : Env} (h : plainE e = true) : assignEach (e :: es) env = (false, assign e env) :: assignEach es env := by
  cases e <;> first | rfl | cases h
theorem assign_all {env : Env} : ∀ {es : List Expr}, es.all plainE = true → (assignEach es env).length = es.length ∧ (assignEach es env).findIdx? (·.1) = none
  | [], _ => ⟨rfl, rfl⟩
  | e :: es, h => by
    rw [List.all_cons, Bool.and_eq_true] at h
    obtain ⟨h1, h2⟩ := assign_all (env := env) h.2
    rw [assign_plain h.1]
    refine ⟨by rw [List.length_cons, List.length_cons, h1], ?_⟩
    rw [List.findIdx?_cons, h2]
    rfl
/-- the swapped stores of a, b = x, y -/
def swapP (nm : List (Str × NameKind)) (ts vs : List Expr) : Option (Option (List Str)) :=
  if (!(ts.length == 2 || ts.length == 3) || vs.length != ts.length) = true then some none
  else if (vs.any fun | .Starred .. => true | _ => false) = true then some none
  else
    let line := (ts.head?.map (·.pos.line)).getD 0
    let names := ts.filterMap fun
      | .Name id pos => if nm.lookup id == some .local && pos.line == line then some id else none
      | _ => none
    if (names.length != ts.length || names.eraseDups.length != names.length) = true then some none
    else if vs.all (foldedForSure 8) = true then some none
    else if vs.all (constantsAlone 8) = true then none
    else some (some names)
theorem swapP_ok {nm : List (Str × NameKind)} {ts vs : List Expr} {env : Env} {r : Option (List Str)} {k k2 : Nat} {p p2 : Pos} (hn : env.scope.names = nm) (hk : env.scope.kind = .function) (h : swapP nm ts vs = some r) : swappedStores [.Tuple ts k p] (.Tuple vs k2 p2) env = pure r := by
  subst hn
  have hb : env.blockKind = .function := by unfold Env.blockKind; rw [hk]; rfl
  unfold swapP at h
  unfold swappedStores
  rw [hb]
  have e0 : (ScopeKind.function != ScopeKind.function) = false := rfl
  rw [e0]
  dsimp only at h ⊢
  rw [Bool.or_false]
  split at h
  · rename_i h1
    cases h
    rw [if_pos h1]
  · rename_i h1
    rw [if_neg h1]
    split at h
    · rename_i h2
      cases h
      exact if_pos h2
    · rename_i h2
      refine (if_neg h2).trans ?_
      split at h
      · rename_i h3
        cases h
        exact if_pos h3
      · rename_i h3
        refine (if_neg h3).trans ?_
        split at h
        · rename_i h4
          cases h
          exact if_pos h4
        · rename_i h4
          refine (if_neg h4).trans ?_
          split at h
          · cases h
          · rename_i h5
            cases h
            exact if_neg h5
theorem swap_value {ts : List Expr} {e : Expr} {env : Env} {k : Nat} {p : Pos} (h : ∀ vs k2 p2, e ≠ .Tuple vs k2 p2) : swappedStores [.Tuple ts k p] e env = pure none := by
  cases e <;> first | rfl | exact absurd rfl (h _ _ _)
end DL

namespace DL
open PySem PySem.Spec PyProof.Rows L2

/-! ### the check of an expression -/
def ckC : D → Expr → Bool
  | .non, .Constant .none _ _ => true
  | .bl b, .Constant (.bool c) _ _ => b == c
  | .int i, .Constant (.int j) _ _ => i == j
  | .str x, .Constant (.str y) _ _ => x == y
  | _, _ => false
def tyOk (z : Str) (T : String) : Bool :=
  (z == ("int" : Str) && T == "int") || (z == ("str" : Str) && T == "str") || (z == ("tuple" : Str) && T == "tuple") || (z == ("list" : Str) && T == "list") || (z == ("bool" : Str) && T == "bool") || (z == ("dict" : Str) && T == "dict")
theorem tyOk_ok {z : Str} {T : String} (h : tyOk z T = true) : bootBuiltins z = some (.type T) ∧ z ≠ "__name__" ∧ (z == ("__debug__" : Str)) = false := by
  unfold tyOk at h
  simp only [Bool.or_eq_true, Bool.and_eq_true, beq_iff_eq] at h
  rcases h with ((((⟨rfl, rfl⟩ | ⟨rfl, rfl⟩) | ⟨rfl, rfl⟩) | ⟨rfl, rfl⟩) | ⟨rfl, rfl⟩) | ⟨rfl, rfl⟩ <;> exact ⟨by decide +kernel, by decide, by decide⟩
/-- a builtin's name -/
def Ck.blt (C : Ck) (x : Str) : Bool := C.glob x && C.bl.contains x
mutual
def ckE (C : Ck) : Nat → Q → Expr → Bool
  | 0, _, _ => false
  | n + 1, q, e => match q with
    | .cst d => ckC d e
    | .var i => (match e with
      | .Name x _ => C.vis x i
      | _ => false)
    | .glb j => (match e with
      | .Name x _ => C.glob x && C.gd.lookup x == some j
      | _ => false)
    | .tup qs => (match e with
      | .Tuple es _ _ => ckL C n qs es
      | _ => false)
    | .lst qs => (match e with
      | .List es _ => ckL C n qs es
      | _ => false)
    | .lmul qs b => (match e with
      | .BinOp (.List es _) .Mult e _ => ckL C n qs es && ckE C n b e
      | _ => false)
    | .dic _ => (match e with
      | .Dict [] [] _ => true
      | _ => false)
    | .dic1 k v => (match e with
      | .Dict [some a] [b] _ => ckE C n k a && ckE C n v b
      | _ => false)
    | .bin o a b => (match e with
      | .BinOp x o' y _ => o == o' && ckE C n a x && ckE C n b y
      | _ => false)
    | .neg a => (match e with
      | .UnaryOp .USub x _ => ckE C n a x
      | _ => false)
    | .cmp o a b => (match e with
      | .Compare x [o'] [y] _ => o == o' && !(behindInMarks o y) && ckE C n a x && ckE C n b y
      | _ => false)
    | .chain o o' a b c => (match e with
      | .Compare x [p, p'] [y, z] _ => o == p && o' == p' && !(lastMarks [o, o'] [y, z]) && ckE C n a x && ckE C n b y && ckE C n c z
      | _ => false)
    | .and a b => (match e with
      | .BoolOp .And (x :: y :: r) pos => ckE C n a x && (match r with
        | [] => ckE C n b y
        | _ => ckE C n b (.BoolOp .And (y :: r) pos))
      | _ => false)
    | .or a b => (match e with
      | .BoolOp .Or (x :: y :: r) pos => ckE C n a x && (match r with
        | [] => ckE C n b y
        | _ => ckE C n b (.BoolOp .Or (y :: r) pos))
      | _ => false)
    | .not a => (match e with
      | .UnaryOp .Not x _ => ckE C n a x
      | _ => false)
    | .ite c a b => (match e with
      | .IfExp x y z _ => ckT C n c x && ckE C n a y && ckE C n b z
      | _ => false)
    | .idx a b => (match e with
      | .Subscript x y _ => plainI y && ckE C n a x && ckE C n b y
      | _ => false)
    | .slc a lo hi => (match e with
      | .Subscript x (.Slice l h none _) _ => ckE C n a x && ckO C n lo l && ckO C n hi h
      | _ => false)
    | .rev a => (match e with
      | .Subscript x (.Slice none none (some (.UnaryOp .USub (.Constant (.int i) _ _) _)) _) _ => i == 1 && ckE C n a x
      | _ => false)
    | .call j args => (match e with
      | .Call (.Name x _) es [] _ => C.glob x && C.fn.lookup x == some j && ckL C n args es
      | _ => false)
    | .bi b args => (match e with
      | .Call (.Name x _) (e :: es) [] _ => x == b.name && C.blt x && ckL C n args (e :: es)
      | _ => false)
    | .inst a T => (match e with
      | .Call (.Name x _) [y, .Name z _] [] _ => x == ("isinstance" : Str) && C.blt x && C.blt z && tyOk z T && plainE y && ckE C n a y
      | _ => false)
    | .lrng a => (match e with
      | .Call (.Name x _) [.Call (.Name y _) [z] [] _] [] _ => x == ("list" : Str) && y == ("range" : Str) && C.blt x && C.blt y && plainE z && ckE C n a z
      | _ => false)
    | .dcp a => (match e with
      | .Call (.Name x _) [y] [] _ => x == ("dict" : Str) && C.blt x && plainE y && ckE C n a y
      | _ => false)
    | .dprs a => (match e with
      | .Call (.Name x _) [y] [] _ => x == ("dict" : Str) && C.blt x && plainE y && ckE C n a y
      | _ => false)
    | _ => false
def ckL (C : Ck) : Nat → List Q → List Expr → Bool
  | 0, _, _ => false
  | _ + 1, [], [] => true
  | n + 1, q :: qs, e :: es => plainE e && ckE C n q e && ckL C n qs es
  | _, _, _ => false
def ckO (C : Ck) : Nat → Option Q → Option Expr → Bool
  | 0, _, _ => false
  | _ + 1, none, none => true
  | n + 1, some q, some e => ckE C n q e
  | _, _, _ => false
def ckT (C : Ck) : Nat → Q → Expr → Bool
  | 0, _, _ => false
  | n + 1, q, e => match q with
    | .and a b => (match e with
      | .BoolOp .And (x :: y :: r) pos => ckT C n a x && (match r with
        | [] => ckT C n b y
        | _ => ckT C n b (.BoolOp .And (y :: r) pos))
      | _ => false)
    | .or a b => (match e with
      | .BoolOp .Or (x :: y :: r) pos => ckT C n a x && (match r with
        | [] => ckT C n b y
        | _ => ckT C n b (.BoolOp .Or (y :: r) pos))
      | _ => false)
    | .not a => (match e with
      | .UnaryOp .Not x _ => ckT C n a x
      | _ => false)
    | .cmp o a b => (match e with
      | .Compare x [o'] [y] _ => o == o' && !(behindInMarks o y) && ckE C n a x && ckE C n b y
      | _ => false)
    | .chain o o' a b c => (match e with
      | .Compare x [p, p'] [y, z] _ => o == p && o' == p' && !(lastMarks [o, o'] [y, z]) && ckE C n a x && ckE C n b y && ckE C n c z
      | _ => false)
    | q => plainT e && ckE C n q e
end

/-! ### it tells the truth -/
section
variable {X : Cx} {Z : Fix} {cf : Cf} {e : Expr}
theorem pd_stuck : PEd X Z e (fun _ => .stuck) := ⟨fun _ _ _ _ _ _ ⟨_, _, _, h⟩ => h.elim⟩
theorem ptd_stuck : PTd X Z e (fun _ => .stuck) := ⟨fun _ _ _ _ _ _ ⟨_, _, _, h⟩ => h.elim⟩
theorem pwd_stuck : PWd X Z e (fun _ => .stuck) := ⟨fun _ _ _ _ _ _ _ ⟨_, _, _, h⟩ => h.elim⟩
theorem po_stuck {o : Option Expr} : POpt X Z o (fun _ => .stuck) := ⟨fun _ _ _ _ _ _ ⟨_, _, _, h⟩ => h.elim⟩
theorem pd_bool1 {f : Env' → Res SV} {op : BoolOp} {pos : Pos} (h : PEd X Z e f) : PEd X Z (.BoolOp op [e] pos) f := ⟨fun pins s σ H Q I q => h.run pins s σ H Q I q⟩
theorem PEd.congr {f g : Env' → Res SV} (h : PEd X Z e f) (e2 : ∀ ρ, f ρ = g ρ) : PEd X Z e g := by
  have : f = g := funext e2
  rw [← this]; exact h
theorem PTd.congr {f g : Env' → Res Bool} (h : PTd X Z e f) (e2 : ∀ ρ, f ρ = g ρ) : PTd X Z e g := by
  have : f = g := funext e2
  rw [← this]; exact h
structure Snd (Z : Fix) (cf : Cf) (n : Nat) : Prop where
  e : ∀ (C : Ck) (X : Cx) q e, CtxOk X Z C cf → ckE C n q e = true → ∀ m, PEd X Z e (ev cf m q)
  l : ∀ (C : Ck) (X : Cx) qs es, CtxOk X Z C cf → ckL C n qs es = true → es.all plainE = true ∧ ∀ m, PVd X Z es (vals (ev cf m) qs) ∧ PAd X Z es (opds (ev cf m) qs)
  o : ∀ (C : Ck) (X : Cx) q o, CtxOk X Z C cf → ckO C n q o = true → ∀ m, POpt X Z o (part cf m q)
  t : ∀ (C : Ck) (X : Cx) q e, CtxOk X Z C cf → ckT C n q e = true → ∀ m, PTd X Z e (evT cf m q) ∧ ((∃ op es pos, e = .BoolOp op es pos) → PWd X Z e (evT cf m q))
theorem snd_zero : Snd Z cf 0 := ⟨fun _ _ _ _ _ h => (by cases h), fun _ _ _ _ _ h => (by cases h), fun _ _ _ _ _ h => (by cases h), fun _ _ _ _ _ h => (by cases h)⟩
/-- an operand -/
theorem pod_of {C : Ck} {q : Q} (c : CtxOk X Z C cf) {n : Nat} (h : ckE C n q e = true) (hp : ∀ m, PEd X Z e (ev cf m q)) (m : Nat) : POd X Z e (opd (ev cf m) q) := by
  by_cases hq : ∃ i, q = .var i
  · obtain ⟨i, rfl⟩ := hq
    cases n with
    | zero => cases h
    | succ n =>
      unfold ckE at h
      dsimp only at h
      split at h
      · obtain ⟨h1, h2, h3, h4⟩ := c.hvis h
        exact po_var h1 h2 h3 h4
      · cases h
  · have : opd (ev cf m) q = fun ρ => (ev cf m q ρ).bind fun sv ρ' => .ok (.dd sv.d) ρ' := by
      funext ρ
      cases q <;> first | rfl | exact absurd ⟨_, rfl⟩ hq
    rw [this]
    exact po_val (hp m)

theorem pvad {C : Ck} {n : Nat} {q : Q} {qs : List Q} {es : List Expr} (c : CtxOk X Z C cf) (hq : ckE C n q e = true) (hp : ∀ m, PEd X Z e (ev cf m q)) (pl : plainE e = true) (r : ∀ m, PVd X Z es (vals (ev cf m) qs) ∧ PAd X Z es (opds (ev cf m) qs)) (m : Nat) :
    PVd X Z (e :: es) (vals (ev cf m) (q :: qs)) ∧ PAd X Z (e :: es) (opds (ev cf m) (q :: qs)) := ⟨pvd_cons (hp m) (r m).1 pl, pad_cons (pod_of c hq hp m) (r m).2 pl⟩
theorem ckC_ok {d : D} (h : ckC d e = true) : PEd X Z e (fun ρ => .ok (.dat d) ρ) := by
  unfold ckC at h
  split at h
  · exact pd_con pe_non fun _ _ => .non
  · obtain rfl := eq_of_beq h; exact pd_con pe_bl fun _ _ => .bl _
  · obtain rfl := eq_of_beq h; exact pd_con pe_int fun _ _ => .int _
  · obtain rfl := eq_of_beq h; exact pd_con pe_str fun _ _ => .str _
  · cases h
theorem blt_ok {C : Ck} {x : Str} (c : CtxOk X Z C cf) (h : C.blt x = true) : Gl X x ∧ X.mg x = none := by
  unfold Ck.blt at h
  obtain ⟨h1, h2⟩ := Bool.and_eq_true_iff.mp h
  exact ⟨c.hgl h1, c.bl x (by simpa using h2)⟩
theorem call_any {C : Ck} {x : Str} {p pos : Pos} {es : List Expr} {args : List Q} {j k : Nat} {f : Addr} {fd : FuncData} {ps : List Str} {m : Nat} (c : CtxOk X Z C cf) (F : FnOk X.prog X.w X.K X.mg X.base (CX X.prog X.w) k f fd ps (spF X.K Z.fa Z.EX (cf.run j))) (hr : Room k X.A) (hg : Gl X x) (hm : X.mg x = some (.ref f)) (hk : PySem.W.keepIn X.K (.ref f) = true) (hb : Binds X.K fd ps [])
    (hd : (x == ("__debug__" : Str)) = false) (pl : es.all plainE = true) (hn : es = [] → args = []) (ha : ∀ m, PAd X Z es (opds (ev cf m) args)) : PEd X Z (.Call (.Name x p) es [] pos) (ev cf (m + 1) (.call j args)) := by
  cases es with
  | nil =>
    obtain rfl := hn rfl
    exact pd_call0 F c.tk hr hg hm hk hb hd
  | cons e0 es =>
    have pl' := pl
    rw [List.all_cons, Bool.and_eq_true] at pl'
    exact pd_call F c.tk hr hg hm hk hb (ha m) hd (star_plain pl'.1) (back_plain pl'.2)
theorem band {a b : Bool} (h : (a && b) = true) : a = true ∧ b = true := Bool.and_eq_true_iff.mp h
theorem bnot {a : Bool} (h : (!a) = true) : a = false := by cases a <;> first | rfl | cases h
theorem snd_e {n : Nat} (S : Snd Z cf n) (C : Ck) (X : Cx) (q : Q) (e : Expr) (c : CtxOk X Z C cf) (h : ckE C (n + 1) q e = true) : ∀ m, PEd X Z e (ev cf m q) := by
  intro m
  cases m with
  | zero => exact pd_stuck
  | succ m =>
    have hu1 : X.A.units + 1 < cLine := by have := c.room; omega
    unfold ckE at h
    cases q with
    | var i =>
      dsimp only at h
      split at h
      · obtain ⟨h1, h2, h3, h4⟩ := c.hvis h
        exact pd_var h1 h2 h3 h4
      · cases h
    | cst d => exact ckC_ok h
    | glb j =>
      dsimp only at h
      split at h
      · obtain ⟨h1, h2⟩ := band h
        obtain ⟨hd, u, v, d, k1, k2, k3, k4⟩ := c.gd _ _ (eq_of_beq h2)
        refine (pd_con (pe_glob (c.hgl h1) k1 k2 hd) k4).congr fun ρ => ?_
        show (Res.ok (SV.dat d) ρ : Res SV) = (match cf.gv j with
          | some d => (Res.ok (SV.dat d) ρ : Res SV)
          | none => Res.stuck)
        rw [k3]
      · cases h
    | tup qs =>
      dsimp only at h
      split at h
      · exact pd_tup ((S.l C X _ _ c h).2 m).1
      · cases h
    | lst qs =>
      dsimp only at h
      split at h
      · exact pd_lst ((S.l C X _ _ c h).2 m).1
      · cases h
    | lmul qs b =>
      dsimp only at h
      split at h
      · obtain ⟨h1, h2⟩ := band h
        exact pd_lmul ((S.l C X _ _ c h1).2 m).1 (S.e C X _ _ c h2 m)
      · cases h
    | dic t =>
      dsimp only at h
      split at h
      · cases t
        · exact pd_dicK
        · exact pd_dicT
      · cases h
    | dic1 k v =>
      dsimp only at h
      split at h
      · obtain ⟨h1, h2⟩ := band h
        exact pd_dic1 (S.e C X _ _ c h1 m) (S.e C X _ _ c h2 m)
      · cases h
    | bin o a b =>
      dsimp only at h
      split at h
      · obtain ⟨h1, h3⟩ := band h
        obtain ⟨h1, h2⟩ := band h1
        obtain rfl := eq_of_beq h1
        exact pd_bin (pod_of c h2 (S.e C X _ _ c h2) m) (pod_of c h3 (S.e C X _ _ c h3) m)
      · cases h
    | neg a =>
      dsimp only at h
      split at h
      · exact pd_neg (S.e C X _ _ c h m)
      · cases h
    | cmp o a b =>
      dsimp only at h
      split at h
      · obtain ⟨h1, h4⟩ := band h
        obtain ⟨h1, h3⟩ := band h1
        obtain ⟨h1, h2⟩ := band h1
        obtain rfl := eq_of_beq h1
        exact pd_cmp c.room (pod_of c h3 (S.e C X _ _ c h3) m) (pod_of c h4 (S.e C X _ _ c h4) m) (bnot h2)
      · cases h
    | chain o o' a b d =>
      dsimp only at h
      split at h
      · obtain ⟨h1, h6⟩ := band h
        obtain ⟨h1, h5⟩ := band h1
        obtain ⟨h1, h4⟩ := band h1
        obtain ⟨h1, h3⟩ := band h1
        obtain ⟨h1, h2⟩ := band h1
        obtain rfl := eq_of_beq h1
        obtain rfl := eq_of_beq h2
        exact pd_chain c.room (S.e C X _ _ c h4 m) (S.e C X _ _ c h5 m) (S.e C X _ _ c h6 m) (bnot h3)
      · cases h
    | and a b =>
      dsimp only at h
      split at h
      · obtain ⟨h1, h2⟩ := band h
        split at h2
        · exact pd_and (S.e C X _ _ c h1 m) (pd_bool1 (S.e C X _ _ c h2 m))
        · exact pd_and (S.e C X _ _ c h1 m) (S.e C X _ _ c h2 m)
      · cases h
    | or a b =>
      dsimp only at h
      split at h
      · obtain ⟨h1, h2⟩ := band h
        split at h2
        · exact pd_or (S.e C X _ _ c h1 m) (pd_bool1 (S.e C X _ _ c h2 m))
        · exact pd_or (S.e C X _ _ c h1 m) (S.e C X _ _ c h2 m)
      · cases h
    | not a =>
      dsimp only at h
      split at h
      · exact pd_not (S.e C X _ _ c h m)
      · cases h
    | ite t a b =>
      dsimp only at h
      split at h
      · obtain ⟨h1, h3⟩ := band h
        obtain ⟨h1, h2⟩ := band h1
        exact pd_ite (S.t C X _ _ c h1 m).1 (S.e C X _ _ c h2 m) (S.e C X _ _ c h3 m)
      · cases h
    | idx a b =>
      dsimp only at h
      split at h
      · obtain ⟨h1, h3⟩ := band h
        obtain ⟨h1, h2⟩ := band h1
        exact pd_idx hu1 (pod_of c h2 (S.e C X _ _ c h2) m) (pod_of c h3 (S.e C X _ _ c h3) m) (plainI_ok h1)
      · cases h
    | slc a lo hi =>
      dsimp only at h
      split at h
      · obtain ⟨h1, h3⟩ := band h
        obtain ⟨h1, h2⟩ := band h1
        exact pd_slc (pod_of c h1 (S.e C X _ _ c h1) m) (S.o C X _ _ c h2 m) (S.o C X _ _ c h3 m)
      · cases h
    | rev a =>
      dsimp only at h
      split at h
      · obtain ⟨h1, h2⟩ := band h
        obtain rfl := eq_of_beq h1
        exact pd_rev (pod_of c h2 (S.e C X _ _ c h2) m)
      · cases h
    | call j args =>
      dsimp only at h
      split at h
      · obtain ⟨h1, h3⟩ := band h
        obtain ⟨h1, h2⟩ := band h1
        obtain ⟨hd, k, f, fd, ps, k1, k2, k3, k4, k5⟩ := c.fn _ _ (eq_of_beq h2)
        obtain ⟨pl, ha⟩ := S.l C X _ _ c h3
        refine call_any c k1 k2 (c.hgl h1) k3 k4 k5 hd pl (fun z => ?_) (fun m => (ha m).2)
        rw [z] at h3
        cases n with
        | zero => cases h3
        | succ n => cases args <;> first | rfl | cases h3
      · cases h
    | bi b args =>
      dsimp only at h
      split at h
      · obtain ⟨h1, h3⟩ := band h
        obtain ⟨h1, h2⟩ := band h1
        obtain rfl := eq_of_beq h1
        obtain ⟨g1, g2⟩ := blt_ok c h2
        obtain ⟨pl, ha⟩ := S.l C X _ _ c h3
        exact pd_bi c.calm g1 g2 (ha m).2 pl
      · cases h
    | inst a T =>
      dsimp only at h
      split at h
      · obtain ⟨h1, h6⟩ := band h
        obtain ⟨h1, h5⟩ := band h1
        obtain ⟨h1, h4⟩ := band h1
        obtain ⟨h1, h3⟩ := band h1
        obtain ⟨h1, h2⟩ := band h1
        obtain rfl := eq_of_beq h1
        obtain ⟨g1, g2⟩ := blt_ok c h2
        obtain ⟨g3, g4⟩ := blt_ok c h3
        obtain ⟨t1, t2, t3⟩ := tyOk_ok h4
        exact pd_inst g1 g2 g3 g4 t1 t2 t3 (pod_of c h6 (S.e C X _ _ c h6) m) h5
      · cases h
    | lrng a =>
      dsimp only at h
      split at h
      · obtain ⟨h1, h6⟩ := band h
        obtain ⟨h1, h5⟩ := band h1
        obtain ⟨h1, h4⟩ := band h1
        obtain ⟨h1, h3⟩ := band h1
        obtain ⟨h1, h2⟩ := band h1
        obtain rfl := eq_of_beq h1
        obtain rfl := eq_of_beq h2
        obtain ⟨g1, g2⟩ := blt_ok c h3
        obtain ⟨g3, g4⟩ := blt_ok c h4
        exact pd_lrng c.calm g1 g2 g3 g4 (S.e C X _ _ c h6 m) h5
      · cases h
    | dcp a =>
      dsimp only at h
      split at h
      · obtain ⟨h1, h4⟩ := band h
        obtain ⟨h1, h3⟩ := band h1
        obtain ⟨h1, h2⟩ := band h1
        obtain rfl := eq_of_beq h1
        obtain ⟨g1, g2⟩ := blt_ok c h2
        exact pd_dcp g1 g2 (pod_of c h4 (S.e C X _ _ c h4) m) h3
      · cases h
    | dprs a =>
      dsimp only at h
      split at h
      · obtain ⟨h1, h4⟩ := band h
        obtain ⟨h1, h3⟩ := band h1
        obtain ⟨h1, h2⟩ := band h1
        obtain rfl := eq_of_beq h1
        obtain ⟨g1, g2⟩ := blt_ok c h2
        exact pd_dprs c.calm g1 g2 (pod_of c h4 (S.e C X _ _ c h4) m) h3
      · cases h
    | _ => cases h
theorem snd_l {n : Nat} (S : Snd Z cf n) (C : Ck) (X : Cx) (qs : List Q) (es : List Expr) (c : CtxOk X Z C cf) (h : ckL C (n + 1) qs es = true) : es.all plainE = true ∧ ∀ m, PVd X Z es (vals (ev cf m) qs) ∧ PAd X Z es (opds (ev cf m) qs) := by
  unfold ckL at h
  split at h
  · rename_i hh; cases hh
  · exact ⟨rfl, fun m => ⟨pvd_nil, pad_nil⟩⟩
  · rename_i n' q qs e es hn
    cases hn
    obtain ⟨h1, h3⟩ := band h
    obtain ⟨h1, h2⟩ := band h1
    obtain ⟨pl, r⟩ := S.l C X _ _ c h3
    exact ⟨by rw [List.all_cons, h1, pl]; rfl, pvad c h2 (S.e C X _ _ c h2) h1 r⟩
  · cases h
theorem snd_o {n : Nat} (S : Snd Z cf n) (C : Ck) (X : Cx) (q : Option Q) (o : Option Expr) (c : CtxOk X Z C cf) (h : ckO C (n + 1) q o = true) : ∀ m, POpt X Z o (part cf m q) := by
  intro m
  cases m with
  | zero => exact po_stuck
  | succ m =>
    unfold ckO at h
    split at h
    · rename_i hh; cases hh
    · exact pod_none
    · rename_i n' q e hn
      cases hn
      exact pod_some (S.e C X _ _ c h m)
    · cases h
theorem notBool {P : Prop} (h : plainT e = true) (op : BoolOp) (es : List Expr) (pos : Pos) : e = .BoolOp op es pos → P := by
  rintro rfl; cases h
theorem ptd_val' {f : Env' → Res SV} (pl : plainT e = true) (h : PEd X Z e f) : PTd X Z e (fun ρ => (f ρ).bind fun sv ρ1 => lift (tru sv.d) ρ1) ∧ ((∃ op es pos, e = .BoolOp op es pos) → PWd X Z e (fun ρ => (f ρ).bind fun sv ρ1 => lift (tru sv.d) ρ1)) :=
  ⟨ptd_val h (plainT_ok pl), fun ⟨_, _, _, e1⟩ => notBool pl _ _ _ e1⟩
theorem snd_t {n : Nat} (S : Snd Z cf n) (C : Ck) (X : Cx) (q : Q) (e : Expr) (c : CtxOk X Z C cf) (h : ckT C (n + 1) q e = true) : ∀ m, PTd X Z e (evT cf m q) ∧ ((∃ op es pos, e = .BoolOp op es pos) → PWd X Z e (evT cf m q)) := by
  intro m
  cases m with
  | zero => exact ⟨ptd_stuck, fun _ => pwd_stuck⟩
  | succ m =>
    unfold ckT at h
    cases q with
    | and a b =>
      dsimp only at h
      split at h
      · obtain ⟨h1, h2⟩ := band h
        split at h2
        · exact ⟨(pwd_and (S.t C X _ _ c h1 m).1 (pwd_and1 (S.t C X _ _ c h2 m).1)).pt, fun _ => pwd_and (S.t C X _ _ c h1 m).1 (pwd_and1 (S.t C X _ _ c h2 m).1)⟩
        · have w := pwd_and (S.t C X _ _ c h1 m).1 ((S.t C X _ _ c h2 m).2 ⟨_, _, _, rfl⟩)
          exact ⟨w.pt, fun _ => w⟩
      · cases h
    | or a b =>
      dsimp only at h
      split at h
      · obtain ⟨h1, h2⟩ := band h
        split at h2
        · exact ⟨(pwd_or (S.t C X _ _ c h1 m).1 (pwd_or1 (S.t C X _ _ c h2 m).1)).pt, fun _ => pwd_or (S.t C X _ _ c h1 m).1 (pwd_or1 (S.t C X _ _ c h2 m).1)⟩
        · have w := pwd_or (S.t C X _ _ c h1 m).1 ((S.t C X _ _ c h2 m).2 ⟨_, _, _, rfl⟩)
          exact ⟨w.pt, fun _ => w⟩
      · cases h
    | not a =>
      dsimp only at h
      split at h
      · exact ⟨ptd_not (S.t C X _ _ c h m).1, fun ⟨_, _, _, z⟩ => by cases z⟩
      · cases h
    | cmp o a b =>
      dsimp only at h
      split at h
      · obtain ⟨h1, h4⟩ := band h
        obtain ⟨h1, h3⟩ := band h1
        obtain ⟨h1, h2⟩ := band h1
        obtain rfl := eq_of_beq h1
        refine ⟨?_, fun ⟨_, _, _, z⟩ => by cases z⟩
        cases m with
        | zero => exact ptd_stuck
        | succ m =>
          refine (ptd_cmp c.room (pod_of c h3 (S.e C X _ _ c h3) m) (pod_of c h4 (S.e C X _ _ c h4) m) (bnot h2)).congr fun ρ => ?_
          show op2 (ev cf m) (cmpP o) a b ρ = Res.bind (α := SV) ((op2 (ev cf m) (cmpP o) a b ρ).bind fun c ρ1 => .ok (.dat (.bl c)) ρ1) fun sv ρ1 => lift (tru sv.d) ρ1
          cases op2 (ev cf m) (cmpP o) a b ρ <;> rfl
      · cases h
    | chain o o' a b d =>
      dsimp only at h
      split at h
      · obtain ⟨h1, h6⟩ := band h
        obtain ⟨h1, h5⟩ := band h1
        obtain ⟨h1, h4⟩ := band h1
        obtain ⟨h1, h3⟩ := band h1
        obtain ⟨h1, h2⟩ := band h1
        obtain rfl := eq_of_beq h1
        obtain rfl := eq_of_beq h2
        refine ⟨?_, fun ⟨_, _, _, z⟩ => by cases z⟩
        cases m with
        | zero => exact ptd_stuck
        | succ m => exact ptd_chain c.room (S.e C X _ _ c h4 m) (S.e C X _ _ c h5 m) (S.e C X _ _ c h6 m) (bnot h3)
      · cases h
    | _ =>
      dsimp only at h
      obtain ⟨h1, h2⟩ := band h
      exact ptd_val' h1 (S.e C X _ _ c h2 m)
theorem snd_all : ∀ n, Snd Z cf n
  | 0 => snd_zero
  | n + 1 => ⟨snd_e (snd_all n), snd_l (snd_all n), snd_o (snd_all n), snd_t (snd_all n)⟩
end
end DL

namespace DL
open PySem PySem.Spec PyProof.Rows L2

def isTup : Expr → Bool
  | .Tuple _ _ _ => true
  | _ => false
mutual
def ckG (C : Ck) : Nat → Tg → Expr → Bool
  | 0, _, _ => false
  | n + 1, T, e => match T with
    | .nm i => (match e with
      | .Name x _ => C.loc x i
      | _ => false)
    | .tup ts => (match e with
      | .Tuple es _ _ => ckGs C n ts es
      | _ => false)
def ckGs (C : Ck) : Nat → List Tg → List Expr → Bool
  | 0, _, _ => false
  | _ + 1, [], [] => true
  | n + 1, T :: ts, e :: es => plainE e && ckG C n T e && ckGs C n ts es
  | _, _, _ => false
end
def ckI (C : Ck) (n : Nat) (it : It) (tg e : Expr) : Bool := match it with
  | .seq q => ckE C n q e
  | .rng a => (match e with
    | .Call (.Name x _) [y] [] _ => x == ("range" : Str) && C.blt x && plainE y && ckE C n a y
    | _ => false)
  | .rng2 a b => (match e with
    | .Call (.Name x _) [y, z] [] _ => x == ("range" : Str) && C.blt x && plainE y && plainE z && ckE C n a y && ckE C n b z
    | _ => false)
  | .enum a => (match e with
    | .Call (.Name x _) [y] [] _ => x == ("enumerate" : Str) && C.blt x && plainE y && isTup tg && ckE C n a y
    | _ => false)
  | .zip a b => (match e with
    | .Call (.Name x _) [y, z] [] _ => x == ("zip" : Str) && C.blt x && plainE y && plainE z && isTup tg && ckE C n a y && ckE C n b z
    | _ => false)
  | _ => false
def swapNone (nm : List (Str × NameKind)) (ts : List Expr) (e : Expr) : Bool := match e with
  | .Tuple vs _ _ => swapP nm ts vs == some none
  | _ => true
mutual
def ckS (C : Ck) : Nat → S → Stmt → Bool
  | 0, _, _ => false
  | n + 1, s, st => match s with
    | .set i q => (match st with
      | .Assign [.Name x _] e _ => C.loc x i && plainC e && ckE C n q e
      | _ => false)
    | .unp ts q => (match st with
      | .Assign [.Tuple es k p] e _ => ckG C n (.tup ts) (.Tuple es k p) && plainC e && swapNone C.nm es e && ckE C n q e
      | _ => false)
    | .par i j a b => (match st with
      | .Assign [.Tuple [.Name x px, .Name y py] _ _] (.Tuple [c, d] _ _) _ => i != j && C.loc x i && C.loc y j && (swapP C.nm [.Name x px, .Name y py] [c, d] == some (some [x, y])) && plainE c && plainE d && ckE C n a c && ckE C n b d
      | _ => false)
    | .store i k v => (match st with
      | .Assign [.Subscript (.Name x _) y _] e _ => plainI y && C.vis x i && plainC e && ckE C n v e && ckE C n k y
      | _ => false)
    | .app i q => (match st with
      | .Expr (.Call (.Attribute (.Name x _) a apos) [e] [] p2) _ => a == ("append" : Str) && C.vis x i && plainE e && (apos.endLine == p2.line) && ckE C n q e
      | _ => false)
    | .expr q => (match st with
      | .Expr e _ => plainC e && ckE C n q e
      | _ => false)
    | .ifs c a b => (match st with
      | .If c' a' b' _ => ckT C n c c' && ckSs C n a a' && ckSs C n b b'
      | _ => false)
    | .for_ T it body => (match st with
      | .For tg iter body' [] _ => ckG C n T tg && ckI C n it tg iter && plainF iter && ckSs C n body body'
      | _ => false)
    | .whil _ c body => (match st with
      | .While c' body' [] _ => ckT C n c c' && ckSs C n body body'
      | _ => false)
    | .ret q => (match st with
      | .Return (some e) _ => ckE C n q e
      | _ => false)
    | .retv i => (match st with
      | .Return (some (.Name x _)) _ => C.vis x i
      | _ => false)
    | .retN => (match st with
      | .Return none _ => true
      | _ => false)
    | .brk => (match st with
      | .Break _ => true
      | _ => false)
    | .cont => (match st with
      | .Continue _ => true
      | _ => false)
    | .pass => (match st with
      | .Pass _ => true
      | _ => false)
    | .never => true
def ckSs (C : Ck) : Nat → List S → List Stmt → Bool
  | 0, _, _ => false
  | _ + 1, [], [] => true
  | n + 1, s :: ss, st :: sts => ckS C n s st && ckSs C n ss sts
  | _, _, _ => false
end
section
variable {X : Cx} {Z : Fix} {cf : Cf} {e : Expr}
structure SndG (Z : Fix) (cf : Cf) (n : Nat) : Prop where
  g : ∀ (C : Ck) (X : Cx) T e, CtxOk X Z C cf → ckG C n T e = true → PGd X Z e T
  gs : ∀ (C : Ck) (X : Cx) ts es, CtxOk X Z C cf → ckGs C n ts es = true → PGsd X Z es ts ∧ es.all plainE = true ∧ es.length = ts.length
theorem sndG : ∀ n, SndG Z cf n
  | 0 => ⟨fun _ _ _ _ _ h => (by cases h), fun _ _ _ _ _ h => (by cases h)⟩
  | n + 1 => by
    have S := sndG n
    refine ⟨fun C X T e c h => ?_, fun C X ts es c h => ?_⟩
    · unfold ckG at h
      cases T with
      | nm i =>
        dsimp only at h
        split at h
        · obtain ⟨h1, h2⟩ := c.hloc h
          exact pgd_name c.nd h1 h2
        · cases h
      | tup ts =>
        dsimp only at h
        split at h
        · obtain ⟨h1, h2, h3⟩ := S.gs C X _ _ c h
          exact pgd_tup c.calm h1 h3 (assign_all h2).1 (assign_all h2).2
        · cases h
    · unfold ckGs at h
      split at h
      · rename_i hh; cases hh
      · exact ⟨pgsd_nil, rfl, rfl⟩
      · rename_i n' T ts e es hn
        cases hn
        obtain ⟨h1, h3⟩ := band h
        obtain ⟨h1, h2⟩ := band h1
        obtain ⟨r1, r2, r3⟩ := S.gs C X _ _ c h3
        refine ⟨pgsd_cons (S.g C X _ _ c h2) r1 (by rw [assign_plain h1]; rfl), by rw [List.all_cons, h1, r2]; rfl, by rw [List.length_cons, List.length_cons, r3]⟩
      · cases h
theorem pid_stuck {tg : Expr} : PId X Z tg e (fun _ => .stuck) := ⟨fun _ _ _ _ _ _ ⟨_, _, _, h⟩ => h.elim⟩
theorem snd_i {n : Nat} {C : Ck} {it : It} {tg : Expr} (c : CtxOk X Z C cf) (h : ckI C n it tg e = true) (m : Nat) : PId X Z tg e (evIt (ev cf m) it) := by
  have S : Snd Z cf n := snd_all n
  unfold ckI at h
  cases it with
  | seq q => exact pid_seq (S.e C X _ _ c h m)
  | rng a =>
    dsimp only at h
    split at h
    · obtain ⟨h1, h4⟩ := band h
      obtain ⟨h1, h3⟩ := band h1
      obtain ⟨h1, h2⟩ := band h1
      obtain rfl := eq_of_beq h1
      obtain ⟨g1, g2⟩ := blt_ok c h2
      exact pid_rng g1 g2 (S.e C X _ _ c h4 m) (star_plain h3)
    · cases h
  | rng2 a b =>
    dsimp only at h
    split at h
    · obtain ⟨h1, h6⟩ := band h
      obtain ⟨h1, h5⟩ := band h1
      obtain ⟨h1, h4⟩ := band h1
      obtain ⟨h1, h3⟩ := band h1
      obtain ⟨h1, h2⟩ := band h1
      obtain rfl := eq_of_beq h1
      obtain ⟨g1, g2⟩ := blt_ok c h2
      exact pid_rng2 g1 g2 (S.e C X _ _ c h5 m) (S.e C X _ _ c h6 m) (star_plain h3) (star_plain h4)
    · cases h
  | enum a =>
    dsimp only at h
    split at h
    · obtain ⟨h1, h5⟩ := band h
      obtain ⟨h1, h4⟩ := band h1
      obtain ⟨h1, h3⟩ := band h1
      obtain ⟨h1, h2⟩ := band h1
      obtain rfl := eq_of_beq h1
      obtain ⟨g1, g2⟩ := blt_ok c h2
      cases tg <;> first | exact pid_enum g1 g2 (S.e C X _ _ c h5 m) (star_plain h3) | cases h4
    · cases h
  | zip a b =>
    dsimp only at h
    split at h
    · obtain ⟨h1, h7⟩ := band h
      obtain ⟨h1, h6⟩ := band h1
      obtain ⟨h1, h5⟩ := band h1
      obtain ⟨h1, h4⟩ := band h1
      obtain ⟨h1, h3⟩ := band h1
      obtain ⟨h1, h2⟩ := band h1
      obtain rfl := eq_of_beq h1
      obtain ⟨g1, g2⟩ := blt_ok c h2
      cases tg <;> first | exact pid_zip g1 g2 (S.e C X _ _ c h6 m) (S.e C X _ _ c h7 m) (star_plain h3) (star_plain h4) | cases h5
    · cases h
  | zip3 _ _ _ => cases h
  | items _ => cases h
structure SndS (Z : Fix) (cf : Cf) (n : Nat) : Prop where
  s : ∀ (C : Ck) (X : Cx) s st, CtxOk X Z C cf → ckS C n s st = true → ∀ m, PSd X Z st (exS cf m s)
  ss : ∀ (C : Ck) (X : Cx) s st, CtxOk X Z C cf → ckSs C n s st = true → ∀ m, PSsd X Z st (exSs cf m s)
theorem psd_stuck {st : Stmt} : PSd X Z st (fun _ => .stuck) := psd_never
theorem pssd_stuck {st : List Stmt} : PSsd X Z st (fun _ => .stuck) := by
  refine PSs.weak pss_never ?_
  rintro D σ H ⟨F, ρ, ok, h⟩
  exact h
theorem few_ok {x : Expr} {p2 : Pos} {env : Env} (h : plainE x = true) : ((backTo p2 (starEach (x :: []) env)).all (fun x => !x.1) && (backToKw p2 (keywordEach [] env)).all (fun x => x.1.isSome)
      && decide ((x :: ([] : List Expr)).length + ([] : List Keyword).length + (if ([] : List Keyword).isEmpty then 0 else 1) < 30)) = true := by
  rw [star_plain h]; rfl
theorem assign_sub {o y : Expr} {p2 : Pos} {env : Env} {v : Value} (h : plainI y = true) : assign (.Subscript o y p2) env v = (do
      let ov ← holding [v] (eval o env)
      let iv ← holding [v, ov] (eval y env)
      standAt p2
      holding [v, ov, iv] (setItem ov iv v)
      release [v, ov, iv] []) := by
  cases y <;> first | rfl | cases h
theorem snd_s {n : Nat} (S : SndS Z cf n) (C : Ck) (X : Cx) (s : DL.S) (st : Stmt) (c : CtxOk X Z C cf) (h : ckS C (n + 1) s st = true) : ∀ m, PSd X Z st (exS cf m s) := by
  intro m
  have E : Snd Z cf n := snd_all n
  have G : SndG Z cf n := sndG n
  have hu1 : X.A.units + 1 < cLine := by have := c.room; omega
  cases m with
  | zero => exact psd_stuck
  | succ m =>
    unfold ckS at h
    cases s with
    | set i q =>
      dsimp only at h
      split at h
      · obtain ⟨h1, h3⟩ := band h
        obtain ⟨h1, h2⟩ := band h1
        obtain ⟨g1, g2⟩ := c.hloc h1
        exact psd_set c.nd g1 g2 (E.e C X _ _ c h3 m) (plainC_ok h2)
      · cases h
    | unp ts q =>
      dsimp only at h
      split at h
      · obtain ⟨h1, h4⟩ := band h
        obtain ⟨h1, h3⟩ := band h1
        obtain ⟨h1, h2⟩ := band h1
        refine psd_unp (E.e C X _ _ c h4 m) (G.g C X _ _ c h1) (plainC_sole h2) ?_ rfl
        unfold swapNone at h3
        split at h3
        · exact swapP_ok c.nm c.kind (by simpa using h3)
        · rename_i hx
          exact swap_value fun vs k2 p2 z => hx vs k2 p2 z
      · cases h
    | par i j a b =>
      dsimp only at h
      split at h
      · obtain ⟨h1, h8⟩ := band h
        obtain ⟨h1, h7⟩ := band h1
        obtain ⟨h1, h6⟩ := band h1
        obtain ⟨h1, h5⟩ := band h1
        obtain ⟨h1, h4⟩ := band h1
        obtain ⟨h1, h3⟩ := band h1
        obtain ⟨h1, h2⟩ := band h1
        obtain ⟨g1, g2⟩ := c.hloc h2
        obtain ⟨g3, g4⟩ := c.hloc h3
        exact psd_par c.calm c.nd g1 g3 (by simpa using h1) g2 g4 (E.e C X _ _ c h7 m) (E.e C X _ _ c h8 m) (star_plain h5) (star_plain h6) (swapP_ok c.nm c.kind (by simpa using h4)) rfl
      · cases h
    | store i k v =>
      dsimp only at h
      split at h
      · obtain ⟨h1, h4⟩ := band h
        obtain ⟨h1, h3⟩ := band h1
        obtain ⟨h1, h2⟩ := band h1
        obtain ⟨h0, h1⟩ := band h1
        obtain ⟨g1, g2, g3, g4⟩ := c.hvis h1
        refine psd_store hu1 g1 g2 g3 g4 (E.e C X _ _ c h3 m) (E.e C X _ _ c h4 m) (plainC_sole h2) rfl (fun _ => ?_) rfl
        exact assign_sub h0
      · cases h
    | app i q =>
      dsimp only at h
      split at h
      · obtain ⟨h1, h5⟩ := band h
        obtain ⟨h1, h4⟩ := band h1
        obtain ⟨h1, h3⟩ := band h1
        obtain ⟨h1, h2⟩ := band h1
        obtain rfl := eq_of_beq h1
        obtain ⟨g1, g2, g3, g4⟩ := c.hvis h2
        exact psd_app g1 g2 g3 g4 (E.e C X _ _ c h5 m) rfl (few_ok h3) h4 (star_plain h3) rfl
      · cases h
    | expr q =>
      dsimp only at h
      split at h
      · obtain ⟨h1, h2⟩ := band h
        exact psd_expr (E.e C X _ _ c h2 m) (plainC_ok h1)
      · cases h
    | ifs t a b =>
      dsimp only at h
      split at h
      · obtain ⟨h1, h3⟩ := band h
        obtain ⟨h1, h2⟩ := band h1
        exact psd_if (E.t C X _ _ c h1 m).1 (S.ss C X _ _ c h2 m) (S.ss C X _ _ c h3 m)
      · cases h
    | for_ T it body =>
      dsimp only at h
      split at h
      · obtain ⟨h1, h4⟩ := band h
        obtain ⟨h1, h3⟩ := band h1
        obtain ⟨h1, h2⟩ := band h1
        exact psd_for c.po c.calm (snd_i c h2 m) (G.g C X _ _ c h1) (S.ss C X _ _ c h4 m) (plainF_ok h3)
      · cases h
    | whil k t body =>
      dsimp only at h
      split at h
      · obtain ⟨h1, h2⟩ := band h
        exact psd_while c.po (E.t C X _ _ c h1 m).1 (S.ss C X _ _ c h2 m)
      · cases h
    | ret q =>
      dsimp only at h
      split at h
      · exact psd_ret (E.e C X _ _ c h m)
      · cases h
    | retv i =>
      dsimp only at h
      split at h
      · obtain ⟨g1, g2, g3, g4⟩ := c.hvis h
        exact psd_retv g1 g2 g3 g4
      · cases h
    | retN =>
      dsimp only at h
      split at h
      · exact psd_retN
      · cases h
    | brk =>
      dsimp only at h
      split at h
      · exact psd_brk
      · cases h
    | cont =>
      dsimp only at h
      split at h
      · exact psd_cont
      · cases h
    | pass =>
      dsimp only at h
      split at h
      · exact psd_pass
      · cases h
    | never => exact psd_never
theorem snd_ss {n : Nat} (S : SndS Z cf n) (C : Ck) (X : Cx) (s : List DL.S) (st : List Stmt) (c : CtxOk X Z C cf) (h : ckSs C (n + 1) s st = true) : ∀ m, PSsd X Z st (exSs cf m s) := by
  intro m
  unfold ckSs at h
  split at h
  · rename_i hh; cases hh
  · cases m with
    | zero => exact pssd_stuck
    | succ m => exact pssd_nil
  · rename_i n' s ss st sts hn
    cases hn
    obtain ⟨h1, h2⟩ := band h
    cases m with
    | zero => exact pssd_stuck
    | succ m => exact pssd_cons (S.s C X _ _ c h1 m) (S.ss C X _ _ c h2 m)
  · cases h
theorem sndS : ∀ n, SndS Z cf n
  | 0 => ⟨fun _ _ _ _ _ h => (by cases h), fun _ _ _ _ _ h => (by cases h)⟩
  | n + 1 => ⟨snd_s (sndS n), snd_ss (sndS n)⟩
end
end DL

namespace DL
open PySem PySem.Spec PyProof.Rows L2

/-! ### a law as data -/
structure DefI where
  x : Str
  st : Stmt
  N : List Str
  ps : List Str
  fd : Fd
inductive Cst where
  | int (i : Int) | tup (vs : List He.Dv)
def dvD : He.Dv → D
  | .bl b => .bl b
  | .int i => .int i
  | .str x => .str x
  | _ => .non
def dvOk : He.Dv → Bool
  | .non => true
  | .bl _ => true
  | .int _ => true
  | .str _ => true
  | _ => false
def Cst.d : Cst → D
  | .int i => .int i
  | .tup vs => .ktup (vs.map dvD)
structure LawI where
  ds : List DefI
  cs : List (Str × Cst)
  bl : List Str
def LawI.fn (L : LawI) : List He.DefD := L.ds.map fun d => ⟨(d.x, none), d.x, d.x, defArgs d.st, defBody d.st, defScope d.st, [], []⟩
def cstFa (c : Str × Cst) : He.Fa := match c.2 with
  | .int i => .int c.1 i
  | .tup _ => .glo c.1
def LawI.fa (L : LawI) : List He.Fa := (L.ds.map fun d => He.Fa.glo d.x) ++ (L.cs.map cstFa ++ L.bl.map He.Fa.free)
def noLst (o : Obj) : Bool := match o.cls with
  | .type c => !(decide (c = "list"))
  | _ => true
def cstEx (K : PySem.W.Frag) (c : Str × Cst) : Bool := match c.2 with
  | .int _ => true
  | .tup vs => He.tupB K c.1 vs && vs.all dvOk
def LawI.ex (L : LawI) (K : PySem.W.Frag) : Bool := (K.all fun p => noLst p.2) && L.cs.all (cstEx K)
def LawI.defs (L : LawI) (j : Nat) : Option Fd := (L.ds[j]?).map (·.fd)
def LawI.gv (L : LawI) (j : Nat) : Option D := (L.cs[j]?).map (·.2.d)
def LawI.ck (L : LawI) (d : DefI) : Ck := ⟨d.N, (defScope d.st).names, (L.ds.map (·.x)).zipIdx, (L.cs.map (·.1)).zipIdx, L.bl⟩
structure DefOk (L : LawI) (m : Nat) (d : DefI) : Prop where
  sc : FnScope d.N d.ps (defScope d.st)
  np : d.fd.np = d.ps.length
  nl : d.fd.nl = d.N.length
  bd : ∀ (kV doc pm : Value) (an : Option Addr) (cdv ct : Value) (us : List Value), us.length = d.ps.length → bindArgs (PySem.W.fnOf d.x d.x (defArgs d.st) (defBody d.st) (defScope d.st) .none kV doc pm an cdv ct) ⟨us, []⟩ = pure (d.ps.zip us)
  ck : ckSs (L.ck d) m d.fd.body (defBody d.st) = true
structure LawOk (L : LawI) (m : Nat) : Prop where
  defs : ∀ d ∈ L.ds, DefOk L m d
  dbg : ((L.ds.map (·.x) ++ L.cs.map (·.1)).all fun x => !(x == ("__debug__" : Str))) = true
/-- the promise of the j-th def -/
abbrev LawI.sp (L : LawI) (K : PySem.W.Frag) (n k j : Nat) : Sp := spF K (fun _ => none) (fun _ _ _ _ => False) (semK L.defs L.gv n k j)

theorem lk_mem {a : Addr} {o : Obj} : ∀ {K : PySem.W.Frag}, K.lookup a = some o → (a, o) ∈ K
  | [], h => by cases h
  | (b, u) :: K, h => by
    rw [List.lookup_cons] at h
    split at h
    · rename_i e
      obtain rfl : a = b := by simpa using e
      cases h
      exact List.mem_cons_self
    · exact List.mem_cons_of_mem _ (lk_mem h)
theorem lookup_zip {l : List Str} {x : Str} {j : Nat} (h : l.zipIdx.lookup x = some j) : l[j]? = some x := by
  have := PySem.mem_of_lookup h
  rw [List.mem_zipIdx_iff_getElem?] at this
  exact this
section
variable {P : Program} {w : World} {K : PySem.W.Frag} {mg : Str → Option Value} {base h : Heap} {L : LawI} {m n : Nat}
theorem stuck_ok {CX : CXT} {f : Addr} {fd : FuncData} {ps : List Str} {fa : Nat → Option Addr} {EX : ExR} : FnOk P w K mg base CX 0 f fd ps (spF K fa EX fun _ => .stuck) :=
  ⟨fun vs H Q E ⟨_, _, _, _, _, z⟩ => z.elim, fun A outer s H args us vs Q E _ _ _ _ ⟨_, _, _, _, _, z⟩ => z.elim⟩
theorem relAll_rep {H : Hp} {F : AP'} {fa : Nat → Option Addr} : ∀ {vs : List He.Dv}, vs.all dvOk = true → RepL K fa H F (vs.map (He.Dv.v K)) (vs.map dvD)
  | [], _ => .nil
  | v :: vs, h => by
    rw [List.all_cons, Bool.and_eq_true] at h
    refine .cons ?_ (relAll_rep h.2)
    cases v <;> first | exact .non | exact .bl _ | exact .int _ | exact .str _ | exact absurd h.1 Bool.false_ne_true
theorem gd_ok (X : K.In h) (G : h.Ns mainGlobals mg) (c : He.SaysD L.fa L.fn K) (ex : L.ex K = true) {x : Str} {cst : Cst} (hm : (x, cst) ∈ L.cs) :
    ∃ u v, mg x = some u ∧ RelV v u ∧ ∀ H F, Rep K (fun _ => none) H F v cst.d := by
  have hf : cstFa (x, cst) ∈ L.fa := List.mem_append_right _ (List.mem_append_left _ (List.mem_map_of_mem (f := cstFa) hm))
  have c1 := c.facts hf
  cases cst with
  | int i =>
    obtain ⟨t, e⟩ := He.int_ok X G (x := x) (i := i) c1
    exact ⟨_, .int i, e, ⟨t, rfl⟩, fun _ _ => .int i⟩
  | tup vs =>
    have e := He.glo_ok X G (x := x) c1
    have ex2 := List.all_eq_true.mp (Bool.and_eq_true_iff.mp ex).2 _ hm
    obtain ⟨t1, t2⟩ := Bool.and_eq_true_iff.mp (show (He.tupB K x vs && vs.all dvOk) = true from ex2)
    refine ⟨_, .ref (He.ga K x), e, rfl, fun H F => ?_⟩
    rcases He.tupB_ok t1 (fun _ => none) with q | ⟨o, its, k, q1, q2, q3, q4, q5⟩
    · rcases q with q | ⟨_, q⟩ <;> cases q
    · exact .ktup ⟨o, its, k, q1, q2, q3, q4, q5⟩ (relAll_rep t2)
theorem fns_ok (LO : LawOk L m) (X : K.In h) (G : h.Ns mainGlobals mg) (c : He.SaysD L.fa L.fn K) (ex : L.ex K = true) : ∀ (k j : Nat) (d : DefI) (fd : FuncData), L.ds[j]? = some d → FunD K d.x d.x (defArgs d.st) (defBody d.st) (defScope d.st) [] [] (He.fAd K (d.x, none)) fd →
    FnOk P w K mg base (L2.CX P w) k (He.fAd K (d.x, none)) fd d.ps (L.sp K n k j) := by
  intro k
  induction k with
  | zero => intro j d fd hj F; exact stuck_ok
  | succ k ih =>
    intro j d fd hj F
    have D := LO.defs d (List.mem_of_getElem? hj)
    have hdef : L.defs j = some d.fd := by unfold LawI.defs; rw [hj]; rfl
    refine fn_ok F D.sc hdef D.np D.nl fun cdv A outer s H E hr => ?_
    refine (sndS m).ss (L.ck d) _ _ _ ?_ D.ck n
    have dbg : ∀ x ∈ L.ds.map (·.x) ++ L.cs.map (·.1), (x == ("__debug__" : Str)) = false := fun x hx => by
      have := List.all_eq_true.mp LO.dbg x hx
      simpa using this
    refine ⟨rfl, D.sc.nd, rfl, D.sc.kind, rfl, takes_of rfl rfl rfl rfl, passes_of rfl, ?_, fun x j' hx => ?_, fun x j' hx => ?_, fun x hx => ?_⟩
    · have := hr.un
      show (A.deeper (envOfC d.x (defScope d.st) s.heap.objs.size (He.fAd K (d.x, none)) cdv)).units + 65 < cLine
      omega
    · have hx' := lookup_zip hx
      refine ⟨dbg x (List.mem_append_left _ (List.mem_of_getElem? hx')), ?_⟩
      rw [List.getElem?_map] at hx'
      cases e : L.ds[j']? with
      | none => rw [e] at hx'; cases hx'
      | some d' =>
        rw [e] at hx'
        obtain rfl : d'.x = x := Option.some.inj hx'
        have dm : d' ∈ L.ds := List.mem_of_getElem? e
        obtain ⟨fd', F'⟩ := c.defs (d := ⟨(d'.x, none), d'.x, d'.x, defArgs d'.st, defBody d'.st, defScope d'.st, [], []⟩) (List.mem_map_of_mem (f := fun d : DefI => (⟨(d.x, none), d.x, d.x, defArgs d.st, defBody d.st, defScope d.st, [], []⟩ : He.DefD)) dm)
        have g := He.glo_ok X G (x := d'.x) (c.facts (f := .glo d'.x) (List.mem_append_left _ (List.mem_map_of_mem (f := fun d : DefI => He.Fa.glo d.x) dm)))
        exact ⟨k, _, fd', d'.ps, ih j' d' fd' e F', hr, g, F'.kp, F'.bindsN (LO.defs d' dm).bd⟩
    · have hx' := lookup_zip hx
      refine ⟨dbg x (List.mem_append_right _ (List.mem_of_getElem? hx')), ?_⟩
      rw [List.getElem?_map] at hx'
      cases e : L.cs[j']? with
      | none => rw [e] at hx'; cases hx'
      | some cc =>
        rw [e] at hx'
        obtain ⟨y, cst⟩ := cc
        obtain rfl : y = x := Option.some.inj hx'
        obtain ⟨u, v, g1, g2, g3⟩ := gd_ok X G c ex (List.mem_of_getElem? e)
        exact ⟨u, v, cst.d, g1, g2, by show (L.cs[j']?).map (·.2.d) = _; rw [e]; rfl, g3⟩
    · exact He.free_ok X G (x := x) (c.facts (f := .free x) (List.mem_append_right _ (List.mem_append_right _ (List.mem_map_of_mem (f := He.Fa.free) hx))))
/-- no exception leaves -/
theorem FnOk.calm0 {k : Nat} {f : Addr} {fd : FuncData} {ps : List Str} {sp : Sp} (F : FnOk P w K mg base (L2.CX P w) k f fd ps sp) : FnOk P w K mg base CX0 k f fd ps (fun vs H Q _ => sp vs H Q fun _ _ _ => False) := by
  refine ⟨fun vs H Q E h => F.len vs H Q _ h, fun A outer s H args us vs Q E hr he hb hv h => codeAny_mono (F.run A outer s H args us vs Q _ hr he hb hv h) fun r s' q => ?_⟩
  cases r with
  | error e =>
    obtain ⟨_, _, _, _, _, _, _, _, _, _, _, _, z⟩ := q
    exact z.elim
  | ok fl => cases fl <;> exact q
end

/-! ### the head's hook: the part of the heap without its lists -/
def frL (n : Nat) (g : Addr → Option Obj) : PySem.W.Frag := He.frG g ((He.asD g n).filter fun a => match g a with
  | some o => noLst o
  | none => false)
def obsL (n : Nat) (L : LawI) (g : Addr → Option Obj) : He.AlD × Bool := (He.obsD L.fa L.fn (frL n g), L.ex (frL n g))
def hookL (n : Nat) (L : LawI) : PySem.W.Hook where
  α := He.AlD × Bool
  obs := fun s => obsL n L s.heap.get?
  val := fun _ => (He.valD L.fn, true)
  says := fun _ h => ∃ K : PySem.W.Frag, K.In h ∧ He.SaysD L.fa L.fn K ∧ L.ex K = true
  of := fun _ _ e => ⟨_, He.frG_in, congrArg Prod.fst e, congrArg Prod.snd e⟩
  keeps := fun _ _ _ ⟨K, hK, c⟩ k => ⟨K, PySem.W.Frag.In.keeps hK k, c⟩
theorem obsL_eq {n : Nat} {L : LawI} {g : Addr → Option Obj} {s : Shared} (h : ∀ a, g a = s.heap.get? a) : obsL n L g = (hookL n L).obs s := by
  have e : g = s.heap.get? := funext h
  rw [e] <;> rfl
/-- the law: its last def, its promise -/
theorem law_facts {P : Program} {w : World} {K : PySem.W.Frag} {h : Heap} {mg : Str → Option Value} {f : Addr} {L : LawI} {m n k j : Nat} {d : DefI} {N : Nat} {x : Str} (LO : LawOk L m) (X : K.In h) (G : h.Ns mainGlobals mg) (c : He.SaysD L.fa L.fn K) (ex : L.ex K = true)
    (hj : L.ds[j]? = some d) (hx : d.ps = [x]) (hfa : mg d.x = some (.ref f)) (hlaw : ∀ ns : List Int, ns.length ≤ N → semK L.defs L.gv n k j [.dat (.lst (ns.map D.int))] = .ok (.dat (.bl true)) none) :
    ∃ (fd : FuncData) (sp : Sp), (∀ (s : Shared) (u : Value), BindsTo s fd ⟨[u], []⟩ [(x, u)]) ∧ (∀ (H : Hp) (a : Addr) (ns : List Int), ns.length ≤ N → Only H → SqL K H a (ns.map V.int) → sp [.ref a] H (fun v _ => v = .bl true) fun _ _ _ => False) ∧
      ∀ base : Heap, K.In base → base.Ns mainGlobals mg → FnOk P w K mg base CX0 k f fd [x] sp := by
  have dm : d ∈ L.ds := List.mem_of_getElem? hj
  obtain ⟨fd, F⟩ := c.defs (d := ⟨(d.x, none), d.x, d.x, defArgs d.st, defBody d.st, defScope d.st, [], []⟩) (List.mem_map_of_mem (f := fun d : DefI => (⟨(d.x, none), d.x, d.x, defArgs d.st, defBody d.st, defScope d.st, [], []⟩ : He.DefD)) dm)
  have g := He.glo_ok X G (x := d.x) (c.facts (f := .glo d.x) (List.mem_append_left _ (List.mem_map_of_mem (f := fun d : DefI => He.Fa.glo d.x) dm)))
  rw [hfa] at g
  have ef : f = He.fAd K (d.x, none) := by have := Option.some.inj g; cases this; rfl
  subst ef
  have DO := LO.defs d dm
  refine ⟨fd, fun vs H Q _ => L.sp K n k j vs H Q fun _ _ _ => False, fun s u => ?_, fun H a ns hl hO hS => ?_, fun base KB GB => ?_⟩
  · have := F.bindsA (ps := [x]) (by rw [← hx]; exact DO.bd) s [u] rfl
    exact this
  · have rd : Rd H a (.lst (ns.map V.int)) := by
      rcases hS with h | ⟨o, its, k', q1, q2, _⟩
      · exact h
      · have := List.all_eq_true.mp (Bool.and_eq_true_iff.mp ex).1 (a, o) (lk_mem q1)
        dsimp only at this
        unfold noLst at this
        rw [q2] at this
        simp at this
    have rl : RepL K (fun _ => none) H (fun b => b = a) (ns.map V.int) (ns.map D.int) := by
      clear hl hS rd hlaw
      induction ns with
      | nil => exact .nil
      | cons i ns ih => exact .cons (.int i) ih
    refine ⟨fun b => b = a, [.dat (.lst (ns.map D.int))], fun b hb => ?_, .cons (.lst rfl rd rl) .nil, ⟨fun _ z => (by cases z), fun _ z => (by cases z)⟩, ?_⟩
    · subst hb
      rcases rd with e | ⟨_, e⟩ <;> (rw [e]; exact fun z => nomatch z)
    · rw [hlaw ns hl]
      intro v H' F' st fd' rep mine back
      cases (show Rep K _ H' F' v (.bl true) from rep)
      rfl
  · have := FnOk.calm0 (fns_ok (P := P) (w := w) (base := base) (n := n) LO X G c ex k j d fd hj F)
    rw [hx] at this
    exact this
end DL

namespace DL
open PySem PySem.Spec PyProof.Rows L2

/-! ### reading the evaluator -/
/-- a slot that may be stored -/
def free : Option SV → Bool
  | none => true
  | some sv => !sv.lent
theorem free_dat {d : D} : free (some (.dat d)) = true := rfl
theorem free_own {d : D} : free (some (.own d)) = true := rfl
theorem free_none : free none = true := rfl
theorem setS_eq {i : Nat} {sv : SV} {ρ : Env'} : setS i sv ρ = if sv.lent = true then .stuck else match ρ[i]? with
  | some x => if free x = true then .nx (ρ.set i (some sv)) else .stuck
  | none => .stuck := by
  unfold setS
  split
  · rfl
  · cases h : ρ[i]? with
    | none => rfl
    | some x =>
      cases x with
      | none => rfl
      | some sw => cases sw <;> rfl
theorem asg_nm {i : Nat} {d : D} {ρ : Env'} : asg (.nm i) d ρ = match ρ[i]? with
  | some x => if free x = true then some (ρ.set i (some (.dat d))) else none
  | none => none := by
  unfold asg
  cases h : ρ[i]? with
  | none => rfl
  | some x =>
    cases x with
    | none => rfl
    | some sw => cases sw <;> rfl
theorem asg_tup {ts : List Tg} {ds : List D} {ρ : Env'} : asg (.tup ts) (.tup ds) ρ = asgs ts ds ρ := by unfold asg; rfl
theorem asg_ktup {ts : List Tg} {ds : List D} {ρ : Env'} : asg (.tup ts) (.ktup ds) ρ = asgs ts ds ρ := by unfold asg; rfl
theorem asgs_nil {ρ : Env'} : asgs [] [] ρ = some ρ := by unfold asgs; rfl
theorem asgs_cons {t : Tg} {ts : List Tg} {d : D} {ds : List D} {ρ : Env'} : asgs (t :: ts) (d :: ds) ρ = (asg t d ρ).bind fun ρ1 => asgs ts ds ρ1 := by conv => lhs; unfold asgs
/-- a loop by its invariant: J at turn i -/
theorem forGo_inv {body : Env' → SRes} {T : Tg} (J : Nat → Env' → Prop) (R : SRes → Prop) : ∀ (ds : List D) (i : Nat) (ρ : Env'), J i ρ →
    (∀ j d ρ, ds[j]? = some d → J (i + j) ρ → ∃ ρ1, asg T d ρ = some ρ1 ∧ ((∃ ρ2, (body ρ1 = .nx ρ2 ∨ body ρ1 = .ct ρ2) ∧ J (i + j + 1) ρ2) ∨ (∃ ρ2, body ρ1 = .bk ρ2 ∧ R (.nx ρ2)) ∨ (∃ sv ρ2, body ρ1 = .rt sv ρ2 ∧ R (.rt sv ρ2)))) → (∀ ρ, J (i + ds.length) ρ → R (.nx ρ)) → R (forGo body T ds ρ)
  | [], i, ρ, h, _, e => e ρ h
  | d :: ds, i, ρ, h, st, e => by
    obtain ⟨ρ1, e1, hh⟩ := st 0 d ρ rfl h
    unfold forGo
    rw [e1]
    dsimp only
    rcases hh with ⟨ρ2, e2, j⟩ | ⟨ρ2, e2, r⟩ | ⟨sv, ρ2, e2, r⟩
    · have := forGo_inv J R ds (i + 1) ρ2 j (fun j d ρ hd hj => by
        have := st (j + 1) d ρ (by simpa using hd) (by rw [show i + (j + 1) = i + 1 + j by omega]; exact hj)
        rw [show i + (j + 1) + 1 = i + 1 + j + 1 by omega] at this
        exact this) (fun ρ hj => e ρ (by rw [List.length_cons, show i + (ds.length + 1) = i + 1 + ds.length by omega]; exact hj))
      rcases e2 with e2 | e2 <;> (rw [e2]; exact this)
    · rw [e2]; exact r
    · rw [e2]; exact r
end DL

namespace DL
open PySem PySem.Spec PyProof.Rows L2

/-! ### the decks that the laws draw from -/
def F_deck : Fd := ⟨2, 2, false, [.ifs (.cmp .GtE (.var 0) (.bin .Pow (.cst (.int 10)) (.cst (.int 18)))) [.ret (.lst [.bin .Sub (.var 0) (.bin .Pow (.cst (.int 10)) (.cst (.int 18))), .bin .Mod (.bi .int [.var 0]) (.cst (.int 2147483579)), .var 1])] [],
    .ret (.lst [.cst (.int 0), .bin .Mod (.bi .int [.var 0]) (.cst (.int 2147483579)), .var 1])]⟩
def F_pick : Fd := ⟨2, 4, true, [.ifs (.cmp .Gt (.idx (.var 0) (.cst (.int 0))) (.cst (.int 1))) [.set 2 (.bin .Mod (.bi .int [.idx (.var 0) (.cst (.int 0))]) (.var 1)),
    .store 0 (.cst (.int 0)) (.bin .FloorDiv (.idx (.var 0) (.cst (.int 0))) (.var 1)),
    .retv 2] [],
    .store 0 (.cst (.int 2)) (.bin .Add (.idx (.var 0) (.cst (.int 2))) (.cst (.int 1))),
    .set 3 (.bin .Mod (.bi .int [.bin .Pow (.bi .int [.bin .Add (.idx (.var 0) (.cst (.int 1))) (.bin .Mult (.cst (.int 15485867)) (.idx (.var 0) (.cst (.int 2))))]) (.cst (.int 5))]) (.cst (.int 2147483647))),
    .set 2 (.bin .FloorDiv (.bin .Mod (.bi .int [.bin .Pow (.bi .int [.bin .Add (.var 3) (.bin .Mult (.cst (.int 7919)) (.idx (.var 0) (.cst (.int 2))))]) (.cst (.int 3))]) (.cst (.int 2147483629))) (.cst (.int 32))),
    .ret (.bin .Mod (.bi .int [.var 2]) (.var 1))]⟩
def F_one (jp : Nat) : Fd := ⟨2, 2, true, [.ret (.idx (.var 1) (.call jp [.var 0, .bi .len [.var 1]]))]⟩
def F_rounding (jp : Nat) : Fd := ⟨1, 2, true, [.set 1 (.idx (.lst [.cst (.int 1), .cst (.int 2), .cst (.int 3), .cst (.int 4), .cst (.int 6), .cst (.int 8), .cst (.int 12)]) (.call jp [.var 0, .cst (.int 7)])),
    .ret (.tup [.var 1, .idx (.lst [.cst (.str "down"), .cst (.str "near"), .cst (.str "up")]) (.call jp [.var 0, .cst (.int 3)]), .call jp [.var 0, .var 1]])]⟩
def DeckOk (m : Nat) (d : D) : Prop := ∃ a b c : Int, d = .lst [.int a, .int b, .int c] ∧ (0 ≤ b ∧ b < 2147483579) ∧ 0 ≤ c ∧ c + m ≤ 1000000
theorem DeckOk.le {m n : Nat} {d : D} (h : DeckOk m d) (e : n ≤ m) : DeckOk n d := by
  obtain ⟨a, b, c, h1, h2, h3, h4⟩ := h
  exact ⟨a, b, c, h1, h2, h3, by omega⟩
section
variable {defs : Nat → Option Fd} {gv : Nat → Option D} {jp jd j1 jr : Nat}
theorem deck_ok (hd : defs jd = some F_deck) (k : Nat) (x t : Int) (m : Nat) (ht : 0 ≤ t ∧ t + m ≤ 1000000) : ∃ dk, semK defs gv 100 (k + 1) jd [.dat (.int x), .dat (.int t)] = .ok (.own dk) none ∧ DeckOk m dk := by
  by_cases hx : (1000000000000000000 : Int) ≤ x
  · refine ⟨.lst [.int (x - 1000000000000000000), .int (x.fmod 2147483579), .int t], ?_, _, _, _, rfl, ⟨Int.fmod_nonneg_of_pos _ (by decide), Int.fmod_lt_of_pos _ (by decide)⟩, ht⟩
    unfold semK
    rw [hd]
    simp [F_deck, exSs, exS, ev, evT, opd, opds, op2, vals, cont, conts, Res.bind, Res.sb, SRes.sq, lift, cmpP, binP, callP, tru, finF, endF, isLent, SV.d, hx, Z24]
  · refine ⟨.lst [.int 0, .int (x.fmod 2147483579), .int t], ?_, _, _, _, rfl, ⟨Int.fmod_nonneg_of_pos _ (by decide), Int.fmod_lt_of_pos _ (by decide)⟩, ht⟩
    unfold semK
    rw [hd]
    simp [F_deck, exSs, exS, ev, evT, opd, opds, op2, vals, cont, conts, Res.bind, Res.sb, SRes.sq, lift, cmpP, binP, callP, tru, finF, endF, isLent, SV.d, hx, Z24]
theorem t1 (b c : Int) (hb : 0 ≤ b ∧ b < 2147483579) (hc : 0 ≤ c) (hm : c ≤ 1000000) : (b + 15485867 * (c + 1)).natAbs < 18446744073709551616 := by omega
theorem t2 (y c : Int) (hb : 0 ≤ y ∧ y < 2147483647) (hc : 0 ≤ c) (hm : c ≤ 1000000) : (y + 7919 * (c + 1)).natAbs < 18446744073709551616 := by omega
theorem pick_ok (hp : defs jp = some F_pick) (k m : Nat) {dk : D} (h : DeckOk (m + 1) dk) {n : Int} (hn : 0 < n ∧ n < 1000000) :
    ∃ p dk', semK defs gv 100 (k + 1) jp [.bor dk, .dat (.int n)] = .ok (.dat (.int p)) (some dk') ∧ (0 ≤ p ∧ p < n) ∧ DeckOk m dk' := by
  obtain ⟨a, b, c, rfl, hb, hc, hm⟩ := h
  have h1 : n ≠ 0 := by omega
  have h2 : n.natAbs < 1073741824 := by omega
  have g1 := t1 b c hb hc (by omega)
  have g2 := fun y hy => t2 y c hy hc (by omega)
  by_cases ha : 1 < a
  · refine ⟨a.fmod n, .lst [.int (a.fdiv n), .int b, .int c], ?_, ⟨Int.fmod_nonneg_of_pos a hn.1, Int.fmod_lt_of_pos a hn.1⟩, _, _, _, rfl, hb, hc, by omega⟩
    unfold semK
    rw [hp]
    simp [F_pick, exSs, exS, ev, evT, opd, opds, op2, cont, conts, Res.bind, Res.sb, SRes.sq, lift, idxP, atI, cmpP, binP, callP, tru, setS, modS, putAt, hasSlot, retvS, finF, endF, backOf, isLent, SV.d, SV.lent, ixN, ha, h1, h2]
  · have q1 : 0 ≤ ((b + 15485867 * (c + 1)) ^ 5).fmod 2147483647 ∧ ((b + 15485867 * (c + 1)) ^ 5).fmod 2147483647 < 2147483647 := ⟨Int.fmod_nonneg_of_pos _ (by decide), Int.fmod_lt_of_pos _ (by decide)⟩
    have g3 := g2 _ q1
    clear q1 g2
    obtain ⟨p, hp'⟩ : ∃ p : Int, p = ((((((b + 15485867 * (c + 1)) ^ 5).fmod 2147483647 + 7919 * (c + 1)) ^ 3).fmod 2147483629).fdiv 32).fmod n := ⟨_, rfl⟩
    have hpn : 0 ≤ p ∧ p < n := by rw [hp']; exact ⟨Int.fmod_nonneg_of_pos _ hn.1, Int.fmod_lt_of_pos _ hn.1⟩
    refine ⟨p, .lst [.int a, .int b, .int (c + 1)], ?_, hpn, _, _, _, rfl, hb, by omega, by omega⟩
    unfold semK
    rw [hp]
    clear hpn
    simp [F_pick, exSs, exS, ev, evT, opd, opds, op2, cont, conts, Res.bind, Res.sb, SRes.sq, lift, idxP, atI, cmpP, binP, callP, tru, setS, modS, putAt, hasSlot, retvS, finF, endF, backOf, isLent, SV.d, SV.lent, ixN, ha, h1, h2, g1, g3]
    exact hp'.symm

/-- one of ds -/
theorem one_ok (hp : defs jp = some F_pick) (h1 : defs j1 = some (F_one jp)) (k m : Nat) {dk : D} (h : DeckOk (m + 1) dk) {ds : List D} (hn : 0 < ds.length ∧ ds.length < 1000000) :
    ∃ d dk', semK defs gv 100 (k + 2) j1 [.bor dk, .dat (.lst ds)] = .ok (.dat d) (some dk') ∧ d ∈ ds ∧ DeckOk m dk' := by
  obtain ⟨p, dk', e, hp2, ok⟩ := pick_ok (gv := gv) hp k m h (n := (ds.length : Int)) ⟨by omega, by omega⟩
  have hi : ixN ds.length p = some p.toNat := by unfold ixN; rw [if_pos hp2.1, if_pos hp2.2]
  have hl : p.toNat < ds.length := by omega
  refine ⟨ds[p.toNat], dk', ?_, List.getElem_mem hl, ok⟩
  unfold semK
  rw [h1]
  simp [F_one, exSs, exS, ev, evT, opd, opds, op2, cont, conts, Res.bind, Res.sb, SRes.sq, lift, idxP, atI, callP, finF, endF, backOf, isLent, SV.d, SV.lent, callR, lentOf, sharedSl, freezeSl, putBack, D.seq?, e, hp, F_pick, hi, hl]
theorem in3 {p : Int} (h : 0 ≤ p ∧ p < 3) : p = 0 ∨ p = 1 ∨ p = 2 := by omega
theorem in7 {p : Int} (h : 0 ≤ p ∧ p < 7) : p = 0 ∨ p = 1 ∨ p = 2 ∨ p = 3 ∨ p = 4 ∨ p = 5 ∨ p = 6 := by omega
/-- a rounding -/
def RoundOk (d : D) : Prop := ∃ (s : Int) (x : Str) (g : Int), d = .tup [.int s, .str x, .int g] ∧ s ∈ [(1 : Int), 2, 3, 4, 6, 8, 12] ∧ x ∈ [("down" : Str), "near", "up"] ∧ 0 ≤ g ∧ g < s
theorem rounding_ok (hp : defs jp = some F_pick) (hr : defs jr = some (F_rounding jp)) (k m : Nat) {dk : D} (h : DeckOk (m + 3) dk) :
    ∃ d dk', semK defs gv 100 (k + 2) jr [.bor dk] = .ok (.dat d) (some dk') ∧ RoundOk d ∧ DeckOk m dk' := by
  obtain ⟨p, dk1, e1, hp1, ok1⟩ := pick_ok (gv := gv) hp k (m + 2) h (n := 7) (by decide)
  obtain ⟨q, dk2, e2, hp2, ok2⟩ := pick_ok (gv := gv) hp k (m + 1) ok1 (n := 3) (by decide)
  have hs : ∃ s : Int, atI [D.int 1, D.int 2, D.int 3, D.int 4, D.int 6, D.int 8, D.int 12] p = some (.int s) ∧ s ∈ [(1 : Int), 2, 3, 4, 6, 8, 12] ∧ 0 < s ∧ s < 1000000 := by
    rcases in7 hp1 with rfl | rfl | rfl | rfl | rfl | rfl | rfl
    · exact ⟨1, rfl, by decide, by decide⟩
    · exact ⟨2, rfl, by decide, by decide⟩
    · exact ⟨3, rfl, by decide, by decide⟩
    · exact ⟨4, rfl, by decide, by decide⟩
    · exact ⟨6, rfl, by decide, by decide⟩
    · exact ⟨8, rfl, by decide, by decide⟩
    · exact ⟨12, rfl, by decide, by decide⟩
  have hx : ∃ x : Str, atI [D.str "down", D.str "near", D.str "up"] q = some (.str x) ∧ x ∈ [("down" : Str), "near", "up"] := by
    rcases in3 hp2 with rfl | rfl | rfl
    · exact ⟨"down", rfl, by simp⟩
    · exact ⟨"near", rfl, by simp⟩
    · exact ⟨"up", rfl, by simp⟩
  obtain ⟨s, es, ms, s0, s1⟩ := hs
  obtain ⟨x, ex, mx⟩ := hx
  obtain ⟨g, dk3, e3, hp3, ok3⟩ := pick_ok (gv := gv) hp k m ok2 (n := s) ⟨s0, s1⟩
  refine ⟨.tup [.int s, .str x, .int g], dk3, ?_, ⟨s, x, g, rfl, ms, mx, hp3⟩, ok3⟩
  unfold semK
  rw [hr]
  simp [F_rounding, exSs, exS, ev, evT, opd, opds, op2, vals, cont, conts, Res.bind, Res.sb, SRes.sq, lift, idxP, callP, setS, finF, endF, backOf, isLent, SV.d, SV.lent, callR, lentOf, sharedSl, freezeSl, putBack, e1, e2, e3, es, ex, hp, F_pick, Z24]
end
end DL

namespace DL.Law
open PySem PySem.Spec PyProof.Rows L2 DL
def top (i : Nat) : Stmt := PySem.Challenge.pw_clockcards_k01_manners_recognized.main.body.getD i (.Pass ⟨0, 0, 0, 0⟩)
def f_is_from : Fd := ⟨3, 3, false, [.ret (.and (.inst (.var 0) "int") (.and (.not (.inst (.var 0) "bool")) (.chain .LtE .LtE (.var 1) (.var 0) (.var 2))))]⟩
def f_is_rounding_of : Fd := ⟨1, 4, false, [.ifs (.or (.not (.inst (.var 0) "tuple")) (.cmp .NotEq (.bi .len [.var 0]) (.cst (.int 3)))) [.ret (.cst (.bl false))] [],
    .unp [.nm 1, .nm 2, .nm 3] (.var 0),
    .ifs (.or (.not (.call 0 [.var 1, .cst (.int 1), .cst (.int 12)])) (.or (.cmp .NotIn (.var 1) (.glb 0)) (.or (.not (.inst (.var 2) "str")) (.cmp .NotIn (.var 2) (.glb 1))))) [.ret (.cst (.bl false))] [],
    .ret (.call 0 [.var 3, .cst (.int 0), .bin .Sub (.var 1) (.cst (.int 1))])]⟩
def f_are_breaks_of : Fd := ⟨1, 2, false, [.ifs (.or (.not (.inst (.var 0) "tuple")) (.cmp .Gt (.bi .len [.var 0]) (.cst (.int 2)))) [.ret (.cst (.bl false))] [],
    .for_ (.nm 1) (.seq (.var 0)) [.ifs (.or (.not (.inst (.var 1) "tuple")) (.cmp .NotEq (.bi .len [.var 1]) (.cst (.int 2)))) [.ret (.cst (.bl false))] [],
    .ifs (.or (.not (.call 0 [.idx (.var 1) (.cst (.int 0)), .cst (.int 1), .glb 2])) (.not (.call 0 [.idx (.var 1) (.cst (.int 1)), .cst (.int 1), .glb 3]))) [.ret (.cst (.bl false))] []],
    .ret (.or (.cmp .Lt (.bi .len [.var 0]) (.cst (.int 2))) (.cmp .Lt (.idx (.idx (.var 0) (.cst (.int 0))) (.cst (.int 0))) (.idx (.idx (.var 0) (.cst (.int 1))) (.cst (.int 0)))))]⟩
def f_is_manner_of : Fd := ⟨1, 6, false, [.ifs (.or (.not (.inst (.var 0) "tuple")) (.cmp .NotEq (.bi .len [.var 0]) (.cst (.int 5)))) [.ret (.cst (.bl false))] [],
    .unp [.nm 1, .nm 2, .nm 3, .nm 4, .nm 5] (.var 0),
    .ifs (.or (.not (.call 1 [.var 1])) (.or (.not (.call 1 [.var 2])) (.not (.call 2 [.var 3])))) [.ret (.cst (.bl false))] [],
    .ret (.and (.or (.cmp .Is (.var 4) (.cst .non)) (.call 0 [.var 4, .cst (.int 1), .glb 2])) (.or (.cmp .Is (.var 5) (.cst .non)) (.call 0 [.var 5, .cst (.int 1), .bin .Mult (.glb 4) (.glb 2)])))]⟩
def f_is_manner : Fd := ⟨1, 1, false, [.ret (.call 3 [.var 0])]⟩
def f__law_deck : Fd := ⟨2, 2, false, [.ifs (.cmp .GtE (.var 0) (.bin .Pow (.cst (.int 10)) (.cst (.int 18)))) [.ret (.lst [.bin .Sub (.var 0) (.bin .Pow (.cst (.int 10)) (.cst (.int 18))), .bin .Mod (.bi .int [.var 0]) (.cst (.int 2147483579)), .var 1])] [],
    .ret (.lst [.cst (.int 0), .bin .Mod (.bi .int [.var 0]) (.cst (.int 2147483579)), .var 1])]⟩
def f__law_pick : Fd := ⟨2, 4, true, [.ifs (.cmp .Gt (.idx (.var 0) (.cst (.int 0))) (.cst (.int 1))) [.set 2 (.bin .Mod (.bi .int [.idx (.var 0) (.cst (.int 0))]) (.var 1)),
    .store 0 (.cst (.int 0)) (.bin .FloorDiv (.idx (.var 0) (.cst (.int 0))) (.var 1)),
    .retv 2] [],
    .store 0 (.cst (.int 2)) (.bin .Add (.idx (.var 0) (.cst (.int 2))) (.cst (.int 1))),
    .set 3 (.bin .Mod (.bi .int [.bin .Pow (.bi .int [.bin .Add (.idx (.var 0) (.cst (.int 1))) (.bin .Mult (.cst (.int 15485867)) (.idx (.var 0) (.cst (.int 2))))]) (.cst (.int 5))]) (.cst (.int 2147483647))),
    .set 2 (.bin .FloorDiv (.bin .Mod (.bi .int [.bin .Pow (.bi .int [.bin .Add (.var 3) (.bin .Mult (.cst (.int 7919)) (.idx (.var 0) (.cst (.int 2))))]) (.cst (.int 3))]) (.cst (.int 2147483629))) (.cst (.int 32))),
    .ret (.bin .Mod (.bi .int [.var 2]) (.var 1))]⟩
def f__law_one : Fd := ⟨2, 2, true, [.ret (.idx (.var 1) (.call 6 [.var 0, .bi .len [.var 1]]))]⟩
def f__law_whole : Fd := ⟨1, 1, false, [.ret (.and (.inst (.var 0) "int") (.not (.inst (.var 0) "bool")))]⟩
def f__law_rounding : Fd := ⟨1, 2, true, [.set 1 (.idx (.lst [.cst (.int 1), .cst (.int 2), .cst (.int 3), .cst (.int 4), .cst (.int 6), .cst (.int 8), .cst (.int 12)]) (.call 6 [.var 0, .cst (.int 7)])),
    .ret (.tup [.var 1, .idx (.lst [.cst (.str "down"), .cst (.str "near"), .cst (.str "up")]) (.call 6 [.var 0, .cst (.int 3)]), .call 6 [.var 0, .var 1]])]⟩
def f__law_manner : Fd := ⟨1, 6, true, [.unp [.nm 1, .nm 2] (.tup [.tup [], .cst (.int 0)]),
    .for_ (.nm 3) (.rng (.call 6 [.var 0, .cst (.int 3)])) [.set 2 (.bin .Add (.bin .Add (.var 2) (.cst (.int 1))) (.call 6 [.var 0, .cst (.int 40)])),
    .set 1 (.bin .Add (.var 1) (.tup [.tup [.var 2, .bin .Add (.cst (.int 1)) (.call 6 [.var 0, .cst (.int 8)])]]))],
    .set 4 (.ite (.cmp .Eq (.call 6 [.var 0, .cst (.int 2)]) (.cst (.int 0))) (.cst .non) (.bin .Add (.cst (.int 1)) (.call 6 [.var 0, .cst (.int 60)]))),
    .set 5 (.ite (.cmp .Eq (.call 6 [.var 0, .cst (.int 2)]) (.cst (.int 0))) (.cst .non) (.bin .Add (.cst (.int 1)) (.call 6 [.var 0, .cst (.int 300)]))),
    .ret (.tup [.call 9 [.var 0], .call 9 [.var 0], .var 1, .var 4, .var 5])]⟩
def f__law_is_from : Fd := ⟨3, 3, false, [.ret (.and (.call 8 [.var 0]) (.chain .LtE .LtE (.var 1) (.var 0) (.var 2)))]⟩
def f__law_is_rounding : Fd := ⟨1, 1, false, [.ifs (.or (.not (.inst (.var 0) "tuple")) (.or (.cmp .NotEq (.bi .len [.var 0]) (.cst (.int 3))) (.not (.call 8 [.idx (.var 0) (.cst (.int 0))])))) [.ret (.cst (.bl false))] [],
    .ifs (.or (.cmp .NotIn (.idx (.var 0) (.cst (.int 0))) (.tup [.cst (.int 1), .cst (.int 2), .cst (.int 3), .cst (.int 4), .cst (.int 6), .cst (.int 8), .cst (.int 12)])) (.not (.inst (.idx (.var 0) (.cst (.int 1))) "str"))) [.ret (.cst (.bl false))] [],
    .ret (.and (.cmp .In (.idx (.var 0) (.cst (.int 1))) (.tup [.cst (.str "up"), .cst (.str "down"), .cst (.str "near")])) (.call 11 [.idx (.var 0) (.cst (.int 2)), .cst (.int 0), .bin .Sub (.idx (.var 0) (.cst (.int 0))) (.cst (.int 1))]))]⟩
def f__law_is : Fd := ⟨1, 3, false, [.ifs (.or (.not (.inst (.var 0) "tuple")) (.cmp .NotEq (.bi .len [.var 0]) (.cst (.int 5)))) [.ret (.cst (.bl false))] [],
    .ifs (.or (.not (.call 12 [.idx (.var 0) (.cst (.int 0))])) (.not (.call 12 [.idx (.var 0) (.cst (.int 1))]))) [.ret (.cst (.bl false))] [],
    .ifs (.or (.not (.inst (.idx (.var 0) (.cst (.int 2))) "tuple")) (.cmp .Gt (.bi .len [.idx (.var 0) (.cst (.int 2))]) (.cst (.int 2)))) [.ret (.cst (.bl false))] [],
    .set 1 (.cst (.int 0)),
    .for_ (.nm 2) (.seq (.idx (.var 0) (.cst (.int 2)))) [.ifs (.or (.not (.inst (.var 2) "tuple")) (.or (.cmp .NotEq (.bi .len [.var 2]) (.cst (.int 2))) (.not (.call 11 [.idx (.var 2) (.cst (.int 0)), .bin .Add (.var 1) (.cst (.int 1)), .cst (.int 96)])))) [.ret (.cst (.bl false))] [],
    .ifs (.not (.call 11 [.idx (.var 2) (.cst (.int 1)), .cst (.int 1), .cst (.int 8)])) [.ret (.cst (.bl false))] [],
    .set 1 (.idx (.var 2) (.cst (.int 0)))],
    .ifs (.and (.cmp .IsNot (.idx (.var 0) (.cst (.int 3))) (.cst .non)) (.not (.call 11 [.idx (.var 0) (.cst (.int 3)), .cst (.int 1), .cst (.int 96)]))) [.ret (.cst (.bl false))] [],
    .ret (.or (.cmp .Is (.idx (.var 0) (.cst (.int 4))) (.cst .non)) (.call 11 [.idx (.var 0) (.cst (.int 4)), .cst (.int 1), .cst (.int 480)]))]⟩
def f__law_changed : Fd := ⟨2, 5, true, [.ifs (.and (.inst (.var 1) "tuple") (.and (.cmp .NotEq (.var 1) (.tup [])) (.cmp .Gt (.call 6 [.var 0, .cst (.int 6)]) (.cst (.int 0))))) [.par 2 3 (.call 6 [.var 0, .bi .len [.var 1]]) (.call 6 [.var 0, .cst (.int 9)]),
    .ifs (.cmp .Eq (.var 3) (.cst (.int 0))) [.ret (.bin .Add (.slc (.var 1) none (some (.var 2))) (.slc (.var 1) (some (.bin .Add (.var 2) (.cst (.int 1)))) none))] [],
    .ifs (.cmp .Eq (.var 3) (.cst (.int 1))) [.ret (.bin .Add (.slc (.var 1) none (some (.bin .Add (.var 2) (.cst (.int 1))))) (.slc (.var 1) (some (.var 2)) none))] [],
    .ret (.bin .Add (.bin .Add (.slc (.var 1) none (some (.var 2))) (.tup [.call 14 [.var 0, .idx (.var 1) (.var 2)]])) (.slc (.var 1) (some (.bin .Add (.var 2) (.cst (.int 1)))) none))] [],
    .set 4 (.lst [.cst .non, .cst (.bl true), .cst (.bl false), .cst (.int 0), .cst (.int 1), .cst (.int 5), .cst (.int 12), .cst (.int 8), .cst (.int 96), .cst (.int 97), .cst (.int 480), .cst (.int 481), .cst (.str "near"), .cst (.str "Up"), .cst (.str ""), .tup [], .lst [], .bin .Pow (.cst (.int 10)) (.cst (.int 30)), .tup [.cst (.int 1), .cst (.int 1)], .tup [.tup [.cst (.int 1), .cst (.int 1)]]]),
    .ifs (.and (.inst (.var 1) "int") (.cmp .Eq (.call 6 [.var 0, .cst (.int 2)]) (.cst (.int 0)))) [.ret (.bin .Add (.var 1) (.call 7 [.var 0, .lst [.cst (.int 1), .neg (.cst (.int 1))]]))] [],
    .ret (.ite (.and (.inst (.var 1) "tuple") (.cmp .Eq (.call 6 [.var 0, .cst (.int 3)]) (.cst (.int 0)))) (.bi .list [.var 1]) (.call 7 [.var 0, .var 4]))]⟩
def f_law : Fd := ⟨1, 8, false, [.for_ (.nm 1) (.rng (.cst (.int 8))) [.set 2 (.call 5 [.idx (.bin .Add (.var 0) (.lmul [.cst (.int 0)] (.cst (.int 8)))) (.var 1), .var 1]),
    .for_ (.nm 3) (.rng (.cst (.int 12))) [.set 4 (.call 10 [.var 2]),
    .ifs (.cmp .IsNot (.call 4 [.var 4]) (.cst (.bl true))) [.ret (.cst (.bl false))] [],
    .set 5 (.call 14 [.var 2, .var 4]),
    .ifs (.cmp .Eq (.call 6 [.var 2, .cst (.int 3)]) (.cst (.int 0))) [.set 5 (.call 14 [.var 2, .var 5])] [],
    .set 6 (.call 4 [.var 5]),
    .ifs (.or (.not (.inst (.var 6) "bool")) (.cmp .NotEq (.var 6) (.call 13 [.var 5]))) [.ret (.cst (.bl false))] []]],
    .set 7 (.tup [.tup [.cst (.int 12), .cst (.str "up"), .cst (.int 11)], .tup [.cst (.int 12), .cst (.str "down"), .cst (.int 0)], .tup [.tup [.cst (.int 1), .cst (.int 8)], .tup [.cst (.int 96), .cst (.int 1)]], .cst (.int 96), .cst (.int 480)]),
    .ifs (.or (.cmp .IsNot (.call 4 [.var 7]) (.cst (.bl true))) (.cmp .IsNot (.call 4 [.bin .Add (.bin .Add (.slc (.var 7) none (some (.cst (.int 2)))) (.tup [.tup [.tup [.cst (.int 5), .cst (.int 1)], .tup [.cst (.int 5), .cst (.int 2)]]])) (.slc (.var 7) (some (.cst (.int 3))) none)]) (.cst (.bl false)))) [.ret (.cst (.bl false))] [],
    .ret (.and (.cmp .Is (.call 4 [.bin .Add (.tup [.tup [.cst (.int 5), .cst (.str "up"), .cst (.int 0)]]) (.slc (.var 7) (some (.cst (.int 1))) none)]) (.cst (.bl false))) (.cmp .Is (.call 4 [.bin .Add (.tup [.tup [.cst (.int 1), .cst (.str "up"), .cst (.int 1)]]) (.slc (.var 7) (some (.cst (.int 1))) none)]) (.cst (.bl false))))]⟩
def i_is_from : DefI := ⟨"is_from", top 6, ["value", "low", "high"], ["value", "low", "high"], f_is_from⟩
def i_is_rounding_of : DefI := ⟨"is_rounding_of", top 7, ["value", "step", "side", "grace"], ["value"], f_is_rounding_of⟩
def i_are_breaks_of : DefI := ⟨"are_breaks_of", top 8, ["value", "one"], ["value"], f_are_breaks_of⟩
def i_is_manner_of : DefI := ⟨"is_manner_of", top 9, ["value", "ins", "outs", "breaks", "day", "week"], ["value"], f_is_manner_of⟩
def i_is_manner : DefI := ⟨"is_manner", top 11, ["value"], ["value"], f_is_manner⟩
def i__law_deck : DefI := ⟨"_law_deck", top 13, ["_law_cell", "_law_turn"], ["_law_cell", "_law_turn"], f__law_deck⟩
def i__law_pick : DefI := ⟨"_law_pick", top 14, ["_law_deck_here", "_law_limit", "_law_found", "_law_number"], ["_law_deck_here", "_law_limit"], f__law_pick⟩
def i__law_one : DefI := ⟨"_law_one", top 15, ["_law_deck_here", "_law_some"], ["_law_deck_here", "_law_some"], f__law_one⟩
def i__law_whole : DefI := ⟨"_law_whole", top 16, ["_law_thing"], ["_law_thing"], f__law_whole⟩
def i__law_rounding : DefI := ⟨"_law_rounding", top 17, ["_law_deck_here", "_law_step"], ["_law_deck_here"], f__law_rounding⟩
def i__law_manner : DefI := ⟨"_law_manner", top 18, ["_law_deck_here", "_law_breaks", "_law_start", "_law_turn", "_law_limit", "_law_most"], ["_law_deck_here"], f__law_manner⟩
def i__law_is_from : DefI := ⟨"_law_is_from", top 21, ["_law_thing", "_law_low", "_law_high"], ["_law_thing", "_law_low", "_law_high"], f__law_is_from⟩
def i__law_is_rounding : DefI := ⟨"_law_is_rounding", top 22, ["_law_thing"], ["_law_thing"], f__law_is_rounding⟩
def i__law_is : DefI := ⟨"_law_is", top 23, ["_law_thing", "_law_last", "_law_part"], ["_law_thing"], f__law_is⟩
def i__law_changed : DefI := ⟨"_law_changed", top 24, ["_law_deck_here", "_law_thing", "_law_at", "_law_way", "_law_some"], ["_law_deck_here", "_law_thing"], f__law_changed⟩
def i_law : DefI := ⟨"law", top 25, ["_law_script", "_law_k", "_law_deck_here", "_law_turn", "_law_r", "_law_thing", "_law_found", "_law_most"], ["_law_script"], f_law⟩
def L : LawI := ⟨[i_is_from, i_is_rounding_of, i_are_breaks_of, i_is_manner_of, i_is_manner, i__law_deck, i__law_pick, i__law_one, i__law_whole, i__law_rounding, i__law_manner, i__law_is_from, i__law_is_rounding, i__law_is, i__law_changed, i_law], [("STEPS", .tup [.int 1, .int 2, .int 3, .int 4, .int 6, .int 8, .int 12]), ("SIDES", .tup [.str "down", .str "near", .str "up"]), ("LAST", .int 96), ("MOST_MINUS", .int 8), ("MOST_DAYS", .int 5)], ["isinstance", "bool", "int", "len", "tuple", "str", "range", "list"]⟩
theorem o_is_from : DefOk L 60 i_is_from := ⟨⟨rfl, rfl, rfl, by decide +kernel, rfl, by decide +kernel, by decide +kernel⟩, rfl, rfl, fun _ _ _ _ _ _ us hl => match us, hl with | [_, _, _], _ => rfl, by decide +kernel⟩
theorem o_is_rounding_of : DefOk L 60 i_is_rounding_of := ⟨⟨rfl, rfl, rfl, by decide +kernel, rfl, by decide +kernel, by decide +kernel⟩, rfl, rfl, fun _ _ _ _ _ _ us hl => match us, hl with | [_], _ => rfl, by decide +kernel⟩
theorem o_are_breaks_of : DefOk L 60 i_are_breaks_of := ⟨⟨rfl, rfl, rfl, by decide +kernel, rfl, by decide +kernel, by decide +kernel⟩, rfl, rfl, fun _ _ _ _ _ _ us hl => match us, hl with | [_], _ => rfl, by decide +kernel⟩
theorem o_is_manner_of : DefOk L 60 i_is_manner_of := ⟨⟨rfl, rfl, rfl, by decide +kernel, rfl, by decide +kernel, by decide +kernel⟩, rfl, rfl, fun _ _ _ _ _ _ us hl => match us, hl with | [_], _ => rfl, by decide +kernel⟩
theorem o_is_manner : DefOk L 60 i_is_manner := ⟨⟨rfl, rfl, rfl, by decide +kernel, rfl, by decide +kernel, by decide +kernel⟩, rfl, rfl, fun _ _ _ _ _ _ us hl => match us, hl with | [_], _ => rfl, by decide +kernel⟩
theorem o__law_deck : DefOk L 60 i__law_deck := ⟨⟨rfl, rfl, rfl, by decide +kernel, rfl, by decide +kernel, by decide +kernel⟩, rfl, rfl, fun _ _ _ _ _ _ us hl => match us, hl with | [_, _], _ => rfl, by decide +kernel⟩
theorem o__law_pick : DefOk L 60 i__law_pick := ⟨⟨rfl, rfl, rfl, by decide +kernel, rfl, by decide +kernel, by decide +kernel⟩, rfl, rfl, fun _ _ _ _ _ _ us hl => match us, hl with | [_, _], _ => rfl, by decide +kernel⟩
theorem o__law_one : DefOk L 60 i__law_one := ⟨⟨rfl, rfl, rfl, by decide +kernel, rfl, by decide +kernel, by decide +kernel⟩, rfl, rfl, fun _ _ _ _ _ _ us hl => match us, hl with | [_, _], _ => rfl, by decide +kernel⟩
theorem o__law_whole : DefOk L 60 i__law_whole := ⟨⟨rfl, rfl, rfl, by decide +kernel, rfl, by decide +kernel, by decide +kernel⟩, rfl, rfl, fun _ _ _ _ _ _ us hl => match us, hl with | [_], _ => rfl, by decide +kernel⟩
theorem o__law_rounding : DefOk L 60 i__law_rounding := ⟨⟨rfl, rfl, rfl, by decide +kernel, rfl, by decide +kernel, by decide +kernel⟩, rfl, rfl, fun _ _ _ _ _ _ us hl => match us, hl with | [_], _ => rfl, by decide +kernel⟩
theorem o__law_manner : DefOk L 60 i__law_manner := ⟨⟨rfl, rfl, rfl, by decide +kernel, rfl, by decide +kernel, by decide +kernel⟩, rfl, rfl, fun _ _ _ _ _ _ us hl => match us, hl with | [_], _ => rfl, by decide +kernel⟩
theorem o__law_is_from : DefOk L 60 i__law_is_from := ⟨⟨rfl, rfl, rfl, by decide +kernel, rfl, by decide +kernel, by decide +kernel⟩, rfl, rfl, fun _ _ _ _ _ _ us hl => match us, hl with | [_, _, _], _ => rfl, by decide +kernel⟩
theorem o__law_is_rounding : DefOk L 60 i__law_is_rounding := ⟨⟨rfl, rfl, rfl, by decide +kernel, rfl, by decide +kernel, by decide +kernel⟩, rfl, rfl, fun _ _ _ _ _ _ us hl => match us, hl with | [_], _ => rfl, by decide +kernel⟩
theorem o__law_is : DefOk L 60 i__law_is := ⟨⟨rfl, rfl, rfl, by decide +kernel, rfl, by decide +kernel, by decide +kernel⟩, rfl, rfl, fun _ _ _ _ _ _ us hl => match us, hl with | [_], _ => rfl, by decide +kernel⟩
theorem o__law_changed : DefOk L 60 i__law_changed := ⟨⟨rfl, rfl, rfl, by decide +kernel, rfl, by decide +kernel, by decide +kernel⟩, rfl, rfl, fun _ _ _ _ _ _ us hl => match us, hl with | [_, _], _ => rfl, by decide +kernel⟩
theorem o_law : DefOk L 60 i_law := ⟨⟨rfl, rfl, rfl, by decide +kernel, rfl, by decide +kernel, by decide +kernel⟩, rfl, rfl, fun _ _ _ _ _ _ us hl => match us, hl with | [_], _ => rfl, by decide +kernel⟩
theorem LO : LawOk L 60 := ⟨by
  intro d hd
  have hd : d ∈ [i_is_from, i_is_rounding_of, i_are_breaks_of, i_is_manner_of, i_is_manner, i__law_deck, i__law_pick, i__law_one, i__law_whole, i__law_rounding, i__law_manner, i__law_is_from, i__law_is_rounding, i__law_is, i__law_changed, i_law] := hd
  simp only [List.mem_cons, List.not_mem_nil, or_false] at hd
  rcases hd with rfl | rfl | rfl | rfl | rfl | rfl | rfl | rfl | rfl | rfl | rfl | rfl | rfl | rfl | rfl | rfl
  · exact o_is_from
  · exact o_is_rounding_of
  · exact o_are_breaks_of
  · exact o_is_manner_of
  · exact o_is_manner
  · exact o__law_deck
  · exact o__law_pick
  · exact o__law_one
  · exact o__law_whole
  · exact o__law_rounding
  · exact o__law_manner
  · exact o__law_is_from
  · exact o__law_is_rounding
  · exact o__law_is
  · exact o__law_changed
  · exact o_law
  , by decide +kernel⟩
abbrev R : PySem.W.OpenRow := PySem.W.OpenLaw.row PySem.Challenge.rw_clockcards_k01_manners_recognized
def loose : List Str := (["LAST", "STEPS", "SIDES", "MOST_MINUS", "MOST_DAYS", "is_from", "is_rounding_of", "are_breaks_of", "is_manner_of", "is_manner", "_law_deck", "_law_pick", "_law_one", "_law_whole", "_law_rounding", "_law_manner", "_law_pair", "_law_days", "_law_is_from", "_law_is_rounding", "_law_is", "_law_changed"] : List Str)
def ob (s : PySem.W.SharedT) : He.AlD × Bool := obsL 4 L (HandSHeadRun.getT s)
theorem ob_eq (s : PySem.W.SharedT) : ob s = (hookL 4 L).obs s.abs := obsL_eq (HandSHeadRun.getT_eq s)
theorem run (w : World) : HandSHeadRun.RunEq R (PySem.W.view R.prog [25]) (hookL 4 L) ob 4000 loose w := by
  intro os
  kernel_rfl
end DL.Law

namespace DL.Law
open PySem PySem.Spec PyProof.Rows L2 DL

/-! ### the things that are asked about -/
def gd (L : Nat) : Nat → D → Bool
  | 0, _ => false
  | n + 1, d => match d with
    | .non => true
    | .bl _ => true
    | .int _ => true
    | .str x => PyData.strOk x
    | .tup ds => decide (ds.length ≤ L) && ds.all (gd L n)
    | .lst ds => decide (ds.length ≤ L) && ds.all (gd L n)
    | _ => false
theorem gd_mono {L M : Nat} (h : L ≤ M) : ∀ {n m : Nat} {d : D}, n ≤ m → gd L n d = true → gd M m d = true
  | 0, _, _, _, e => by cases e
  | n + 1, 0, _, l, _ => by omega
  | n + 1, m + 1, d, l, e => by
    have ih : ∀ d, gd L n d = true → gd M m d = true := fun d => gd_mono h (by omega)
    cases d with
    | tup ds =>
      have e' := Bool.and_eq_true_iff.mp (show (decide (ds.length ≤ L) && ds.all (gd L n)) = true from e)
      show (decide (ds.length ≤ M) && ds.all (gd M m)) = true
      rw [Bool.and_eq_true]
      exact ⟨decide_eq_true (Nat.le_trans (of_decide_eq_true e'.1) h), List.all_eq_true.mpr fun x hx => ih x (List.all_eq_true.mp e'.2 x hx)⟩
    | lst ds =>
      have e' := Bool.and_eq_true_iff.mp (show (decide (ds.length ≤ L) && ds.all (gd L n)) = true from e)
      show (decide (ds.length ≤ M) && ds.all (gd M m)) = true
      rw [Bool.and_eq_true]
      exact ⟨decide_eq_true (Nat.le_trans (of_decide_eq_true e'.1) h), List.all_eq_true.mpr fun x hx => ih x (List.all_eq_true.mp e'.2 x hx)⟩
    | _ => first | exact e | cases e
theorem gd_tup {L n : Nat} {ds : List D} (h : gd L (n + 1) (.tup ds) = true) : ds.length ≤ L ∧ ∀ d ∈ ds, gd L n d = true := by
  have e' := Bool.and_eq_true_iff.mp (show (decide (ds.length ≤ L) && ds.all (gd L n)) = true from h)
  exact ⟨of_decide_eq_true e'.1, List.all_eq_true.mp e'.2⟩
theorem tup_gd {L n : Nat} {ds : List D} (h : ds.length ≤ L) (g : ∀ d ∈ ds, gd L n d = true) : gd L (n + 1) (.tup ds) = true := by
  show (decide (ds.length ≤ L) && ds.all (gd L n)) = true
  rw [Bool.and_eq_true]
  exact ⟨decide_eq_true h, List.all_eq_true.mpr g⟩

/-! ### what the program says -/
def okF (d : D) (lo hi : Int) : Bool := match d with
  | .int i => decide (lo ≤ i) && decide (i ≤ hi)
  | _ => false
def steps : List Int := [1, 2, 3, 4, 6, 8, 12]
def sides : List Str := ["down", "near", "up"]
def isR (d : D) : Bool := match d with
  | .tup [.int s, .str x, g] => decide (s ∈ steps) && (decide (x ∈ sides) && okF g 0 (s - 1))
  | _ => false
theorem is_from_ok (k : Nat) {L n : Nat} {d : D} (h : gd L n d = true) (lo hi : Int) : semK Law.L.defs Law.L.gv 100 (k + 1) 0 [.dat d, .dat (.int lo), .dat (.int hi)] = .ok (.dat (.bl (okF d lo hi))) none := by
  have hd : Law.L.defs 0 = some f_is_from := rfl
  unfold semK
  rw [hd]
  cases n with
  | zero => cases h
  | succ n =>
    cases d with
    | int i =>
      by_cases h1 : lo ≤ i
      · simp [f_is_from, exSs, exS, ev, evT, opd, opds, op2, cont, conts, Res.bind, Res.sb, SRes.sq, lift, cmpP, instP, finF, endF, isLent, SV.d, okF, h1]
      · simp [f_is_from, exSs, exS, ev, evT, opd, opds, op2, cont, conts, Res.bind, Res.sb, SRes.sq, lift, cmpP, instP, finF, endF, isLent, SV.d, okF, h1]
    | non => simp [f_is_from, exSs, exS, ev, evT, opd, opds, op2, cont, conts, Res.bind, Res.sb, SRes.sq, lift, cmpP, instP, finF, endF, isLent, SV.d, okF]
    | bl b => simp [f_is_from, exSs, exS, ev, evT, opd, opds, op2, cont, conts, Res.bind, Res.sb, SRes.sq, lift, cmpP, instP, finF, endF, isLent, SV.d, okF]
    | str x => simp [f_is_from, exSs, exS, ev, evT, opd, opds, op2, cont, conts, Res.bind, Res.sb, SRes.sq, lift, cmpP, instP, finF, endF, isLent, SV.d, okF]
    | tup x => simp [f_is_from, exSs, exS, ev, evT, opd, opds, op2, cont, conts, Res.bind, Res.sb, SRes.sq, lift, cmpP, instP, finF, endF, isLent, SV.d, okF]
    | lst x => simp [f_is_from, exSs, exS, ev, evT, opd, opds, op2, cont, conts, Res.bind, Res.sb, SRes.sq, lift, cmpP, instP, finF, endF, isLent, SV.d, okF]
    | _ => cases h
theorem law_is_from_ok (k : Nat) {L n : Nat} {d : D} (h : gd L n d = true) (lo hi : Int) : semK Law.L.defs Law.L.gv 100 (k + 2) 11 [.dat d, .dat (.int lo), .dat (.int hi)] = .ok (.dat (.bl (okF d lo hi))) none := by
  have hd : Law.L.defs 11 = some f__law_is_from := rfl
  have hw : Law.L.defs 8 = some f__law_whole := rfl
  have whole : semK Law.L.defs Law.L.gv 100 (k + 1) 8 [.dat d] = .ok (.dat (.bl (match d with
    | .int _ => true
    | _ => false))) none := by
    unfold semK
    rw [hw]
    cases n with
    | zero => cases h
    | succ n =>
      cases d <;> first | (cases h; done) | simp [f__law_whole, exSs, exS, ev, evT, opd, opds, op2, cont, conts, Res.bind, Res.sb, SRes.sq, lift, cmpP, instP, finF, endF, isLent, SV.d]
  unfold semK
  rw [hd]
  cases d with
  | int i =>
    by_cases h1 : lo ≤ i
    · simp [f__law_is_from, exSs, exS, ev, evT, opd, opds, op2, cont, conts, Res.bind, Res.sb, SRes.sq, lift, cmpP, instP, finF, endF, isLent, SV.d, okF, h1, callR, sharedSl, freezeSl, whole, hw, f__law_whole, D.flat]
    · simp [f__law_is_from, exSs, exS, ev, evT, opd, opds, op2, cont, conts, Res.bind, Res.sb, SRes.sq, lift, cmpP, instP, finF, endF, isLent, SV.d, okF, h1, callR, sharedSl, freezeSl, whole, hw, f__law_whole, D.flat]
  | _ => simp [f__law_is_from, exSs, exS, ev, evT, opd, opds, op2, cont, conts, Res.bind, Res.sb, SRes.sq, lift, cmpP, instP, finF, endF, isLent, SV.d, okF, callR, sharedSl, freezeSl, whole, hw, f__law_whole, D.flat]

theorem shaped_int (i : Int) : SeqAt.shaped (.int i) = true := rfl
theorem shaped_str {x : Str} (h : PyData.strOk x = true) : SeqAt.shaped (.str x) = true := by
  unfold SeqAt.shaped PyData.canLay0
  rw [h]; rfl
theorem mem_steps (s : Int) : memD (.int s) [.int 1, .int 2, .int 3, .int 4, .int 6, .int 8, .int 12] = some (decide (s ∈ steps)) := by
  unfold memD
  rw [if_pos ⟨shaped_int s, by decide⟩]
  congr 1
  have e : ∀ a : Int, ((a == s) = decide (s = a)) := fun a => by
    by_cases h : a = s
    · subst h; simp
    · simp [h, Ne.symm h]
  simp [pyL, D.py, PyData.eqv, steps, e]
theorem mem_sides {x : Str} (h : PyData.strOk x = true) : memD (.str x) [.str "down", .str "near", .str "up"] = some (decide (x ∈ sides)) := by
  unfold memD
  rw [if_pos ⟨shaped_str h, by decide +kernel⟩]
  congr 1
  have e : ∀ a : Str, ((a == x) = decide (x = a)) := fun a => by
    by_cases h : a = x
    · subst h; simp
    · simp [h, Ne.symm h]
  simp [pyL, D.py, PyData.eqv, sides, e]
theorem mem_sides2 {x : Str} (h : PyData.strOk x = true) : memD (.str x) [.str "up", .str "down", .str "near"] = some (decide (x ∈ sides)) := by
  unfold memD
  rw [if_pos ⟨shaped_str h, by decide +kernel⟩]
  congr 1
  have e : ∀ a : Str, ((a == x) = decide (x = a)) := fun a => by
    by_cases h : a = x
    · subst h; simp
    · simp [h, Ne.symm h]
  simp only [pyL, D.py, PyData.eqv, sides, e, List.any_cons, List.any_nil, Bool.or_false, List.mem_cons, List.not_mem_nil, or_false, ← Bool.decide_or]
  by_cases h1 : x = "up" <;> by_cases h2 : x = "down" <;> by_cases h3 : x = "near" <;> simp [h1, h2, h3]
theorem g0 : Law.L.gv 0 = some (.ktup [.int 1, .int 2, .int 3, .int 4, .int 6, .int 8, .int 12]) := rfl
theorem g1 : Law.L.gv 1 = some (.ktup [.str "down", .str "near", .str "up"]) := rfl
theorem g2 : Law.L.gv 2 = some (.int 96) := rfl
theorem g3 : Law.L.gv 3 = some (.int 8) := rfl
theorem g4 : Law.L.gv 4 = some (.int 5) := rfl
theorem okF_12 {s : Int} : okF (.int s) 1 12 = true ∨ decide (s ∈ steps) = false := by
  by_cases h : s ∈ steps
  · left
    unfold steps at h
    simp at h
    rcases h with h | h | h | h | h | h | h <;> subst h <;> rfl
  · right; simpa using h
/-- a list by its length -/
theorem len3 {α : Type} {l : List α} (h : l.length = 3) : ∃ a b c, l = [a, b, c] := by
  match l, h with
  | [a, b, c], _ => exact ⟨a, b, c, rfl⟩
theorem len2 {α : Type} {l : List α} (h : l.length = 2) : ∃ a b, l = [a, b] := by
  match l, h with
  | [a, b], _ => exact ⟨a, b, rfl⟩
theorem len5 {α : Type} {l : List α} (h : l.length = 5) : ∃ a b c d e, l = [a, b, c, d, e] := by
  match l, h with
  | [a, b, c, d, e], _ => exact ⟨a, b, c, d, e, rfl⟩
theorem isR_len {ds : List D} (h : ds.length ≠ 3) : isR (.tup ds) = false := by
  unfold isR
  split
  · rename_i e; cases e; exact absurd rfl h
  · rfl
theorem d0 : Law.L.defs 0 = some f_is_from := rfl
theorem d1 : Law.L.defs 1 = some f_is_rounding_of := rfl
theorem d11 : Law.L.defs 11 = some f__law_is_from := rfl
theorem is_rounding_ok (k : Nat) {n : Nat} {d : D} (h : gd 50 (n + 2) d = true) : semK Law.L.defs Law.L.gv 100 (k + 2) 1 [.dat d] = .ok (.dat (.bl (isR d))) none := by
  unfold semK
  rw [d1]
  cases d with
  | tup ds =>
    by_cases hl : ds.length = 3
    · obtain ⟨a, b, c, rfl⟩ := len3 hl
      obtain ⟨_, hg⟩ := gd_tup h
      have ha := hg a (by simp)
      have hb := hg b (by simp)
      have hc := hg c (by simp)
      have ea := is_from_ok k ha 1 12
      cases a with
      | int s =>
        have ec := is_from_ok k hc 0 (s - 1)
        by_cases hs : s ∈ steps
        · have e12 : okF (.int s) 1 12 = true := by
            rcases okF_12 (s := s) with e | e
            · exact e
            · simp [hs] at e
          cases b with
          | str x =>
            have mx := mem_sides (x := x) hb
            by_cases hx : x ∈ sides
            · simp [f_is_rounding_of, exSs, exS, ev, evT, opd, opds, op2, cont, conts, Res.bind, Res.sb, SRes.sq, lift, cmpP, binP, inP, instP, callP, D.seq?, eqD, finF, endF, isLent, SV.d, callR, sharedSl, freezeSl, D.flat, d0, f_is_from, ea, ec, e12, g0, g1, mem_steps, mx, hs, hx, isR, tru, unpS, asg_tup, asgs_cons, asgs_nil, asg_nm, free_none, shaped_int, PyData.eqv, D.py]
            · simp [f_is_rounding_of, exSs, exS, ev, evT, opd, opds, op2, cont, conts, Res.bind, Res.sb, SRes.sq, lift, cmpP, binP, inP, instP, callP, D.seq?, eqD, finF, endF, isLent, SV.d, callR, sharedSl, freezeSl, D.flat, d0, f_is_from, ea, ec, e12, g0, g1, mem_steps, mx, hs, hx, isR, tru, unpS, asg_tup, asgs_cons, asgs_nil, asg_nm, free_none, shaped_int, PyData.eqv, D.py]
          | non | bl _ | int _ | tup _ | lst _ => simp [f_is_rounding_of, exSs, exS, ev, evT, opd, opds, op2, cont, conts, Res.bind, Res.sb, SRes.sq, lift, cmpP, binP, inP, instP, callP, D.seq?, eqD, finF, endF, isLent, SV.d, callR, sharedSl, freezeSl, D.flat, d0, f_is_from, ea, ec, e12, g0, g1, mem_steps, hs, isR, tru, unpS, asg_tup, asgs_cons, asgs_nil, asg_nm, free_none, shaped_int, PyData.eqv, D.py]
          | _ => cases hb
        · have er : isR (.tup [.int s, b, c]) = false := by
            unfold isR
            split
            · rename_i e; cases e; simp [hs]
            · rfl
          cases e12 : okF (.int s) 1 12 <;> rw [e12] at ea <;> simp [f_is_rounding_of, exSs, exS, ev, evT, opd, opds, op2, cont, conts, Res.bind, Res.sb, SRes.sq, lift, cmpP, binP, inP, instP, callP, D.seq?, eqD, finF, endF, isLent, SV.d, callR, sharedSl, freezeSl, D.flat, d0, f_is_from, ea, ec, e12, g0, g1, mem_steps, hs, er, tru, unpS, asg_tup, asgs_cons, asgs_nil, asg_nm, free_none, shaped_int, PyData.eqv, D.py]
      | non | bl _ | str _ | tup _ | lst _ =>
        simp [okF] at ea
        simp [f_is_rounding_of, exSs, exS, ev, evT, opd, opds, op2, cont, conts, Res.bind, Res.sb, SRes.sq, lift, cmpP, binP, inP, instP, callP, D.seq?, eqD, finF, endF, isLent, SV.d, callR, sharedSl, freezeSl, D.flat, d0, f_is_from, ea, g0, g1, isR, tru, unpS, asg_tup, asgs_cons, asgs_nil, asg_nm, free_none, shaped_int, PyData.eqv, D.py]
      | _ => cases ha
    · have hl' : ¬ (ds.length : Int) = 3 := by omega
      simp [f_is_rounding_of, exSs, exS, ev, evT, opd, opds, op2, cont, conts, Res.bind, Res.sb, SRes.sq, lift, cmpP, binP, inP, instP, callP, D.seq?, eqD, finF, endF, isLent, SV.d, tru, isR_len hl, hl', shaped_int, PyData.eqv, D.py]
  | non | bl _ | int _ | str _ | lst _ => simp [f_is_rounding_of, exSs, exS, ev, evT, opd, opds, op2, cont, conts, Res.bind, Res.sb, SRes.sq, lift, cmpP, binP, inP, instP, callP, D.seq?, eqD, finF, endF, isLent, SV.d, tru, isR]
  | _ => cases h
end DL.Law

namespace DL.Law
open PySem PySem.Spec PyProof.Rows L2 DL

theorem d2 : Law.L.defs 2 = some f_are_breaks_of := rfl
theorem d3 : Law.L.defs 3 = some f_is_manner_of := rfl
theorem d4 : Law.L.defs 4 = some f_is_manner := rfl
theorem d8 : Law.L.defs 8 = some f__law_whole := rfl
theorem d12 : Law.L.defs 12 = some f__law_is_rounding := rfl
theorem d13 : Law.L.defs 13 = some f__law_is := rfl
def isI : D → Bool
  | .int _ => true
  | _ => false
theorem whole_ok (k : Nat) {L n : Nat} {d : D} (h : gd L n d = true) : semK Law.L.defs Law.L.gv 100 (k + 1) 8 [.dat d] = .ok (.dat (.bl (isI d))) none := by
  unfold semK
  rw [d8]
  cases n with
  | zero => cases h
  | succ n =>
    cases d <;> first | (cases h; done) | simp [f__law_whole, exSs, exS, ev, evT, opd, opds, op2, cont, conts, Res.bind, Res.sb, SRes.sq, lift, cmpP, instP, finF, endF, isLent, SV.d, isI]
theorem law_is_rounding_ok (k : Nat) {n : Nat} {d : D} (h : gd 50 (n + 2) d = true) : semK Law.L.defs Law.L.gv 100 (k + 3) 12 [.dat d] = .ok (.dat (.bl (isR d))) none := by
  unfold semK
  rw [d12]
  cases d with
  | tup ds =>
    by_cases hl : ds.length = 3
    · obtain ⟨a, b, c, rfl⟩ := len3 hl
      obtain ⟨_, hg⟩ := gd_tup h
      have ha := hg a (by simp)
      have hb := hg b (by simp)
      have hc := hg c (by simp)
      have ea := whole_ok (k + 1) ha
      cases a with
      | int s =>
        have ec := law_is_from_ok k hc 0 (s - 1)
        by_cases hs : s ∈ steps
        · cases b with
          | str x =>
            have mx := mem_sides2 (x := x) hb
            by_cases hx : x ∈ sides
            · simp [f__law_is_rounding, exSs, exS, ev, evT, opd, opds, vals, op2, cont, conts, Res.bind, Res.sb, SRes.sq, lift, cmpP, binP, inP, idxP, atI, ixN, instP, callP, D.seq?, eqD, finF, endF, isLent, SV.d, callR, sharedSl, freezeSl, D.flat, d8, f__law_whole, d11, f__law_is_from, ea, ec, mem_steps, mx, hs, hx, isR, isI, tru, shaped_int, PyData.eqv, D.py, Z24]
            · simp [f__law_is_rounding, exSs, exS, ev, evT, opd, opds, vals, op2, cont, conts, Res.bind, Res.sb, SRes.sq, lift, cmpP, binP, inP, idxP, atI, ixN, instP, callP, D.seq?, eqD, finF, endF, isLent, SV.d, callR, sharedSl, freezeSl, D.flat, d8, f__law_whole, d11, f__law_is_from, ea, ec, mem_steps, mx, hs, hx, isR, isI, tru, shaped_int, PyData.eqv, D.py, Z24]
          | non | bl _ | int _ | tup _ | lst _ => simp [f__law_is_rounding, exSs, exS, ev, evT, opd, opds, vals, op2, cont, conts, Res.bind, Res.sb, SRes.sq, lift, cmpP, binP, inP, idxP, atI, ixN, instP, callP, D.seq?, eqD, finF, endF, isLent, SV.d, callR, sharedSl, freezeSl, D.flat, d8, f__law_whole, d11, f__law_is_from, ea, ec, mem_steps, hs, isR, isI, tru, shaped_int, PyData.eqv, D.py, Z24]
          | _ => cases hb
        · have er : isR (.tup [.int s, b, c]) = false := by
            unfold isR
            split
            · rename_i e; cases e; simp [hs]
            · rfl
          simp [f__law_is_rounding, exSs, exS, ev, evT, opd, opds, vals, op2, cont, conts, Res.bind, Res.sb, SRes.sq, lift, cmpP, binP, inP, idxP, atI, ixN, instP, callP, D.seq?, eqD, finF, endF, isLent, SV.d, callR, sharedSl, freezeSl, D.flat, d8, f__law_whole, d11, f__law_is_from, ea, ec, mem_steps, hs, er, isI, tru, shaped_int, PyData.eqv, D.py, Z24]
      | non | bl _ | str _ | tup _ | lst _ =>
        simp [f__law_is_rounding, exSs, exS, ev, evT, opd, opds, vals, op2, cont, conts, Res.bind, Res.sb, SRes.sq, lift, cmpP, binP, inP, idxP, atI, ixN, instP, callP, D.seq?, eqD, finF, endF, isLent, SV.d, callR, sharedSl, freezeSl, D.flat, d8, f__law_whole, d11, f__law_is_from, ea, isR, isI, tru, shaped_int, PyData.eqv, D.py, Z24]
      | _ => cases ha
    · have hl' : ¬ (ds.length : Int) = 3 := by omega
      simp [f__law_is_rounding, exSs, exS, ev, evT, opd, opds, op2, cont, conts, Res.bind, Res.sb, SRes.sq, lift, cmpP, binP, inP, instP, callP, D.seq?, eqD, finF, endF, isLent, SV.d, tru, isR_len hl, hl', shaped_int, PyData.eqv, D.py]
  | non | bl _ | int _ | str _ | lst _ => simp [f__law_is_rounding, exSs, exS, ev, evT, opd, opds, op2, cont, conts, Res.bind, Res.sb, SRes.sq, lift, cmpP, binP, inP, instP, callP, D.seq?, eqD, finF, endF, isLent, SV.d, tru, isR]
  | _ => cases h

/-! ### breaks -/
def isP (d : D) : Bool := match d with
  | .tup [a, b] => okF a 1 96 && okF b 1 8
  | _ => false
def fstI (d : D) : Int := match d with
  | .tup [.int i, _] => i
  | _ => 0
def isB (d : D) : Bool := match d with
  | .tup [] => true
  | .tup [p] => isP p
  | .tup [p, q] => isP p && (isP q && decide (fstI p < fstI q))
  | _ => false
theorem okF_int {a : D} {lo hi : Int} (h : okF a lo hi = true) : ∃ i, a = .int i ∧ lo ≤ i ∧ i ≤ hi := by
  unfold okF at h
  split at h
  · simp at h; exact ⟨_, rfl, h⟩
  · cases h
theorem okF_bool {a : D} {lo hi : Int} : okF a lo hi = true ∨ okF a lo hi = false := by cases okF a lo hi <;> simp
/-- a pair, or how it fails -/
theorem cls {n : Nat} {p : D} (h : gd 50 (n + 2) p = true) : (∃ i j, p = .tup [.int i, .int j] ∧ isP p = true ∧ okF (.int i) 1 96 = true ∧ okF (.int j) 1 8 = true) ∨
    (isP p = false ∧ (instP p "tuple" = some false ∨ (∃ ds, p = .tup ds ∧ ¬ (ds.length : Int) = 2) ∨ ∃ a b, p = .tup [a, b] ∧ gd 50 (n + 1) a = true ∧ gd 50 (n + 1) b = true ∧ (okF a 1 96 = false ∨ (okF a 1 96 = true ∧ okF b 1 8 = false)))) := by
  cases p with
  | tup ds =>
    by_cases hl : ds.length = 2
    · obtain ⟨a, b, rfl⟩ := len2 hl
      obtain ⟨_, hg⟩ := gd_tup h
      have ha := hg a (by simp)
      have hb := hg b (by simp)
      rcases okF_bool (a := a) (lo := 1) (hi := 96) with ea | ea
      · rcases okF_bool (a := b) (lo := 1) (hi := 8) with eb | eb
        · obtain ⟨i, rfl, _⟩ := okF_int ea
          obtain ⟨j, rfl, _⟩ := okF_int eb
          exact .inl ⟨i, j, rfl, by simp [isP, ea, eb], ea, eb⟩
        · exact .inr ⟨by simp [isP, ea, eb], .inr (.inr ⟨a, b, rfl, ha, hb, .inr ⟨ea, eb⟩⟩)⟩
      · exact .inr ⟨by simp [isP, ea], .inr (.inr ⟨a, b, rfl, ha, hb, .inl ea⟩)⟩
    · refine .inr ⟨?_, .inr (.inl ⟨ds, rfl, by omega⟩)⟩
      unfold isP
      split
      · rename_i e; cases e; exact absurd rfl hl
      · rfl
  | non | bl _ | int _ | str _ | lst _ => exact .inr ⟨rfl, .inl rfl⟩
  | _ => cases h
theorem isB_len {ds : List D} (h : 2 < ds.length) : isB (.tup ds) = false := by
  unfold isB
  split <;> first | rfl | (rename_i e; cases e; simp at h)
theorem inst_tup {ds : List D} : instP (.tup ds) "tuple" = some true := rfl
theorem breaks_ok (k : Nat) {n : Nat} {d : D} (h : gd 50 (n + 3) d = true) : semK Law.L.defs Law.L.gv 100 (k + 2) 2 [.dat d] = .ok (.dat (.bl (isB d))) none := by
  unfold semK
  rw [d2]
  cases d with
  | tup ds =>
    obtain ⟨_, hg⟩ := gd_tup h
    by_cases hl : 2 < ds.length
    · have hl' : (2 : Int) < ds.length := by omega
      simp [f_are_breaks_of, exSs, exS, ev, evT, opd, opds, op2, cont, conts, Res.bind, Res.sb, SRes.sq, lift, cmpP, binP, inP, inst_tup, callP, D.seq?, finF, endF, isLent, SV.d, tru, isB_len hl, hl']
    · match ds, hl, hg with
      | [], _, _ => simp [f_are_breaks_of, exSs, exS, ev, evT, evIt, opd, opds, op2, cont, conts, Res.bind, Res.sb, SRes.sq, lift, cmpP, binP, inP, inst_tup, callP, D.seq?, finF, endF, isLent, SV.d, tru, isB, forGo]
      | [p], _, hg =>
        rcases cls (hg p (by simp)) with ⟨i, j, rfl, hp, e1, e2⟩ | ⟨hp, hq | ⟨es, rfl, hq⟩ | ⟨a, b, rfl, ha, hb, hq⟩⟩
        · have c1 := is_from_ok k (L := 1) (n := 1) (d := .int i) rfl 1 96
          have c2 := is_from_ok k (L := 1) (n := 1) (d := .int j) rfl 1 8
          rw [e1] at c1
          rw [e2] at c2
          simp [f_are_breaks_of, exSs, exS, ev, evT, evIt, opd, opds, op2, cont, conts, Res.bind, Res.sb, SRes.sq, lift, cmpP, binP, inP, idxP, atI, ixN, inst_tup, callP, D.seq?, eqD, finF, endF, isLent, SV.d, tru, isB, hp, forGo, asg_nm, free_none, free_dat, c1, c2, d0, f_is_from, callR, sharedSl, freezeSl, D.flat, g2, g3, shaped_int, PyData.eqv, D.py]
        · simp [f_are_breaks_of, exSs, exS, ev, evT, evIt, opd, opds, op2, cont, conts, Res.bind, Res.sb, SRes.sq, lift, cmpP, binP, inP, inst_tup, callP, D.seq?, finF, endF, isLent, SV.d, tru, isB, hp, hq, forGo, asg_nm, free_none]
        · simp [f_are_breaks_of, exSs, exS, ev, evT, evIt, opd, opds, op2, cont, conts, Res.bind, Res.sb, SRes.sq, lift, cmpP, binP, inP, inst_tup, callP, D.seq?, eqD, finF, endF, isLent, SV.d, tru, isB, hp, hq, forGo, asg_nm, free_none, shaped_int, PyData.eqv, D.py]
        · have c1 := is_from_ok k ha 1 96
          have c2 := is_from_ok k hb 1 8
          rcases hq with e1 | ⟨e1, e2⟩
          · rw [e1] at c1
            simp [f_are_breaks_of, exSs, exS, ev, evT, evIt, opd, opds, op2, cont, conts, Res.bind, Res.sb, SRes.sq, lift, cmpP, binP, inP, idxP, atI, ixN, inst_tup, callP, D.seq?, eqD, finF, endF, isLent, SV.d, tru, isB, hp, forGo, asg_nm, free_none, c1, d0, f_is_from, callR, sharedSl, freezeSl, D.flat, g2, g3, shaped_int, PyData.eqv, D.py]
          · rw [e1] at c1
            rw [e2] at c2
            simp [f_are_breaks_of, exSs, exS, ev, evT, evIt, opd, opds, op2, cont, conts, Res.bind, Res.sb, SRes.sq, lift, cmpP, binP, inP, idxP, atI, ixN, inst_tup, callP, D.seq?, eqD, finF, endF, isLent, SV.d, tru, isB, hp, forGo, asg_nm, free_none, c1, c2, d0, f_is_from, callR, sharedSl, freezeSl, D.flat, g2, g3, shaped_int, PyData.eqv, D.py]
      | [p, q], _, hg =>
        rcases cls (hg p (by simp)) with ⟨i, j, rfl, hp, e1, e2⟩ | ⟨hp, hq | ⟨es, rfl, hq⟩ | ⟨a, b, rfl, ha, hb, hq⟩⟩
        · have c1 := is_from_ok k (L := 1) (n := 1) (d := .int i) rfl 1 96
          have c2 := is_from_ok k (L := 1) (n := 1) (d := .int j) rfl 1 8
          rw [e1] at c1
          rw [e2] at c2
          rcases cls (hg q (by simp)) with ⟨i', j', rfl, hp', e1', e2'⟩ | ⟨hp', hq' | ⟨es', rfl, hq'⟩ | ⟨a', b', rfl, ha', hb', hq'⟩⟩
          · have c1' := is_from_ok k (L := 1) (n := 1) (d := .int i') rfl 1 96
            have c2' := is_from_ok k (L := 1) (n := 1) (d := .int j') rfl 1 8
            rw [e1'] at c1'
            rw [e2'] at c2'
            simp [f_are_breaks_of, exSs, exS, ev, evT, evIt, opd, opds, op2, cont, conts, Res.bind, Res.sb, SRes.sq, lift, cmpP, binP, inP, idxP, atI, ixN, inst_tup, callP, D.seq?, eqD, finF, endF, isLent, SV.d, tru, isB, hp, hp', fstI, forGo, asg_nm, free_none, free_dat, c1, c2, c1', c2', d0, f_is_from, callR, sharedSl, freezeSl, D.flat, g2, g3, shaped_int, PyData.eqv, D.py]
            rfl
          · simp [f_are_breaks_of, exSs, exS, ev, evT, evIt, opd, opds, op2, cont, conts, Res.bind, Res.sb, SRes.sq, lift, cmpP, binP, inP, idxP, atI, ixN, inst_tup, callP, D.seq?, eqD, finF, endF, isLent, SV.d, tru, isB, hp, hp', hq', fstI, forGo, asg_nm, free_none, free_dat, c1, c2, d0, f_is_from, callR, sharedSl, freezeSl, D.flat, g2, g3, shaped_int, PyData.eqv, D.py]
          · simp [f_are_breaks_of, exSs, exS, ev, evT, evIt, opd, opds, op2, cont, conts, Res.bind, Res.sb, SRes.sq, lift, cmpP, binP, inP, idxP, atI, ixN, inst_tup, callP, D.seq?, eqD, finF, endF, isLent, SV.d, tru, isB, hp, hp', hq', fstI, forGo, asg_nm, free_none, free_dat, c1, c2, d0, f_is_from, callR, sharedSl, freezeSl, D.flat, g2, g3, shaped_int, PyData.eqv, D.py]
          · have c1' := is_from_ok k ha' 1 96
            have c2' := is_from_ok k hb' 1 8
            rcases hq' with e1' | ⟨e1', e2'⟩
            · rw [e1'] at c1'
              simp [f_are_breaks_of, exSs, exS, ev, evT, evIt, opd, opds, op2, cont, conts, Res.bind, Res.sb, SRes.sq, lift, cmpP, binP, inP, idxP, atI, ixN, inst_tup, callP, D.seq?, eqD, finF, endF, isLent, SV.d, tru, isB, hp, hp', fstI, forGo, asg_nm, free_none, free_dat, c1, c2, c1', d0, f_is_from, callR, sharedSl, freezeSl, D.flat, g2, g3, shaped_int, PyData.eqv, D.py]
            · rw [e1'] at c1'
              rw [e2'] at c2'
              simp [f_are_breaks_of, exSs, exS, ev, evT, evIt, opd, opds, op2, cont, conts, Res.bind, Res.sb, SRes.sq, lift, cmpP, binP, inP, idxP, atI, ixN, inst_tup, callP, D.seq?, eqD, finF, endF, isLent, SV.d, tru, isB, hp, hp', fstI, forGo, asg_nm, free_none, free_dat, c1, c2, c1', c2', d0, f_is_from, callR, sharedSl, freezeSl, D.flat, g2, g3, shaped_int, PyData.eqv, D.py]
        · simp [f_are_breaks_of, exSs, exS, ev, evT, evIt, opd, opds, op2, cont, conts, Res.bind, Res.sb, SRes.sq, lift, cmpP, binP, inP, inst_tup, callP, D.seq?, finF, endF, isLent, SV.d, tru, isB, hp, hq, forGo, asg_nm, free_none]
        · simp [f_are_breaks_of, exSs, exS, ev, evT, evIt, opd, opds, op2, cont, conts, Res.bind, Res.sb, SRes.sq, lift, cmpP, binP, inP, inst_tup, callP, D.seq?, eqD, finF, endF, isLent, SV.d, tru, isB, hp, hq, forGo, asg_nm, free_none, shaped_int, PyData.eqv, D.py]
        · have c1 := is_from_ok k ha 1 96
          have c2 := is_from_ok k hb 1 8
          rcases hq with e1 | ⟨e1, e2⟩
          · rw [e1] at c1
            simp [f_are_breaks_of, exSs, exS, ev, evT, evIt, opd, opds, op2, cont, conts, Res.bind, Res.sb, SRes.sq, lift, cmpP, binP, inP, idxP, atI, ixN, inst_tup, callP, D.seq?, eqD, finF, endF, isLent, SV.d, tru, isB, hp, forGo, asg_nm, free_none, c1, d0, f_is_from, callR, sharedSl, freezeSl, D.flat, g2, g3, shaped_int, PyData.eqv, D.py]
          · rw [e1] at c1
            rw [e2] at c2
            simp [f_are_breaks_of, exSs, exS, ev, evT, evIt, opd, opds, op2, cont, conts, Res.bind, Res.sb, SRes.sq, lift, cmpP, binP, inP, idxP, atI, ixN, inst_tup, callP, D.seq?, eqD, finF, endF, isLent, SV.d, tru, isB, hp, forGo, asg_nm, free_none, c1, c2, d0, f_is_from, callR, sharedSl, freezeSl, D.flat, g2, g3, shaped_int, PyData.eqv, D.py]
      | _ :: _ :: _ :: _, hl, _ => simp at hl
  | non | bl _ | int _ | str _ | lst _ => simp [f_are_breaks_of, exSs, exS, ev, evT, opd, opds, op2, cont, conts, Res.bind, Res.sb, SRes.sq, lift, cmpP, binP, inP, instP, callP, D.seq?, finF, endF, isLent, SV.d, tru, isB]
  | _ => cases h

/-! ### manners -/
def isN : D → Bool
  | .non => true
  | _ => false
theorem is_non {d : D} : DL.isP d .non = some (isN d) := by cases d <;> rfl
def isM (d : D) : Bool := match d with
  | .tup [a, b, c, e, f] => isR a && (isR b && (isB c && ((isN e || okF e 1 96) && (isN f || okF f 1 480))))
  | _ => false
theorem isM_len {ds : List D} (h : ds.length ≠ 5) : isM (.tup ds) = false := by
  unfold isM
  split
  · rename_i e; cases e; exact absurd rfl h
  · rfl
theorem bcase (b : Bool) : b = true ∨ b = false := by cases b <;> simp
theorem isN_ok {d : D} (h : isN d = true) : d = .non := by cases d <;> first | rfl | cases h
theorem manner_of_ok (k : Nat) {n : Nat} {d : D} (h : gd 50 (n + 4) d = true) : semK Law.L.defs Law.L.gv 100 (k + 3) 3 [.dat d] = .ok (.dat (.bl (isM d))) none := by
  unfold semK
  rw [d3]
  cases d with
  | tup ds =>
    by_cases hl : ds.length = 5
    · obtain ⟨a, b, c, e, f, rfl⟩ := len5 hl
      obtain ⟨_, hg⟩ := gd_tup h
      have ea := is_rounding_ok k (n := n + 1) (hg a (by simp))
      have eb := is_rounding_ok k (n := n + 1) (hg b (by simp))
      have ec := breaks_ok k (n := n) (hg c (by simp))
      have ed := is_from_ok (k + 1) (hg e (by simp)) 1 96
      have ef := is_from_ok (k + 1) (hg f (by simp)) 1 480
      rcases bcase (isR a) with hA | hA
      · rw [hA] at ea
        rcases bcase (isR b) with hB | hB
        · rw [hB] at eb
          rcases bcase (isB c) with hC | hC
          · rw [hC] at ec
            rcases bcase (isN e) with hE | hE <;> rcases bcase (okF e 1 96) with oE | oE <;> rw [oE] at ed <;> rcases bcase (isN f) with hF | hF <;> rcases bcase (okF f 1 480) with oF | oF <;> rw [oF] at ef <;>
              simp [f_is_manner_of, exSs, exS, ev, evT, opd, opds, op2, cont, conts, Res.bind, Res.sb, SRes.sq, lift, cmpP, binP, is_non, inst_tup, callP, D.seq?, eqD, finF, endF, isLent, SV.d, callR, sharedSl, freezeSl, D.flat, d0, d1, d2, f_is_from, f_is_rounding_of, f_are_breaks_of, ea, eb, ec, ed, ef, hA, hB, hC, hE, hF, oE, oF, g2, g4, isM, tru, unpS, asg_tup, asgs_cons, asgs_nil, asg_nm, free_none, shaped_int, PyData.eqv, D.py]
          · rw [hC] at ec
            simp [f_is_manner_of, exSs, exS, ev, evT, opd, opds, op2, cont, conts, Res.bind, Res.sb, SRes.sq, lift, cmpP, binP, is_non, inst_tup, callP, D.seq?, eqD, finF, endF, isLent, SV.d, callR, sharedSl, freezeSl, D.flat, d0, d1, d2, f_is_from, f_is_rounding_of, f_are_breaks_of, ea, eb, ec, hA, hB, hC, g2, g4, isM, tru, unpS, asg_tup, asgs_cons, asgs_nil, asg_nm, free_none, shaped_int, PyData.eqv, D.py]
        · rw [hB] at eb
          simp [f_is_manner_of, exSs, exS, ev, evT, opd, opds, op2, cont, conts, Res.bind, Res.sb, SRes.sq, lift, cmpP, binP, is_non, inst_tup, callP, D.seq?, eqD, finF, endF, isLent, SV.d, callR, sharedSl, freezeSl, D.flat, d0, d1, d2, f_is_from, f_is_rounding_of, f_are_breaks_of, ea, eb, hA, hB, g2, g4, isM, tru, unpS, asg_tup, asgs_cons, asgs_nil, asg_nm, free_none, shaped_int, PyData.eqv, D.py]
      · rw [hA] at ea
        simp [f_is_manner_of, exSs, exS, ev, evT, opd, opds, op2, cont, conts, Res.bind, Res.sb, SRes.sq, lift, cmpP, binP, is_non, inst_tup, callP, D.seq?, eqD, finF, endF, isLent, SV.d, callR, sharedSl, freezeSl, D.flat, d0, d1, d2, f_is_from, f_is_rounding_of, f_are_breaks_of, ea, hA, g2, g4, isM, tru, unpS, asg_tup, asgs_cons, asgs_nil, asg_nm, free_none, shaped_int, PyData.eqv, D.py]
    · have hl' : ¬ (ds.length : Int) = 5 := by omega
      simp [f_is_manner_of, exSs, exS, ev, evT, opd, opds, op2, cont, conts, Res.bind, Res.sb, SRes.sq, lift, cmpP, binP, inP, inst_tup, callP, D.seq?, eqD, finF, endF, isLent, SV.d, tru, isM_len hl, hl', shaped_int, PyData.eqv, D.py]
  | non | bl _ | int _ | str _ | lst _ => simp [f_is_manner_of, exSs, exS, ev, evT, opd, opds, op2, cont, conts, Res.bind, Res.sb, SRes.sq, lift, cmpP, binP, inP, instP, callP, D.seq?, eqD, finF, endF, isLent, SV.d, tru, isM]
  | _ => cases h
theorem is_manner_ok (k : Nat) {n : Nat} {d : D} (h : gd 50 (n + 4) d = true) : semK Law.L.defs Law.L.gv 100 (k + 4) 4 [.dat d] = .ok (.dat (.bl (isM d))) none := by
  have e := manner_of_ok k h
  unfold semK
  rw [d4]
  simp [f_is_manner, exSs, exS, ev, evT, opd, opds, op2, cont, conts, Res.bind, Res.sb, SRes.sq, lift, finF, endF, isLent, SV.d, callR, sharedSl, freezeSl, D.flat, d3, f_is_manner_of, e]
end DL.Law

namespace DL.Law
open PySem PySem.Spec PyProof.Rows L2 DL

theorem okF_up {a : D} {i : Int} (hi : 1 ≤ i) (h : okF a 1 96 = false) : okF a (i + 1) 96 = false := by
  cases a <;> first | rfl | (simp [okF] at h ⊢; omega)
theorem okF_lt {i j : Int} (h : okF (.int j) 1 96 = true) (hi : 1 ≤ i) : okF (.int j) (i + 1) 96 = decide (i < j) := by
  simp [okF] at h ⊢
  by_cases hh : i < j
  · simp [hh]; omega
  · simp [hh]; omega
/-- two bounds of a pair's parts -/
theorem okF_1 {i : Int} (h : okF (.int i) 1 96 = true) : 1 ≤ i := by simp [okF] at h; exact h.1
theorem law_is_ok (k : Nat) {n : Nat} {d : D} (h : gd 50 (n + 4) d = true) : semK Law.L.defs Law.L.gv 100 (k + 4) 13 [.dat d] = .ok (.dat (.bl (isM d))) none := by
  unfold semK
  rw [d13]
  cases d with
  | tup ds =>
    by_cases hl : ds.length = 5
    · obtain ⟨a, b, c, e, f, rfl⟩ := len5 hl
      obtain ⟨_, hg⟩ := gd_tup h
      have ea := law_is_rounding_ok k (n := n + 1) (hg a (by simp))
      have eb := law_is_rounding_ok k (n := n + 1) (hg b (by simp))
      have gc := hg c (by simp)
      have ed := law_is_from_ok (k + 1) (hg e (by simp)) 1 96
      have ef := law_is_from_ok (k + 1) (hg f (by simp)) 1 480
      rcases bcase (isR a) with hA | hA
      · rw [hA] at ea
        rcases bcase (isR b) with hB | hB
        · rw [hB] at eb
          cases c with
          | tup ps =>
            obtain ⟨_, hgp⟩ := gd_tup gc
            by_cases hl2 : 2 < ps.length
            · have hl' : (2 : Int) < ps.length := by omega
              have hC := isB_len hl2
              simp [f__law_is, exSs, exS, ev, evT, evIt, opd, opds, vals, op2, cont, conts, Res.bind, Res.sb, SRes.sq, lift, cmpP, binP, idxP, atI, ixN, is_non, inst_tup, callP, D.seq?, eqD, finF, endF, isLent, SV.d, SV.lent, callR, sharedSl, freezeSl, D.flat, tru, setS_eq, asg_nm, free_none, free_dat, forGo, shaped_int, PyData.eqv, D.py, Z24, d11, d12, f__law_is_from, f__law_is_rounding, ea, eb, hA, hB, hC, hl', isM]
            · match ps, hl2, hgp with
              | [], _, _ =>
                rcases bcase (isN e) with hE | hE <;> rcases bcase (okF e 1 96) with oE | oE <;> rw [oE] at ed <;> rcases bcase (isN f) with hF | hF <;> rcases bcase (okF f 1 480) with oF | oF <;> rw [oF] at ef <;>
                    simp [f__law_is, exSs, exS, ev, evT, evIt, opd, opds, vals, op2, cont, conts, Res.bind, Res.sb, SRes.sq, lift, cmpP, binP, idxP, atI, ixN, is_non, inst_tup, callP, D.seq?, eqD, finF, endF, isLent, SV.d, SV.lent, callR, sharedSl, freezeSl, D.flat, tru, setS_eq, asg_nm, free_none, free_dat, forGo, shaped_int, PyData.eqv, D.py, Z24, d11, d12, f__law_is_from, f__law_is_rounding, ea, eb, ed, ef, hA, hB, isB, hE, hF, oE, oF, isM]
              | [p], _, hgp =>
                rcases cls (hgp p (by simp)) with ⟨i, j, rfl, hp, e1, e2⟩ | ⟨hp, hq | ⟨es, rfl, hq⟩ | ⟨x, y, rfl, hx, hy, hq⟩⟩
                · have c1 := law_is_from_ok (k + 1) (L := 1) (n := 1) (d := .int i) rfl 1 96
                  have c2 := law_is_from_ok (k + 1) (L := 1) (n := 1) (d := .int j) rfl 1 8
                  rw [e1] at c1
                  rw [e2] at c2
                  rcases bcase (isN e) with hE | hE <;> rcases bcase (okF e 1 96) with oE | oE <;> rw [oE] at ed <;> rcases bcase (isN f) with hF | hF <;> rcases bcase (okF f 1 480) with oF | oF <;> rw [oF] at ef <;>
                    simp [f__law_is, exSs, exS, ev, evT, evIt, opd, opds, vals, op2, cont, conts, Res.bind, Res.sb, SRes.sq, lift, cmpP, binP, idxP, atI, ixN, is_non, inst_tup, callP, D.seq?, eqD, finF, endF, isLent, SV.d, SV.lent, callR, sharedSl, freezeSl, D.flat, tru, setS_eq, asg_nm, free_none, free_dat, forGo, shaped_int, PyData.eqv, D.py, Z24, d11, d12, f__law_is_from, f__law_is_rounding, ea, eb, ed, ef, hA, hB, isB, hp, c1, c2, hE, hF, oE, oF, isM]
                · simp [f__law_is, exSs, exS, ev, evT, evIt, opd, opds, vals, op2, cont, conts, Res.bind, Res.sb, SRes.sq, lift, cmpP, binP, idxP, atI, ixN, is_non, inst_tup, callP, D.seq?, eqD, finF, endF, isLent, SV.d, SV.lent, callR, sharedSl, freezeSl, D.flat, tru, setS_eq, asg_nm, free_none, free_dat, forGo, shaped_int, PyData.eqv, D.py, Z24, d11, d12, f__law_is_from, f__law_is_rounding, ea, eb, hA, hB, isB, hp, hq, isM]
                · simp [f__law_is, exSs, exS, ev, evT, evIt, opd, opds, vals, op2, cont, conts, Res.bind, Res.sb, SRes.sq, lift, cmpP, binP, idxP, atI, ixN, is_non, inst_tup, callP, D.seq?, eqD, finF, endF, isLent, SV.d, SV.lent, callR, sharedSl, freezeSl, D.flat, tru, setS_eq, asg_nm, free_none, free_dat, forGo, shaped_int, PyData.eqv, D.py, Z24, d11, d12, f__law_is_from, f__law_is_rounding, ea, eb, hA, hB, isB, hp, hq, isM]
                · have c1 := law_is_from_ok (k + 1) hx 1 96
                  have c2 := law_is_from_ok (k + 1) hy 1 8
                  rcases hq with e1 | ⟨e1, e2⟩
                  · rw [e1] at c1
                    simp [f__law_is, exSs, exS, ev, evT, evIt, opd, opds, vals, op2, cont, conts, Res.bind, Res.sb, SRes.sq, lift, cmpP, binP, idxP, atI, ixN, is_non, inst_tup, callP, D.seq?, eqD, finF, endF, isLent, SV.d, SV.lent, callR, sharedSl, freezeSl, D.flat, tru, setS_eq, asg_nm, free_none, free_dat, forGo, shaped_int, PyData.eqv, D.py, Z24, d11, d12, f__law_is_from, f__law_is_rounding, ea, eb, hA, hB, isB, hp, isM, c1]
                  · rw [e1] at c1
                    rw [e2] at c2
                    simp [f__law_is, exSs, exS, ev, evT, evIt, opd, opds, vals, op2, cont, conts, Res.bind, Res.sb, SRes.sq, lift, cmpP, binP, idxP, atI, ixN, is_non, inst_tup, callP, D.seq?, eqD, finF, endF, isLent, SV.d, SV.lent, callR, sharedSl, freezeSl, D.flat, tru, setS_eq, asg_nm, free_none, free_dat, forGo, shaped_int, PyData.eqv, D.py, Z24, d11, d12, f__law_is_from, f__law_is_rounding, ea, eb, hA, hB, isB, hp, isM, c1, c2]
              | [p, q], _, hgp =>
                rcases cls (hgp p (by simp)) with ⟨i, j, rfl, hp, e1, e2⟩ | ⟨hp, hq | ⟨es, rfl, hq⟩ | ⟨x, y, rfl, hx, hy, hq⟩⟩
                · have c1 := law_is_from_ok (k + 1) (L := 1) (n := 1) (d := .int i) rfl 1 96
                  have c2 := law_is_from_ok (k + 1) (L := 1) (n := 1) (d := .int j) rfl 1 8
                  rw [e1] at c1
                  rw [e2] at c2
                  have i1 := okF_1 e1
                  rcases cls (hgp q (by simp)) with ⟨i', j', rfl, hp', e1', e2'⟩ | ⟨hp', hq' | ⟨es', rfl, hq'⟩ | ⟨x', y', rfl, hx', hy', hq'⟩⟩
                  · have c1' := law_is_from_ok (k + 1) (L := 1) (n := 1) (d := .int i') rfl (i + 1) 96
                    have c2' := law_is_from_ok (k + 1) (L := 1) (n := 1) (d := .int j') rfl 1 8
                    rw [okF_lt e1' i1] at c1'
                    rw [e2'] at c2'
                    by_cases hlt : i < i'
                    · rcases bcase (isN e) with hE | hE <;> rcases bcase (okF e 1 96) with oE | oE <;> rw [oE] at ed <;> rcases bcase (isN f) with hF | hF <;> rcases bcase (okF f 1 480) with oF | oF <;> rw [oF] at ef <;>
                    simp [f__law_is, exSs, exS, ev, evT, evIt, opd, opds, vals, op2, cont, conts, Res.bind, Res.sb, SRes.sq, lift, cmpP, binP, idxP, atI, ixN, is_non, inst_tup, callP, D.seq?, eqD, finF, endF, isLent, SV.d, SV.lent, callR, sharedSl, freezeSl, D.flat, tru, setS_eq, asg_nm, free_none, free_dat, forGo, shaped_int, PyData.eqv, D.py, Z24, d11, d12, f__law_is_from, f__law_is_rounding, ea, eb, ed, ef, hA, hB, isB, hp, hp', fstI, hlt, c1, c2, c1', c2', hE, hF, oE, oF, isM]
                    · simp [f__law_is, exSs, exS, ev, evT, evIt, opd, opds, vals, op2, cont, conts, Res.bind, Res.sb, SRes.sq, lift, cmpP, binP, idxP, atI, ixN, is_non, inst_tup, callP, D.seq?, eqD, finF, endF, isLent, SV.d, SV.lent, callR, sharedSl, freezeSl, D.flat, tru, setS_eq, asg_nm, free_none, free_dat, forGo, shaped_int, PyData.eqv, D.py, Z24, d11, d12, f__law_is_from, f__law_is_rounding, ea, eb, hA, hB, isB, hp, hp', fstI, hlt, c1, c2, c1', c2', isM]
                  · simp [f__law_is, exSs, exS, ev, evT, evIt, opd, opds, vals, op2, cont, conts, Res.bind, Res.sb, SRes.sq, lift, cmpP, binP, idxP, atI, ixN, is_non, inst_tup, callP, D.seq?, eqD, finF, endF, isLent, SV.d, SV.lent, callR, sharedSl, freezeSl, D.flat, tru, setS_eq, asg_nm, free_none, free_dat, forGo, shaped_int, PyData.eqv, D.py, Z24, d11, d12, f__law_is_from, f__law_is_rounding, ea, eb, hA, hB, isB, hp, hp', hq', c1, c2, isM]
                  · simp [f__law_is, exSs, exS, ev, evT, evIt, opd, opds, vals, op2, cont, conts, Res.bind, Res.sb, SRes.sq, lift, cmpP, binP, idxP, atI, ixN, is_non, inst_tup, callP, D.seq?, eqD, finF, endF, isLent, SV.d, SV.lent, callR, sharedSl, freezeSl, D.flat, tru, setS_eq, asg_nm, free_none, free_dat, forGo, shaped_int, PyData.eqv, D.py, Z24, d11, d12, f__law_is_from, f__law_is_rounding, ea, eb, hA, hB, isB, hp, hp', hq', c1, c2, isM]
                  · have c1' := law_is_from_ok (k + 1) hx' (i + 1) 96
                    have c2' := law_is_from_ok (k + 1) hy' 1 8
                    rcases hq' with e1' | ⟨e1', e2'⟩
                    · rw [okF_up i1 e1'] at c1'
                      simp [f__law_is, exSs, exS, ev, evT, evIt, opd, opds, vals, op2, cont, conts, Res.bind, Res.sb, SRes.sq, lift, cmpP, binP, idxP, atI, ixN, is_non, inst_tup, callP, D.seq?, eqD, finF, endF, isLent, SV.d, SV.lent, callR, sharedSl, freezeSl, D.flat, tru, setS_eq, asg_nm, free_none, free_dat, forGo, shaped_int, PyData.eqv, D.py, Z24, d11, d12, f__law_is_from, f__law_is_rounding, ea, eb, hA, hB, isB, hp, hp', c1, c2, c1', isM]
                    · rw [e2'] at c2'
                      rcases bcase (okF x' (i + 1) 96) with e3 | e3 <;> rw [e3] at c1'
                      · simp [f__law_is, exSs, exS, ev, evT, evIt, opd, opds, vals, op2, cont, conts, Res.bind, Res.sb, SRes.sq, lift, cmpP, binP, idxP, atI, ixN, is_non, inst_tup, callP, D.seq?, eqD, finF, endF, isLent, SV.d, SV.lent, callR, sharedSl, freezeSl, D.flat, tru, setS_eq, asg_nm, free_none, free_dat, forGo, shaped_int, PyData.eqv, D.py, Z24, d11, d12, f__law_is_from, f__law_is_rounding, ea, eb, hA, hB, isB, hp, hp', c1, c2, c1', c2', isM]
                      · simp [f__law_is, exSs, exS, ev, evT, evIt, opd, opds, vals, op2, cont, conts, Res.bind, Res.sb, SRes.sq, lift, cmpP, binP, idxP, atI, ixN, is_non, inst_tup, callP, D.seq?, eqD, finF, endF, isLent, SV.d, SV.lent, callR, sharedSl, freezeSl, D.flat, tru, setS_eq, asg_nm, free_none, free_dat, forGo, shaped_int, PyData.eqv, D.py, Z24, d11, d12, f__law_is_from, f__law_is_rounding, ea, eb, hA, hB, isB, hp, hp', c1, c2, c1', c2', isM]
                · simp [f__law_is, exSs, exS, ev, evT, evIt, opd, opds, vals, op2, cont, conts, Res.bind, Res.sb, SRes.sq, lift, cmpP, binP, idxP, atI, ixN, is_non, inst_tup, callP, D.seq?, eqD, finF, endF, isLent, SV.d, SV.lent, callR, sharedSl, freezeSl, D.flat, tru, setS_eq, asg_nm, free_none, free_dat, forGo, shaped_int, PyData.eqv, D.py, Z24, d11, d12, f__law_is_from, f__law_is_rounding, ea, eb, hA, hB, isB, hp, hq, isM]
                · simp [f__law_is, exSs, exS, ev, evT, evIt, opd, opds, vals, op2, cont, conts, Res.bind, Res.sb, SRes.sq, lift, cmpP, binP, idxP, atI, ixN, is_non, inst_tup, callP, D.seq?, eqD, finF, endF, isLent, SV.d, SV.lent, callR, sharedSl, freezeSl, D.flat, tru, setS_eq, asg_nm, free_none, free_dat, forGo, shaped_int, PyData.eqv, D.py, Z24, d11, d12, f__law_is_from, f__law_is_rounding, ea, eb, hA, hB, isB, hp, hq, isM]
                · have c1 := law_is_from_ok (k + 1) hx 1 96
                  have c2 := law_is_from_ok (k + 1) hy 1 8
                  rcases hq with e1 | ⟨e1, e2⟩
                  · rw [e1] at c1
                    simp [f__law_is, exSs, exS, ev, evT, evIt, opd, opds, vals, op2, cont, conts, Res.bind, Res.sb, SRes.sq, lift, cmpP, binP, idxP, atI, ixN, is_non, inst_tup, callP, D.seq?, eqD, finF, endF, isLent, SV.d, SV.lent, callR, sharedSl, freezeSl, D.flat, tru, setS_eq, asg_nm, free_none, free_dat, forGo, shaped_int, PyData.eqv, D.py, Z24, d11, d12, f__law_is_from, f__law_is_rounding, ea, eb, hA, hB, isB, hp, isM, c1]
                  · rw [e1] at c1
                    rw [e2] at c2
                    simp [f__law_is, exSs, exS, ev, evT, evIt, opd, opds, vals, op2, cont, conts, Res.bind, Res.sb, SRes.sq, lift, cmpP, binP, idxP, atI, ixN, is_non, inst_tup, callP, D.seq?, eqD, finF, endF, isLent, SV.d, SV.lent, callR, sharedSl, freezeSl, D.flat, tru, setS_eq, asg_nm, free_none, free_dat, forGo, shaped_int, PyData.eqv, D.py, Z24, d11, d12, f__law_is_from, f__law_is_rounding, ea, eb, hA, hB, isB, hp, isM, c1, c2]
              | _ :: _ :: _ :: _, hl, _ => simp at hl
          | non | bl _ | int _ | str _ | lst _ => simp [f__law_is, exSs, exS, ev, evT, evIt, opd, opds, vals, op2, cont, conts, Res.bind, Res.sb, SRes.sq, lift, cmpP, binP, idxP, atI, ixN, is_non, inst_tup, instP, callP, D.seq?, eqD, finF, endF, isLent, SV.d, SV.lent, callR, sharedSl, freezeSl, D.flat, tru, setS_eq, asg_nm, free_none, free_dat, forGo, shaped_int, PyData.eqv, D.py, Z24, d11, d12, f__law_is_from, f__law_is_rounding, ea, eb, hA, hB, isB, isM]
          | _ => cases gc
        · rw [hB] at eb
          simp [f__law_is, exSs, exS, ev, evT, evIt, opd, opds, vals, op2, cont, conts, Res.bind, Res.sb, SRes.sq, lift, cmpP, binP, idxP, atI, ixN, is_non, inst_tup, callP, D.seq?, eqD, finF, endF, isLent, SV.d, SV.lent, callR, sharedSl, freezeSl, D.flat, tru, setS_eq, asg_nm, free_none, free_dat, forGo, shaped_int, PyData.eqv, D.py, Z24, d11, d12, f__law_is_from, f__law_is_rounding, ea, eb, hA, hB, isM]
      · rw [hA] at ea
        simp [f__law_is, exSs, exS, ev, evT, evIt, opd, opds, vals, op2, cont, conts, Res.bind, Res.sb, SRes.sq, lift, cmpP, binP, idxP, atI, ixN, is_non, inst_tup, callP, D.seq?, eqD, finF, endF, isLent, SV.d, SV.lent, callR, sharedSl, freezeSl, D.flat, tru, setS_eq, asg_nm, free_none, free_dat, forGo, shaped_int, PyData.eqv, D.py, Z24, d11, d12, f__law_is_from, f__law_is_rounding, ea, hA, isM]
    · have hl' : ¬ (ds.length : Int) = 5 := by omega
      simp [f__law_is, exSs, exS, ev, evT, evIt, opd, opds, vals, op2, cont, conts, Res.bind, Res.sb, SRes.sq, lift, cmpP, binP, idxP, atI, ixN, is_non, inst_tup, callP, D.seq?, eqD, finF, endF, isLent, SV.d, SV.lent, callR, sharedSl, freezeSl, D.flat, tru, setS_eq, asg_nm, free_none, free_dat, forGo, shaped_int, PyData.eqv, D.py, Z24, d11, d12, f__law_is_from, f__law_is_rounding, isM_len hl, hl']
  | non | bl _ | int _ | str _ | lst _ => simp [f__law_is, exSs, exS, ev, evT, evIt, opd, opds, vals, op2, cont, conts, Res.bind, Res.sb, SRes.sq, lift, cmpP, binP, idxP, atI, ixN, is_non, inst_tup, instP, callP, D.seq?, eqD, finF, endF, isLent, SV.d, SV.lent, callR, sharedSl, freezeSl, D.flat, tru, setS_eq, asg_nm, free_none, free_dat, forGo, shaped_int, PyData.eqv, D.py, Z24, d11, d12, f__law_is_from, f__law_is_rounding, isM]
  | _ => cases h
end DL.Law

namespace DL.Law
open PySem PySem.Spec PyProof.Rows L2 DL

theorem d5' : Law.L.defs 5 = some F_deck := rfl
theorem d6' : Law.L.defs 6 = some F_pick := rfl
theorem d7' : Law.L.defs 7 = some (F_one 6) := rfl
theorem d9' : Law.L.defs 9 = some (F_rounding 6) := rfl
theorem d10 : Law.L.defs 10 = some f__law_manner := rfl
theorem r0 : rangeD 0 0 = [] := rfl
theorem r1 : rangeD 0 1 = [.int 0] := rfl
theorem r2 : rangeD 0 2 = [.int 0, .int 1] := rfl
theorem s0 : small62 0 = true := by decide
theorem s1 : small62 1 = true := by decide
theorem s2 : small62 2 = true := by decide
theorem in2 {p : Int} (h : 0 ≤ p ∧ p < 2) : p = 0 ∨ p = 1 := by omega
theorem strOk_side {x : Str} (h : x ∈ [("down" : Str), "near", "up"]) : PyData.strOk x = true := by
  simp at h
  rcases h with rfl | rfl | rfl <;> decide +kernel
theorem round_gd {d : D} (h : RoundOk d) : gd 50 2 d = true ∧ isR d = true := by
  obtain ⟨s, x, g, rfl, hs, hx, hg⟩ := h
  refine ⟨?_, ?_⟩
  · have := strOk_side hx
    simp [gd, this]
  · have h1 : s ∈ steps := hs
    have h2 : x ∈ sides := hx
    simp [isR, h1, h2, okF]
    omega
def MannerOk (d : D) : Prop := gd 5 4 d = true ∧ isM d = true
theorem manner_of_parts {a b c e f : D} (ha : RoundOk a) (hb : RoundOk b) (hc : isB c = true) (gc : gd 5 3 c = true) (he : e = .non ∨ okF e 1 96 = true) (hf : f = .non ∨ okF f 1 480 = true) : MannerOk (.tup [a, b, c, e, f]) := by
  obtain ⟨a1, a2⟩ := round_gd ha
  obtain ⟨b1, b2⟩ := round_gd hb
  have a1' : gd 5 3 a = true := by
    obtain ⟨s, x, g, rfl, hs, hx, hg⟩ := ha
    simp [gd, strOk_side hx]
  have b1' : gd 5 3 b = true := by
    obtain ⟨s, x, g, rfl, hs, hx, hg⟩ := hb
    simp [gd, strOk_side hx]
  have e1 : gd 5 3 e = true ∧ (isN e || okF e 1 96) = true := by
    rcases he with rfl | h
    · exact ⟨rfl, rfl⟩
    · obtain ⟨i, rfl, _⟩ := okF_int h
      exact ⟨rfl, by rw [h]; rfl⟩
  have f1 : gd 5 3 f = true ∧ (isN f || okF f 1 480) = true := by
    rcases hf with rfl | h
    · exact ⟨rfl, rfl⟩
    · obtain ⟨i, rfl, _⟩ := okF_int h
      exact ⟨rfl, by rw [h]; rfl⟩
  refine ⟨tup_gd (by simp) fun d hd => ?_, ?_⟩
  · simp only [List.mem_cons, List.not_mem_nil, or_false] at hd
    rcases hd with rfl | rfl | rfl | rfl | rfl
    · exact a1'
    · exact b1'
    · exact gc
    · exact e1.1
    · exact f1.1
  · simp only [isM, a2, b2, hc, e1.2, f1.2, Bool.and_true]
theorem manner_ok (k m : Nat) {dk : D} (h : DeckOk (m + 15) dk) : ∃ d dk', semK Law.L.defs Law.L.gv 100 (k + 3) 10 [.bor dk] = .ok (.dat d) (some dk') ∧ MannerOk d ∧ DeckOk m dk' := by
  have hp := d6'
  obtain ⟨p, dk1, e1, hp1, ok⟩ := pick_ok (gv := Law.L.gv) hp (k + 1) (m + 14) h (n := 3) (by decide)
  rcases in3 hp1 with rfl | rfl | rfl
  · skip
    have hb : isB (.tup []) = true := by
      simp [isB, isP, okF, fstI]
    have gb : gd 5 3 (.tup []) = true := by simp [gd]
    obtain ⟨q, dk2, e2, hq, ok⟩ := pick_ok (gv := Law.L.gv) hp (k + 1) (m + 13) ok (n := 2) (by decide)
    rcases in2 hq with rfl | rfl
    · skip
      obtain ⟨q2, dk3, e3, hq2, ok⟩ := pick_ok (gv := Law.L.gv) hp (k + 1) (m + 12) ok (n := 2) (by decide)
      rcases in2 hq2 with rfl | rfl
      · skip
        obtain ⟨ra, dka, ea, hra, ok⟩ := rounding_ok (gv := Law.L.gv) hp d9' k (m + 9) ok
        obtain ⟨rb, dkb, eb, hrb, ok⟩ := rounding_ok (gv := Law.L.gv) hp d9' k (m + 6) ok
        refine ⟨.tup [ra, rb, .tup [], .non, .non], dkb, ?_, manner_of_parts hra hrb hb gb (.inl rfl) (.inl rfl), ok.le (by omega)⟩
        unfold semK
        rw [d10]
        simp [f__law_manner, exSs, exS, ev, evT, evIt, opd, opds, vals, op2, cont, conts, Res.bind, Res.sb, SRes.sq, lift, cmpP, binP, finF, endF, backOf, isLent, SV.d, SV.lent, callR, lentOf, sharedSl, freezeSl, putBack, D.flat, tru, unpS, asg_tup, asgs_cons, asgs_nil, setS_eq, asg_nm, free_none, free_dat, forGo, eqD, shaped_int, PyData.eqv, D.py, Z24, d6', F_pick, d9', F_rounding, r0, r1, r2, s0, s1, s2, e1, e2, e3, ea, eb]
      · skip
        obtain ⟨y, dk4, e4, hy, ok⟩ := pick_ok (gv := Law.L.gv) hp (k + 1) (m + 11) ok (n := 300) (by decide)
        obtain ⟨ra, dka, ea, hra, ok⟩ := rounding_ok (gv := Law.L.gv) hp d9' k (m + 8) ok
        obtain ⟨rb, dkb, eb, hrb, ok⟩ := rounding_ok (gv := Law.L.gv) hp d9' k (m + 5) ok
        refine ⟨.tup [ra, rb, .tup [], .non, .int (1 + y)], dkb, ?_, manner_of_parts hra hrb hb gb (.inl rfl) (.inr (by simp [okF]; omega)), ok.le (by omega)⟩
        unfold semK
        rw [d10]
        simp [f__law_manner, exSs, exS, ev, evT, evIt, opd, opds, vals, op2, cont, conts, Res.bind, Res.sb, SRes.sq, lift, cmpP, binP, finF, endF, backOf, isLent, SV.d, SV.lent, callR, lentOf, sharedSl, freezeSl, putBack, D.flat, tru, unpS, asg_tup, asgs_cons, asgs_nil, setS_eq, asg_nm, free_none, free_dat, forGo, eqD, shaped_int, PyData.eqv, D.py, Z24, d6', F_pick, d9', F_rounding, r0, r1, r2, s0, s1, s2, e1, e2, e3, e4, ea, eb]
    · skip
      obtain ⟨x, dk3, e3, hx, ok⟩ := pick_ok (gv := Law.L.gv) hp (k + 1) (m + 12) ok (n := 60) (by decide)
      obtain ⟨q2, dk4, e4, hq2, ok⟩ := pick_ok (gv := Law.L.gv) hp (k + 1) (m + 11) ok (n := 2) (by decide)
      rcases in2 hq2 with rfl | rfl
      · skip
        obtain ⟨ra, dka, ea, hra, ok⟩ := rounding_ok (gv := Law.L.gv) hp d9' k (m + 8) ok
        obtain ⟨rb, dkb, eb, hrb, ok⟩ := rounding_ok (gv := Law.L.gv) hp d9' k (m + 5) ok
        refine ⟨.tup [ra, rb, .tup [], .int (1 + x), .non], dkb, ?_, manner_of_parts hra hrb hb gb (.inr (by simp [okF]; omega)) (.inl rfl), ok.le (by omega)⟩
        unfold semK
        rw [d10]
        simp [f__law_manner, exSs, exS, ev, evT, evIt, opd, opds, vals, op2, cont, conts, Res.bind, Res.sb, SRes.sq, lift, cmpP, binP, finF, endF, backOf, isLent, SV.d, SV.lent, callR, lentOf, sharedSl, freezeSl, putBack, D.flat, tru, unpS, asg_tup, asgs_cons, asgs_nil, setS_eq, asg_nm, free_none, free_dat, forGo, eqD, shaped_int, PyData.eqv, D.py, Z24, d6', F_pick, d9', F_rounding, r0, r1, r2, s0, s1, s2, e1, e2, e3, e4, ea, eb]
      · skip
        obtain ⟨y, dk5, e5, hy, ok⟩ := pick_ok (gv := Law.L.gv) hp (k + 1) (m + 10) ok (n := 300) (by decide)
        obtain ⟨ra, dka, ea, hra, ok⟩ := rounding_ok (gv := Law.L.gv) hp d9' k (m + 7) ok
        obtain ⟨rb, dkb, eb, hrb, ok⟩ := rounding_ok (gv := Law.L.gv) hp d9' k (m + 4) ok
        refine ⟨.tup [ra, rb, .tup [], .int (1 + x), .int (1 + y)], dkb, ?_, manner_of_parts hra hrb hb gb (.inr (by simp [okF]; omega)) (.inr (by simp [okF]; omega)), ok.le (by omega)⟩
        unfold semK
        rw [d10]
        simp [f__law_manner, exSs, exS, ev, evT, evIt, opd, opds, vals, op2, cont, conts, Res.bind, Res.sb, SRes.sq, lift, cmpP, binP, finF, endF, backOf, isLent, SV.d, SV.lent, callR, lentOf, sharedSl, freezeSl, putBack, D.flat, tru, unpS, asg_tup, asgs_cons, asgs_nil, setS_eq, asg_nm, free_none, free_dat, forGo, eqD, shaped_int, PyData.eqv, D.py, Z24, d6', F_pick, d9', F_rounding, r0, r1, r2, s0, s1, s2, e1, e2, e3, e4, e5, ea, eb]
  · skip
    obtain ⟨u0, dk2, e2, hu0, ok⟩ := pick_ok (gv := Law.L.gv) hp (k + 1) (m + 13) ok (n := 40) (by decide)
    obtain ⟨v0, dk3, e3, hv0, ok⟩ := pick_ok (gv := Law.L.gv) hp (k + 1) (m + 12) ok (n := 8) (by decide)
    have hb : isB (.tup [.tup [.int (0 + 1 + u0), .int (1 + v0)]]) = true := by
      simp [isB, isP, okF, fstI] <;> omega
    have gb : gd 5 3 (.tup [.tup [.int (0 + 1 + u0), .int (1 + v0)]]) = true := by simp [gd]
    obtain ⟨q, dk4, e4, hq, ok⟩ := pick_ok (gv := Law.L.gv) hp (k + 1) (m + 11) ok (n := 2) (by decide)
    rcases in2 hq with rfl | rfl
    · skip
      obtain ⟨q2, dk5, e5, hq2, ok⟩ := pick_ok (gv := Law.L.gv) hp (k + 1) (m + 10) ok (n := 2) (by decide)
      rcases in2 hq2 with rfl | rfl
      · skip
        obtain ⟨ra, dka, ea, hra, ok⟩ := rounding_ok (gv := Law.L.gv) hp d9' k (m + 7) ok
        obtain ⟨rb, dkb, eb, hrb, ok⟩ := rounding_ok (gv := Law.L.gv) hp d9' k (m + 4) ok
        refine ⟨.tup [ra, rb, .tup [.tup [.int (0 + 1 + u0), .int (1 + v0)]], .non, .non], dkb, ?_, manner_of_parts hra hrb hb gb (.inl rfl) (.inl rfl), ok.le (by omega)⟩
        unfold semK
        rw [d10]
        simp [f__law_manner, exSs, exS, ev, evT, evIt, opd, opds, vals, op2, cont, conts, Res.bind, Res.sb, SRes.sq, lift, cmpP, binP, finF, endF, backOf, isLent, SV.d, SV.lent, callR, lentOf, sharedSl, freezeSl, putBack, D.flat, tru, unpS, asg_tup, asgs_cons, asgs_nil, setS_eq, asg_nm, free_none, free_dat, forGo, eqD, shaped_int, PyData.eqv, D.py, Z24, d6', F_pick, d9', F_rounding, r0, r1, r2, s0, s1, s2, e1, e2, e3, e4, e5, ea, eb]
      · skip
        obtain ⟨y, dk6, e6, hy, ok⟩ := pick_ok (gv := Law.L.gv) hp (k + 1) (m + 9) ok (n := 300) (by decide)
        obtain ⟨ra, dka, ea, hra, ok⟩ := rounding_ok (gv := Law.L.gv) hp d9' k (m + 6) ok
        obtain ⟨rb, dkb, eb, hrb, ok⟩ := rounding_ok (gv := Law.L.gv) hp d9' k (m + 3) ok
        refine ⟨.tup [ra, rb, .tup [.tup [.int (0 + 1 + u0), .int (1 + v0)]], .non, .int (1 + y)], dkb, ?_, manner_of_parts hra hrb hb gb (.inl rfl) (.inr (by simp [okF]; omega)), ok.le (by omega)⟩
        unfold semK
        rw [d10]
        simp [f__law_manner, exSs, exS, ev, evT, evIt, opd, opds, vals, op2, cont, conts, Res.bind, Res.sb, SRes.sq, lift, cmpP, binP, finF, endF, backOf, isLent, SV.d, SV.lent, callR, lentOf, sharedSl, freezeSl, putBack, D.flat, tru, unpS, asg_tup, asgs_cons, asgs_nil, setS_eq, asg_nm, free_none, free_dat, forGo, eqD, shaped_int, PyData.eqv, D.py, Z24, d6', F_pick, d9', F_rounding, r0, r1, r2, s0, s1, s2, e1, e2, e3, e4, e5, e6, ea, eb]
    · skip
      obtain ⟨x, dk5, e5, hx, ok⟩ := pick_ok (gv := Law.L.gv) hp (k + 1) (m + 10) ok (n := 60) (by decide)
      obtain ⟨q2, dk6, e6, hq2, ok⟩ := pick_ok (gv := Law.L.gv) hp (k + 1) (m + 9) ok (n := 2) (by decide)
      rcases in2 hq2 with rfl | rfl
      · skip
        obtain ⟨ra, dka, ea, hra, ok⟩ := rounding_ok (gv := Law.L.gv) hp d9' k (m + 6) ok
        obtain ⟨rb, dkb, eb, hrb, ok⟩ := rounding_ok (gv := Law.L.gv) hp d9' k (m + 3) ok
        refine ⟨.tup [ra, rb, .tup [.tup [.int (0 + 1 + u0), .int (1 + v0)]], .int (1 + x), .non], dkb, ?_, manner_of_parts hra hrb hb gb (.inr (by simp [okF]; omega)) (.inl rfl), ok.le (by omega)⟩
        unfold semK
        rw [d10]
        simp [f__law_manner, exSs, exS, ev, evT, evIt, opd, opds, vals, op2, cont, conts, Res.bind, Res.sb, SRes.sq, lift, cmpP, binP, finF, endF, backOf, isLent, SV.d, SV.lent, callR, lentOf, sharedSl, freezeSl, putBack, D.flat, tru, unpS, asg_tup, asgs_cons, asgs_nil, setS_eq, asg_nm, free_none, free_dat, forGo, eqD, shaped_int, PyData.eqv, D.py, Z24, d6', F_pick, d9', F_rounding, r0, r1, r2, s0, s1, s2, e1, e2, e3, e4, e5, e6, ea, eb]
      · skip
        obtain ⟨y, dk7, e7, hy, ok⟩ := pick_ok (gv := Law.L.gv) hp (k + 1) (m + 8) ok (n := 300) (by decide)
        obtain ⟨ra, dka, ea, hra, ok⟩ := rounding_ok (gv := Law.L.gv) hp d9' k (m + 5) ok
        obtain ⟨rb, dkb, eb, hrb, ok⟩ := rounding_ok (gv := Law.L.gv) hp d9' k (m + 2) ok
        refine ⟨.tup [ra, rb, .tup [.tup [.int (0 + 1 + u0), .int (1 + v0)]], .int (1 + x), .int (1 + y)], dkb, ?_, manner_of_parts hra hrb hb gb (.inr (by simp [okF]; omega)) (.inr (by simp [okF]; omega)), ok.le (by omega)⟩
        unfold semK
        rw [d10]
        simp [f__law_manner, exSs, exS, ev, evT, evIt, opd, opds, vals, op2, cont, conts, Res.bind, Res.sb, SRes.sq, lift, cmpP, binP, finF, endF, backOf, isLent, SV.d, SV.lent, callR, lentOf, sharedSl, freezeSl, putBack, D.flat, tru, unpS, asg_tup, asgs_cons, asgs_nil, setS_eq, asg_nm, free_none, free_dat, forGo, eqD, shaped_int, PyData.eqv, D.py, Z24, d6', F_pick, d9', F_rounding, r0, r1, r2, s0, s1, s2, e1, e2, e3, e4, e5, e6, e7, ea, eb]
  · skip
    obtain ⟨u0, dk2, e2, hu0, ok⟩ := pick_ok (gv := Law.L.gv) hp (k + 1) (m + 13) ok (n := 40) (by decide)
    obtain ⟨v0, dk3, e3, hv0, ok⟩ := pick_ok (gv := Law.L.gv) hp (k + 1) (m + 12) ok (n := 8) (by decide)
    obtain ⟨u1, dk4, e4, hu1, ok⟩ := pick_ok (gv := Law.L.gv) hp (k + 1) (m + 11) ok (n := 40) (by decide)
    obtain ⟨v1, dk5, e5, hv1, ok⟩ := pick_ok (gv := Law.L.gv) hp (k + 1) (m + 10) ok (n := 8) (by decide)
    have hb : isB (.tup [.tup [.int (0 + 1 + u0), .int (1 + v0)], .tup [.int (0 + 1 + u0 + 1 + u1), .int (1 + v1)]]) = true := by
      simp [isB, isP, okF, fstI] <;> omega
    have gb : gd 5 3 (.tup [.tup [.int (0 + 1 + u0), .int (1 + v0)], .tup [.int (0 + 1 + u0 + 1 + u1), .int (1 + v1)]]) = true := by simp [gd]
    obtain ⟨q, dk6, e6, hq, ok⟩ := pick_ok (gv := Law.L.gv) hp (k + 1) (m + 9) ok (n := 2) (by decide)
    rcases in2 hq with rfl | rfl
    · skip
      obtain ⟨q2, dk7, e7, hq2, ok⟩ := pick_ok (gv := Law.L.gv) hp (k + 1) (m + 8) ok (n := 2) (by decide)
      rcases in2 hq2 with rfl | rfl
      · skip
        obtain ⟨ra, dka, ea, hra, ok⟩ := rounding_ok (gv := Law.L.gv) hp d9' k (m + 5) ok
        obtain ⟨rb, dkb, eb, hrb, ok⟩ := rounding_ok (gv := Law.L.gv) hp d9' k (m + 2) ok
        refine ⟨.tup [ra, rb, .tup [.tup [.int (0 + 1 + u0), .int (1 + v0)], .tup [.int (0 + 1 + u0 + 1 + u1), .int (1 + v1)]], .non, .non], dkb, ?_, manner_of_parts hra hrb hb gb (.inl rfl) (.inl rfl), ok.le (by omega)⟩
        unfold semK
        rw [d10]
        simp [f__law_manner, exSs, exS, ev, evT, evIt, opd, opds, vals, op2, cont, conts, Res.bind, Res.sb, SRes.sq, lift, cmpP, binP, finF, endF, backOf, isLent, SV.d, SV.lent, callR, lentOf, sharedSl, freezeSl, putBack, D.flat, tru, unpS, asg_tup, asgs_cons, asgs_nil, setS_eq, asg_nm, free_none, free_dat, forGo, eqD, shaped_int, PyData.eqv, D.py, Z24, d6', F_pick, d9', F_rounding, r0, r1, r2, s0, s1, s2, e1, e2, e3, e4, e5, e6, e7, ea, eb]
      · skip
        obtain ⟨y, dk8, e8, hy, ok⟩ := pick_ok (gv := Law.L.gv) hp (k + 1) (m + 7) ok (n := 300) (by decide)
        obtain ⟨ra, dka, ea, hra, ok⟩ := rounding_ok (gv := Law.L.gv) hp d9' k (m + 4) ok
        obtain ⟨rb, dkb, eb, hrb, ok⟩ := rounding_ok (gv := Law.L.gv) hp d9' k (m + 1) ok
        refine ⟨.tup [ra, rb, .tup [.tup [.int (0 + 1 + u0), .int (1 + v0)], .tup [.int (0 + 1 + u0 + 1 + u1), .int (1 + v1)]], .non, .int (1 + y)], dkb, ?_, manner_of_parts hra hrb hb gb (.inl rfl) (.inr (by simp [okF]; omega)), ok.le (by omega)⟩
        unfold semK
        rw [d10]
        simp [f__law_manner, exSs, exS, ev, evT, evIt, opd, opds, vals, op2, cont, conts, Res.bind, Res.sb, SRes.sq, lift, cmpP, binP, finF, endF, backOf, isLent, SV.d, SV.lent, callR, lentOf, sharedSl, freezeSl, putBack, D.flat, tru, unpS, asg_tup, asgs_cons, asgs_nil, setS_eq, asg_nm, free_none, free_dat, forGo, eqD, shaped_int, PyData.eqv, D.py, Z24, d6', F_pick, d9', F_rounding, r0, r1, r2, s0, s1, s2, e1, e2, e3, e4, e5, e6, e7, e8, ea, eb]
    · skip
      obtain ⟨x, dk7, e7, hx, ok⟩ := pick_ok (gv := Law.L.gv) hp (k + 1) (m + 8) ok (n := 60) (by decide)
      obtain ⟨q2, dk8, e8, hq2, ok⟩ := pick_ok (gv := Law.L.gv) hp (k + 1) (m + 7) ok (n := 2) (by decide)
      rcases in2 hq2 with rfl | rfl
      · skip
        obtain ⟨ra, dka, ea, hra, ok⟩ := rounding_ok (gv := Law.L.gv) hp d9' k (m + 4) ok
        obtain ⟨rb, dkb, eb, hrb, ok⟩ := rounding_ok (gv := Law.L.gv) hp d9' k (m + 1) ok
        refine ⟨.tup [ra, rb, .tup [.tup [.int (0 + 1 + u0), .int (1 + v0)], .tup [.int (0 + 1 + u0 + 1 + u1), .int (1 + v1)]], .int (1 + x), .non], dkb, ?_, manner_of_parts hra hrb hb gb (.inr (by simp [okF]; omega)) (.inl rfl), ok.le (by omega)⟩
        unfold semK
        rw [d10]
        simp [f__law_manner, exSs, exS, ev, evT, evIt, opd, opds, vals, op2, cont, conts, Res.bind, Res.sb, SRes.sq, lift, cmpP, binP, finF, endF, backOf, isLent, SV.d, SV.lent, callR, lentOf, sharedSl, freezeSl, putBack, D.flat, tru, unpS, asg_tup, asgs_cons, asgs_nil, setS_eq, asg_nm, free_none, free_dat, forGo, eqD, shaped_int, PyData.eqv, D.py, Z24, d6', F_pick, d9', F_rounding, r0, r1, r2, s0, s1, s2, e1, e2, e3, e4, e5, e6, e7, e8, ea, eb]
      · skip
        obtain ⟨y, dk9, e9, hy, ok⟩ := pick_ok (gv := Law.L.gv) hp (k + 1) (m + 6) ok (n := 300) (by decide)
        obtain ⟨ra, dka, ea, hra, ok⟩ := rounding_ok (gv := Law.L.gv) hp d9' k (m + 3) ok
        obtain ⟨rb, dkb, eb, hrb, ok⟩ := rounding_ok (gv := Law.L.gv) hp d9' k (m + 0) ok
        refine ⟨.tup [ra, rb, .tup [.tup [.int (0 + 1 + u0), .int (1 + v0)], .tup [.int (0 + 1 + u0 + 1 + u1), .int (1 + v1)]], .int (1 + x), .int (1 + y)], dkb, ?_, manner_of_parts hra hrb hb gb (.inr (by simp [okF]; omega)) (.inr (by simp [okF]; omega)), ok.le (by omega)⟩
        unfold semK
        rw [d10]
        simp [f__law_manner, exSs, exS, ev, evT, evIt, opd, opds, vals, op2, cont, conts, Res.bind, Res.sb, SRes.sq, lift, cmpP, binP, finF, endF, backOf, isLent, SV.d, SV.lent, callR, lentOf, sharedSl, freezeSl, putBack, D.flat, tru, unpS, asg_tup, asgs_cons, asgs_nil, setS_eq, asg_nm, free_none, free_dat, forGo, eqD, shaped_int, PyData.eqv, D.py, Z24, d6', F_pick, d9', F_rounding, r0, r1, r2, s0, s1, s2, e1, e2, e3, e4, e5, e6, e7, e8, e9, ea, eb]
end DL.Law

namespace DL.Law
open PySem PySem.Spec PyProof.Rows L2 DL

theorem d14 : Law.L.defs 14 = some f__law_changed := rfl
theorem eqI (i j : Int) : eqD (.int i) (.int j) = some (i == j) := rfl
mutual
theorem shape_gd {L : Nat} : ∀ {n : Nat} {d : D}, gd L n d = true → d.py.canLay0 = true ∧ d.py.depth ≤ n
  | 0, _, h => by cases h
  | n + 1, .non, _ => ⟨rfl, by simp [D.py, PyData.depth]⟩
  | n + 1, .bl _, _ => ⟨rfl, by simp [D.py, PyData.depth]⟩
  | n + 1, .int _, _ => ⟨rfl, by simp [D.py, PyData.depth]⟩
  | n + 1, .str x, h => ⟨by simpa [D.py, PyData.canLay0, gd] using h, by simp [D.py, PyData.depth]⟩
  | n + 1, .tup ds, h => by
    obtain ⟨h1, h2⟩ := shape_all (gd_tup h).2
    exact ⟨by simpa [D.py, PyData.canLay0] using h1, by simp only [D.py, PyData.depth]; omega⟩
  | n + 1, .lst ds, h => by
    have e' := Bool.and_eq_true_iff.mp (show (decide (ds.length ≤ L) && ds.all (gd L n)) = true from h)
    obtain ⟨h1, h2⟩ := shape_all (List.all_eq_true.mp e'.2)
    exact ⟨by simpa [D.py, PyData.canLay0] using h1, by simp only [D.py, PyData.depth]; omega⟩
  | n + 1, .ktup _, h => by cases h
  | n + 1, .dK _, h => by cases h
  | n + 1, .dT _, h => by cases h
  | n + 1, .fn _, h => by cases h
theorem shape_all {L n : Nat} : ∀ {ds : List D}, (∀ d ∈ ds, gd L n d = true) → PyData.canLayAll0 (pyL ds) = true ∧ PyData.depthAll (pyL ds) ≤ n
  | [], _ => ⟨rfl, by simp [pyL, PyData.depthAll]⟩
  | d :: ds, h => by
    obtain ⟨h1, h2⟩ := shape_gd (h d (by simp))
    obtain ⟨h3, h4⟩ := shape_all (ds := ds) (fun x hx => h x (List.mem_cons_of_mem _ hx))
    refine ⟨by simp [pyL, PyData.canLayAll0, h1, h3], ?_⟩
    simp only [pyL, PyData.depthAll]
    omega
end

theorem eq_nil {L n : Nat} {ds : List D} (h : gd L n (.tup ds) = true) (hn : n ≤ 60) (e : ds ≠ []) : eqD (.tup ds) (.tup []) = some false := by
  obtain ⟨h1, h2⟩ := shape_gd h
  unfold eqD
  have : SeqAt.shaped (D.tup ds).py = true := by
    unfold SeqAt.shaped
    rw [h1]
    simp
    omega
  rw [if_pos ⟨this, rfl⟩]
  cases ds with
  | nil => exact absurd rfl e
  | cons d ds => rfl
theorem nil_nil : eqD (.tup []) (.tup []) = some true := rfl
theorem cut_le {ds : List D} {a b : Option Int} : (cutD ds a b).length ≤ ds.length := by
  unfold cutD
  rw [List.length_take, List.length_drop]
  omega
theorem cut_mem {ds : List D} {a b : Option Int} {d : D} (h : d ∈ cutD ds a b) : d ∈ ds := List.mem_of_mem_drop (List.mem_of_mem_take h)
def someL : List D := [.non, .bl true, .bl false, .int 0, .int 1, .int 5, .int 12, .int 8, .int 96, .int 97, .int 480, .int 481, .str "near", .str "Up", .str "", .tup [], .lst [], .int 1000000000000000000000000000000, .tup [.int 1, .int 1], .tup [.tup [.int 1, .int 1]]]
theorem some_gd {L n : Nat} (hL : 2 ≤ L) (hn : 3 ≤ n) : ∀ d ∈ someL, gd L n d = true := by
  intro d hd
  have h0 : (someL.all (gd 2 3)) = true := by decide +kernel
  exact gd_mono hL hn (List.all_eq_true.mp h0 d hd)
theorem pm_int {d : D} (h : d ∈ [D.int 1, D.int (-1)]) : ∃ i, d = .int i := by
  simp at h
  rcases h with rfl | rfl <;> exact ⟨_, rfl⟩
def ChOk (L n : Nat) (sv : SV) : Prop := gd (3 * L) (n + 3) sv.d = true ∧ sv.lent = false
theorem changed_ok (k L : Nat) (hL : 2 ≤ L ∧ L ≤ 1000) : ∀ (n m : Nat) (d dk : D), n ≤ 50 → gd L n d = true → DeckOk (m + 3 * n) dk → ∃ sv dk', semK Law.L.defs Law.L.gv 100 (k + n + 3) 14 [.bor dk, .dat d] = .ok sv (some dk') ∧ ChOk L n sv ∧ DeckOk m dk' := by
  intro n
  induction n with
  | zero => intro m d dk _ h; cases h
  | succ n ih =>
    intro m d dk hn hg ok
    have hp := d6'
    have som := some_gd (L := 3 * L) (n := n + 1 + 3) (by omega) (by omega)
    -- the rest, when it is no tuple that is walked into
    have e30 : (10 : Int) ^ 30 = 1000000000000000000000000000000 := by decide
    cases d with
    | int i =>
      obtain ⟨q, dk1, e1, hq, ok⟩ := pick_ok (gv := Law.L.gv) hp (k + n + 2) (m + 1) (ok.le (by omega)) (n := 2) (by decide)
      rcases in2 hq with rfl | rfl
      · obtain ⟨x, dk2, e2, hx, ok⟩ := one_ok (gv := Law.L.gv) hp d7' (k + n + 1) m ok (ds := [.int 1, .int (-1)]) (by decide)
        obtain ⟨j, rfl⟩ := pm_int hx
        refine ⟨.dat (.int (i + j)), dk2, ?_, ⟨rfl, rfl⟩, ok⟩
        rw [show k + (n + 1) + 3 = k + n + 3 + 1 by omega]; unfold semK
        rw [d14]
        simp [f__law_changed, exSs, exS, ev, evT, part, opd, opds, vals, op2, cont, conts, Res.bind, Res.sb, SRes.sq, lift, cmpP, binP, slP, idxP, callP, D.seq?, inst_tup, instP, finF, endF, backOf, isLent, SV.d, SV.lent, callR, lentOf, sharedSl, freezeSl, putBack, D.flat, tru, setS_eq, free_none, free_dat, free_own, Z24, d6', F_pick, d7', F_one, d14, eqI, e1, e2]
      · obtain ⟨x, dk2, e2, hx, ok⟩ := one_ok (gv := Law.L.gv) hp d7' (k + n + 1) m ok (ds := someL) (by decide)
        refine ⟨.dat x, dk2, ?_, ⟨som x hx, rfl⟩, ok⟩
        unfold someL at e2
        rw [show k + (n + 1) + 3 = k + n + 3 + 1 by omega]; unfold semK
        rw [d14]
        simp [f__law_changed, exSs, exS, ev, evT, part, opd, opds, vals, op2, cont, conts, Res.bind, Res.sb, SRes.sq, lift, cmpP, binP, slP, idxP, callP, D.seq?, inst_tup, instP, finF, endF, backOf, isLent, SV.d, SV.lent, callR, lentOf, sharedSl, freezeSl, putBack, D.flat, tru, setS_eq, free_none, free_dat, free_own, Z24, d6', F_pick, d7', F_one, d14, eqI, e1, e2]
    | bl b =>
      obtain ⟨q, dk1, e1, hq, ok⟩ := pick_ok (gv := Law.L.gv) hp (k + n + 2) (m + 1) (ok.le (by omega)) (n := 2) (by decide)
      rcases in2 hq with rfl | rfl
      · obtain ⟨x, dk2, e2, hx, ok⟩ := one_ok (gv := Law.L.gv) hp d7' (k + n + 1) m ok (ds := [.int 1, .int (-1)]) (by decide)
        obtain ⟨j, rfl⟩ := pm_int hx
        refine ⟨.dat (.int ((if b = true then 1 else 0) + j)), dk2, ?_, ⟨rfl, rfl⟩, ok⟩
        rw [show k + (n + 1) + 3 = k + n + 3 + 1 by omega]; unfold semK
        rw [d14]
        simp [f__law_changed, exSs, exS, ev, evT, part, opd, opds, vals, op2, cont, conts, Res.bind, Res.sb, SRes.sq, lift, cmpP, binP, slP, idxP, callP, D.seq?, inst_tup, instP, finF, endF, backOf, isLent, SV.d, SV.lent, callR, lentOf, sharedSl, freezeSl, putBack, D.flat, tru, setS_eq, free_none, free_dat, free_own, Z24, d6', F_pick, d7', F_one, d14, eqI, e1, e2]
      · obtain ⟨x, dk2, e2, hx, ok⟩ := one_ok (gv := Law.L.gv) hp d7' (k + n + 1) m ok (ds := someL) (by decide)
        refine ⟨.dat x, dk2, ?_, ⟨som x hx, rfl⟩, ok⟩
        unfold someL at e2
        rw [show k + (n + 1) + 3 = k + n + 3 + 1 by omega]; unfold semK
        rw [d14]
        simp [f__law_changed, exSs, exS, ev, evT, part, opd, opds, vals, op2, cont, conts, Res.bind, Res.sb, SRes.sq, lift, cmpP, binP, slP, idxP, callP, D.seq?, inst_tup, instP, finF, endF, backOf, isLent, SV.d, SV.lent, callR, lentOf, sharedSl, freezeSl, putBack, D.flat, tru, setS_eq, free_none, free_dat, free_own, Z24, d6', F_pick, d7', F_one, d14, eqI, e1, e2]
    | non | str _ | lst _ =>
      obtain ⟨x, dk2, e2, hx, ok⟩ := one_ok (gv := Law.L.gv) hp d7' (k + n + 1) m (ok.le (by omega)) (ds := someL) (by decide)
      refine ⟨.dat x, dk2, ?_, ⟨som x hx, rfl⟩, ok⟩
      unfold someL at e2
      rw [show k + (n + 1) + 3 = k + n + 3 + 1 by omega]; unfold semK
      rw [d14]
      simp [f__law_changed, exSs, exS, ev, evT, part, opd, opds, vals, op2, cont, conts, Res.bind, Res.sb, SRes.sq, lift, cmpP, binP, slP, idxP, callP, D.seq?, inst_tup, instP, finF, endF, backOf, isLent, SV.d, SV.lent, callR, lentOf, sharedSl, freezeSl, putBack, D.flat, tru, setS_eq, free_none, free_dat, free_own, Z24, d6', F_pick, d7', F_one, d14, eqI, e2]
    | tup ds =>
      obtain ⟨hl, hds⟩ := gd_tup hg
      have hgl : gd (3 * L) (n + 1 + 3) (.lst ds) = true := by
        have := gd_mono (M := 3 * L) (by omega) (m := n + 1 + 3) (by omega) hg
        exact this
      by_cases he : ds = []
      · subst he
        obtain ⟨q, dk1, e1, hq, ok⟩ := pick_ok (gv := Law.L.gv) hp (k + n + 2) (m + 1) (ok.le (by omega)) (n := 3) (by decide)
        by_cases q0 : q = 0
        · subst q0
          refine ⟨.own (.lst []), dk1, ?_, ⟨hgl, rfl⟩, ok.le (by omega)⟩
          rw [show k + (n + 1) + 3 = k + n + 3 + 1 by omega]; unfold semK
          rw [d14]
          simp [f__law_changed, exSs, exS, ev, evT, part, opd, opds, vals, op2, cont, conts, Res.bind, Res.sb, SRes.sq, lift, cmpP, binP, slP, idxP, callP, D.seq?, inst_tup, instP, finF, endF, backOf, isLent, SV.d, SV.lent, callR, lentOf, sharedSl, freezeSl, putBack, D.flat, tru, setS_eq, free_none, free_dat, free_own, Z24, d6', F_pick, d7', F_one, d14, eqI, e1, nil_nil]
        · obtain ⟨x, dk2, e2, hx, ok⟩ := one_ok (gv := Law.L.gv) hp d7' (k + n + 1) m ok (ds := someL) (by decide)
          refine ⟨.dat x, dk2, ?_, ⟨som x hx, rfl⟩, ok⟩
          unfold someL at e2
          rw [show k + (n + 1) + 3 = k + n + 3 + 1 by omega]; unfold semK
          rw [d14]
          simp [f__law_changed, exSs, exS, ev, evT, part, opd, opds, vals, op2, cont, conts, Res.bind, Res.sb, SRes.sq, lift, cmpP, binP, slP, idxP, callP, D.seq?, inst_tup, instP, finF, endF, backOf, isLent, SV.d, SV.lent, callR, lentOf, sharedSl, freezeSl, putBack, D.flat, tru, setS_eq, free_none, free_dat, free_own, Z24, d6', F_pick, d7', F_one, d14, eqI, e1, e2, nil_nil, q0]
      · have en := eq_nil hg (by omega) he
        obtain ⟨p, dk1, e1, hp1, ok⟩ := pick_ok (gv := Law.L.gv) hp (k + n + 2) (m + 3 * n + 2) (ok.le (by omega)) (n := 6) (by decide)
        have len0 : 0 < ds.length := List.length_pos_iff.mpr he
        by_cases p0 : 0 < p
        · obtain ⟨a, dk2, e2, ha, ok⟩ := pick_ok (gv := Law.L.gv) hp (k + n + 2) (m + 3 * n + 1) ok (n := (ds.length : Int)) ⟨by omega, by omega⟩
          obtain ⟨w, dk3, e3, hw, ok⟩ := pick_ok (gv := Law.L.gv) hp (k + n + 2) (m + 3 * n) ok (n := 9) (by decide)
          have c1 := cut_le (ds := ds) (a := none) (b := some a)
          have c2 := cut_le (ds := ds) (a := some (a + 1)) (b := none)
          have c3 := cut_le (ds := ds) (a := none) (b := some (a + 1))
          have c4 := cut_le (ds := ds) (a := some a) (b := none)
          have upn : ∀ d ∈ ds, gd (3 * L) (n + 3) d = true := fun d hd => gd_mono (by omega) (by omega) (hds d hd)
          by_cases w0 : w = 0
          · subst w0
            have z : (cutD ds none (some a)).length + (cutD ds (some (a + 1)) none).length ≤ 16777216 := by omega
            refine ⟨.dat (.tup (cutD ds none (some a) ++ cutD ds (some (a + 1)) none)), dk3, ?_, ⟨tup_gd (by rw [List.length_append]; omega) fun d hd => upn d ((List.mem_append.mp hd).elim cut_mem cut_mem), rfl⟩, ok.le (by omega)⟩
            rw [show k + (n + 1) + 3 = k + n + 3 + 1 by omega]; unfold semK
            rw [d14]
            simp [f__law_changed, exSs, exS, ev, evT, part, opd, opds, vals, op2, cont, conts, Res.bind, Res.sb, SRes.sq, lift, cmpP, binP, slP, idxP, callP, D.seq?, inst_tup, instP, finF, endF, backOf, isLent, SV.d, SV.lent, callR, lentOf, sharedSl, freezeSl, putBack, D.flat, tru, setS_eq, free_none, free_dat, free_own, Z24, d6', F_pick, d7', F_one, d14, eqI, e1, e2, e3, en, p0, z]
          · by_cases w1 : w = 1
            · subst w1
              have z : (cutD ds none (some (a + 1))).length + (cutD ds (some a) none).length ≤ 16777216 := by omega
              refine ⟨.dat (.tup (cutD ds none (some (a + 1)) ++ cutD ds (some a) none)), dk3, ?_, ⟨tup_gd (by rw [List.length_append]; omega) fun d hd => upn d ((List.mem_append.mp hd).elim cut_mem cut_mem), rfl⟩, ok.le (by omega)⟩
              rw [show k + (n + 1) + 3 = k + n + 3 + 1 by omega]; unfold semK
              rw [d14]
              simp [f__law_changed, exSs, exS, ev, evT, part, opd, opds, vals, op2, cont, conts, Res.bind, Res.sb, SRes.sq, lift, cmpP, binP, slP, idxP, callP, D.seq?, inst_tup, instP, finF, endF, backOf, isLent, SV.d, SV.lent, callR, lentOf, sharedSl, freezeSl, putBack, D.flat, tru, setS_eq, free_none, free_dat, free_own, Z24, d6', F_pick, d7', F_one, d14, eqI, e1, e2, e3, en, p0, z]
            · have hal : a.toNat < ds.length := by omega
              have at1 : atI ds a = some ds[a.toNat] := by
                unfold atI ixN
                rw [if_pos ha.1, if_pos ha.2]
                simp [hal]
              have mem : ds[a.toNat] ∈ ds := List.getElem_mem hal
              obtain ⟨sv, dk4, e4, hsv, ok⟩ := ih m ds[a.toNat] dk3 (by omega) (hds _ mem) ok
              have z : (cutD ds none (some a)).length + 1 ≤ 16777216 := by omega
              have z2 : (cutD ds none (some a)).length + 1 + (cutD ds (some (a + 1)) none).length ≤ 16777216 := by omega
              have z3 : (cutD ds none (some a)).length + ((cutD ds (some (a + 1)) none).length + 1) ≤ 16777216 := by omega
              refine ⟨.dat (.tup (cutD ds none (some a) ++ [sv.d] ++ cutD ds (some (a + 1)) none)), dk4, ?_, ⟨tup_gd (by simp only [List.length_append, List.length_singleton]; omega) fun d hd => ?_, rfl⟩, ok⟩
              · rw [show k + (n + 1) + 3 = k + n + 3 + 1 by omega]; unfold semK
                rw [d14]
                cases sv with
                | bor _ => exact (by have := hsv.2; cases this)
                | dat v => simp [f__law_changed, exSs, exS, ev, evT, part, opd, opds, vals, op2, cont, conts, Res.bind, Res.sb, SRes.sq, lift, cmpP, binP, slP, idxP, callP, D.seq?, inst_tup, instP, finF, endF, backOf, isLent, SV.d, SV.lent, callR, lentOf, sharedSl, freezeSl, putBack, D.flat, tru, setS_eq, free_none, free_dat, free_own, Z24, d6', F_pick, d7', F_one, d14, eqI, e1, e2, e3, e4, en, p0, w0, w1, at1, z, z2, z3]
                | own v => simp [f__law_changed, exSs, exS, ev, evT, part, opd, opds, vals, op2, cont, conts, Res.bind, Res.sb, SRes.sq, lift, cmpP, binP, slP, idxP, callP, D.seq?, inst_tup, instP, finF, endF, backOf, isLent, SV.d, SV.lent, callR, lentOf, sharedSl, freezeSl, putBack, D.flat, tru, setS_eq, free_none, free_dat, free_own, Z24, d6', F_pick, d7', F_one, d14, eqI, e1, e2, e3, e4, en, p0, w0, w1, at1, z, z2, z3]
              · rcases List.mem_append.mp hd with hd | hd
                · rcases List.mem_append.mp hd with hd | hd
                  · exact upn d (cut_mem hd)
                  · obtain rfl := List.mem_singleton.mp hd
                    exact hsv.1
                · exact upn d (cut_mem hd)
        · obtain ⟨q, dk2, e2, hq, ok⟩ := pick_ok (gv := Law.L.gv) hp (k + n + 2) (m + 1) (ok.le (by omega)) (n := 3) (by decide)
          by_cases q0 : q = 0
          · subst q0
            refine ⟨.own (.lst ds), dk2, ?_, ⟨hgl, rfl⟩, ok.le (by omega)⟩
            rw [show k + (n + 1) + 3 = k + n + 3 + 1 by omega]; unfold semK
            rw [d14]
            simp [f__law_changed, exSs, exS, ev, evT, part, opd, opds, vals, op2, cont, conts, Res.bind, Res.sb, SRes.sq, lift, cmpP, binP, slP, idxP, callP, D.seq?, inst_tup, instP, finF, endF, backOf, isLent, SV.d, SV.lent, callR, lentOf, sharedSl, freezeSl, putBack, D.flat, tru, setS_eq, free_none, free_dat, free_own, Z24, d6', F_pick, d7', F_one, d14, eqI, e1, e2, en, p0]
          · obtain ⟨x, dk3, e3, hx, ok⟩ := one_ok (gv := Law.L.gv) hp d7' (k + n + 1) m ok (ds := someL) (by decide)
            refine ⟨.dat x, dk3, ?_, ⟨som x hx, rfl⟩, ok⟩
            unfold someL at e3
            rw [show k + (n + 1) + 3 = k + n + 3 + 1 by omega]; unfold semK
            rw [d14]
            simp [f__law_changed, exSs, exS, ev, evT, part, opd, opds, vals, op2, cont, conts, Res.bind, Res.sb, SRes.sq, lift, cmpP, binP, slP, idxP, callP, D.seq?, inst_tup, instP, finF, endF, backOf, isLent, SV.d, SV.lent, callR, lentOf, sharedSl, freezeSl, putBack, D.flat, tru, setS_eq, free_none, free_dat, free_own, Z24, d6', F_pick, d7', F_one, d14, eqI, e1, e2, e3, en, p0, q0]
    | _ => cases hg
end DL.Law

namespace DL.Law
open PySem PySem.Spec PyProof.Rows L2 DL

theorem d15 : Law.L.defs 15 = some f_law := rfl
theorem eqB (b : Bool) : eqD (.bl b) (.bl b) = some true := by cases b <;> rfl
def turnB : List DL.S := [.set 4 (.call 10 [.var 2]),
    .ifs (.cmp .IsNot (.call 4 [.var 4]) (.cst (.bl true))) [.ret (.cst (.bl false))] [],
    .set 5 (.call 14 [.var 2, .var 4]),
    .ifs (.cmp .Eq (.call 6 [.var 2, .cst (.int 3)]) (.cst (.int 0))) [.set 5 (.call 14 [.var 2, .var 5])] [],
    .set 6 (.call 4 [.var 5]),
    .ifs (.or (.not (.inst (.var 6) "bool")) (.cmp .NotEq (.var 6) (.call 13 [.var 5]))) [.ret (.cst (.bl false))] []]
def cf39 : Cf := ⟨semK Law.L.defs Law.L.gv 100 39, fun i => match Law.L.defs i with
          | some g => g.lend
          | none => false, Law.L.gv⟩
theorem turn_ok (N : Nat) (hN : N = 95) (sc : D) (x1 x3 x4 x5 x6 x7 : Option SV) (dk : D) (m : Nat) (f4 : free x4 = true) (f5 : free x5 = true) (f6 : free x6 = true) (ok : DeckOk (m + 60) dk) :
    ∃ y4 y5 y6 dk', exSs cf39 N turnB [some (.dat sc), x1, some (.own dk), x3, x4, x5, x6, x7] = .nx [some (.dat sc), x1, some (.own dk'), x3, y4, y5, y6, x7] ∧ free y4 = true ∧ free y5 = true ∧ free y6 = true ∧ DeckOk m dk' := by
  subst hN
  obtain ⟨r, dk1, e1, ⟨hr, hm⟩, ok⟩ := manner_ok 36 (m + 45) ok
  have c2 := is_manner_ok 35 (n := 0) (gd_mono (M := 50) (by decide) (m := 4) (by decide) hr)
  rw [hm] at c2
  obtain ⟨sv, dk2, e3, ⟨hs, hl⟩, ok⟩ := changed_ok 32 5 (by decide) 4 (m + 33) r dk1 (by decide) hr ok
  obtain ⟨p, dk3, e4, hp, ok⟩ := pick_ok (gv := Law.L.gv) d6' 38 (m + 32) ok (n := 3) (by decide)
  simp only [Nat.reduceAdd, Nat.reduceMul] at e1 c2 e3 e4 hs
  by_cases p0 : p = 0
  · subst p0
    obtain ⟨sw, dk4, e5, ⟨ht, hl2⟩, ok⟩ := changed_ok 29 15 (by decide) 7 m sv.d dk3 (by decide) hs (ok.le (by omega))
    have c6 := is_manner_ok 35 (n := 6) (gd_mono (M := 50) (by decide) (m := 10) (by decide) ht)
    have c7 := law_is_ok 35 (n := 6) (gd_mono (M := 50) (by decide) (m := 10) (by decide) ht)
    simp only [Nat.reduceAdd, Nat.reduceMul] at e5 c6 c7
    refine ⟨some (.dat r), some sw, some (.dat (.bl (isM sw.d))), dk4, ?_, rfl, by simp [free, hl2], rfl, ok⟩
    cases sv with
    | bor _ => cases hl
    | dat v =>
      simp only [SV.d] at e5
      cases sw with
      | bor _ => cases hl2
      | dat v2 =>
        simp only [SV.d] at c6 c7
        simp [exSs, exS, ev, evT, evIt, opd, opds, vals, op2, cont, conts, Res.bind, Res.sb, SRes.sq, lift, cmpP, binP, slP, idxP, callP, DL.isP, D.seq?, instP, finF, endF, backOf, isLent, SV.d, SV.lent, callR, lentOf, sharedSl, freezeSl, putBack, D.flat, tru, setS_eq, free_none, free_dat, free_own, Z24, d4, d5', d6', d9', d10, d13, d14, F_pick, F_deck, f_is_manner, f__law_manner, f__law_changed, f__law_is, eqI, eqB, turnB, cf39, f4, f5, f6, e1, c2, e3, e4, e5, c6, c7]
      | own v2 =>
        simp only [SV.d] at c6 c7
        simp [exSs, exS, ev, evT, evIt, opd, opds, vals, op2, cont, conts, Res.bind, Res.sb, SRes.sq, lift, cmpP, binP, slP, idxP, callP, DL.isP, D.seq?, instP, finF, endF, backOf, isLent, SV.d, SV.lent, callR, lentOf, sharedSl, freezeSl, putBack, D.flat, tru, setS_eq, free_none, free_dat, free_own, Z24, d4, d5', d6', d9', d10, d13, d14, F_pick, F_deck, f_is_manner, f__law_manner, f__law_changed, f__law_is, eqI, eqB, turnB, cf39, f4, f5, f6, e1, c2, e3, e4, e5, c6, c7]
    | own v =>
      simp only [SV.d] at e5
      cases sw with
      | bor _ => cases hl2
      | dat v2 =>
        simp only [SV.d] at c6 c7
        simp [exSs, exS, ev, evT, evIt, opd, opds, vals, op2, cont, conts, Res.bind, Res.sb, SRes.sq, lift, cmpP, binP, slP, idxP, callP, DL.isP, D.seq?, instP, finF, endF, backOf, isLent, SV.d, SV.lent, callR, lentOf, sharedSl, freezeSl, putBack, D.flat, tru, setS_eq, free_none, free_dat, free_own, Z24, d4, d5', d6', d9', d10, d13, d14, F_pick, F_deck, f_is_manner, f__law_manner, f__law_changed, f__law_is, eqI, eqB, turnB, cf39, f4, f5, f6, e1, c2, e3, e4, e5, c6, c7]
      | own v2 =>
        simp only [SV.d] at c6 c7
        simp [exSs, exS, ev, evT, evIt, opd, opds, vals, op2, cont, conts, Res.bind, Res.sb, SRes.sq, lift, cmpP, binP, slP, idxP, callP, DL.isP, D.seq?, instP, finF, endF, backOf, isLent, SV.d, SV.lent, callR, lentOf, sharedSl, freezeSl, putBack, D.flat, tru, setS_eq, free_none, free_dat, free_own, Z24, d4, d5', d6', d9', d10, d13, d14, F_pick, F_deck, f_is_manner, f__law_manner, f__law_changed, f__law_is, eqI, eqB, turnB, cf39, f4, f5, f6, e1, c2, e3, e4, e5, c6, c7]
  · have c6 := is_manner_ok 35 (n := 3) (gd_mono (M := 50) (by decide) (m := 7) (by decide) hs)
    have c7 := law_is_ok 35 (n := 3) (gd_mono (M := 50) (by decide) (m := 7) (by decide) hs)
    simp only [Nat.reduceAdd, Nat.reduceMul] at c6 c7
    refine ⟨some (.dat r), some sv, some (.dat (.bl (isM sv.d))), dk3, ?_, rfl, by simp [free, hl], rfl, ok.le (by omega)⟩
    cases sv with
    | bor _ => cases hl
    | dat v =>
      simp only [SV.d] at c6 c7
      simp [exSs, exS, ev, evT, evIt, opd, opds, vals, op2, cont, conts, Res.bind, Res.sb, SRes.sq, lift, cmpP, binP, slP, idxP, callP, DL.isP, D.seq?, instP, finF, endF, backOf, isLent, SV.d, SV.lent, callR, lentOf, sharedSl, freezeSl, putBack, D.flat, tru, setS_eq, free_none, free_dat, free_own, Z24, d4, d5', d6', d9', d10, d13, d14, F_pick, F_deck, f_is_manner, f__law_manner, f__law_changed, f__law_is, eqI, eqB, turnB, cf39, f4, f5, f6, e1, c2, e3, e4, c6, c7, p0]
    | own v =>
      simp only [SV.d] at c6 c7
      simp [exSs, exS, ev, evT, evIt, opd, opds, vals, op2, cont, conts, Res.bind, Res.sb, SRes.sq, lift, cmpP, binP, slP, idxP, callP, DL.isP, D.seq?, instP, finF, endF, backOf, isLent, SV.d, SV.lent, callR, lentOf, sharedSl, freezeSl, putBack, D.flat, tru, setS_eq, free_none, free_dat, free_own, Z24, d4, d5', d6', d9', d10, d13, d14, F_pick, F_deck, f_is_manner, f__law_manner, f__law_changed, f__law_is, eqI, eqB, turnB, cf39, f4, f5, f6, e1, c2, e3, e4, c6, c7, p0]
end DL.Law

namespace DL.Law
open PySem PySem.Spec PyProof.Rows L2 DL

theorem inner_ok (sc : D) (x1 x7 : Option SV) (m : Nat) : ∀ (ds : List D) (x3 x4 x5 x6 : Option SV) (dk : D), free x3 = true → free x4 = true → free x5 = true → free x6 = true → DeckOk (m + 60 * ds.length) dk →
    ∃ y3 y4 y5 y6 dk', forGo (exSs cf39 95 turnB) (.nm 3) ds [some (.dat sc), x1, some (.own dk), x3, x4, x5, x6, x7] = .nx [some (.dat sc), x1, some (.own dk'), y3, y4, y5, y6, x7] ∧ free y3 = true ∧ free y4 = true ∧ free y5 = true ∧ free y6 = true
  | [], x3, x4, x5, x6, dk, f3, f4, f5, f6, ok => ⟨x3, x4, x5, x6, dk, rfl, f3, f4, f5, f6⟩
  | d :: ds, x3, x4, x5, x6, dk, f3, f4, f5, f6, ok => by
    obtain ⟨y4, y5, y6, dk', e, g4, g5, g6, ok'⟩ := turn_ok 95 rfl sc x1 (some (.dat d)) x4 x5 x6 x7 dk (m + 60 * ds.length) f4 f5 f6 (ok.le (by rw [List.length_cons]; omega))
    obtain ⟨z3, z4, z5, z6, dk2, e2, r⟩ := inner_ok sc x1 x7 m ds (some (.dat d)) y4 y5 y6 dk' rfl g4 g5 g6 ok'
    refine ⟨z3, z4, z5, z6, dk2, ?_, r⟩
    unfold forGo
    simp [asg_nm, f3, e, e2]
def deckB : List DL.S := [.set 2 (.call 5 [.idx (.bin .Add (.var 0) (.lmul [.cst (.int 0)] (.cst (.int 8)))) (.var 1), .var 1]),
    .for_ (.nm 3) (.rng (.cst (.int 12))) turnB]
theorem at_ok (ns : List Int) {j : Nat} (hj : j < 8) : ∃ x, atI (ns.map D.int ++ [.int 0, .int 0, .int 0, .int 0, .int 0, .int 0, .int 0, .int 0]) (j : Int) = some (.int x) := by
  have e : ns.map D.int ++ [.int 0, .int 0, .int 0, .int 0, .int 0, .int 0, .int 0, .int 0] = (ns ++ [0, 0, 0, 0, 0, 0, 0, 0]).map D.int := by simp
  rw [e]
  have hl : j < (ns ++ [0, 0, 0, 0, 0, 0, 0, 0]).length := by simp; omega
  refine ⟨(ns ++ [0, 0, 0, 0, 0, 0, 0, 0])[j], ?_⟩
  unfold atI ixN
  rw [if_pos (by omega), if_pos (by rw [List.length_map]; omega)]
  simp only [Option.bind_some, Int.toNat_natCast, List.getElem?_map, List.getElem?_eq_getElem hl, Option.map_some]
theorem r12 : (rangeD 0 12).length = 12 := rfl
theorem s12 : small62 12 = true := by decide
theorem s8 : small62 8 = true := by decide
theorem deckB_ok (ns : List Int) (hn : ns.length ≤ 63) (x2 x3 x4 x5 x6 x7 : Option SV) (f2 : free x2 = true) (f3 : free x3 = true) (f4 : free x4 = true) (f5 : free x5 = true) (f6 : free x6 = true) (j : Nat) (hj : j < 8) :
    ∃ y2 y3 y4 y5 y6, exSs cf39 98 deckB [some (.dat (.lst (ns.map D.int))), some (.dat (.int (j : Int))), x2, x3, x4, x5, x6, x7] = .nx [some (.dat (.lst (ns.map D.int))), some (.dat (.int (j : Int))), y2, y3, y4, y5, y6, x7] ∧ free y2 = true ∧ free y3 = true ∧ free y4 = true ∧ free y5 = true ∧ free y6 = true := by
  obtain ⟨x, ex⟩ := at_ok ns hj
  obtain ⟨dk, e1, ok⟩ := deck_ok (gv := Law.L.gv) d5' 38 x (j : Int) 720 (by omega)
  obtain ⟨z3, z4, z5, z6, dk2, e2, g⟩ := inner_ok (.lst (ns.map D.int)) (some (.dat (.int (j : Int)))) x7 0 (rangeD 0 12) x3 x4 x5 x6 dk f3 f4 f5 f6 (by rw [r12]; exact ok)
  simp only [Nat.reduceAdd] at e1
  have dl : dk.flat = false := by obtain ⟨a, b, c, rfl, _⟩ := ok; rfl
  have hz : ns.length + 8 ≤ 16777216 := by omega
  refine ⟨some (.own dk2), z3, z4, z5, z6, ?_, rfl, g⟩
  have h1 : exS cf39 97 (.set 2 (.call 5 [.idx (.bin .Add (.var 0) (.lmul [.cst (.int 0)] (.cst (.int 8)))) (.var 1), .var 1])) [some (.dat (.lst (ns.map D.int))), some (.dat (.int (j : Int))), x2, x3, x4, x5, x6, x7] = .nx [some (.dat (.lst (ns.map D.int))), some (.dat (.int (j : Int))), some (.own dk), x3, x4, x5, x6, x7] := by
    simp [exS, ev, opd, opds, vals, op2, cont, conts, Res.bind, Res.sb, SRes.sq, lift, binP, idxP, SV.d, SV.lent, callR, sharedSl, freezeSl, dl, setS_eq, Z24, d5', F_deck, cf39, f2, hz, ex, e1, List.replicate]
  have h2 : exS cf39 96 (.for_ (.nm 3) (.rng (.cst (.int 12))) turnB) [some (.dat (.lst (ns.map D.int))), some (.dat (.int (j : Int))), some (.own dk), x3, x4, x5, x6, x7] = .nx [some (.dat (.lst (ns.map D.int))), some (.dat (.int (j : Int))), some (.own dk2), z3, z4, z5, z6, x7] := by
    have : exS cf39 96 (.for_ (.nm 3) (.rng (.cst (.int 12))) turnB) [some (.dat (.lst (ns.map D.int))), some (.dat (.int (j : Int))), some (.own dk), x3, x4, x5, x6, x7] = forGo (exSs cf39 95 turnB) (.nm 3) (rangeD 0 12) [some (.dat (.lst (ns.map D.int))), some (.dat (.int (j : Int))), some (.own dk), x3, x4, x5, x6, x7] := rfl
    rw [this, e2]
  have h3 : ∀ ρ, exSs cf39 98 deckB ρ = (exS cf39 97 (.set 2 (.call 5 [.idx (.bin .Add (.var 0) (.lmul [.cst (.int 0)] (.cst (.int 8)))) (.var 1), .var 1])) ρ).sq fun ρ1 => (exS cf39 96 (.for_ (.nm 3) (.rng (.cst (.int 12))) turnB) ρ1).sq fun ρ2 => .nx ρ2 := fun ρ => rfl
  rw [h3, h1]
  show (exS cf39 96 (.for_ (.nm 3) (.rng (.cst (.int 12))) turnB) _).sq _ = _
  rw [h2]

def cAll : List D := [.tup [.int 12, .str "up", .int 11], .tup [.int 12, .str "down", .int 0], .tup [.tup [.int 1, .int 8], .tup [.int 96, .int 1]], .int 96, .int 480]
theorem outer_ok (ns : List Int) (hn : ns.length ≤ 63) (x7 : Option SV) : ∀ (l : List Nat), (∀ j ∈ l, j < 8) → ∀ (x1 x2 x3 x4 x5 x6 : Option SV), free x1 = true → free x2 = true → free x3 = true → free x4 = true → free x5 = true → free x6 = true →
    ∃ y1 y2 y3 y4 y5 y6, forGo (exSs cf39 98 deckB) (.nm 1) (l.map fun j => .int (j : Nat)) [some (.dat (.lst (ns.map D.int))), x1, x2, x3, x4, x5, x6, x7] = .nx [some (.dat (.lst (ns.map D.int))), y1, y2, y3, y4, y5, y6, x7]
  | [], _, x1, x2, x3, x4, x5, x6, _, _, _, _, _, _ => ⟨x1, x2, x3, x4, x5, x6, rfl⟩
  | j :: l, hl, x1, x2, x3, x4, x5, x6, f1, f2, f3, f4, f5, f6 => by
    obtain ⟨y2, y3, y4, y5, y6, e, g2, g3, g4, g5, g6⟩ := deckB_ok ns hn x2 x3 x4 x5 x6 x7 f2 f3 f4 f5 f6 j (hl j List.mem_cons_self)
    obtain ⟨z1, z2, z3, z4, z5, z6, e2⟩ := outer_ok ns hn x7 l (fun i hi => hl i (List.mem_cons_of_mem _ hi)) (some (.dat (.int (j : Int)))) y2 y3 y4 y5 y6 rfl g2 g3 g4 g5 g6
    refine ⟨z1, z2, z3, z4, z5, z6, ?_⟩
    unfold forGo
    simp [asg_nm, f1, e, e2]
theorem cutA {a b c d e : D} : cutD [a, b, c, d, e] none (some 2) = [a, b] := rfl
theorem cutB {a b c d e : D} : cutD [a, b, c, d, e] (some 3) none = [d, e] := rfl
theorem cutC {a b c d e : D} : cutD [a, b, c, d, e] (some 1) none = [b, c, d, e] := rfl
theorem m1 : semK Law.L.defs Law.L.gv 100 39 4 [.dat (.tup cAll)] = .ok (.dat (.bl true)) none := is_manner_ok 35 (n := 6) (d := .tup cAll) (by decide +kernel)
theorem m2 : semK Law.L.defs Law.L.gv 100 39 4 [.dat (.tup [.tup [.int 12, .str "up", .int 11], .tup [.int 12, .str "down", .int 0], .tup [.tup [.int 5, .int 1], .tup [.int 5, .int 2]], .int 96, .int 480])] = .ok (.dat (.bl false)) none := is_manner_ok 35 (n := 6) (d := .tup [.tup [.int 12, .str "up", .int 11], .tup [.int 12, .str "down", .int 0], .tup [.tup [.int 5, .int 1], .tup [.int 5, .int 2]], .int 96, .int 480]) (by decide +kernel)
theorem m3 : semK Law.L.defs Law.L.gv 100 39 4 [.dat (.tup [.tup [.int 5, .str "up", .int 0], .tup [.int 12, .str "down", .int 0], .tup [.tup [.int 1, .int 8], .tup [.int 96, .int 1]], .int 96, .int 480])] = .ok (.dat (.bl false)) none := is_manner_ok 35 (n := 6) (d := .tup [.tup [.int 5, .str "up", .int 0], .tup [.int 12, .str "down", .int 0], .tup [.tup [.int 1, .int 8], .tup [.int 96, .int 1]], .int 96, .int 480]) (by decide +kernel)
theorem m4 : semK Law.L.defs Law.L.gv 100 39 4 [.dat (.tup [.tup [.int 1, .str "up", .int 1], .tup [.int 12, .str "down", .int 0], .tup [.tup [.int 1, .int 8], .tup [.int 96, .int 1]], .int 96, .int 480])] = .ok (.dat (.bl false)) none := is_manner_ok 35 (n := 6) (d := .tup [.tup [.int 1, .str "up", .int 1], .tup [.int 12, .str "down", .int 0], .tup [.tup [.int 1, .int 8], .tup [.int 96, .int 1]], .int 96, .int 480]) (by decide +kernel)
theorem plain (ns : List Int) (hn : ns.length ≤ 63) : semK Law.L.defs Law.L.gv 100 40 15 [.dat (.lst (ns.map D.int))] = .ok (.dat (.bl true)) none := by
  obtain ⟨y1, y2, y3, y4, y5, y6, e⟩ := outer_ok ns hn none (List.range 8) (fun j hj => List.mem_range.mp hj) none none none none none none rfl rfl rfl rfl rfl rfl
  have er : ((List.range 8).map fun j => D.int (j : Nat)) = rangeD 0 8 := rfl
  rw [er] at e
  have n1 := m1
  have n2 := m2
  have n3 := m3
  have n4 := m4
  unfold cAll at n1
  have a1 : semK Law.L.defs Law.L.gv 100 40 15 [.dat (.lst (ns.map D.int))] = finF false ((exS cf39 99 (.for_ (.nm 1) (.rng (.cst (.int 8))) deckB) [some (.dat (.lst (ns.map D.int))), none, none, none, none, none, none, none]).sq fun ρ1 => exSs cf39 99 f_law.body.tail ρ1) := by
    unfold semK
    rw [d15]
    rfl
  have a2 : exS cf39 99 (.for_ (.nm 1) (.rng (.cst (.int 8))) deckB) [some (.dat (.lst (ns.map D.int))), none, none, none, none, none, none, none] = forGo (exSs cf39 98 deckB) (.nm 1) (rangeD 0 8) [some (.dat (.lst (ns.map D.int))), none, none, none, none, none, none, none] := rfl
  rw [a1, a2, e]
  simp [f_law, cf39, exSs, exS, ev, evT, evIt, opd, opds, vals, op2, part, cont, conts, Res.bind, Res.sb, SRes.sq, lift, cmpP, binP, slP, DL.isP, finF, endF, isLent, SV.d, SV.lent, callR, sharedSl, freezeSl, D.flat, tru, setS_eq, free_none, free_dat, Z24, d4, f_is_manner, s8, cutA, cutB, cutC, n1, n2, n3, n4, List.replicate]
end DL.Law

open PySem PySem.W PySem.Calls PyProof.Rows
theorem PySem.Challenge.cw_clockcards_k01_manners_recognized_holds : PySem.Challenge.rw_clockcards_k01_manners_recognized.Holds := by
  w_on; o_law
  refine HandSHeadRun.head_any (r := OpenLaw.row PySem.Challenge.rw_clockcards_k01_manners_recognized) (q := view (OpenLaw.row PySem.Challenge.rw_clockcards_k01_manners_recognized).prog [25]) (H := DL.hookL 4 DL.Law.L) (ob := DL.Law.ob) (M := 4000) (loose := DL.Law.loose) (d := HandSHeadRun.topDef (OpenLaw.row PySem.Challenge.rw_clockcards_k01_manners_recognized).prog 25) (kwd := []) DL.Law.ob_eq
    (by kernel_rfl) (fun s => by kernel_rfl) DL.Law.run (by kernel_rfl) (by kernel_rfl) (by kernel_rfl) (by rfl) (by first | assumption | decide +kernel) (by decide +kernel) ⟨rfl, rfl, rfl, rfl, rfl, by decide +kernel⟩ ?hw ?hc
  case hw => w_witness2
  case hc =>
    refine L2.walk_ofE (l := PySem.Challenge.rw_clockcards_k01_manners_recognized) (n := 63) (k := 40) (x := "_law_script") (CX := L2.CX0) rfl (by decide) (by kernel_rfl) ⟨rfl, by decide, by decide⟩ ?F (fun _ _ _ _ z => z)
    intro w mg fa h Y G hmg0
    obtain ⟨K, KX, c, ex⟩ := Y
    have hmg : mg ("law" : PySem.Str) = some (.ref fa) := by
      have e : (HandSHeadRun.topDef (OpenLaw.row PySem.Challenge.rw_clockcards_k01_manners_recognized).prog 25).name = ("law" : PySem.Str) := by kernel_rfl
      rw [← e]
      exact hmg0
    obtain ⟨fd, sp, h1, h2, h3⟩ := DL.law_facts (P := (PySem.Challenge.rw_clockcards_k01_manners_recognized).prog) (w := w) (N := 63) (n := 100) (k := 40) (j := 15) (d := DL.Law.i_law) (x := "_law_script") DL.Law.LO KX G c ex rfl rfl hmg DL.Law.plain
    exact ⟨K, fd, sp, KX, h1, h2, h3⟩


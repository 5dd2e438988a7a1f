import PyProof.Rows.All
import Wide.All
import OpenK.AllK
import Wide.FinOn
import HandS.ForMost
import HandS.Wide
import HandS.TupAny
import HandS.Style
import KE.SortData
import HandS.Flow
import HandS.Text
import HandS.ListEq
import HandS.IsInst
import HandS.Small
import HandS.Walk
import HandS.Zip
import KE.SortLaws
import HandS.Set
import HandS.SetFor
import HandS.SetKeys
import PyProof.ListStr
import HandS.Words
import HandS.NoneIn
import HandS.Exc
import HandS.EndBits
import HandS.HeadEnd
import HandS.DictComp
import HandS.Deep
import HandS.Property
import HandS.Star
import HandS.Defaults
import HandS.More
import PyProof.TupleOfGen
import KE.KDictSum
import KE.GoesNew
import KE.GoesEnum
import KE.KStateDown
import HandS.Head0
import HandS.Head1
import HandS.Head2
import HandS.HeadHook1
import HandS.HeadHook2
import KE.KDictCopyH
import HandS.DictSubView
import HandS.Sort
import PySem.Challenge.RW_eachshare_k56_noticing_by_hand
set_option Elab.async false
set_option linter.all false
set_option maxRecDepth 100000
set_option maxHeartbeats 1000000
/-! TL: data as trees over the hand layer. D: what never changes any more; O: what one place owns, down to D. -/
namespace TL
open PySem L2

inductive D where
  | non | bl (b : Bool) | int (i : Int) | str (x : Str)
  | tup (xs : List D) | lst (xs : List D) | dct (kvs : List (Key × D)) | dcT (kvs : List (List Key × D))
  | ins (C : Addr) (fs : List (Str × D))
  | obj (a : Addr) | ty (n : String)
  | scr (xs : List D)
inductive O where
  | d (x : D) | lst (xs : List O) | dct (kvs : List (Key × O)) | dcT (kvs : List (List Key × O)) | ins (C : Addr) (fs : List (Str × O))

mutual
def O.shr : O → D
  | .d x => x
  | .lst xs => .lst (shrs xs)
  | .dct kvs => .dct (shrK kvs)
  | .dcT kvs => .dcT (shrT kvs)
  | .ins C fs => .ins C (shrF fs)
def shrs : List O → List D
  | [] => []
  | x :: xs => x.shr :: shrs xs
def shrK : List (Key × O) → List (Key × D)
  | [] => []
  | (k, x) :: r => (k, x.shr) :: shrK r
def shrT : List (List Key × O) → List (List Key × D)
  | [] => []
  | (k, x) :: r => (k, x.shr) :: shrT r
def shrF : List (Str × O) → List (Str × D)
  | [] => []
  | (k, x) :: r => (k, x.shr) :: shrF r
end
theorem shrs_map : ∀ xs : List O, shrs xs = xs.map O.shr
  | [] => by rw [shrs]; rfl
  | x :: xs => by rw [shrs, shrs_map xs]; rfl
theorem shrK_map : ∀ m : List (Key × O), shrK m = m.map fun p => (p.1, p.2.shr)
  | [] => by rw [shrK]; rfl
  | (k, x) :: r => by rw [shrK, shrK_map r]; rfl
theorem shrT_map : ∀ m : List (List Key × O), shrT m = m.map fun p => (p.1, p.2.shr)
  | [] => by rw [shrT]; rfl
  | (k, x) :: r => by rw [shrT, shrT_map r]; rfl
theorem shrF_map : ∀ m : List (Str × O), shrF m = m.map fun p => (p.1, p.2.shr)
  | [] => by rw [shrF]; rfl
  | (k, x) :: r => by rw [shrF, shrF_map r]; rfl

/-! ### steps of the heap -/
/-- what a place's owner may change -/
def MutO : HO → Prop
  | .lst _ => True
  | .dK _ => True
  | .dT _ => True
  | .ins _ _ _ => True
  | _ => False
theorem MutO.mut {o : HO} (h : MutO o) : Mut (some o) := by cases o <;> first | exact h.elim | trivial
abbrev Fp := Addr → Prop
structure Step (F : Fp) (H H' : Hp) : Prop where
  keep : ∀ a o, H a = some o → ¬ F a → H' a = some o
  pers : ∀ a o, H a = some o → ¬ MutO o → H' a = some o
  there : ∀ a o, H a = some o → ∃ o', H' a = some o'
theorem Step.refl {F : Fp} {H : Hp} : Step F H H := ⟨fun _ _ h _ => h, fun _ _ h _ => h, fun _ o h => ⟨o, h⟩⟩
theorem off {F F' : Fp} {H : Hp} {x : Addr} {o : HO} (s : ∀ x, F' x → F x ∨ H x = none) (h : H x = some o) (n : ¬ F x) : ¬ F' x := fun z => by
  rcases s x z with q | q
  · exact n q
  · rw [h] at q; cases q
theorem Step.trans {F F' : Fp} {H H1 H2 : Hp} (a : Step F H H1) (b : Step F' H1 H2) (s : ∀ x, F' x → F x ∨ H x = none) : Step F H H2 where
  keep := fun x o h n => b.keep x o (a.keep x o h n) (off s h n)
  pers := fun x o h n => b.pers x o (a.pers x o h n) n
  there := fun x o h => by
    obtain ⟨o1, h1⟩ := a.there x o h
    exact b.there x o1 h1
theorem Step.mono {F F' : Fp} {H H' : Hp} (a : Step F H H') (s : ∀ x, F x → F' x ∨ H x = none) : Step F' H H' where
  keep := fun x o h n => a.keep x o h (off s h n)
  pers := a.pers
  there := a.there
theorem Step.new {F : Fp} {H : Hp} {p : Addr} {o : HO} (h : H p = none) : Step F H (upd H p o) :=
  ⟨fun _ _ e _ => by rw [upd_ne (ne_of_none e h)]; exact e, fun _ _ e _ => by rw [upd_ne (ne_of_none e h)]; exact e, fun _ _ e => ⟨_, by rw [upd_ne (ne_of_none e h)]; exact e⟩⟩
theorem Step.wr {F : Fp} {H : Hp} {p : Addr} {o u : HO} (h : H p = some u) (m : MutO u) (hF : F p) : Step F H (upd H p o) := by
  refine ⟨fun a v e n => ?_, fun a v e n => ?_, fun a v e => ?_⟩
  · rw [upd_ne (fun z => by subst z; exact n hF)]; exact e
  · rw [upd_ne (fun z => by subst z; rw [h] at e; cases e; exact n m)]; exact e
  · by_cases z : a = p
    · exact ⟨o, by rw [z, upd_same]⟩
    · exact ⟨v, by rw [upd_ne z]; exact e⟩
theorem Step.free {F : Fp} {H H' : Hp} (s : Step F H H') {p : Addr} (h : H' p = none) : H p = none := by
  cases e : H p with
  | none => rfl
  | some o => obtain ⟨o', e'⟩ := s.there p o e; rw [h] at e'; cases e'
/-- where new places come from -/
def Sub (G F : Fp) (H : Hp) : Prop := ∀ a, G a → F a ∨ H a = none
theorem Sub.refl {F : Fp} {H : Hp} : Sub F F H := fun _ h => .inl h
theorem Sub.trans {F G E : Fp} {H H1 : Hp} {F0 : Fp} (a : Sub G F H) (b : Sub E G H1) (s : Step F0 H H1) : Sub E F H := fun x h => (b x h).elim (a x) fun n => .inr (s.free n)
def Disj (F G : Fp) : Prop := ∀ a, F a → G a → False
abbrev nof : Fp := fun _ => False

/-! ### what a value stands for -/
section
variable (K : PySem.W.Frag) (H : Hp)
/-- a list that no one changes any more -/
def FrzL (a : Addr) (vs : List V) : Prop := (∃ o, H a = some (.frz o (.lst vs))) ∨
  ∃ (o : Obj) (its : Array Value) (n : Nat), K.lookup a = some o ∧ o.cls = .type "list" ∧ o.dict = none ∧ o.data = .seq its n ∧ its.size ≤ sizeLine ∧ Vals vs its.toList
mutual
inductive RD : D → V → Prop
  | non : RD .non .non
  | bl (b) : RD (.bl b) (.bl b)
  | int (i) : RD (.int i) (.int i)
  | str (x) : RD (.str x) (.str x)
  | obj (a) : RD (.obj a) (.ref a)
  | ty (n) : RD (.ty n) (.ty n)
  | tup {a vs xs} : H a = some (.tup vs) → RDs xs vs → RD (.tup xs) (.ref a)
  | lst {a o vs xs} : H a = some (.frz o (.lst vs)) → RDs xs vs → RD (.lst xs) (.ref a)
  | scr {a vs xs} : FrzL K H a vs → RDs xs vs → RD (.scr xs) (.ref a)
  | dct {a o kvs m} : H a = some (.frz o (.dK kvs)) → kvs.map (·.1) = m.map (·.1) → RDs (m.map (·.2)) (kvs.map (·.2)) → RD (.dct m) (.ref a)
  | dcT {a o kvs m} : H a = some (.frz o (.dT kvs)) → kvs.map (·.1) = m.map (·.1) → RDs (m.map (·.2)) (kvs.map (·.2)) → RD (.dcT m) (.ref a)
  | ins {a o C dx vfs fs} : H a = some (.frz o (.ins C dx vfs)) → vfs.map (·.1) = fs.map (·.1) → RDs (fs.map (·.2)) (vfs.map (·.2)) → RD (.ins C fs) (.ref a)
inductive RDs : List D → List V → Prop
  | nil : RDs [] []
  | cons {x v xs vs} : RD x v → RDs xs vs → RDs (x :: xs) (v :: vs)
end
mutual
inductive RO : O → V → Fp → Prop
  | d {x v F} : RD K H x v → RO (.d x) v F
  | lst {a vs xs F} : H a = some (.lst vs) → F a → ROs xs vs (fun b => F b ∧ b ≠ a) → RO (.lst xs) (.ref a) F
  | dct {a kvs m F} : H a = some (.dK kvs) → F a → kvs.map (·.1) = m.map (·.1) → ROs (m.map (·.2)) (kvs.map (·.2)) (fun b => F b ∧ b ≠ a) → RO (.dct m) (.ref a) F
  | dcT {a kvs m F} : H a = some (.dT kvs) → F a → kvs.map (·.1) = m.map (·.1) → ROs (m.map (·.2)) (kvs.map (·.2)) (fun b => F b ∧ b ≠ a) → RO (.dcT m) (.ref a) F
  | ins {a C dx vfs fs F} : H a = some (.ins C dx vfs) → F a → vfs.map (·.1) = fs.map (·.1) → ROs (fs.map (·.2)) (vfs.map (·.2)) (fun b => F b ∧ b ≠ a) → RO (.ins C fs) (.ref a) F
inductive ROs : List O → List V → Fp → Prop
  | nil {F} : ROs [] [] F
  | cons {x v xs vs F} (F1 F2 : Fp) : RO x v F1 → ROs xs vs F2 → (∀ b, F1 b → F b) → (∀ b, F2 b → F b) → Disj F1 F2 → ROs (x :: xs) (v :: vs) F
end
end
section
variable {K : PySem.W.Frag} {H H' : Hp}
theorem FrzL.keep {a : Addr} {vs : List V} (h : FrzL K H a vs) (k : ∀ a o, H a = some o → ¬ MutO o → H' a = some o) : FrzL K H' a vs := by
  rcases h with ⟨o, h⟩ | h
  · exact .inl ⟨o, k _ _ h (fun z => z)⟩
  · exact .inr h
theorem FrzL.sq {a : Addr} {vs : List V} (h : FrzL K H a vs) : SqL K H a vs := by
  rcases h with ⟨o, h⟩ | h
  · exact .inl (.inr ⟨o, h⟩)
  · exact .inr h
theorem SqT.keepP {a : Addr} {vs : List V} (h : SqT K H a vs) (k : ∀ a o, H a = some o → ¬ MutO o → H' a = some o) : SqT K H' a vs := by
  rcases h with (h | ⟨o, h⟩) | h
  · exact .inl (.inl (k _ _ h fun z => z))
  · exact .inl (.inr ⟨o, k _ _ h fun z => z⟩)
  · exact .inr h
mutual
theorem RD.keep (k : ∀ a o, H a = some o → ¬ MutO o → H' a = some o) : ∀ {x v}, RD K H x v → RD K H' x v
  | _, _, .non => .non
  | _, _, .bl b => .bl b
  | _, _, .int i => .int i
  | _, _, .str x => .str x
  | _, _, .obj a => .obj a
  | _, _, .ty n => .ty n
  | _, _, .tup h r => .tup (k _ _ h fun z => z) (RDs.keep k r)
  | _, _, .lst h r => .lst (k _ _ h fun z => z) (RDs.keep k r)
  | _, _, .scr h r => .scr (h.keep k) (RDs.keep k r)
  | _, _, .dct h e r => .dct (k _ _ h fun z => z) e (RDs.keep k r)
  | _, _, .dcT h e r => .dcT (k _ _ h fun z => z) e (RDs.keep k r)
  | _, _, .ins h e r => .ins (k _ _ h fun z => z) e (RDs.keep k r)
theorem RDs.keep (k : ∀ a o, H a = some o → ¬ MutO o → H' a = some o) : ∀ {xs vs}, RDs K H xs vs → RDs K H' xs vs
  | _, _, .nil => .nil
  | _, _, .cons h r => .cons (RD.keep k h) (RDs.keep k r)
end
theorem RDs.length : ∀ {xs vs}, RDs K H xs vs → xs.length = vs.length
  | _, _, .nil => rfl
  | _, _, .cons _ r => by simp [RDs.length r]
mutual
theorem RO.mono : ∀ {x v F G}, RO K H x v F → (∀ a, F a → G a) → RO K H x v G
  | _, _, _, _, .d h, _ => .d h
  | _, _, _, _, .lst h f r, s => .lst h (s _ f) (ROs.mono r fun b ⟨p, q⟩ => ⟨s b p, q⟩)
  | _, _, _, _, .dct h f e r, s => .dct h (s _ f) e (ROs.mono r fun b ⟨p, q⟩ => ⟨s b p, q⟩)
  | _, _, _, _, .dcT h f e r, s => .dcT h (s _ f) e (ROs.mono r fun b ⟨p, q⟩ => ⟨s b p, q⟩)
  | _, _, _, _, .ins h f e r, s => .ins h (s _ f) e (ROs.mono r fun b ⟨p, q⟩ => ⟨s b p, q⟩)
theorem ROs.mono : ∀ {xs vs F G}, ROs K H xs vs F → (∀ a, F a → G a) → ROs K H xs vs G
  | _, _, _, _, .nil, _ => .nil
  | _, _, _, _, .cons F1 F2 h r a b d, s => .cons F1 F2 h r (fun x z => s x (a x z)) (fun x z => s x (b x z)) d
end
mutual
/-- only what stands counts -/
theorem RO.dom : ∀ {x v F}, RO K H x v F → RO K H x v (fun a => F a ∧ ∃ o, H a = some o)
  | _, _, _, .d h => .d h
  | _, _, _, .lst h f r => .lst h ⟨f, _, h⟩ (ROs.mono (ROs.dom r) fun b ⟨⟨p, q⟩, z⟩ => ⟨⟨p, z⟩, q⟩)
  | _, _, _, .dct h f e r => .dct h ⟨f, _, h⟩ e (ROs.mono (ROs.dom r) fun b ⟨⟨p, q⟩, z⟩ => ⟨⟨p, z⟩, q⟩)
  | _, _, _, .dcT h f e r => .dcT h ⟨f, _, h⟩ e (ROs.mono (ROs.dom r) fun b ⟨⟨p, q⟩, z⟩ => ⟨⟨p, z⟩, q⟩)
  | _, _, _, .ins h f e r => .ins h ⟨f, _, h⟩ e (ROs.mono (ROs.dom r) fun b ⟨⟨p, q⟩, z⟩ => ⟨⟨p, z⟩, q⟩)
theorem ROs.dom : ∀ {xs vs F}, ROs K H xs vs F → ROs K H xs vs (fun a => F a ∧ ∃ o, H a = some o)
  | _, _, _, .nil => .nil
  | _, _, _, .cons F1 F2 h r a b d => .cons _ _ (RO.dom h) (ROs.dom r) (fun x z => ⟨a x z.1, z.2⟩) (fun x z => ⟨b x z.1, z.2⟩) fun x p q => d x p.1 q.1
end
mutual
/-- what stands apart from a step stays -/
theorem RO.step {F : Fp} (s : Step F H H') : ∀ {x v G}, RO K H x v G → Disj G F → RO K H' x v G
  | _, _, _, .d h, _ => .d (h.keep s.pers)
  | _, _, _, .lst h f r, d => .lst (s.keep _ _ h (d _ f)) f (ROs.step s r fun b p q => d b p.1 q)
  | _, _, _, .dct h f e r, d => .dct (s.keep _ _ h (d _ f)) f e (ROs.step s r fun b p q => d b p.1 q)
  | _, _, _, .dcT h f e r, d => .dcT (s.keep _ _ h (d _ f)) f e (ROs.step s r fun b p q => d b p.1 q)
  | _, _, _, .ins h f e r, d => .ins (s.keep _ _ h (d _ f)) f e (ROs.step s r fun b p q => d b p.1 q)
theorem ROs.step {F : Fp} (s : Step F H H') : ∀ {xs vs G}, ROs K H xs vs G → Disj G F → ROs K H' xs vs G
  | _, _, _, .nil, _ => .nil
  | _, _, _, .cons F1 F2 h r a b dd, d => .cons F1 F2 (RO.step s h fun x p q => d x (a x p) q) (ROs.step s r fun x p q => d x (b x p) q) a b dd
end
theorem ROs.length : ∀ {xs vs F}, ROs K H xs vs F → xs.length = vs.length
  | _, _, _, .nil => rfl
  | _, _, _, .cons _ _ _ r _ _ _ => by simp [ROs.length r]
theorem RDs.os {F : Fp} : ∀ {xs vs}, RDs K H xs vs → ROs K H (xs.map O.d) vs F
  | _, _, .nil => .nil
  | _, _, .cons h r => .cons nof nof (.d h) (RDs.os r) (fun _ z => z.elim) (fun _ z => z.elim) (fun _ z _ => z)
theorem RO.od {x : D} {v : V} {F : Fp} (h : RO K H (.d x) v F) : RD K H x v := by cases h; assumption
end

/-! ### the places of a def -/
abbrev Env := List (Option O)
section
variable (K : PySem.W.Frag) (H : Hp)
inductive RelE : Env → L2.St → Fp → Prop
  | nil {F} : RelE [] [] F
  | no {env σ s F} : RelE env σ F → RelE (none :: env) (s :: σ) F
  | so {o v env σ F} (F1 F2 : Fp) : RO K H o v F1 → RelE env σ F2 → (∀ b, F1 b → F b) → (∀ b, F2 b → F b) → Disj F1 F2 → RelE (some o :: env) (some v :: σ) F
end
section
variable {K : PySem.W.Frag} {H H' : Hp}
theorem RelE.length : ∀ {env σ F}, RelE K H env σ F → env.length = σ.length
  | _, _, _, .nil => rfl
  | _, _, _, .no r => by simp [r.length]
  | _, _, _, .so _ _ _ r _ _ _ => by simp [r.length]
theorem RelE.mono : ∀ {env σ F G}, RelE K H env σ F → (∀ a, F a → G a) → RelE K H env σ G
  | _, _, _, _, .nil, _ => .nil
  | _, _, _, _, .no r, s => .no (r.mono s)
  | _, _, _, _, .so F1 F2 h r a b d, s => .so F1 F2 h r (fun x z => s x (a x z)) (fun x z => s x (b x z)) d
theorem RelE.dom : ∀ {env σ F}, RelE K H env σ F → RelE K H env σ (fun a => F a ∧ ∃ o, H a = some o)
  | _, _, _, .nil => .nil
  | _, _, _, .no r => .no r.dom
  | _, _, _, .so F1 F2 h r a b d => .so _ _ h.dom r.dom (fun x z => ⟨a x z.1, z.2⟩) (fun x z => ⟨b x z.1, z.2⟩) fun x p q => d x p.1 q.1
theorem RelE.step {F : Fp} (s : Step F H H') : ∀ {env σ G}, RelE K H env σ G → Disj G F → RelE K H' env σ G
  | _, _, _, .nil, _ => .nil
  | _, _, _, .no r, d => .no (r.step s d)
  | _, _, _, .so F1 F2 h r a b dd, d => .so F1 F2 (h.step s fun x p q => d x (a x p) q) (r.step s fun x p q => d x (b x p) q) a b dd
/-- a place is taken out -/
theorem RelE.take : ∀ {env σ F} {i : Nat} {o : O}, RelE K H env σ F → env[i]? = some (some o) → ∃ v F1 F2, σ[i]? = some (some v) ∧ RO K H o v F1 ∧ RelE K H (env.set i none) σ F2 ∧ (∀ b, F1 b → F b) ∧ (∀ b, F2 b → F b) ∧ Disj F1 F2
  | _, _, _, 0, _, .so F1 F2 h r a b d, e => by cases e; exact ⟨_, F1, F2, rfl, h, .no r, a, b, d⟩
  | _, _, _, i + 1, _, .no r, e => by
    obtain ⟨v, F1, F2, q, h, r', a, b, d⟩ := RelE.take (i := i) r (by simpa using e)
    exact ⟨v, F1, F2, by simpa using q, h, .no r', a, b, d⟩
  | _, _, _, i + 1, _, .so F1 F2 h0 r a0 b0 d0, e => by
    obtain ⟨v, G1, G2, q, h, r', a, b, d⟩ := RelE.take (i := i) r (by simpa using e)
    exact ⟨v, G1, fun x => F1 x ∨ G2 x, by simpa using q, h, .so F1 G2 h0 r' (fun _ z => .inl z) (fun _ z => .inr z) (fun x p q => d0 x p (b x q)),
      fun x z => b0 x (a x z), fun x z => z.elim (a0 x) fun z => b0 x (b x z), fun x p q => q.elim (fun q => d0 x q (a x p)) (d x p)⟩
/-- .. and put -/
theorem RelE.put : ∀ {env σ F} {i : Nat} {o : O} {v : V} {F1 : Fp}, RelE K H env σ F → i < σ.length → RO K H o v F1 → Disj F1 F → RelE K H (env.set i (some o)) (σ.set i (some v)) (fun a => F1 a ∨ F a)
  | _, _, _, 0, _, _, F1, .no r, _, h, d => .so F1 _ h r (fun _ z => .inl z) (fun _ z => .inr z) d
  | _, _, _, 0, _, _, F1, .so G1 G2 g r a b dd, _, h, d => .so F1 G2 h r (fun _ z => .inl z) (fun x z => .inr (b x z)) (fun x p q => d x p (b x q))
  | _, _, _, i + 1, _, _, F1, .no r, l, h, d => .no (RelE.put r (by simpa using l) h d)
  | _, _, _, i + 1, _, _, F1, .so G1 G2 g r a b dd, l, h, d =>
    .so G1 (fun x => F1 x ∨ G2 x) g (RelE.put r (by simpa using l) h fun x p q => d x p (b x q)) (fun x z => .inr (a x z)) (fun x z => z.elim .inl fun z => .inr (b x z)) fun x p q => q.elim (fun q => d x q (a x p)) (dd x p)
theorem RelE.drop : ∀ {env σ F} {i : Nat}, RelE K H env σ F → RelE K H (env.set i none) σ F
  | _, _, _, _, .nil => .nil
  | _, _, _, 0, .no r => .no r
  | _, _, _, 0, .so F1 F2 h r a b d => .no (r.mono b)
  | _, _, _, i + 1, .no r => .no (RelE.drop r)
  | _, _, _, i + 1, .so F1 F2 h r a b d => .so F1 F2 h (RelE.drop r) a b d
/-- back to the same place -/
theorem RelE.back {env : Env} {σ : L2.St} {F F1 : Fp} {i : Nat} {o : O} {v : V} (r : RelE K H env σ F) (hv : σ[i]? = some (some v)) (h : RO K H o v F1) (d : Disj F1 F) : RelE K H (env.set i (some o)) σ (fun a => F1 a ∨ F a) := by
  have hl : i < σ.length := (List.getElem?_eq_some_iff.mp hv).1
  have e : σ.set i (some v) = σ := by
    apply List.ext_getElem?
    intro j
    by_cases z : i = j
    · subst z; rw [List.getElem?_set_self hl, hv]
    · rw [List.getElem?_set_ne z]
  have q := RelE.put r hl h d
  rwa [e] at q
theorem RelE.getD {env : Env} {σ : L2.St} {F : Fp} {i : Nat} {x : D} (r : RelE K H env σ F) (e : env[i]? = some (some (.d x))) : ∃ v, σ[i]? = some (some v) ∧ RD K H x v := by
  obtain ⟨v, F1, F2, q, h, _⟩ := r.take e
  exact ⟨v, q, h.od⟩
end
end TL

set_option maxHeartbeats 1000000
namespace TL
open PySem L2

/-! ### runs over the places -/
abbrev M (α : Type) := Env → Option (α × Env)
def ret {α : Type} (a : α) : M α := fun e => some (a, e)
def bnd {α β : Type} (f : M α) (g : α → M β) : M β := fun e => match f e with
  | some (a, e') => g a e'
  | none => none
def lift {α : Type} (o : Option α) : M α := fun e => match o with
  | some a => some (a, e)
  | none => none
def Post {α : Type} (P : α → Env → Prop) : Option (α × Env) → Prop
  | some (a, e) => P a e
  | none => False
theorem Post.bnd {α β : Type} {f : M α} {g : α → M β} {P : β → Env → Prop} {e : Env} (h : Post P (bnd f g e)) : Post (fun a e' => Post P (g a e')) (f e) := by
  unfold TL.bnd at h
  cases q : f e with
  | none => rw [q] at h; exact h
  | some r => rw [q] at h; exact h
theorem Post.mono {α : Type} {P Q : α → Env → Prop} {r : Option (α × Env)} (h : Post P r) (k : ∀ a e, P a e → Q a e) : Post Q r := by
  cases r with
  | none => exact h
  | some r => exact k _ _ h
theorem Post.lift {α β : Type} {o : Option α} {g : α → M β} {P : β → Env → Prop} {e : Env} (h : Post P (TL.bnd (TL.lift o) g e)) : ∃ a, o = some a ∧ Post P (g a e) := by
  cases o with
  | none => exact h.elim
  | some a => exact ⟨a, rfl, h⟩
/-- a value that was taken out of a place goes back there -/
def rst : Option Nat → O → M Unit
  | none, _ => fun e => some ((), e)
  | some i, o => fun e => some ((), e.set i (some o))
/-- the value of a place: what changes no more is copied; else it is taken out -/
def mv (i : Nat) : M O := fun e => match e[i]? with
  | some (some (.d x)) => some (.d x, e)
  | some (some o) => some (o, e.set i none)
  | _ => none
def op (i : Nat) : M (O × Option Nat) := fun e => match e[i]? with
  | some (some (.d x)) => some ((.d x, none), e)
  | some (some o) => some ((o, some i), e.set i none)
  | _ => none
def tmp (f : M O) : M (O × Option Nat) := bnd f fun o => ret (o, none)

def Dom (F : Fp) (H : Hp) : Prop := ∀ a, F a → ∃ o, H a = some o
abbrev Or (F G : Fp) : Fp := fun a => F a ∨ G a
theorem disj_new {R F G : Fp} {H : Hp} (d : Disj R F) (m : Dom R H) (s : Sub G F H) : Disj R G := fun a p q => by
  rcases s a q with z | z
  · exact d a p z
  · obtain ⟨o, e⟩ := m a p; rw [z] at e; cases e
theorem Dom.step {F E : Fp} {H H' : Hp} (m : Dom F H) (s : Step E H H') : Dom F H' := fun a p => let ⟨_, e⟩ := m a p; s.there a _ e

/-! ### judgements -/
section
variable (X : Cx)
/-- behind an expression: the value, the places -/
def PV (F : Fp) (σ : L2.St) (H : Hp) (Q : VK) (o : O) (env : Env) : Prop :=
  ∀ v H' F1 F2, RO X.K H' o v F1 → RelE X.K H' env σ F2 → Disj F1 F2 → Step F H H' → Sub (Or F1 F2) F H → Q v H'
def tOf (f : M O) : TE := fun σ H Q => ∃ env F, RelE X.K H env σ F ∧ Post (PV X F σ H Q) (f env)
def PO' (F : Fp) (σ : L2.St) (H : Hp) (Q : VK) (r : O × Option Nat) (env : Env) : Prop :=
  ∀ v H' F1 F2, RO X.K H' r.1 v F1 → RelE X.K H' env σ F2 → Disj F1 F2 → Step F H H' → Sub (Or F1 F2) F H → (∀ i, r.2 = some i → σ[i]? = some (some v)) → Q v H'
def tOp' (f : M (O × Option Nat)) : TE := fun σ H Q => ∃ env F, RelE X.K H env σ F ∧ Post (PO' X F σ H Q) (f env)
def PB (F : Fp) (σ : L2.St) (H : Hp) (Q : Bool → Hp → Prop) (b : Bool) (env : Env) : Prop :=
  ∀ H' F2, RelE X.K H' env σ F2 → Step F H H' → Sub F2 F H → Q b H'
def tBf (f : M Bool) : TT := fun σ H Q => ∃ env F, RelE X.K H env σ F ∧ Post (PB X F σ H Q) (f env)
def PL (F : Fp) (σ : L2.St) (H : Hp) (Q : List V → Hp → Prop) (os : List O) (env : Env) : Prop :=
  ∀ vs H' F1 F2, ROs X.K H' os vs F1 → RelE X.K H' env σ F2 → Disj F1 F2 → Step F H H' → Sub (Or F1 F2) F H → Q vs H'
def tLf (f : M (List O)) : TA := fun σ H Q => ∃ env F, RelE X.K H env σ F ∧ Post (PL X F σ H Q) (f env)
def SE (e : Expr) (f : M O) : Prop := PE X e (tOf X f)
def OE (e : Expr) (f : M (O × Option Nat)) : Prop := PE X e (tOp' X f)
def BE (e : Expr) (f : M Bool) : Prop := PT X e (tBf X f)
def BW (e : Expr) (f : M Bool) : Prop := PW X e (tBf X f)
def AE (es : List Expr) (f : M (List O)) : Prop := PA X es (tLf X f)
end
section
variable {X : Cx}
theorem PE.imp {e : Expr} {t t' : TE} (h : PE X e t) (k : ∀ σ H Q, t' σ H Q → t σ H Q) : PE X e t' := ⟨fun pins s σ H Q I q => h.run pins s σ H Q I (k _ _ _ q)⟩
theorem PT.imp {e : Expr} {t t' : TT} (h : PT X e t) (k : ∀ σ H Q, t' σ H Q → t σ H Q) : PT X e t' := ⟨fun pins s σ H Q I q => h.run pins s σ H Q I (k _ _ _ q)⟩
theorem PW.imp {e : Expr} {t t' : TT} (h : PW X e t) (k : ∀ σ H Q, t' σ H Q → t σ H Q) : PW X e t' := ⟨fun wh pins s σ H Q I q => h.run wh pins s σ H Q I (k _ _ _ q)⟩
theorem PA.imp {e : List Expr} {t t' : TA} (h : PA X e t) (k : ∀ σ H Q, t' σ H Q → t σ H Q) : PA X e t' := ⟨fun pos pins s σ H Q I q => h.run pos pins s σ H Q I (k _ _ _ q)⟩

/-- what one knows behind a part: value at F1, places at F2, all of it from F or new -/
structure Aft (X : Cx) (F : Fp) (H H' : Hp) (σ : L2.St) (env : Env) (F1 F2 : Fp) : Prop where
  rel : RelE X.K H' env σ F2
  dj : Disj F1 F2
  st : Step F H H'
  sub : Sub (Or F1 F2) F H
  d1 : Dom F1 H'
  d2 : Dom F2 H'
theorem tOf_bind {β : Type} {f : M O} {k : O → M β} {P : β → Env → Prop} {σ : L2.St} {H : Hp} {Q : VK} {env : Env} {F : Fp} (rel : RelE X.K H env σ F) (h : Post P (bnd f k env))
    (c : ∀ o env' v H' F1 F2, RO X.K H' o v F1 → Aft X F H H' σ env' F1 F2 → Post P (k o env') → Q v H') : tOf X f σ H Q :=
  ⟨env, F, rel, h.bnd.mono fun o e' q v H' F1 F2 ro re dj st sub => c o e' v H' _ _ ro.dom ⟨re.dom, fun a p q => dj a p.1 q.1, st, fun a z => sub a (z.imp And.left And.left), fun a p => p.2, fun a p => p.2⟩ q⟩
theorem tOp_bind {β : Type} {f : M (O × Option Nat)} {k : O × Option Nat → M β} {P : β → Env → Prop} {σ : L2.St} {H : Hp} {Q : VK} {env : Env} {F : Fp} (rel : RelE X.K H env σ F) (h : Post P (bnd f k env))
    (c : ∀ r env' v H' F1 F2, RO X.K H' r.1 v F1 → Aft X F H H' σ env' F1 F2 → (∀ i, r.2 = some i → σ[i]? = some (some v)) → Post P (k r env') → Q v H') : tOp' X f σ H Q :=
  ⟨env, F, rel, h.bnd.mono fun o e' q v H' F1 F2 ro re dj st sub g => c o e' v H' _ _ ro.dom ⟨re.dom, fun a p q => dj a p.1 q.1, st, fun a z => sub a (z.imp And.left And.left), fun a p => p.2, fun a p => p.2⟩ g q⟩
theorem tBf_bind {β : Type} {f : M Bool} {k : Bool → M β} {P : β → Env → Prop} {σ : L2.St} {H : Hp} {Q : Bool → Hp → Prop} {env : Env} {F : Fp} (rel : RelE X.K H env σ F) (h : Post P (bnd f k env))
    (c : ∀ b env' H' F2, Aft X F H H' σ env' nof F2 → Post P (k b env') → Q b H') : tBf X f σ H Q :=
  ⟨env, F, rel, h.bnd.mono fun o e' q H' F2 re st sub => c o e' H' _ ⟨re.dom, fun a p q => p.elim, st, fun a z => sub a (z.elim False.elim And.left), fun a p => p.elim, fun a p => p.2⟩ q⟩
theorem tLf_bind {β : Type} {f : M (List O)} {k : List O → M β} {P : β → Env → Prop} {σ : L2.St} {H : Hp} {Q : List V → Hp → Prop} {env : Env} {F : Fp} (rel : RelE X.K H env σ F) (h : Post P (bnd f k env))
    (c : ∀ os env' vs H' F1 F2, ROs X.K H' os vs F1 → Aft X F H H' σ env' F1 F2 → Post P (k os env') → Q vs H') : tLf X f σ H Q :=
  ⟨env, F, rel, h.bnd.mono fun o e' q v H' F1 F2 ro re dj st sub => c o e' v H' _ _ ro.dom ⟨re.dom, fun a p q => dj a p.1 q.1, st, fun a z => sub a (z.imp And.left And.left), fun a p => p.2, fun a p => p.2⟩ q⟩
/-- a part behind a part: what is held (G) stays -/
theorem Aft.next {F F1 F2 F3 F4 : Fp} {H H1 H2 : Hp} {σ : L2.St} {env env' : Env} (a : Aft X F H H1 σ env F1 F2) (b : Aft X F2 H1 H2 σ env' F3 F4) :
    Step F H H2 ∧ Sub (Or F1 (Or F3 F4)) F H ∧ Disj F1 F3 ∧ Disj F1 F4 ∧ Dom F1 H2 := by
  have dn : Disj F1 (Or F3 F4) := disj_new a.dj a.d1 b.sub
  refine ⟨a.st.trans b.st fun x q => a.sub x (.inr q), fun x q => ?_, fun x p q => dn x p (.inl q), fun x p q => dn x p (.inr q), a.d1.step b.st⟩
  rcases q with q | q
  · exact a.sub x (.inl q)
  · rcases b.sub x q with z | z
    · exact a.sub x (.inr z)
    · exact .inr (a.st.free z)
theorem rst_ok {β : Type} {ri : Option Nat} {o : O} {k : Unit → M β} {P : β → Env → Prop} {env : Env} {σ : L2.St} {H : Hp} {F G : Fp} {v : V} (rel : RelE X.K H env σ F) (ro : RO X.K H o v G) (dj : Disj G F) (hi : ∀ i, ri = some i → σ[i]? = some (some v))
    (h : Post P (bnd (rst ri o) k env)) : ∃ env', RelE X.K H env' σ (Or G F) ∧ Post P (k () env') := by
  cases ri with
  | none => exact ⟨env, rel.mono fun a z => .inr z, h⟩
  | some i => exact ⟨env.set i (some o), rel.back (hi i rfl) ro dj, h⟩

/-! ### names, constants -/
theorem se_name (i : Nat) {x : Str} {pos : Pos} (hN : X.N[i]? = some x := by rfl) (hv : Vis X.env.scope x := by first | exact Or.inl rfl | exact Or.inr (Or.inl rfl) | exact Or.inr (Or.inr rfl)) (hd : (x == ("__debug__" : Str)) = false := by decide)
    (hcd : (x == ("__classdict__" : Str)) = false := by decide) : SE X (.Name x pos) (mv i) := by
  refine PE.imp (pe_var hN hv hd hcd) fun σ H Q ⟨env, F, rel, h⟩ => ?_
  unfold mv at h
  split at h
  · rename_i x e
    obtain ⟨v, e1, r⟩ := rel.getD e
    exact ⟨v, e1, h v H nof F (.d r) rel (fun a z _ => z) .refl fun a z => .inl (z.elim False.elim id)⟩
  · rename_i o _ e
    obtain ⟨v, F1, F2, e1, r, rel', a, b, d⟩ := rel.take e
    exact ⟨v, e1, h v H F1 F2 r rel' d .refl fun x z => .inl (z.elim (a x) (b x))⟩
  · exact h.elim
theorem oe_name (i : Nat) {x : Str} {pos : Pos} (hN : X.N[i]? = some x := by rfl) (hv : Vis X.env.scope x := by first | exact Or.inl rfl | exact Or.inr (Or.inl rfl) | exact Or.inr (Or.inr rfl)) (hd : (x == ("__debug__" : Str)) = false := by decide)
    (hcd : (x == ("__classdict__" : Str)) = false := by decide) : OE X (.Name x pos) (op i) := by
  refine PE.imp (pe_var hN hv hd hcd) fun σ H Q ⟨env, F, rel, h⟩ => ?_
  unfold op at h
  split at h
  · rename_i x e
    obtain ⟨v, e1, r⟩ := rel.getD e
    exact ⟨v, e1, h v H nof F (.d r) rel (fun a z _ => z) .refl (fun a z => .inl (z.elim False.elim id)) (fun _ z => nomatch z)⟩
  · rename_i o _ e
    obtain ⟨v, F1, F2, e1, r, rel', a, b, d⟩ := rel.take e
    exact ⟨v, e1, h v H F1 F2 r rel' d .refl (fun x z => .inl (z.elim (a x) (b x))) (fun j z => by cases z; exact e1)⟩
  · exact h.elim
theorem oe_of {e : Expr} {f : M O} (h : SE X e f) : OE X e (tmp f) := by
  refine PE.imp h fun σ H Q ⟨env, F, rel, q⟩ => ?_
  exact tOf_bind rel q fun o env' v H' F1 F2 ro a q => q v H' F1 F2 ro a.rel a.dj a.st a.sub (fun _ z => nomatch z)
def con (x : D) : M O := ret (.d x)
theorem se_con {e : Expr} {v : V} {x : D} (h : PE X e (tC v)) (r : ∀ H, RD X.K H x v) : SE X e (con x) :=
  PE.imp h fun σ H Q ⟨env, F, rel, q⟩ => q v H nof F (.d (r H)) rel (fun a z _ => z) .refl fun a z => .inl (z.elim False.elim id)
theorem se_int {i j pos} : SE X (.Constant (.int i) j pos) (con (.int i)) := se_con pe_int fun _ => .int i
theorem se_bl {b j pos} : SE X (.Constant (.bool b) j pos) (con (.bl b)) := se_con pe_bl fun _ => .bl b
theorem se_non {j pos} : SE X (.Constant .none j pos) (con .non) := se_con pe_non fun _ => .non
theorem se_str {x j pos} : SE X (.Constant (.str x) j pos) (con (.str x)) := se_con pe_str fun _ => .str x

/-! ### operators by values -/
/-- what an operation hands back is new, or changes no more; nothing else changes -/
def New (K : PySem.W.Frag) (H : Hp) (r : O) (z : V) (H' : Hp) : Prop := ∃ F', RO K H' r z F' ∧ Step nof H H' ∧ Sub F' nof H
theorem New.d {K : PySem.W.Frag} {H : Hp} {x : D} {z : V} (h : RD K H x z) : New K H (.d x) z H := ⟨nof, .d h, .refl, fun _ z => z.elim⟩
variable (X) in
def OpS (f : Value → Value → Sem Value) (g : O → O → Option O) : Prop :=
  ∀ (pins : List (Addr × Obj)) (s : Shared) (σ : L2.St) (H : Hp) (x y : V) (v u : Value) (ox oy r : O) (F G : Fp), Inv X pins σ H s → RelV x v → RelV y u → RO X.K H ox x F → RO X.K H oy y G → g ox oy = some r →
    wpAny (model X.prog X.w) X.A (f v u) (EP X pins σ (New X.K H r)) X.xe s
theorem OpS.of {f : Value → Value → Sem Value} {g : O → O → Option O} {r : R2} (h : OpR X f r) (k : ∀ H x y ox oy F G o, RO X.K H ox x F → RO X.K H oy y G → g ox oy = some o → r x y H (New X.K H o)) : OpS X f g :=
  fun pins s σ H x y v u ox oy o F G I rx ry ro1 ro2 e => h pins s σ H x y v u _ I rx ry (k H x y ox oy F G o ro1 ro2 e)
/-- the first of two that knows the values -/
def orO (g g' : O → O → Option O) : O → O → Option O := fun x y => match g x y with
  | some r => some r
  | none => g' x y
theorem OpS.or {f : Value → Value → Sem Value} {g g' : O → O → Option O} (h : OpS X f g) (h' : OpS X f g') : OpS X f (orO g g') := by
  intro pins s σ H x y v u ox oy o F G I rx ry ro1 ro2 e
  unfold orO at e
  cases q : g ox oy with
  | some r => rw [q] at e; cases e; exact h pins s σ H x y v u ox oy _ F G I rx ry ro1 ro2 q
  | none => rw [q] at e; exact h' pins s σ H x y v u ox oy _ F G I rx ry ro1 ro2 e
/-- the rule's form of an operation by values -/
def rOf (K : PySem.W.Frag) (g : O → O → Option O) : R2 := fun x y H Q => ∃ ox oy r F G, RO K H ox x F ∧ RO K H oy y G ∧ g ox oy = some r ∧ ∀ z H', New K H r z H' → Q z H'
theorem OpS.rule {f : Value → Value → Sem Value} {g : O → O → Option O} (h : OpS X f g) : OpR X f (rOf X.K g) := by
  intro pins s σ H x y v u Q I rx ry ⟨ox, oy, r, F, G, r1, r2, e, q⟩
  exact thn (h pins s σ H x y v u ox oy r F G I rx ry r1 r2 e) fun w s' ⟨z, H', I', rz, n⟩ => ⟨z, H', I', rz, q z H' n⟩
def cBin (g : O → O → Option O) (fa fb : M (O × Option Nat)) : M O :=
  bnd fa fun x => bnd fb fun y => bnd (lift (g x.1 y.1)) fun r => bnd (rst y.2 y.1) fun _ => bnd (rst x.2 x.1) fun _ => ret r
theorem bin_ok {g : O → O → Option O} {fa fb : M (O × Option Nat)} {σ : L2.St} {H : Hp} {Q : VK} (h : tOf X (cBin g fa fb) σ H Q) : tOp (rOf X.K g) (tOp' X fa) (tOp' X fb) σ H Q := by
  obtain ⟨env, F, rel, h⟩ := h
  refine tOp_bind rel h fun x env1 v H1 F1 F2 ro1 a g1 h => ?_
  refine tOp_bind a.rel h fun y env2 u H2 F3 F4 ro2 b g2 h => ?_
  obtain ⟨r, e, h⟩ := h.lift
  obtain ⟨st, sub, d13, d14, dm⟩ := a.next b
  have ro1' := ro1.step b.st a.dj
  refine ⟨x.1, y.1, r, F1, F3, ro1', ro2, e, fun z H' ⟨F', rz, st', sub'⟩ => ?_⟩
  have rel2 := b.rel.step st' fun _ _ z => z
  obtain ⟨env3, rel3, h⟩ := rst_ok rel2 (ro2.step st' fun _ _ z => z) b.dj g2 h
  obtain ⟨env4, rel4, h⟩ := rst_ok rel3 (ro1'.step st' fun _ _ z => z) (fun q m n => n.elim (d13 q m) (d14 q m)) g1 h
  refine h z H' F' _ rz rel4 (fun q m n => ?_) (st.trans st' fun _ z => z.elim) fun q m => ?_
  · have hn : H2 q = none := (sub' q m).elim False.elim id
    rcases n with n | n | n
    · obtain ⟨o, eo⟩ := dm q n; rw [hn] at eo; cases eo
    · obtain ⟨o, eo⟩ := b.d1 q n; rw [hn] at eo; cases eo
    · obtain ⟨o, eo⟩ := b.d2 q n; rw [hn] at eo; cases eo
  · rcases m with m | m
    · exact .inr (st.free ((sub' q m).elim False.elim id))
    · exact sub q m
theorem se_bin {op : Operator} {g : O → O → Option O} {a b : Expr} {fa fb : M (O × Option Nat)} {pos : Pos} (ho : OpS X (binaryOp op) g) (ha : OE X a fa) (hb : OE X b fb) : SE X (.BinOp a op b pos) (cBin g fa fb) :=
  PE.imp (pe_op ho.rule ha hb) fun _ _ _ h => bin_ok h
theorem se_cmp {op : CmpOp} {g : O → O → Option O} {a b : Expr} {fa fb : M (O × Option Nat)} {pos : Pos} (ho : OpS X (compareOp op) g) (ha : OE X a fa) (hb : OE X b fb) (hm : behindInMarks op b = false) : SE X (.Compare a [op] [b] pos) (cBin g fa fb) :=
  PE.imp (pe_cmpR ho.rule ha hb hm) fun _ _ _ h => bin_ok h
/-- a value as a test: a truth -/
def asB (f : M O) : M Bool := bnd f fun o => lift (match o with | .d (.bl b) => some b | _ => none)
theorem test_ok {e : Expr} {f : M O} {t : TE} {σ : L2.St} {H : Hp} {Q : Bool → Hp → Prop} (k : ∀ σ H Q, tOf X f σ H Q → t σ H Q) (h : tBf X (asB f) σ H Q) : tTest t σ H Q := by
  obtain ⟨env, F, rel, h⟩ := h
  refine k _ _ _ (tOf_bind rel h fun o env1 v H1 F1 F2 ro a h => ?_)
  cases o with
  | d x =>
    cases x with
    | bl b =>
      cases ro.od
      exact ⟨b, rfl, h H1 F2 a.rel a.st fun q m => a.sub q (.inr m)⟩
    | _ => exact h.elim
  | _ => exact h.elim
theorem be_cmp {op : CmpOp} {g : O → O → Option O} {a b : Expr} {fa fb : M (O × Option Nat)} {pos : Pos} (ho : OpS X (compareOp op) g) (ha : OE X a fa) (hb : OE X b fb) (hm : behindInMarks op b = false) : BE X (.Compare a [op] [b] pos) (asB (cBin g fa fb)) :=
  PT.imp (pt_cmpR ho.rule ha hb hm) fun _ _ _ h => test_ok (e := a) (fun _ _ _ => bin_ok) h
end
end TL

set_option maxHeartbeats 1000000
namespace TL
open PySem L2

/-! ### what a value is -/
def dOnly : List O → Option (List D)
  | [] => some []
  | .d x :: r => (dOnly r).map (x :: ·)
  | _ :: _ => none
def asL : O → Option (List D)
  | .d (.lst xs) => some xs
  | .d (.scr xs) => some xs
  | .lst os => dOnly os
  | _ => none
def asL' : O → Option (List D)
  | .d (.lst xs) => some xs
  | .lst os => dOnly os
  | _ => none
def asT : O → Option (List D)
  | .d (.tup xs) => some xs
  | _ => none
def asQ (o : O) : Option (List D) := match asT o with
  | some xs => some xs
  | none => asL o
section
variable {K : PySem.W.Frag} {H : Hp}
theorem dOnly_ok : ∀ {os : List O} {vs : List V} {F : Fp} {xs : List D}, ROs K H os vs F → dOnly os = some xs → RDs K H xs vs
  | [], _, _, _, r, e => by cases r; cases e; exact .nil
  | .d x :: os, _, _, _, .cons F1 F2 h r a b d, e => by
    unfold dOnly at e
    cases q : dOnly os with
    | none => rw [q] at e; cases e
    | some ys => rw [q] at e; cases e; exact .cons h.od (dOnly_ok r q)
  | .lst _ :: _, _, _, _, _, e => by cases e
  | .dct _ :: _, _, _, _, _, e => by cases e
  | .dcT _ :: _, _, _, _, _, e => by cases e
  | .ins _ _ :: _, _, _, _, _, e => by cases e
theorem asL_ok {o : O} {v : V} {F : Fp} {xs : List D} (r : RO K H o v F) (e : asL o = some xs) : ∃ a vs, v = .ref a ∧ SqL K H a vs ∧ RDs K H xs vs := by
  cases o with
  | d x =>
    cases x with
    | lst ys => cases e; cases r.od with | lst h q => exact ⟨_, _, rfl, .inl (.inr ⟨_, h⟩), q⟩
    | scr ys => cases e; cases r.od with | scr h q => exact ⟨_, _, rfl, h.sq, q⟩
    | _ => cases e
  | lst os => cases r with | lst h f q => exact ⟨_, _, rfl, .of h, dOnly_ok q e⟩
  | _ => cases e
theorem asL'_ok {o : O} {v : V} {F : Fp} {xs : List D} (r : RO K H o v F) (e : asL' o = some xs) : ∃ a vs, v = .ref a ∧ Rd H a (.lst vs) ∧ RDs K H xs vs := by
  cases o with
  | d x =>
    cases x with
    | lst ys => cases e; cases r.od with | lst h q => exact ⟨_, _, rfl, .inr ⟨_, h⟩, q⟩
    | _ => cases e
  | lst os => cases r with | lst h f q => exact ⟨_, _, rfl, .of h, dOnly_ok q e⟩
  | _ => cases e
theorem asT_ok {o : O} {v : V} {F : Fp} {xs : List D} (r : RO K H o v F) (e : asT o = some xs) : ∃ a vs, v = .ref a ∧ H a = some (.tup vs) ∧ RDs K H xs vs := by
  cases o with
  | d x =>
    cases x with
    | tup ys => cases e; cases r.od with | tup h q => exact ⟨_, _, rfl, h, q⟩
    | _ => cases e
  | _ => cases e
theorem asQ_ok {o : O} {v : V} {F : Fp} {xs : List D} (r : RO K H o v F) (e : asQ o = some xs) : ∃ a vs, v = .ref a ∧ (SqL K H a vs ∨ SqT K H a vs) ∧ RDs K H xs vs := by
  unfold asQ at e
  cases q : asT o with
  | some ys =>
    rw [q] at e; cases e
    obtain ⟨a, vs, e1, e2, e3⟩ := asT_ok r q
    exact ⟨a, vs, e1, .inr (.of e2), e3⟩
  | none =>
    rw [q] at e
    obtain ⟨a, vs, e1, e2, e3⟩ := asL_ok r e
    exact ⟨a, vs, e1, .inl e2, e3⟩
theorem RDs.append : ∀ {xs ys : List D} {vs ws : List V}, RDs K H xs vs → RDs K H ys ws → RDs K H (xs ++ ys) (vs ++ ws)
  | _, _, _, _, .nil, s => s
  | _, _, _, _, .cons h r, s => .cons h (RDs.append r s)
theorem RDs.get : ∀ {xs : List D} {vs : List V} {i : Nat} {x : D}, RDs K H xs vs → xs[i]? = some x → ∃ v, vs[i]? = some v ∧ RD K H x v
  | _, _, _, _, .nil, e => by simp at e
  | _, _, 0, _, .cons h r, e => by simp at e; subst e; exact ⟨_, rfl, h⟩
  | _, _, i + 1, _, .cons h r, e => by
    obtain ⟨v, a, b⟩ := RDs.get (i := i) r (by simpa using e)
    exact ⟨v, by simpa using a, b⟩
theorem RDs.take (n : Nat) : ∀ {xs : List D} {vs : List V}, RDs K H xs vs → RDs K H (xs.take n) (vs.take n) := by
  induction n with
  | zero => intro xs vs r; simp; exact .nil
  | succ n ih =>
    intro xs vs r
    cases r with
    | nil => simp; exact .nil
    | cons h r => simp only [List.take_succ_cons]; exact .cons h (ih r)
theorem RDs.drop (n : Nat) : ∀ {xs : List D} {vs : List V}, RDs K H xs vs → RDs K H (xs.drop n) (vs.drop n) := by
  induction n with
  | zero => intro xs vs r; simpa using r
  | succ n ih =>
    intro xs vs r
    cases r with
    | nil => simp; exact .nil
    | cons h r => simp only [List.drop_succ_cons]; exact ih r
theorem New.lst {H : Hp} {p : Addr} {xs : List D} {vs : List V} (h : H p = none) (r : RDs K H xs vs) : New K H (.lst (xs.map O.d)) (.ref p) (upd H p (.lst vs)) :=
  ⟨fun a => a = p, .lst upd_same rfl (RDs.os (RDs.keep (Step.new (F := nof) h).pers r)), .new h, fun a z => .inr (by subst z; exact h)⟩
theorem New.tup {H : Hp} {p : Addr} {xs : List D} {vs : List V} (h : H p = none) (r : RDs K H xs vs) : New K H (.d (.tup xs)) (.ref p) (upd H p (.tup vs)) :=
  ⟨nof, .d (.tup upd_same (RDs.keep (Step.new (F := nof) h).pers r)), .new h, fun _ z => z.elim⟩
end

/-! ### data that is compared, sorted, written -/
mutual
def D.py : D → Option PyData
  | .non => some .none
  | .bl b => some (.bool b)
  | .int i => some (.int i)
  | .str x => some (.str x)
  | .tup xs => match pys xs with
    | some ds => some (.tuple ds)
    | none => none
  | .lst xs => match pys xs with
    | some ds => some (.list ds)
    | none => none
  | .scr xs => match pys xs with
    | some ds => some (.list ds)
    | none => none
  | .dct _ => none
  | .dcT _ => none
  | .ins _ _ => none
  | .obj _ => none
  | .ty _ => none
def pys : List D → Option (List PyData)
  | [] => some []
  | x :: xs => match x.py, pys xs with
    | some d, some ds => some (d :: ds)
    | _, _ => none
end
section
variable {K : PySem.W.Frag} {H : Hp}
mutual
theorem RD.dp : ∀ {x : D} {v : V} {d : PyData}, RD K H x v → x.py = some d → Dp K H v d
  | .non, _, _, h, e => by rw [D.py] at e; cases e; cases h; exact .non
  | .bl b, _, _, h, e => by rw [D.py] at e; cases e; cases h; exact .bl b
  | .int i, _, _, h, e => by rw [D.py] at e; cases e; cases h; exact .int i
  | .str x, _, _, h, e => by rw [D.py] at e; cases e; cases h; exact .str x
  | .tup xs, _, _, h, e => by
    rw [D.py] at e
    cases q : pys xs with
    | none => rw [q] at e; cases e
    | some ds => rw [q] at e; cases e; cases h with | tup h r => exact .tup (.of h) (RDs.dp r q)
  | .lst xs, _, _, h, e => by
    rw [D.py] at e
    cases q : pys xs with
    | none => rw [q] at e; cases e
    | some ds => rw [q] at e; cases e; cases h with | lst h r => exact .lst (.inl (.inr ⟨_, h⟩)) (RDs.dp r q)
  | .scr xs, _, _, h, e => by
    rw [D.py] at e
    cases q : pys xs with
    | none => rw [q] at e; cases e
    | some ds => rw [q] at e; cases e; cases h with | scr h r => exact .lst h.sq (RDs.dp r q)
  | .dct _, _, _, _, e => by rw [D.py] at e; cases e
  | .dcT _, _, _, _, e => by rw [D.py] at e; cases e
  | .ins _ _, _, _, _, e => by rw [D.py] at e; cases e
  | .obj _, _, _, _, e => by rw [D.py] at e; cases e
  | .ty _, _, _, _, e => by rw [D.py] at e; cases e
theorem RDs.dp : ∀ {xs : List D} {vs : List V} {ds : List PyData}, RDs K H xs vs → pys xs = some ds → DpAll K H vs ds
  | [], _, _, h, e => by rw [pys] at e; cases e; cases h; exact .nil
  | x :: xs, _, _, h, e => by
    rw [pys] at e
    cases q : x.py with
    | none => rw [q] at e; cases e
    | some d =>
      cases q2 : pys xs with
      | none => rw [q, q2] at e; cases e
      | some ds => rw [q, q2] at e; cases e; cases h with | cons a b => exact .cons (RD.dp a q) (RDs.dp b q2)
end
mutual
theorem RO.dp : ∀ {o : O} {v : V} {F : Fp} {d : PyData}, RO K H o v F → o.shr.py = some d → Dp K H v d
  | .d x, _, _, _, h, e => by rw [O.shr] at e; exact h.od.dp e
  | .lst xs, _, _, _, h, e => by
    rw [O.shr, D.py] at e
    cases q : pys (shrs xs) with
    | none => rw [q] at e; cases e
    | some ds => rw [q] at e; cases e; cases h with | lst h f r => exact .lst (.of h) (ROs.dp r q)
  | .dct _, _, _, _, _, e => by rw [O.shr, D.py] at e; cases e
  | .dcT _, _, _, _, _, e => by rw [O.shr, D.py] at e; cases e
  | .ins _ _, _, _, _, _, e => by rw [O.shr, D.py] at e; cases e
theorem ROs.dp : ∀ {os : List O} {vs : List V} {F : Fp} {ds : List PyData}, ROs K H os vs F → pys (shrs os) = some ds → DpAll K H vs ds
  | [], _, _, _, h, e => by rw [shrs, pys] at e; cases e; cases h; exact .nil
  | x :: xs, _, _, _, h, e => by
    rw [shrs, pys] at e
    cases q : x.shr.py with
    | none => rw [q] at e; cases e
    | some d =>
      cases q2 : pys (shrs xs) with
      | none => rw [q, q2] at e; cases e
      | some ds => rw [q, q2] at e; cases e; cases h with | cons F1 F2 a b _ _ _ => exact .cons (RO.dp a q) (ROs.dp b q2)
end
end

/-! ### operators -/
/-- two ints -/
def gI (f : Int → Int → Option D) : O → O → Option O
  | .d (.int i), .d (.int j) => (f i j).map O.d
  | _, _ => none
def gS (f : Str → Str → Option D) : O → O → Option O
  | .d (.str i), .d (.str j) => (f i j).map O.d
  | _, _ => none
section
variable {X : Cx}
theorem gI_of {ox oy o : O} {f : Int → Int → Option D} {x y : V} {H : Hp} {F G : Fp} (r1 : RO X.K H ox x F) (r2 : RO X.K H oy y G) (e : gI f ox oy = some o) : ∃ i j d, x = .int i ∧ y = .int j ∧ f i j = some d ∧ o = .d d := by
  unfold gI at e
  split at e
  · rename_i i j
    cases q : f i j with
    | none => rw [q] at e; cases e
    | some d => rw [q] at e; cases e; cases r1.od; cases r2.od; exact ⟨i, j, d, rfl, rfl, q, rfl⟩
  · cases e
theorem gS_of {ox oy o : O} {f : Str → Str → Option D} {x y : V} {H : Hp} {F G : Fp} (r1 : RO X.K H ox x F) (r2 : RO X.K H oy y G) (e : gS f ox oy = some o) : ∃ i j d, x = .str i ∧ y = .str j ∧ f i j = some d ∧ o = .d d := by
  unfold gS at e
  split at e
  · rename_i i j
    cases q : f i j with
    | none => rw [q] at e; cases e
    | some d => rw [q] at e; cases e; cases r1.od; cases r2.od; exact ⟨i, j, d, rfl, rfl, q, rfl⟩
  · cases e
/-- an operator of two ints -/
theorem os_int {f : Value → Value → Sem Value} {C : Int → Int → Prop} [∀ i j, Decidable (C i j)] {g : Int → Int → Int} (h : OpR X f (rI C fun i j => .int (g i j))) : OpS X f (gI fun i j => if C i j then some (.int (g i j)) else none) :=
  .of h fun H x y ox oy F G o r1 r2 e => by
    obtain ⟨i, j, d, rfl, rfl, q, rfl⟩ := gI_of r1 r2 e
    split at q
    · rename_i c; cases q; exact ⟨i, j, rfl, rfl, c, .d (.int _)⟩
    · cases q
theorem os_int0 {f : Value → Value → Sem Value} {g : Int → Int → Int} (h : OpR X f (rI0 fun i j => .int (g i j))) : OpS X f (gI fun i j => some (.int (g i j))) :=
  .of h fun H x y ox oy F G o r1 r2 e => by
    obtain ⟨i, j, d, rfl, rfl, q, rfl⟩ := gI_of r1 r2 e
    cases q; exact ⟨i, j, rfl, rfl, .d (.int _)⟩
theorem os_intB {f : Value → Value → Sem Value} {g : Int → Int → Bool} (h : OpR X f (rI0 fun i j => .bl (g i j))) : OpS X f (gI fun i j => some (.bl (g i j))) :=
  .of h fun H x y ox oy F G o r1 r2 e => by
    obtain ⟨i, j, d, rfl, rfl, q, rfl⟩ := gI_of r1 r2 e
    cases q; exact ⟨i, j, rfl, rfl, .d (.bl _)⟩
instance (i j : Int) : Decidable (CMulW i j) := by unfold CMulW; infer_instance
instance (i j : Int) : Decidable (CDivW i j) := by unfold CDivW; infer_instance
def CPowW (i j : Int) : Prop := 0 ≤ j ∧ (Builtin.Int.intBits i : Int) * j ≤ 2 ^ 27
instance (i j : Int) : Decidable (CPowW i j) := by unfold CPowW; infer_instance
theorem op_powW : OpR X (binaryOp .Pow) (rI CPowW fun i j => .int (i ^ j.toNat)) := opI fun _ _ _ _ _ _ _ hc q => PyProof.Rows.pow_int hc.1 hc.2 q
/-- two lists -/
def gCatL : O → O → Option O := fun x y => match asL' x, asL' y with
  | some a, some b => if a.length + b.length ≤ sizeLine then some (.lst ((a ++ b).map O.d)) else none
  | _, _ => none
theorem os_catL : OpS X (binaryOp .Add) gCatL := by
  intro pins s σ H x y v u ox oy o F G I rx ry r1 r2 e
  unfold gCatL at e
  cases q1 : asL' ox with
  | none => rw [q1] at e; cases e
  | some a =>
    cases q2 : asL' oy with
    | none => rw [q1, q2] at e; cases e
    | some b =>
      rw [q1, q2] at e
      dsimp only at e
      split at e
      · rename_i hz
        cases e
        obtain ⟨p, xs, rfl, h1, d1⟩ := asL'_ok r1 q1
        obtain ⟨p', ys, rfl, h2, d2⟩ := asL'_ok r2 q2
        cases rx
        cases ry
        obtain ⟨z, its, n, r, g⟩ := h1.ok I.hok
        obtain ⟨z2, its2, n2, r', g2⟩ := h2.ok I.hok
        have l1 := r.length
        have l2 := r'.length
        have l3 := d1.length
        have l4 := d2.length
        refine PySem.P.add_list g g2 ?_ (by rw [List.size_toArray, List.size_toArray]; omega)
        have ea : its.toArray ++ its2.toArray = (its ++ its2).toArray := by simp
        rw [ea]
        exact ⟨.ref _, _, I.lnew (t' := s.toks) (r.append r') (by rw [List.length_append]; omega), rfl, .lst I.fresh (d1.append d2)⟩
      · cases e
def gCatT : O → O → Option O := fun x y => match asT x, asT y with
  | some a, some b => if a.length + b.length ≤ sizeLine then some (.d (.tup (a ++ b))) else none
  | _, _ => none
theorem os_catT : OpS X (binaryOp .Add) gCatT := .of op_catA fun H x y ox oy F G o r1 r2 e => by
  unfold gCatT at e
  cases q1 : asT ox with
  | none => rw [q1] at e; cases e
  | some a =>
    cases q2 : asT oy with
    | none => rw [q1, q2] at e; cases e
    | some b =>
      rw [q1, q2] at e
      dsimp only at e
      split at e
      · rename_i hz
        cases e
        obtain ⟨p, xs, rfl, h1, d1⟩ := asT_ok r1 q1
        obtain ⟨p', ys, rfl, h2, d2⟩ := asT_ok r2 q2
        have l3 := d1.length
        have l4 := d2.length
        refine ⟨p, p', xs, ys, rfl, rfl, .of h1, .of h2, by omega, fun e => ?_, fun n e => ?_, fun n n' p hp => ?_⟩
        · subst e; cases d1; exact .d (.tup h2 d2)
        · subst e; cases d2; rw [List.append_nil]; exact .d (.tup h1 d1)
        · exact .tup hp (d1.append d2)
      · cases e
def gAdd : O → O → Option O := orO (gI fun i j => some (.int (i + j))) (orO (gS fun a b => if a.length + b.length ≤ sizeLine then some (.str (a ++ b)) else none) (orO gCatL gCatT))
end
end TL

set_option maxHeartbeats 1000000
namespace TL
open PySem L2

section
variable {X : Cx}
/-! ### comparisons -/
theorem os_strD {f : Value → Value → Sem Value} {g : Str → Str → D} {r : R2} (h : OpR X f r) (k : ∀ H i j Q, (∀ z, RD X.K H (g i j) z → Q z H) → r (.str i) (.str j) H Q) : OpS X f (gS fun i j => some (g i j)) :=
  .of h fun H x y ox oy F G o r1 r2 e => by
    obtain ⟨i, j, d, rfl, rfl, q, rfl⟩ := gS_of r1 r2 e
    cases q
    exact k H i j _ fun z hz => .d hz
def gLt : O → O → Option O := orO (gI fun i j => some (.bl (decide (i < j)))) (gS fun i j => some (.bl (decide (i.cps.toList < j.cps.toList))))
theorem os_lt : OpS X (compareOp .Lt) gLt := (os_intB op_lt).or (os_strD op_lt_str fun H i j Q q => ⟨i, j, rfl, rfl, q _ (.bl _)⟩)
theorem le_strR : OpR X (compareOp .LtE) (fun x y H Q => ∃ i j, x = .str i ∧ y = .str j ∧ Q (.bl (!decide (j.cps.toList < i.cps.toList))) H) := by
  intro pins s σ H x y v u Q I rx ry h
  obtain ⟨i, j, rfl, rfl, q⟩ := h
  obtain ⟨t, rfl⟩ := rx
  obtain ⟨t', rfl⟩ := ry
  exact PySem.P.le_str (fin_bl I q rfl)
def gLe : O → O → Option O := orO (gI fun i j => some (.bl (decide (i ≤ j)))) (gS fun i j => some (.bl (!decide (j.cps.toList < i.cps.toList))))
theorem os_le : OpS X (compareOp .LtE) gLe := (os_intB op_le).or (os_strD le_strR fun H i j Q q => ⟨i, j, rfl, rfl, q _ (.bl _)⟩)
def gGt : O → O → Option O := gI fun i j => some (.bl (decide (j < i)))
theorem os_gt : OpS X (compareOp .Gt) gGt := os_intB op_gt
def gGe : O → O → Option O := gI fun i j => some (.bl (decide (j ≤ i)))
theorem os_ge : OpS X (compareOp .GtE) gGe := os_intB op_ge
def gEqD (neg : Bool) : O → O → Option O := fun x y => match x.shr.py, y.shr.py with
  | some d, some e => if (SeqAt.shaped d && SeqAt.shaped e) = true then some (.d (.bl (if neg then !PyData.eqv d e else PyData.eqv d e))) else none
  | _, _ => none
theorem gEqD_of {ox oy o : O} {neg : Bool} {x y : V} {H : Hp} {F G : Fp} (r1 : RO X.K H ox x F) (r2 : RO X.K H oy y G) (e : gEqD neg ox oy = some o) :
    ∃ d e, Dp X.K H x d ∧ Dp X.K H y e ∧ SeqAt.shaped d = true ∧ SeqAt.shaped e = true ∧ o = .d (.bl (if neg then !PyData.eqv d e else PyData.eqv d e)) := by
  unfold gEqD at e
  cases q1 : ox.shr.py with
  | none => rw [q1] at e; cases e
  | some d =>
    cases q2 : oy.shr.py with
    | none => rw [q1, q2] at e; cases e
    | some d' =>
      rw [q1, q2] at e
      dsimp only at e
      split at e
      · rename_i c
        rw [Bool.and_eq_true] at c
        cases e
        exact ⟨d, d', r1.dp q1, r2.dp q2, c.1, c.2, rfl⟩
      · cases e
theorem os_eqD (hu : X.A.units + 64 < cLine) : OpS X (compareOp .Eq) (gEqD false) := .of (op_eqD hu) fun H x y ox oy F G o r1 r2 e => by
  obtain ⟨d, d', h1, h2, s1, s2, rfl⟩ := gEqD_of r1 r2 e
  exact ⟨d, d', h1, h2, s1, s2, .d (.bl _)⟩
theorem os_neD (hu : X.A.units + 64 < cLine) : OpS X (compareOp .NotEq) (gEqD true) := .of (op_neD hu) fun H x y ox oy F G o r1 r2 e => by
  obtain ⟨d, d', h1, h2, s1, s2, rfl⟩ := gEqD_of r1 r2 e
  exact ⟨d, d', h1, h2, s1, s2, .d (.bl _)⟩
def isNon : O → Bool
  | .d .non => true
  | _ => false
theorem isNon_of {o : O} {v : V} {H : Hp} {F : Fp} (r : RO X.K H o v F) : decide (v = .non) = isNon o := by
  cases r with
  | d h => cases h <;> simp [isNon]
  | _ => simp [isNon]
def gIsN (neg : Bool) : O → O → Option O := fun x y => match y with
  | .d .non => some (.d (.bl (if neg then !isNon x else isNon x)))
  | _ => none
theorem os_isN : OpS X (compareOp .Is) (gIsN false) := .of op_isN fun H x y ox oy F G o r1 r2 e => by
  unfold gIsN at e
  split at e
  · cases e; cases r2.od
    refine ⟨rfl, ?_⟩
    rw [isNon_of r1]
    exact .d (.bl _)
  · cases e
theorem os_notN : OpS X (compareOp .IsNot) (gIsN true) := .of op_notN fun H x y ox oy F G o r1 r2 e => by
  unfold gIsN at e
  split at e
  · cases e; cases r2.od
    refine ⟨rfl, ?_⟩
    rw [isNon_of r1]
    exact .d (.bl _)
  · cases e
/-- a sign in a text -/
def gInS (neg : Bool) : O → O → Option O := gS fun i j => match i.cps.toList with
  | [c] => some (.bl (if neg then !decide (c ∈ j.cps.toList) else decide (c ∈ j.cps.toList)))
  | _ => none
theorem sign_of {i : Str} {c : Nat} (h : i.cps.toList = [c]) : i = ⟨#[c]⟩ := by
  apply Str.ext'
  apply Array.toList_inj.mp
  exact h
theorem os_inS : OpS X (compareOp .In) (gInS false) := .of op_in_sign fun H x y ox oy F G o r1 r2 e => by
  obtain ⟨i, j, d, rfl, rfl, q, rfl⟩ := gS_of r1 r2 e
  split at q
  · rename_i c hc
    cases q
    exact ⟨c, j, by rw [sign_of hc], rfl, .d (.bl _)⟩
  · cases q
theorem os_notInS : OpS X (compareOp .NotIn) (gInS true) := .of op_notIn_sign fun H x y ox oy F G o r1 r2 e => by
  obtain ⟨i, j, d, rfl, rfl, q, rfl⟩ := gS_of r1 r2 e
  split at q
  · rename_i c hc
    cases q
    exact ⟨c, j, by rw [sign_of hc], rfl, .d (.bl _)⟩
  · cases q
/-- a text times an int -/
def gMulS : O → O → Option O
  | .d (.str i), .d (.int n) => if 0 ≤ n ∧ n < 2 ^ 63 ∧ i.length * n.toNat ≤ sizeLine then some (.d (.str ⟨(List.replicate n.toNat i.cps.toList).flatten.toArray⟩)) else none
  | _, _ => none

/-! ### freezing -/
/-- a step that changes what is ours alone, and lays nothing -/
structure Frz (F : Fp) (H H' : Hp) : Prop where
  keep : ∀ a, ¬ F a → H' a = H a
  pers : ∀ a o, H a = some o → ¬ MutO o → H' a = some o
  there : ∀ a o, H a = some o → ∃ o', H' a = some o'
  free : ∀ a, H a = none → H' a = none
theorem Frz.refl {F : Fp} {H : Hp} : Frz F H H := ⟨fun _ _ => rfl, fun _ _ h _ => h, fun _ o h => ⟨o, h⟩, fun _ h => h⟩
theorem Frz.trans {F : Fp} {H H1 H2 : Hp} (a : Frz F H H1) (b : Frz F H1 H2) : Frz F H H2 :=
  ⟨fun x n => (b.keep x n).trans (a.keep x n), fun x o h n => b.pers x o (a.pers x o h n) n, fun x o h => let ⟨_, h1⟩ := a.there x o h; b.there x _ h1, fun x h => b.free x (a.free x h)⟩
theorem Frz.mono {F G : Fp} {H H1 : Hp} (a : Frz F H H1) (s : ∀ x, F x → G x) : Frz G H H1 := ⟨fun x n => a.keep x fun z => n (s x z), a.pers, a.there, a.free⟩
theorem Frz.step {F : Fp} {H H' : Hp} (a : Frz F H H') : Step F H H' := ⟨fun x o h n => (a.keep x n).trans h, a.pers, a.there⟩
theorem Frz.one {F : Fp} {H : Hp} {a : Addr} {u : HO} {o : Obj} (h : H a = some u) (m : MutO u) (f : F a) : Frz F H (upd H a (.frz o u)) where
  keep := fun x n => upd_ne (fun z => by subst z; exact n f)
  pers := fun x o e n => by rw [upd_ne (fun z => by subst z; rw [h] at e; cases e; exact n m)]; exact e
  there := fun x o e => by
    by_cases z : x = a
    · exact ⟨_, by rw [z, upd_same]⟩
    · exact ⟨o, by rw [upd_ne z]; exact e⟩
  free := fun x e => by rw [upd_ne (fun z => by subst z; rw [h] at e; cases e)]; exact e
variable {pins : List (Addr × Obj)} {σ : L2.St} {s : Shared}
/-- the heap as it is known still stands where F is -/
structure At (F : Fp) (H H1 : Hp) : Prop where
  own : ∀ a u, F a → H a = some u → H1 a = some u
  pers : ∀ a u, H a = some u → ¬ MutO u → H1 a = some u
theorem At.refl {F : Fp} {H : Hp} : At F H H := ⟨fun _ _ _ h => h, fun _ _ h _ => h⟩
theorem At.mono {F G : Fp} {H H1 : Hp} (a : At F H H1) (s : ∀ x, G x → F x) : At G H H1 := ⟨fun x u f h => a.own x u (s x f) h, a.pers⟩
theorem At.frz {F G : Fp} {H H1 H2 : Hp} (a : At F H H1) (z : Frz G H1 H2) (d : ∀ x, F x → ¬ G x) : At F H H2 := ⟨fun x u f h => (z.keep x (d x f)).trans (a.own x u f h), fun x u h n => z.pers x u (a.pers x u h n) n⟩
theorem frz_top {a : Addr} {u : HO} {F : Fp} {H H1 H2 : Hp} (t : At F H H1) (h : H a = some u) (f : F a) (m : MutO u) (z1 : Frz (fun b => F b ∧ b ≠ a) H1 H2) (I : Inv X pins σ H2 s) :
    ∃ ob, Inv X pins σ (upd H2 a (.frz ob u)) s ∧ Frz F H1 (upd H2 a (.frz ob u)) ∧ Frz F H2 (upd H2 a (.frz ob u)) := by
  have e : H2 a = some u := (z1.keep _ fun q => q.2 rfl).trans (t.own a u f h)
  obtain ⟨ob, I2⟩ := I.lock e m.mut
  exact ⟨ob, I2, (z1.mono fun _ q => q.1).trans (Frz.one e m f), Frz.one e m f⟩
mutual
theorem frz_ok' {H : Hp} : ∀ {o : O} {v : V} {F : Fp}, RO X.K H o v F → ∀ H1, Inv X pins σ H1 s → At F H H1 → ∃ H2, Inv X pins σ H2 s ∧ RD X.K H2 o.shr v ∧ Frz F H1 H2
  | .d x, _, F, .d r, H1, I, t => ⟨H1, I, by rw [O.shr]; exact r.keep t.pers, .refl⟩
  | .lst xs, _, F, .lst h f r, H1, I, t => by
    obtain ⟨H2, I1, r1, z1⟩ := frzs_ok' r H1 I (t.mono fun _ q => q.1)
    obtain ⟨ob, I2, z, z2⟩ := frz_top t h f trivial z1 I1
    exact ⟨_, I2, by rw [O.shr]; exact .lst upd_same (r1.keep z2.pers), z⟩
  | .dct m, _, F, .dct h f e0 r, H1, I, t => by
    obtain ⟨H2, I1, r1, z1⟩ := frzs_ok' r H1 I (t.mono fun _ q => q.1)
    obtain ⟨ob, I2, z, z2⟩ := frz_top t h f trivial z1 I1
    refine ⟨_, I2, ?_, z⟩
    rw [O.shr, shrK_map]
    refine .dct upd_same (by rw [e0, List.map_map]; rfl) ?_
    have q := r1.keep z2.pers
    rw [shrs_map, List.map_map] at q
    rw [List.map_map]
    exact q
  | .dcT m, _, F, .dcT h f e0 r, H1, I, t => by
    obtain ⟨H2, I1, r1, z1⟩ := frzs_ok' r H1 I (t.mono fun _ q => q.1)
    obtain ⟨ob, I2, z, z2⟩ := frz_top t h f trivial z1 I1
    refine ⟨_, I2, ?_, z⟩
    rw [O.shr, shrT_map]
    refine .dcT upd_same (by rw [e0, List.map_map]; rfl) ?_
    have q := r1.keep z2.pers
    rw [shrs_map, List.map_map] at q
    rw [List.map_map]
    exact q
  | .ins C fs, _, F, .ins h f e0 r, H1, I, t => by
    obtain ⟨H2, I1, r1, z1⟩ := frzs_ok' r H1 I (t.mono fun _ q => q.1)
    obtain ⟨ob, I2, z, z2⟩ := frz_top t h f trivial z1 I1
    refine ⟨_, I2, ?_, z⟩
    rw [O.shr, shrF_map]
    refine .ins upd_same (by rw [e0, List.map_map]; rfl) ?_
    have q := r1.keep z2.pers
    rw [shrs_map, List.map_map] at q
    rw [List.map_map]
    exact q
theorem frzs_ok' {H : Hp} : ∀ {os : List O} {vs : List V} {F : Fp}, ROs X.K H os vs F → ∀ H1, Inv X pins σ H1 s → At F H H1 → ∃ H2, Inv X pins σ H2 s ∧ RDs X.K H2 (shrs os) vs ∧ Frz F H1 H2
  | _, _, _, .nil, H1, I, t => ⟨H1, I, by rw [shrs]; exact .nil, .refl⟩
  | _, _, _, .cons F1 F2 h r a b d, H1, I, t => by
    obtain ⟨H2, I1, r1, z1⟩ := frz_ok' h H1 I (t.mono a)
    obtain ⟨H3, I2, r2, z2⟩ := frzs_ok' r H2 I1 ((t.mono b).frz z1 fun x p q => d x q p)
    exact ⟨H3, I2, by rw [shrs]; exact .cons (r1.keep z2.pers) r2, (z1.mono a).trans (z2.mono b)⟩
end
theorem frz_ok {o : O} {v : V} {H : Hp} {F : Fp} (I : Inv X pins σ H s) (r : RO X.K H o v F) : ∃ H', Inv X pins σ H' s ∧ RD X.K H' o.shr v ∧ Frz F H H' := frz_ok' r H I .refl
theorem frzs_ok {os : List O} {vs : List V} {H : Hp} {F : Fp} (I : Inv X pins σ H s) (r : ROs X.K H os vs F) : ∃ H', Inv X pins σ H' s ∧ RDs X.K H' (shrs os) vs ∧ Frz F H H' := frzs_ok' r H I .refl
/-- behind an expression what is known may be told otherwise -/
theorem pe_gh {e : Expr} {t : TE} {G : L2.St → V → Hp → VK → Prop} (h : PE X e t) (hG : ∀ pins σ s v H Q, Inv X pins σ H s → G σ v H Q → ∃ H', Inv X pins σ H' s ∧ Q v H') : PE X e (fun σ H Q => t σ H fun v H1 => G σ v H1 Q) :=
  ⟨fun pins s σ H Q I q => thn (h.run pins s σ H _ I q) fun u s1 ⟨v, H1, I1, r, g⟩ => let ⟨H2, I2, q2⟩ := hG pins σ s1 v H1 Q I1 g; ⟨v, H2, I2, r, q2⟩⟩
/-- what is new is never changed from now on -/
def fz (f : M O) : M O := bnd f fun o => ret (.d o.shr)
def GFz (X : Cx) (σ : L2.St) (v : V) (H : Hp) (Q : VK) : Prop := ∃ o F, RO X.K H o v F ∧ ∀ H', RD X.K H' o.shr v → Frz F H H' → Q v H'
theorem se_fz {e : Expr} {f : M O} (h : SE X e f) : SE X e (fz f) := by
  refine PE.imp (pe_gh (G := GFz X) h fun pins σ s v H Q I ⟨o, F, r, q⟩ => ?_) fun σ H Q ⟨env, F, rel, h⟩ => ?_
  · obtain ⟨H', I', r', z⟩ := frz_ok I r
    exact ⟨H', I', q H' r' z⟩
  · refine tOf_bind rel h fun o env' v H1 F1 F2 ro a h => ⟨o, F1, ro, fun H' r z => ?_⟩
    exact h v H' nof F2 (.d r) (a.rel.step z.step fun x p q => a.dj x q p) (fun _ p _ => p) (a.st.trans z.step fun x p => a.sub x (.inl p)) fun x p => p.elim False.elim fun p => a.sub x (.inr p)

/-! ### displays -/
def nilM : M (List O) := ret []
def consM (f : M O) (g : M (List O)) : M (List O) := bnd f fun o => bnd g fun os => ret (o :: os)
theorem ae_nil : AE X [] nilM := PA.imp pa_nil fun σ H Q ⟨env, F, rel, h⟩ => h [] H nof F .nil rel (fun _ p _ => p) .refl fun x p => .inl (p.elim False.elim id)
theorem ae_cons {e : Expr} {es : List Expr} {f : M O} {g : M (List O)} (ha : SE X e f) (hr : AE X es g) (hs : starEach (e :: es) X.env = (false, eval e X.env) :: starEach es X.env := by rfl) : AE X (e :: es) (consM f g) := by
  refine PA.imp (pa_cons ha hr hs) fun σ H Q ⟨env, F, rel, h⟩ => ?_
  refine tOf_bind rel h fun o env1 v H1 F1 F2 ro a h => ?_
  refine tLf_bind a.rel h fun os env2 vs H2 F3 F4 ro2 b h => ?_
  obtain ⟨st, sub, d13, d14, dm⟩ := a.next b
  refine h (v :: vs) H2 (Or F1 F3) F4 (.cons F1 F3 (ro.step b.st a.dj) ro2 (fun _ p => .inl p) (fun _ p => .inr p) d13) b.rel (fun x p q => p.elim (fun p => d14 x p q) fun p => b.dj x p q) st fun x p => sub x ?_
  rcases p with (p | p) | p
  · exact .inl p
  · exact .inr (.inl p)
  · exact .inr (.inr p)
def cLst (f : M (List O)) : M O := bnd f fun os => if os.length ≤ sizeLine then ret (.lst os) else lift none
theorem se_lst {es : List Expr} {f : M (List O)} {pos : Pos} (h : AE X es f) : SE X (.List es pos) (cLst f) := by
  refine PE.imp (pe_lst h) fun σ H Q ⟨env, F, rel, h⟩ => ?_
  refine tLf_bind rel h fun os env1 vs H1 F1 F2 ro a h => ?_
  have hl := ro.length
  split at h
  · rename_i hz
    refine ⟨by omega, fun p hp => ?_⟩
    have st := Step.new (F := nof) (o := .lst vs) hp
    refine h (.ref p) _ (Or (fun x => x = p) F1) F2 (.lst upd_same (.inl rfl) ((ro.step st fun _ _ z => z).mono fun x q => ⟨.inr q, fun z => ?_⟩)) (a.rel.step st fun _ _ z => z) (fun x q q' => ?_) (a.st.trans st fun _ z => z.elim) fun x q => ?_
    · subst z; obtain ⟨o, e⟩ := a.d1 _ q; rw [hp] at e; cases e
    · rcases q with q | q
      · subst q; obtain ⟨o, e⟩ := a.d2 _ q'; rw [hp] at e; cases e
      · exact a.dj x q q'
    · rcases q with (q | q) | q
      · subst q; exact .inr (a.st.free hp)
      · exact a.sub x (.inl q)
      · exact a.sub x (.inr q)
  · exact h.elim
def cTup (f : M (List O)) : M O := bnd f fun os => if os.length ≤ sizeLine then ret (.d (.tup (shrs os))) else lift none
def GTup (X : Cx) (σ : L2.St) (v : V) (H : Hp) (Q : VK) : Prop := ∃ p os vs F, v = .ref p ∧ H p = some (.tup vs) ∧ ROs X.K H os vs F ∧ ∀ H', RD X.K H' (.tup (shrs os)) v → Frz F H H' → Q v H'
theorem se_tup {es : List Expr} {f : M (List O)} {k} {pos : Pos} (h : AE X es f) : SE X (.Tuple es k pos) (cTup f) := by
  refine PE.imp (pe_gh (G := GTup X) (pe_tup h) fun pins σ s v H Q I ⟨p, os, vs, F, e, hp, r, q⟩ => ?_) fun σ H Q ⟨env, F, rel, h⟩ => ?_
  · obtain ⟨H', I', r', z⟩ := frzs_ok I r
    subst e
    exact ⟨H', I', q H' (.tup (z.pers _ _ hp fun z => z) r') z⟩
  · refine tLf_bind rel h fun os env1 vs H1 F1 F2 ro a h => ?_
    have hl := ro.length
    split at h
    · rename_i hz
      refine ⟨by omega, fun p hp => ?_⟩
      have st := Step.new (F := nof) (o := .tup vs) hp
      refine ⟨p, os, vs, F1, rfl, upd_same, ro.step st fun _ _ z => z, fun H' r z => ?_⟩
      exact h (.ref p) H' nof F2 (.d r) ((a.rel.step st fun _ _ z => z).step z.step fun x p q => a.dj x q p) (fun _ p _ => p) ((a.st.trans st fun _ z => z.elim).trans z.step fun x p => a.sub x (.inl p)) fun x p => p.elim False.elim fun p => a.sub x (.inr p)
    · exact h.elim

/-! ### truths -/
def cAnd (f g : M Bool) : M Bool := bnd f fun b => if b = true then g else ret false
def cOr (f g : M Bool) : M Bool := bnd f fun b => if b = true then ret true else g
def cNot (f : M Bool) : M Bool := bnd f fun b => ret (!b)
theorem Aft.ge {F F1 F2 : Fp} {H H1 : Hp} {σ : L2.St} {env : Env} (a : Aft X F H H1 σ env F1 F2) {Q : Bool → Hp → Prop} {b : Bool} {env' : Env} (h : PB X F2 σ H1 Q b env') : PB X F σ H Q b env' ∨ True := .inr trivial
theorem PB.weak {F F1 F2 : Fp} {H H1 : Hp} {σ : L2.St} {env : Env} (a : Aft X F H H1 σ env F1 F2) {Q : Bool → Hp → Prop} {b : Bool} {env' : Env} (h : PB X F σ H Q b env') : PB X F2 σ H1 Q b env' :=
  fun H' F3 rel st sub => h H' F3 rel (a.st.trans st fun x p => a.sub x (.inr p)) fun x p => (sub x p).elim (fun p => a.sub x (.inr p)) fun p => .inr (a.st.free p)
theorem and_ok {f g : M Bool} {σ : L2.St} {H : Hp} {Q : Bool → Hp → Prop} (h : tBf X (cAnd f g) σ H Q) : tAnd (tBf X f) (tBf X g) σ H Q := by
  obtain ⟨env, F, rel, h⟩ := h
  refine tBf_bind rel h fun b env1 H1 F2 a h => ?_
  cases b with
  | true => exact iteT ⟨env1, F2, a.rel, h.mono fun _ _ q => q.weak a⟩
  | false => exact iteF (h H1 F2 a.rel a.st fun x p => a.sub x (.inr p))
theorem or_ok {f g : M Bool} {σ : L2.St} {H : Hp} {Q : Bool → Hp → Prop} (h : tBf X (cOr f g) σ H Q) : tOr (tBf X f) (tBf X g) σ H Q := by
  obtain ⟨env, F, rel, h⟩ := h
  refine tBf_bind rel h fun b env1 H1 F2 a h => ?_
  cases b with
  | false => exact iteF ⟨env1, F2, a.rel, h.mono fun _ _ q => q.weak a⟩
  | true => exact iteT (h H1 F2 a.rel a.st fun x p => a.sub x (.inr p))
theorem bw_and1 {a : Expr} {pos : Pos} {f : M Bool} (ha : BE X a f) : BW X (.BoolOp .And [a] pos) f := pw_and1 ha
theorem bw_or1 {a : Expr} {pos : Pos} {f : M Bool} (ha : BE X a f) : BW X (.BoolOp .Or [a] pos) f := pw_or1 ha
theorem bw_and {a b : Expr} {rest : List Expr} {pos : Pos} {f g : M Bool} (ha : BE X a f) (hb : BW X (.BoolOp .And (b :: rest) pos) g) : BW X (.BoolOp .And (a :: b :: rest) pos) (cAnd f g) := PW.imp (pw_and ha hb) fun _ _ _ h => and_ok h
theorem bw_or {a b : Expr} {rest : List Expr} {pos : Pos} {f g : M Bool} (ha : BE X a f) (hb : BW X (.BoolOp .Or (b :: rest) pos) g) : BW X (.BoolOp .Or (a :: b :: rest) pos) (cOr f g) := PW.imp (pw_or ha hb) fun _ _ _ h => or_ok h
theorem be_bw {e : Expr} {f : M Bool} (h : BW X e f) : BE X e f := PW.pt h
theorem be_not {a : Expr} {pos : Pos} {f : M Bool} (ha : BE X a f) : BE X (.UnaryOp .Not a pos) (cNot f) := PT.imp (pt_not ha) fun σ H Q ⟨env, F, rel, h⟩ =>
  tBf_bind rel h fun b env1 H1 F2 a h => h H1 F2 a.rel a.st fun x p => a.sub x (.inr p)
/-- any expression whose value is a truth -/
theorem be_val {e : Expr} {f : M O} (h : SE X e f) (he : ∀ whole, isTrue e X.env whole = (do let v ← whole; standAt e.pos; holding [v] (truthy v)) := by intro _; rfl) : BE X e (asB f) :=
  PT.imp (pt_val h he) fun _ _ _ h => test_ok (e := e) (fun _ _ _ h => h) h
/-- as values -/
def vB (f : M Bool) : M O := bnd f fun b => ret (.d (.bl b))
theorem se_one {op} {a : Expr} {pos : Pos} {f : M O} (h : SE X a f) : SE X (.BoolOp op [a] pos) f := pe_one h
def vAnd (f g : M O) : M O := bnd (asB f) fun b => if b = true then g else ret (.d (.bl false))
def vOr (f g : M O) : M O := bnd (asB f) fun b => if b = true then ret (.d (.bl true)) else g
theorem PV.weak {F F1 F2 : Fp} {H H1 : Hp} {σ : L2.St} {env : Env} (a : Aft X F H H1 σ env F1 F2) {Q : VK} {o : O} {env' : Env} (h : PV X F σ H Q o env') : PV X F2 σ H1 Q o env' :=
  fun v H' F3 F4 ro rel dj st sub => h v H' F3 F4 ro rel dj (a.st.trans st fun x p => a.sub x (.inr p)) fun x p => (sub x p).elim (fun p => a.sub x (.inr p)) fun p => .inr (a.st.free p)
theorem asB_bind {β : Type} {f : M O} {k : Bool → M β} {P : β → Env → Prop} {σ : L2.St} {H : Hp} {Q : VK} {env : Env} {F : Fp} (rel : RelE X.K H env σ F) (h : Post P (bnd (asB f) k env))
    (c : ∀ b env' H' F1 F2, Aft X F H H' σ env' F1 F2 → Post P (k b env') → Q (.bl b) H') : tOf X f σ H Q := by
  refine tOf_bind (P := P) (k := fun o => bnd (lift (match o with | .d (.bl b) => some b | _ => none)) k) rel ?_ fun o env1 v H1 F1 F2 ro a h => ?_
  · unfold asB at h
    unfold bnd at h ⊢
    cases q : f env with
    | none => rw [q] at h; exact h
    | some r => rw [q] at h; exact h
  · cases o with
    | d x =>
      cases x with
      | bl b => cases ro.od; exact c b env1 H1 F1 F2 a h
      | _ => exact h.elim
    | _ => exact h.elim
theorem se_and {a b : Expr} {rest : List Expr} {pos : Pos} {f g : M O} (ha : SE X a f) (hb : SE X (.BoolOp .And (b :: rest) pos) g) : SE X (.BoolOp .And (a :: b :: rest) pos) (vAnd f g) := by
  refine PE.imp (pe_and ha hb) fun σ H Q ⟨env, F, rel, h⟩ => ?_
  refine asB_bind rel h fun b env1 H1 F1 F2 a h => ⟨b, rfl, ?_⟩
  cases b with
  | true => exact iteT ⟨env1, F2, a.rel, h.mono fun _ _ q => q.weak a⟩
  | false => exact iteF (h (.bl false) H1 nof F2 (.d (.bl _)) a.rel (fun _ p _ => p) a.st fun x p => p.elim False.elim fun p => a.sub x (.inr p))
theorem se_or {a b : Expr} {rest : List Expr} {pos : Pos} {f g : M O} (ha : SE X a f) (hb : SE X (.BoolOp .Or (b :: rest) pos) g) : SE X (.BoolOp .Or (a :: b :: rest) pos) (vOr f g) := by
  refine PE.imp (pe_or ha hb) fun σ H Q ⟨env, F, rel, h⟩ => ?_
  refine asB_bind rel h fun b env1 H1 F1 F2 a h => ⟨b, rfl, ?_⟩
  cases b with
  | false => exact iteF ⟨env1, F2, a.rel, h.mono fun _ _ q => q.weak a⟩
  | true => exact iteT (h (.bl true) H1 nof F2 (.d (.bl _)) a.rel (fun _ p _ => p) a.st fun x p => p.elim False.elim fun p => a.sub x (.inr p))
theorem se_not {a : Expr} {pos : Pos} {f : M O} (ha : SE X a f) : SE X (.UnaryOp .Not a pos) (vB (cNot (asB f))) := by
  refine PE.imp (pe_not ha) fun σ H Q ⟨env, F, rel, h⟩ => ?_
  have h' : Post (PV X F σ H Q) (bnd (asB f) (fun b => ret (.d (.bl (!b)))) env) := by
    unfold vB cNot at h
    unfold bnd at h ⊢
    cases q : asB f env with
    | none => rw [q] at h; exact h
    | some r => rw [q] at h; exact h
  refine asB_bind rel h' fun b env1 H1 F1 F2 a h => ⟨b, rfl, ?_⟩
  exact h _ H1 nof F2 (.d (.bl _)) a.rel (fun _ p _ => p) a.st fun x p => p.elim False.elim fun p => a.sub x (.inr p)
def cIf (c : M Bool) (f g : M O) : M O := bnd c fun b => if b = true then f else g
theorem se_if {c a b : Expr} {pos : Pos} {k : M Bool} {f g : M O} (hc : BE X c k) (ha : SE X a f) (hb : SE X b g) : SE X (.IfExp c a b pos) (cIf k f g) := by
  refine PE.imp (pe_ifExp hc ha hb) fun σ H Q ⟨env, F, rel, h⟩ => ?_
  refine tBf_bind rel h fun b env1 H1 F2 a h => ?_
  cases b with
  | true => exact iteT ⟨env1, F2, a.rel, h.mono fun _ _ q => q.weak a⟩
  | false => exact iteF ⟨env1, F2, a.rel, h.mono fun _ _ q => q.weak a⟩
end
end TL

set_option maxHeartbeats 1000000
namespace TL
open PySem L2

section
variable {X : Cx}
/-! ### argument lists whose places come back -/
def PLO (X : Cx) (F : Fp) (σ : L2.St) (H : Hp) (Q : List V → Hp → Prop) (rs : List (O × Option Nat)) (env : Env) : Prop :=
  ∀ vs H' F1 F2, ROs X.K H' (rs.map (·.1)) vs F1 → RelE X.K H' env σ F2 → Disj F1 F2 → Step F H H' → Sub (Or F1 F2) F H → (∀ (k : Nat) (r : O × Option Nat) (i : Nat), rs[k]? = some r → r.2 = some i → ∃ v, vs[k]? = some v ∧ σ[i]? = some (some v)) → Q vs H'
def tLOf (X : Cx) (f : M (List (O × Option Nat))) : TA := fun σ H Q => ∃ env F, RelE X.K H env σ F ∧ Post (PLO X F σ H Q) (f env)
variable (X) in
def AO (es : List Expr) (f : M (List (O × Option Nat))) : Prop := PA X es (tLOf X f)
def nilO : M (List (O × Option Nat)) := ret []
def consO (f : M (O × Option Nat)) (g : M (List (O × Option Nat))) : M (List (O × Option Nat)) := bnd f fun o => bnd g fun os => ret (o :: os)
theorem ao_nil : AO X [] nilO := PA.imp pa_nil fun σ H Q ⟨env, F, rel, h⟩ => h [] H nof F .nil rel (fun _ p _ => p) .refl (fun x p => .inl (p.elim False.elim id)) (fun k r i e => by simp at e)
theorem tLO_bind {β : Type} {f : M (List (O × Option Nat))} {k : List (O × Option Nat) → M β} {P : β → Env → Prop} {σ : L2.St} {H : Hp} {Q : List V → Hp → Prop} {env : Env} {F : Fp} (rel : RelE X.K H env σ F) (h : Post P (bnd f k env))
    (c : ∀ os env' vs H' F1 F2, ROs X.K H' (os.map (·.1)) vs F1 → Aft X F H H' σ env' F1 F2 → (∀ (k : Nat) (r : O × Option Nat) (i : Nat), os[k]? = some r → r.2 = some i → ∃ v, vs[k]? = some v ∧ σ[i]? = some (some v)) → Post P (k os env') → Q vs H') : tLOf X f σ H Q :=
  ⟨env, F, rel, h.bnd.mono fun o e' q v H' F1 F2 ro re dj st sub g => c o e' v H' _ _ ro.dom ⟨re.dom, fun a p q => dj a p.1 q.1, st, fun a z => sub a (z.imp And.left And.left), fun a p => p.2, fun a p => p.2⟩ g q⟩
theorem ao_cons {e : Expr} {es : List Expr} {f : M (O × Option Nat)} {g : M (List (O × Option Nat))} (ha : OE X e f) (hr : AO X es g) (hs : starEach (e :: es) X.env = (false, eval e X.env) :: starEach es X.env := by rfl) : AO X (e :: es) (consO f g) := by
  refine PA.imp (pa_cons ha hr hs) fun σ H Q ⟨env, F, rel, h⟩ => ?_
  refine tOp_bind rel h fun o env1 v H1 F1 F2 ro a g1 h => ?_
  refine tLO_bind a.rel h fun os env2 vs H2 F3 F4 ro2 b g2 h => ?_
  obtain ⟨st, sub, d13, d14, dm⟩ := a.next b
  refine h (v :: vs) H2 (Or F1 F3) F4 (.cons F1 F3 (ro.step b.st a.dj) ro2 (fun _ p => .inl p) (fun _ p => .inr p) d13) b.rel (fun x p q => p.elim (fun p => d14 x p q) fun p => b.dj x p q) st (fun x p => sub x ?_) fun k r i e1 e2 => ?_
  · rcases p with (p | p) | p
    · exact .inl p
    · exact .inr (.inl p)
    · exact .inr (.inr p)
  · cases k with
    | zero => simp at e1; subst e1; exact ⟨v, rfl, g1 i e2⟩
    | succ k => simp at e1; simpa using g2 k r i e1 e2
def rstAll : List (O × Option Nat) → M Unit
  | [] => ret ()
  | r :: rs => bnd (rst r.2 r.1) fun _ => rstAll rs
theorem rstAll_ok {β : Type} {k : Unit → M β} {P : β → Env → Prop} {σ : L2.St} {H : Hp} : ∀ {rs : List (O × Option Nat)} {vs : List V} {env : Env} {F G : Fp}, RelE X.K H env σ F → ROs X.K H (rs.map (·.1)) vs G → Disj G F →
    (∀ (k : Nat) (r : O × Option Nat) (i : Nat), rs[k]? = some r → r.2 = some i → ∃ v, vs[k]? = some v ∧ σ[i]? = some (some v)) → Post P (bnd (rstAll rs) k env) → ∃ env', RelE X.K H env' σ (Or G F) ∧ Post P (k () env')
  | [], _, env, F, G, rel, _, _, _, h => ⟨env, rel.mono fun _ p => .inr p, h⟩
  | r :: rs, _, env, F, G, rel, ro, dj, g, h => by
    cases ro with
    | cons F1 F2 h1 r1 a b d =>
      rename_i v vs
      have h' : Post P (bnd (rst r.2 r.1) (fun _ => bnd (rstAll rs) k) env) := by
        unfold rstAll at h
        unfold bnd at h ⊢
        cases q : rst r.2 r.1 env with
        | none => rw [q] at h; exact h
        | some z => rw [q] at h; exact h
      obtain ⟨env1, rel1, h1'⟩ := rst_ok rel h1 (fun x p q => dj x (a x p) q) (fun i e => by obtain ⟨w, e1, e2⟩ := g 0 r i rfl e; simp at e1; rw [e1]; exact e2) h'
      obtain ⟨env2, rel2, h2'⟩ := rstAll_ok rel1 r1 (fun x p q => q.elim (fun q => d x q p) fun q => dj x (b x p) q) (fun k r' i e1 e2 => by obtain ⟨w, q1, q2⟩ := g (k + 1) r' i (by simpa using e1) e2; exact ⟨w, by simpa using q1, q2⟩) h1'
      exact ⟨env2, rel2.mono fun x p => p.elim (fun p => .inl (b x p)) fun p => p.elim (fun p => .inl (a x p)) .inr, h2'⟩

/-! ### built-in functions by values -/
variable (X) in
def CallS (f : Value) (g : List O → Option O) : Prop :=
  ∀ (pins : List (Addr × Obj)) (s : Shared) (σ : L2.St) (H : Hp) (xs : List V) (us : List Value) (os : List O) (o : O) (F : Fp), Inv X pins σ H s → Vals xs us → ROs X.K H os xs F → g os = some o →
    wpAny (model X.prog X.w) X.A (call f us) (EP X pins σ (New X.K H o)) X.xe s
theorem CallS.of {f : Value} {g : List O → Option O} {r : List V → Hp → VK → Prop} (h : CallR X f r) (k : ∀ H xs os F o, ROs X.K H os xs F → g os = some o → r xs H (New X.K H o)) : CallS X f g :=
  fun pins s σ H xs us os o F I rv ro e => h pins s σ H xs us _ I rv (k H xs os F o ro e)
def orC (g g' : List O → Option O) : List O → Option O := fun x => match g x with
  | some r => some r
  | none => g' x
theorem CallS.or {f : Value} {g g' : List O → Option O} (h : CallS X f g) (h' : CallS X f g') : CallS X f (orC g g') := by
  intro pins s σ H xs us os o F I rv ro e
  unfold orC at e
  cases q : g os with
  | some r => rw [q] at e; cases e; exact h pins s σ H xs us os _ F I rv ro q
  | none => rw [q] at e; exact h' pins s σ H xs us os _ F I rv ro e
def rOfC (K : PySem.W.Frag) (g : List O → Option O) : List V → Hp → VK → Prop := fun xs H Q => ∃ os o F, ROs K H os xs F ∧ g os = some o ∧ ∀ z H', New K H o z H' → Q z H'
theorem CallS.rule {f : Value} {g : List O → Option O} (h : CallS X f g) : CallR X f (rOfC X.K g) := by
  intro pins s σ H xs us Q I rv ⟨os, o, F, ro, e, q⟩
  exact thn (h pins s σ H xs us os o F I rv ro e) fun w s' ⟨z, H', I', rz, n⟩ => ⟨z, H', I', rz, q z H' n⟩
def cCall (g : List O → Option O) (fa : M (List (O × Option Nat))) : M O := bnd fa fun rs => bnd (lift (g (rs.map (·.1)))) fun o => bnd (rstAll rs) fun _ => ret o
theorem callS_ok {g : List O → Option O} {fa : M (List (O × Option Nat))} {σ : L2.St} {H : Hp} {Q : VK} (h : tOf X (cCall g fa) σ H Q) : tCB (rOfC X.K g) (tLOf X fa) σ H Q := by
  obtain ⟨env, F, rel, h⟩ := h
  refine tLO_bind rel h fun rs env1 vs H1 F1 F2 ro a g1 h => ?_
  obtain ⟨o, e, h⟩ := h.lift
  refine ⟨rs.map (·.1), o, F1, ro, e, fun z H' ⟨F', rz, st', sub'⟩ => ?_⟩
  obtain ⟨env2, rel2, h⟩ := rstAll_ok (a.rel.step st' fun _ _ z => z) (ro.step st' fun _ _ z => z) a.dj g1 h
  refine h z H' F' _ rz rel2 (fun q m n => ?_) (a.st.trans st' fun _ z => z.elim) fun q m => ?_
  · have hn : H1 q = none := (sub' q m).elim False.elim id
    rcases n with n | n
    · obtain ⟨o, eo⟩ := a.d1 q n; rw [hn] at eo; cases eo
    · obtain ⟨o, eo⟩ := a.d2 q n; rw [hn] at eo; cases eo
  · rcases m with m | m
    · exact .inr (a.st.free ((sub' q m).elim False.elim id))
    · exact a.sub q m
theorem se_callB {x : Str} {p pos : Pos} {e : Expr} {es : List Expr} {id : String} {g : List O → Option O} {fa : M (List (O × Option Nat))} (hc : CallS X (.builtin id) g) (hg : Gl X x) (hm : X.mg x = none) (hv : bootBuiltins x = some (.builtin id)) (ha : AO X (e :: es) fa) (hn : x ≠ "__name__" := by decide) (hdb : (x == ("__debug__" : Str)) = false := by decide)
    (he : starEach (e :: es) X.env = (false, eval e X.env) :: starEach es X.env := by rfl) (hpl : (backTo pos (starEach es X.env)).any (·.1) = false := by rfl) : SE X (.Call (.Name x p) (e :: es) [] pos) (cCall g fa) :=
  PE.imp (pe_callB hc.rule hg hm hv ha hn hdb he hpl) fun _ _ _ h => callS_ok h
theorem se_callTy {x : Str} {p pos : Pos} {e : Expr} {es : List Expr} {T : String} {g : List O → Option O} {fa : M (List (O × Option Nat))} (hc : CallS X (.type T) g) (hg : Gl X x) (hm : X.mg x = none) (hv : bootBuiltins x = some (.type T)) (ha : AO X (e :: es) fa) (hn : x ≠ "__name__" := by decide) (hdb : (x == ("__debug__" : Str)) = false := by decide)
    (he : starEach (e :: es) X.env = (false, eval e X.env) :: starEach es X.env := by rfl) (hpl : (backTo pos (starEach es X.env)).any (·.1) = false := by rfl) : SE X (.Call (.Name x p) (e :: es) [] pos) (cCall g fa) :=
  PE.imp (pe_callTy hc.rule hg hm hv ha hn hdb he hpl) fun _ _ _ h => callS_ok h
/-! ### which ones -/
def g1 (f : O → Option O) : List O → Option O
  | [x] => f x
  | _ => none
def g2 (f : O → O → Option O) : List O → Option O
  | [x, y] => f x y
  | _ => none
theorem g1_of {f : O → Option O} {os : List O} {o : O} {xs : List V} {H : Hp} {F : Fp} (r : ROs X.K H os xs F) (e : g1 f os = some o) : ∃ x v G, os = [x] ∧ xs = [v] ∧ RO X.K H x v G ∧ f x = some o := by
  unfold g1 at e
  split at e
  · cases r with
    | cons F1 F2 h r a b d => cases r; exact ⟨_, _, F1, rfl, rfl, h, e⟩
  · cases e
theorem g2_of {f : O → O → Option O} {os : List O} {o : O} {xs : List V} {H : Hp} {F : Fp} (r : ROs X.K H os xs F) (e : g2 f os = some o) : ∃ x y v w G G', os = [x, y] ∧ xs = [v, w] ∧ RO X.K H x v G ∧ RO X.K H y w G' ∧ f x y = some o := by
  unfold g2 at e
  split at e
  · cases r with
    | cons F1 F2 h r a b d =>
      cases r with
      | cons F3 F4 h' r a' b' d' => cases r; exact ⟨_, _, _, _, F1, F3, rfl, rfl, h, h', e⟩
  · cases e
def fInt (f : Int → Option D) : O → Option O
  | .d (.int i) => (f i).map O.d
  | _ => none
theorem fInt_of {f : Int → Option D} {x o : O} {v : V} {H : Hp} {F : Fp} (r : RO X.K H x v F) (e : fInt f x = some o) : ∃ i d, v = .int i ∧ f i = some d ∧ o = .d d := by
  unfold fInt at e
  split at e
  · rename_i i
    cases q : f i with
    | none => rw [q] at e; cases e
    | some d => rw [q] at e; cases e; cases r.od; exact ⟨i, d, rfl, q, rfl⟩
  · cases e
def gAbs : List O → Option O := g1 (fInt fun i => some (.int (if i < 0 then -i else i)))
theorem cs_abs : CallS X (.builtin "abs") gAbs := .of call_abs fun H xs os F o r e => by
  obtain ⟨x, v, G, rfl, rfl, h, q⟩ := g1_of r e
  obtain ⟨i, d, rfl, q2, rfl⟩ := fInt_of h q
  cases q2
  exact ⟨i, rfl, .d (.int _)⟩
def gToInt : List O → Option O := g1 fun x => match x with
  | .d (.int i) => some (.d (.int i))
  | .d (.bl b) => some (.d (.int (if b then 1 else 0)))
  | _ => none
theorem cs_int : CallS X (.type "int") gToInt := .of call_int1 fun H xs os F o r e => by
  obtain ⟨x, v, G, rfl, rfl, h, q⟩ := g1_of r e
  split at q
  · cases q; cases h.od; exact .inl ⟨_, rfl, .d (.int _)⟩
  · cases q; cases h.od; exact .inr ⟨_, rfl, .d (.int _)⟩
  · cases q
def gMax2 : List O → Option O := g2 (gI fun i j => some (.int (if j > i then j else i)))
theorem cs_max2 (hc : X.calm = true) : CallS X (.builtin "max") gMax2 := .of (call_max2 hc) fun H xs os F o r e => by
  obtain ⟨x, y, v, w, G, G', rfl, rfl, h, h', q⟩ := g2_of r e
  obtain ⟨i, j, d, rfl, rfl, q2, rfl⟩ := gI_of h h' q
  cases q2
  exact ⟨i, j, rfl, .d (.int _)⟩
def gMin2 : List O → Option O := g2 (gI fun i j => some (.int (if j < i then j else i)))
theorem cs_min2 (hc : X.calm = true) : CallS X (.builtin "min") gMin2 := .of (call_min2 hc) fun H xs os F o r e => by
  obtain ⟨x, y, v, w, G, G', rfl, rfl, h, h', q⟩ := g2_of r e
  obtain ⟨i, j, d, rfl, rfl, q2, rfl⟩ := gI_of h h' q
  cases q2
  exact ⟨i, j, rfl, .d (.int _)⟩
def lenO : O → Option Nat
  | .d (.str x) => if x.length ≤ sizeLine then some x.length else none
  | .d (.tup xs) => some xs.length
  | .d (.lst xs) => some xs.length
  | .d (.scr xs) => some xs.length
  | .lst xs => some xs.length
  | .d (.dct m) => some m.length
  | .dct m => some m.length
  | _ => none
def gLen : List O → Option O := g1 fun x => match lenO x with
  | some n => some (.d (.int n))
  | none => none
theorem len_dict {H : Hp} {a : Addr} {kvs : List (Key × V)} (e : Rd H a (.dK kvs)) {pins : List (Addr × Obj)} {s : Shared} {σ : L2.St} {E : Value → Shared → Prop} {Q : VK} (I : Inv X pins σ H s) (q : Q (.int kvs.length) H) : wpAny (model X.prog X.w) X.A (call (.builtin "len") [.ref a]) (EP X pins σ Q) E s :=
  d_len I e fun t s' I' => ⟨.int kvs.length, H, I', ⟨t, rfl⟩, q⟩
theorem cs_len : CallS X (.builtin "len") gLen := by
  intro pins s σ H xs us os o F I rv r e
  obtain ⟨x, v, G, rfl, rfl, h, q⟩ := g1_of r e
  have fin : ∀ {n : Nat}, o = .d (.int n) → LenV X.K v H n → wpAny (model X.prog X.w) X.A (call (.builtin "len") us) (EP X pins σ (New X.K H o)) X.xe s := fun {n} eo l =>
    call_len pins s σ H [v] us _ I rv ⟨v, n, rfl, l, by rw [eo]; exact .d (.int _)⟩
  have dic : ∀ {a : Addr} {kvs : List (Key × V)} {n : Nat}, o = .d (.int n) → v = .ref a → kvs.length = n → Rd H a (.dK kvs) → wpAny (model X.prog X.w) X.A (call (.builtin "len") us) (EP X pins σ (New X.K H o)) X.xe s := fun {a kvs n} eo ev en l => by
    subst ev
    obtain rfl := Vals.ref1 rv
    exact len_dict l I (by rw [eo, en]; exact .d (.int _))
  split at q
  · rename_i n hn
    cases q
    unfold lenO at hn
    split at hn
    · split at hn
      · cases hn; cases h.od; exact fin rfl ⟨by assumption, rfl⟩
      · cases hn
    · cases hn; cases h.od with | tup h2 r2 => exact fin rfl (.inr ⟨_, .of h2, r2.length⟩)
    · cases hn; cases h.od with | lst h2 r2 => exact fin rfl (.inl ⟨_, .inl (.inr ⟨_, h2⟩), r2.length⟩)
    · cases hn; cases h.od with | scr h2 r2 => exact fin rfl (.inl ⟨_, h2.sq, r2.length⟩)
    · cases hn; cases h with | lst h2 f r2 => exact fin rfl (.inl ⟨_, .of h2, r2.length⟩)
    · cases hn; cases h.od with | dct h2 e2 r2 => exact dic rfl rfl (by have := congrArg List.length e2; simpa using this) (.inr ⟨_, h2⟩)
    · cases hn; cases h with | dct h2 f e2 r2 => exact dic rfl rfl (by have := congrArg List.length e2; simpa using this) (.inl h2)
    · cases hn
  · cases q
def gList : List O → Option O := g1 fun x => match asQ x with
  | some xs => some (.lst (xs.map O.d))
  | none => none
theorem cs_list : CallS X (.type "list") gList := .of call_list_of fun H xs os F o r e => by
  obtain ⟨x, v, G, rfl, rfl, h, q⟩ := g1_of r e
  split at q
  · rename_i ys hy
    cases q
    obtain ⟨a, vs, rfl, hs, rd⟩ := asQ_ok h hy
    exact ⟨a, vs, rfl, hs, fun l hl => .lst hl rd⟩
  · cases q
def gTuple : List O → Option O := g1 fun x => match asT x with
  | some xs => some (.d (.tup xs))
  | none => match asL x with
    | some xs => some (.d (.tup xs))
    | none => none
theorem cs_tuple : CallS X (.type "tuple") gTuple := .of call_tuple_of fun H xs os F o r e => by
  obtain ⟨x, v, G, rfl, rfl, h, q⟩ := g1_of r e
  split at q
  · rename_i ys hy
    cases q
    obtain ⟨a, vs, rfl, hs, rd⟩ := asT_ok h hy
    exact ⟨a, vs, rfl, .inr ⟨.of hs, .d (.tup hs rd)⟩⟩
  · split at q
    · rename_i ys hy
      cases q
      obtain ⟨a, vs, rfl, hs, rd⟩ := asL_ok h hy
      exact ⟨a, vs, rfl, .inl ⟨hs, fun l hl => .tup hl rd⟩⟩
    · cases q
def blsO : List D → Option (List Bool)
  | [] => some []
  | .bl b :: r => (blsO r).map (b :: ·)
  | _ :: _ => none
theorem blsO_ok {H : Hp} : ∀ {xs : List D} {vs : List V} {bs : List Bool}, RDs X.K H xs vs → blsO xs = some bs → vs = bs.map V.bl
  | [], _, _, r, e => by cases r; cases e; rfl
  | x :: xs, _, _, .cons h r, e => by
    cases x with
    | bl b =>
      unfold blsO at e
      cases q : blsO xs with
      | none => rw [q] at e; cases e
      | some bs => rw [q] at e; cases e; cases h; rw [blsO_ok r q]; rfl
    | _ => cases e
def gAll : List O → Option O := g1 fun x => match asL x with
  | some xs => match blsO xs with
    | some bs => some (.d (.bl (bs.all id)))
    | none => none
  | none => none
theorem cs_all (hc : X.calm = true) : CallS X (.builtin "all") gAll := .of (cr_all hc) fun H xs os F o r e => by
  obtain ⟨x, v, G, rfl, rfl, h, q⟩ := g1_of r e
  split at q
  · rename_i ys hy
    split at q
    · rename_i bs hb
      cases q
      obtain ⟨a, vs, rfl, hs, rd⟩ := asL_ok h hy
      exact ⟨a, bs, rfl, by rw [← blsO_ok rd hb]; exact hs, .d (.bl _)⟩
    · cases q
  · cases q
def gAny : List O → Option O := g1 fun x => match asL x with
  | some xs => match blsO xs with
    | some bs => some (.d (.bl (bs.any id)))
    | none => none
  | none => none
theorem cs_any (hc : X.calm = true) : CallS X (.builtin "any") gAny := .of (cr_any hc) fun H xs os F o r e => by
  obtain ⟨x, v, G, rfl, rfl, h, q⟩ := g1_of r e
  split at q
  · rename_i ys hy
    split at q
    · rename_i bs hb
      cases q
      obtain ⟨a, vs, rfl, hs, rd⟩ := asL_ok h hy
      exact ⟨a, bs, rfl, by rw [← blsO_ok rd hb]; exact hs, .d (.bl _)⟩
    · cases q
  · cases q
/-- the class of a value, of those that are built in -/
def tyO : O → Option String
  | .d .non => some "NoneType"
  | .d (.bl _) => some "bool"
  | .d (.int _) => some "int"
  | .d (.str _) => some "str"
  | .d (.tup _) => some "tuple"
  | .d (.lst _) => some "list"
  | .d (.dct _) => some "dict"
  | .d (.scr _) => none
  | .lst _ => some "list"
  | .dct _ => some "dict"
  | .dcT _ => some "dict"
  | _ => none
theorem tyO_ok {o : O} {v : V} {H : Hp} {F : Fp} {n : String} (r : RO X.K H o v F) (e : tyO o = some n) : TyX X.K H v (.type n) := by
  unfold tyO at e
  split at e
  · cases e; cases r.od; exact .base .non
  · cases e; cases r.od; exact .base (.bl _)
  · cases e; cases r.od; exact .base (.int _)
  · cases e; cases r.od; exact .base (.str _)
  · cases e
    cases r.od with
    | tup h _ => exact .base (.tup h)
  · cases e; cases r.od with | lst h _ => exact .base (.frz h)
  · cases e; cases r.od with | dct h _ _ => exact .fDict h
  · cases e
  · cases e; cases r with | lst h _ _ => exact .base (.lst h)
  · cases e; cases r with | dct h _ _ _ => exact .base (.dK h)
  · cases e; cases r with | dcT h _ _ _ => exact .base (.dT h)
  · cases e
/-- whether a built-in class is, or comes of, another one -/
def isTy (n m : String) : Bool := n == m || (n == "bool" && m == "int")
def kTys : List String := ["NoneType", "bool", "int", "str", "tuple", "list", "dict"]
theorem kit_tys {K : PySem.W.Frag} : ∀ n ∈ kTys, ∀ m ∈ ["int", "bool", "str", "tuple", "list", "dict"], PySem.W.kitOne K (.type n) (.type m) = some (isTy n m) := by
  intro n hn m hm
  simp only [kTys, List.mem_cons, List.not_mem_nil, or_false] at hn hm
  rcases hn with rfl | rfl | rfl | rfl | rfl | rfl | rfl <;> rcases hm with rfl | rfl | rfl | rfl | rfl | rfl <;> exact kit_ty (by decide +kernel)
end
end TL

set_option maxHeartbeats 1000000
namespace TL
open PySem L2

/-! ### tables by keys -/
section
variable {κ α β : Type} [DecidableEq κ]
def getK (m : List (κ × α)) (k : κ) : Option α := (m.find? fun p => decide (p.1 = k)).map (·.2)
def hasK (m : List (κ × α)) (k : κ) : Bool := m.any fun p => decide (p.1 = k)
def setK (m : List (κ × α)) (k : κ) (x : α) : List (κ × α) := if hasK m k then m.map fun p => if p.1 = k then (p.1, x) else p else m ++ [(k, x)]
end
def keyD : D → Option Key
  | .int i => some (.inl i)
  | .str x => some (.inr x)
  | _ => none
def keyO : O → Option Key
  | .d x => keyD x
  | _ => none
def kD : Key → D
  | .inl i => .int i
  | .inr x => .str x
section
variable {K : PySem.W.Frag} {H : Hp}
theorem keyO_ok {o : O} {v : V} {F : Fp} {k : Key} (r : RO K H o v F) (e : keyO o = some k) : v = kV k := by
  cases o with
  | d x =>
    cases x with
    | int i => cases e; cases r.od; rfl
    | str i => cases e; cases r.od; rfl
    | _ => cases e
  | _ => cases e
theorem kD_ok (k : Key) : RD K H (kD k) (kV k) := by
  cases k with
  | inl i => exact .int i
  | inr x => exact .str x
theorem getK_rd {κ : Type} [DecidableEq κ] {k : κ} : ∀ {m : List (κ × D)} {kvs : List (κ × V)} {x : D}, kvs.map (·.1) = m.map (·.1) → RDs K H (m.map (·.2)) (kvs.map (·.2)) → getK m k = some x → ∃ v, valV kvs k = some v ∧ RD K H x v
  | [], kvs, x, _, _, e => by cases e
  | (k', y) :: m, [], x, h, _, _ => by cases h
  | (k', y) :: m, (k2, v) :: kvs, x, h, r, e => by
    simp only [List.map_cons, List.cons.injEq] at h
    obtain ⟨h1, h2⟩ := h
    subst h1
    cases r with
    | cons r1 r2 =>
      by_cases c : k2 = k
      · unfold getK at e
        rw [List.find?_cons, show decide (k2 = k) = true from decide_eq_true c] at e
        cases e
        exact ⟨v, valV_pos c, r1⟩
      · unfold getK at e
        rw [List.find?_cons, show decide (k2 = k) = false from decide_eq_false c] at e
        obtain ⟨w, a, b⟩ := getK_rd h2 r2 e
        exact ⟨w, by rw [valV_neg c]; exact a, b⟩
theorem getK_none {κ : Type} [DecidableEq κ] {k : κ} {α : Type} : ∀ {m : List (κ × α)} {kvs : List (κ × V)}, kvs.map (·.1) = m.map (·.1) → getK m k = none → valV kvs k = none
  | [], [], _, _ => rfl
  | [], _ :: _, h, _ => by cases h
  | (k', y) :: m, [], h, _ => by cases h
  | (k', y) :: m, (k2, v) :: kvs, h, e => by
    simp only [List.map_cons, List.cons.injEq] at h
    obtain ⟨h1, h2⟩ := h
    subst h1
    by_cases c : k2 = k
    · unfold getK at e
      rw [List.find?_cons, show decide (k2 = k) = true from decide_eq_true c] at e
      cases e
    · unfold getK at e
      rw [List.find?_cons, show decide (k2 = k) = false from decide_eq_false c] at e
      rw [valV_neg c]
      exact getK_none h2 e
theorem ROs.get : ∀ {os : List O} {vs : List V} {F : Fp} {i : Nat} {o : O}, ROs K H os vs F → os[i]? = some o → ∃ v G, vs[i]? = some v ∧ RO K H o v G ∧ (∀ a, G a → F a)
  | _, _, _, _, _, .nil, e => by simp at e
  | _, _, _, 0, _, .cons F1 F2 h r a b d, e => by simp at e; subst e; exact ⟨_, F1, rfl, h, a⟩
  | _, _, _, i + 1, _, .cons F1 F2 h r a b d, e => by
    obtain ⟨v, G, q, h', s⟩ := ROs.get (i := i) r (by simpa using e)
    exact ⟨v, G, by simpa using q, h', fun x z => b x (s x z)⟩
theorem getK_ro {κ : Type} [DecidableEq κ] {k : κ} : ∀ {m : List (κ × O)} {kvs : List (κ × V)} {x : O} {F : Fp}, kvs.map (·.1) = m.map (·.1) → ROs K H (m.map (·.2)) (kvs.map (·.2)) F → getK m k = some x → ∃ v G, valV kvs k = some v ∧ RO K H x v G
  | [], kvs, x, _, _, _, e => by cases e
  | (k', y) :: m, [], x, _, h, _, _ => by cases h
  | (k', y) :: m, (k2, v) :: kvs, x, F, h, r, e => by
    simp only [List.map_cons, List.cons.injEq] at h
    obtain ⟨h1, h2⟩ := h
    subst h1
    cases r with
    | cons F1 F2 r1 r2 _ _ _ =>
      by_cases c : k2 = k
      · unfold getK at e
        rw [List.find?_cons, show decide (k2 = k) = true from decide_eq_true c] at e
        cases e
        exact ⟨v, F1, valV_pos c, r1⟩
      · unfold getK at e
        rw [List.find?_cons, show decide (k2 = k) = false from decide_eq_false c] at e
        obtain ⟨w, G, a, b⟩ := getK_ro h2 r2 e
        exact ⟨w, G, by rw [valV_neg c]; exact a, b⟩
theorem hasK_get {κ α : Type} [DecidableEq κ] (m : List (κ × α)) (k : κ) : hasK m k = (getK m k).isSome := by
  induction m with
  | nil => rfl
  | cons p m ih =>
    unfold hasK getK
    rw [List.any_cons, List.find?_cons]
    by_cases c : p.1 = k
    · rw [decide_eq_true c]; rfl
    · rw [decide_eq_false c]; exact ih
theorem atI_rd {xs : List D} {vs : List V} {i : Int} {x : D} (r : RDs K H xs vs) (e : atI xs i = some x) : ∃ v, atI vs i = some v ∧ RD K H x v := by
  unfold atI at e ⊢
  rw [← r.length]
  cases q : ixN xs.length i with
  | none => rw [q] at e; cases e
  | some j => rw [q] at e; exact r.get e
theorem atI_ro {os : List O} {vs : List V} {F : Fp} {i : Int} {o : O} (r : ROs K H os vs F) (e : atI os i = some o) : ∃ v G, atI vs i = some v ∧ RO K H o v G := by
  unfold atI at e ⊢
  rw [← r.length]
  cases q : ixN os.length i with
  | none => rw [q] at e; cases e
  | some j =>
    rw [q] at e
    obtain ⟨v, G, a, b, _⟩ := r.get e
    exact ⟨v, G, a, b⟩
end
section
variable {X : Cx}
/-! ### an item -/
variable (X) in
def IxS (g : O → O → Option O) : Prop :=
  ∀ (value slice : Expr) (pins : List (Addr × Obj)) (s : Shared) (σ : L2.St) (H : Hp) (x y : V) (v u : Value) (ox oy o : O) (F G : Fp), Inv X pins σ H s → RelV x v → RelV y u → RO X.K H ox x F → RO X.K H oy y G → g ox oy = some o →
    subscripted slice false v u = operate [v, u] (getItem v u) → wpAny (model X.prog X.w) X.A (PyProof.Rows.subscriptTail value slice v u) (EP X pins σ (New X.K H o)) X.xe s
theorem IxS.of {g : O → O → Option O} {r : R2} (h : IxR X r) (k : ∀ H x y ox oy F G o, RO X.K H ox x F → RO X.K H oy y G → g ox oy = some o → r x y H (New X.K H o)) : IxS X g :=
  fun a b pins s σ H x y v u ox oy o F G I rx ry r1 r2 e hs => h a b pins s σ H x y v u _ I rx ry (k H x y ox oy F G o r1 r2 e) hs
theorem IxS.or {g g' : O → O → Option O} (h : IxS X g) (h' : IxS X g') : IxS X (orO g g') := by
  intro a b pins s σ H x y v u ox oy o F G I rx ry r1 r2 e hs
  unfold orO at e
  cases q : g ox oy with
  | some r => rw [q] at e; cases e; exact h a b pins s σ H x y v u ox oy _ F G I rx ry r1 r2 q hs
  | none => rw [q] at e; exact h' a b pins s σ H x y v u ox oy _ F G I rx ry r1 r2 e hs
theorem IxS.rule {g : O → O → Option O} (h : IxS X g) : IxR X (rOf X.K g) := by
  intro a b pins s σ H x y v u Q I rx ry ⟨ox, oy, r, F, G, r1, r2, e, q⟩ hs
  exact thn (h a b pins s σ H x y v u ox oy r F G I rx ry r1 r2 e hs) fun w s' ⟨z, H', I', rz, n⟩ => ⟨z, H', I', rz, q z H' n⟩
theorem se_ix {g : O → O → Option O} {a b : Expr} {fa fb : M (O × Option Nat)} {pos : Pos} (h : IxS X g) (ha : OE X a fa) (hb : OE X b fb) (hs : PlainIx b := by intro _ _; rfl) : SE X (.Subscript a b pos) (cBin g fa fb) :=
  PE.imp (pe_ix h.rule ha hb hs) fun _ _ _ h => bin_ok h
/-- what is copied out of a place -/
def dO : O → Option O
  | .d x => some (.d x)
  | _ => none
theorem dO_of {o r : O} (e : dO o = some r) : ∃ x, o = .d x ∧ r = .d x := by
  unfold dO at e
  split at e
  · cases e; exact ⟨_, rfl, rfl⟩
  · cases e
def gIxL : O → O → Option O
  | .lst os, .d (.int i) => (atI os i).bind dO
  | .d (.lst xs), .d (.int i) => (atI xs i).map O.d
  | .d (.scr xs), .d (.int i) => (atI xs i).map O.d
  | _, _ => none
theorem is_ixL : IxS X gIxL := .of ix_list fun H x y ox oy F G o r1 r2 e => by
  unfold gIxL at e
  split at e
  · rename_i os i
    cases r2.od
    cases q : atI os i with
    | none => rw [q] at e; cases e
    | some o' =>
      rw [q] at e
      obtain ⟨z, rfl, rfl⟩ := dO_of e
      cases r1 with
      | lst h f r =>
        obtain ⟨v, G', a, b⟩ := atI_ro r q
        exact ⟨_, _, i, v, rfl, rfl, .of h, a, .d b.od⟩
  · rename_i xs i
    cases r2.od
    cases q : atI xs i with
    | none => rw [q] at e; cases e
    | some d =>
      rw [q] at e; cases e
      cases r1.od with
      | lst h r =>
        obtain ⟨v, a, b⟩ := atI_rd r q
        exact ⟨_, _, i, v, rfl, rfl, .inl (.inr ⟨_, h⟩), a, .d b⟩
  · rename_i xs i
    cases r2.od
    cases q : atI xs i with
    | none => rw [q] at e; cases e
    | some d =>
      rw [q] at e; cases e
      cases r1.od with
      | scr h r =>
        obtain ⟨v, a, b⟩ := atI_rd r q
        exact ⟨_, _, i, v, rfl, rfl, h.sq, a, .d b⟩
  · cases e
def gIxT : O → O → Option O
  | .d (.tup xs), .d (.int i) => (atI xs i).map O.d
  | _, _ => none
theorem is_ixT : IxS X gIxT := .of ix_tup fun H x y ox oy F G o r1 r2 e => by
  unfold gIxT at e
  split at e
  · rename_i xs i
    cases r2.od
    cases q : atI xs i with
    | none => rw [q] at e; cases e
    | some d =>
      rw [q] at e; cases e
      cases r1.od with
      | tup h r =>
        obtain ⟨v, a, b⟩ := atI_rd r q
        exact ⟨_, _, i, v, rfl, rfl, .of h, a, .d b⟩
  · cases e
def gIxS : O → O → Option O
  | .d (.str z), .d (.int i) => if z.length ≤ sizeLine then (atI z.cps.toList i).map fun c => .d (.str ⟨#[c]⟩) else none
  | _, _ => none
theorem is_ixS : IxS X gIxS := .of ix_str fun H x y ox oy F G o r1 r2 e => by
  unfold gIxS at e
  split at e
  · rename_i z i
    split at e
    · rename_i hz
      cases r2.od
      cases r1.od
      cases q : atI z.cps.toList i with
      | none => rw [q] at e; cases e
      | some c => rw [q] at e; cases e; exact ⟨z, i, c, rfl, rfl, hz, q, .d (.str _)⟩
    · cases e
  · cases e
theorem ix_dict (hu : X.A.units + 1 < cLine) : IxR X (fun x y H Q => ∃ a v, x = .ref a ∧ DGet H a y (some v) ∧ Q v H) := by
  intro value slice pins s σ H x y v u Q I rx ry ⟨a, w, ex, g, q⟩ hs
  subst ex
  cases rx
  exact PyProof.Rows.tail_any (dict_typeIs I g) PySem.F.slot_dict_getitem.lookup (d_getItem hu I g ry fun w' s3 I3 rw' => ⟨w, H, I3, rw', q⟩) hs
def gIxD : O → O → Option O
  | .dct m, y => match keyO y with
    | some k => (getK m k).bind dO
    | none => none
  | .d (.dct m), y => match keyO y with
    | some k => (getK m k).map O.d
    | none => none
  | _, _ => none
theorem is_ixD (hu : X.A.units + 1 < cLine) : IxS X gIxD := .of (ix_dict hu) fun H x y ox oy F G o r1 r2 e => by
  unfold gIxD at e
  cases ox with
  | dct m =>
    dsimp only at e
    cases hk : keyO oy with
    | none => rw [hk] at e; cases e
    | some k =>
      rw [hk] at e
      dsimp only at e
      have ey := keyO_ok r2 hk
      subst ey
      cases q : getK m k with
      | none => rw [q] at e; cases e
      | some o' =>
        rw [q] at e
        obtain ⟨z, rfl, rfl⟩ := dO_of e
        cases r1 with
        | dct h f e2 r =>
          obtain ⟨v, G', a, b⟩ := getK_ro e2 r q
          exact ⟨_, v, rfl, by rw [← a]; exact .k h, .d b.od⟩
  | d x =>
    cases x with
    | dct m =>
      dsimp only at e
      cases hk : keyO oy with
      | none => rw [hk] at e; cases e
      | some k =>
        rw [hk] at e
        dsimp only at e
        have ey := keyO_ok r2 hk
        subst ey
        cases q : getK m k with
        | none => rw [q] at e; cases e
        | some d =>
          rw [q] at e; cases e
          cases r1.od with
          | dct h e2 r =>
            obtain ⟨v, a, b⟩ := getK_rd e2 r q
            exact ⟨_, v, rfl, by rw [← a]; exact .inl ⟨_, k, .inr ⟨_, h⟩, rfl, rfl⟩, .d b⟩
    | _ => cases e
  | _ => cases e
def gIx : O → O → Option O := orO gIxL (orO gIxT (orO gIxS gIxD))
theorem is_ix (hu : X.A.units + 1 < cLine) : IxS X gIx := is_ixL.or (is_ixT.or (is_ixS.or (is_ixD hu)))

/-! ### in a dict, in a sequence -/
theorem or_din (hu : X.A.units + 1 < cLine) (neg : Bool) : OpR X (compareOp (if neg then .NotIn else .In)) (fun x y H Q => ∃ a o, y = .ref a ∧ DGet H a x o ∧ Q (.bl (if neg then !o.isSome else o.isSome)) H) := by
  intro pins s σ H x y v u Q I rx ry ⟨a, o, ey, g, q⟩
  subst ey
  cases ry
  cases neg with
  | false => exact d_in hu I g rx fun s' I' => ⟨.bl _, H, I', rfl, q⟩
  | true => exact d_notIn hu I g rx fun s' I' => ⟨.bl _, H, I', rfl, q⟩
def gInD (neg : Bool) : O → O → Option O := fun x y => match keyO x, y with
  | some k, .dct m => some (.d (.bl (if neg then !hasK m k else hasK m k)))
  | some k, .d (.dct m) => some (.d (.bl (if neg then !hasK m k else hasK m k)))
  | _, _ => none
theorem valV_isSome {α : Type} {m : List (Key × α)} {kvs : List (Key × V)} {k : Key} (e : kvs.map (·.1) = m.map (·.1)) : (valV kvs k).isSome = hasK m k := by
  rw [← valV_any]
  unfold hasK
  have h : ∀ {β : Type} (l : List (Key × β)), (l.any fun p => decide (p.1 = k)) = (l.map (·.1)).any fun x => decide (x = k) := fun l => by rw [List.any_map]; rfl
  rw [h kvs, h m, e]
theorem os_inD' (hu : X.A.units + 1 < cLine) (neg : Bool) : OpS X (compareOp (if neg then .NotIn else .In)) (gInD neg) := .of (or_din hu neg) fun H x y ox oy F G o r1 r2 e => by
  unfold gInD at e
  split at e
  · rename_i k m hk
    cases e
    have ex := keyO_ok r1 hk
    subst ex
    cases r2 with
    | dct h f e2 r => exact ⟨_, _, rfl, .k h, by rw [valV_isSome e2]; exact .d (.bl _)⟩
  · rename_i k m hk
    cases e
    have ex := keyO_ok r1 hk
    subst ex
    cases r2.od with
    | dct h e2 r => exact ⟨_, _, rfl, .inl ⟨_, k, .inr ⟨_, h⟩, rfl, rfl⟩, by rw [valV_isSome e2]; exact .d (.bl _)⟩
  · cases e

/-! ### slices -/
def cutD {α : Type} (xs : List α) (lo hi : Option Int) : List α := (xs.drop (HT.sIx xs.length 0 lo)).take (HT.sIx xs.length xs.length hi - HT.sIx xs.length 0 lo)
def gSl (x : O) (lo hi : Option Int) : Option O := match asT x with
  | some xs => some (.d (.tup (cutD xs lo hi)))
  | none => match asL x with
    | some xs => some (.lst ((cutD xs lo hi).map O.d))
    | none => match x with
      | .d (.str z) => if z.length ≤ sizeLine then some (.d (.str (cutS z lo hi))) else none
      | _ => none
theorem cut_rd {K : PySem.W.Frag} {H : Hp} {xs : List D} {vs : List V} {lo hi : Option Int} (r : RDs K H xs vs) : RDs K H (cutD xs lo hi) (cutV vs lo hi) := by
  unfold cutD cutV
  rw [← r.length]
  exact (r.drop _).take _
theorem cut_all {K : PySem.W.Frag} {H : Hp} {xs : List D} {vs : List V} {lo hi : Option Int} (r : RDs K H xs vs) (h : HT.sIx vs.length 0 lo = 0 ∧ HT.sIx vs.length vs.length hi = vs.length) : cutD xs lo hi = xs := by
  unfold cutD
  rw [r.length, h.1, h.2, List.drop_zero, Nat.sub_zero, ← r.length, List.take_length]
theorem slR_of : SlR X (fun x lo hi H Q => ∃ ox o F, RO X.K H ox x F ∧ gSl ox lo hi = some o ∧ ∀ z H', New X.K H o z H' → Q z H') := by
  intro pins s σ H x v vl vu lo hi sl Q I rx hs pl pu ⟨ox, o, F, ro, e, q⟩
  unfold gSl at e
  split at e
  · rename_i xs hx
    cases e
    obtain ⟨a, vs, rfl, h, r⟩ := asT_ok ro hx
    refine sl_tupA pins s σ H _ v vl vu lo hi sl Q I rx hs pl pu ⟨a, vs, rfl, .of h, fun c => q _ _ ?_, fun c p hp => q _ _ (.tup hp (cut_rd r))⟩
    rw [cut_all r c]
    exact .d (.tup h r)
  · split at e
    · rename_i xs hx
      cases e
      obtain ⟨a, vs, rfl, h, r⟩ := asL_ok ro hx
      exact sl_list pins s σ H _ v vl vu lo hi sl Q I rx hs pl pu ⟨a, vs, rfl, h, fun p hp => q _ _ (.lst hp (cut_rd r))⟩
    · split at e
      · split at e
        · rename_i hz
          cases e
          cases ro.od
          exact sl_str pins s σ H _ v vl vu lo hi sl Q I rx hs pl pu ⟨_, rfl, hz, q _ _ (.d (.str _))⟩
        · cases e
      · cases e
/-- a slice's part -/
def PPt (X : Cx) (F : Fp) (σ : L2.St) (H : Hp) (Q : Option Int → Hp → Prop) (i : Option Int) (env : Env) : Prop := ∀ H' F2, RelE X.K H' env σ F2 → Step F H H' → Sub F2 F H → Q i H'
def tPt (X : Cx) (f : M (Option Int)) : TO := fun σ H Q => ∃ env F, RelE X.K H env σ F ∧ Post (PPt X F σ H Q) (f env)
variable (X) in
def PtE (e : Option Expr) (f : M (Option Int)) : Prop := L2.PO X e (tPt X f)
theorem pt_none' : PtE X none (ret none) := ⟨fun pins s σ H Q I ⟨env, F, rel, h⟩ => po_none.run pins s σ H Q I (h H F rel .refl fun _ p => .inl p)⟩
def asI (f : M O) : M (Option Int) := bnd f fun o => lift (match o with | .d (.int i) => some (some i) | _ => none)
theorem pt_some {e : Expr} {f : M O} (h : SE X e f) : PtE X (some e) (asI f) := ⟨fun pins s σ H Q I ⟨env, F, rel, q⟩ => by
  refine (po_some h).run pins s σ H Q I ?_
  refine tOf_bind rel q fun o env1 v H1 F1 F2 ro a h => ?_
  cases o with
  | d x =>
    cases x with
    | int i => cases ro.od; exact ⟨i, rfl, h H1 F2 a.rel a.st fun x p => a.sub x (.inr p)⟩
    | _ => exact h.elim
  | _ => exact h.elim⟩
theorem tPt_bind {β : Type} {f : M (Option Int)} {k : Option Int → M β} {P : β → Env → Prop} {σ : L2.St} {H : Hp} {Q : Option Int → Hp → Prop} {env : Env} {F : Fp} (rel : RelE X.K H env σ F) (h : Post P (bnd f k env))
    (c : ∀ b env' H' F2, Aft X F H H' σ env' nof F2 → Post P (k b env') → Q b H') : tPt X f σ H Q :=
  ⟨env, F, rel, h.bnd.mono fun o e' q H' F2 re st sub => c o e' H' _ ⟨re.dom, fun a p q => p.elim, st, fun a z => sub a (z.elim False.elim And.left), fun a p => p.elim, fun a p => p.2⟩ q⟩
def cSl (fa : M (O × Option Nat)) (fl fh : M (Option Int)) : M O := bnd fa fun x => bnd fl fun l => bnd fh fun u => bnd (lift (gSl x.1 l u)) fun r => bnd (rst x.2 x.1) fun _ => ret r
theorem se_slice {e : Expr} {lo hi : Option Expr} {fa : M (O × Option Nat)} {fl fh : M (Option Int)} {p2 pos : Pos} (he : OE X e fa) (hl : PtE X lo fl) (hu : PtE X hi fh) : SE X (.Subscript e (.Slice lo hi none p2) pos) (cSl fa fl fh) := by
  refine PE.imp (pe_slice slR_of he hl hu) fun σ H Q ⟨env, F, rel, h⟩ => ?_
  refine tOp_bind rel h fun x env1 v H1 F1 F2 ro a g1 h => ?_
  refine tPt_bind a.rel h fun l env2 H2 F3 b h => ?_
  have dn : Disj F1 F3 := disj_new a.dj a.d1 fun x p => b.sub x (.inr p)
  have ro2 := ro.step b.st a.dj
  have st2 : Step F H H2 := a.st.trans b.st fun x p => a.sub x (.inr p)
  have d12 := a.d1.step b.st
  refine tPt_bind b.rel h fun u env3 H3 F4 c h => ?_
  have dn2 : Disj F1 F4 := disj_new dn d12 fun x p => c.sub x (.inr p)
  have ro3 := ro2.step c.st dn
  obtain ⟨r, e, h⟩ := h.lift
  have sub4 : ∀ x, F4 x → F x ∨ H x = none := fun x p => by
    rcases c.sub x (.inr p) with q | q
    · rcases b.sub x (.inr q) with q | q
      · exact a.sub x (.inr q)
      · exact .inr (a.st.free q)
    · exact .inr (st2.free q)
  have st3 : Step F H H3 := st2.trans c.st fun x p => (b.sub x (.inr p)).elim (fun q => a.sub x (.inr q)) fun q => .inr (a.st.free q)
  refine ⟨x.1, r, F1, ro3, e, fun z H' ⟨F', rz, st', sub'⟩ => ?_⟩
  obtain ⟨env4, rel4, h⟩ := rst_ok (c.rel.step st' fun _ _ z => z) (ro3.step st' fun _ _ z => z) dn2 g1 h
  refine h z H' F' _ rz rel4 (fun q m n => ?_) (st3.trans st' fun _ z => z.elim) fun q m => ?_
  · have hn : H3 q = none := (sub' q m).elim False.elim id
    rcases n with n | n
    · obtain ⟨o, eo⟩ := d12.step c.st q n; rw [hn] at eo; cases eo
    · obtain ⟨o, eo⟩ := c.d2 q n; rw [hn] at eo; cases eo
  · rcases m with m | m | m
    · exact .inr (st3.free ((sub' q m).elim False.elim id))
    · exact a.sub q (.inl m)
    · exact sub4 q m

/-! ### isinstance, -x, chains, globals -/
def gIsi : List O → Option O := g2 fun x c => match tyO x, c with
  | some n, .d (.ty m) => if n ∈ kTys ∧ m ∈ ["int", "bool", "str", "tuple", "list", "dict"] then some (.d (.bl (isTy n m))) else none
  | _, _ => none
theorem cs_isi : CallS X (.builtin "isinstance") gIsi := .of call_isi fun H xs os F o r e => by
  obtain ⟨x, y, v, w, G, G', rfl, rfl, h, h', q⟩ := g2_of r e
  split at q
  · rename_i n m hn
    split at q
    · rename_i c
      cases q
      cases h'.od
      exact ⟨v, .ty m, .type n, .type m, _, rfl, .ty m, tyO_ok h hn, kit_tys n c.1 m c.2, .d (.bl _)⟩
    · cases q
  · cases q
theorem se_bltn {x : Str} {n : String} {pos : Pos} (hg : Gl X x) (hm : X.mg x = none) (hv : bootBuiltins x = some (.type n)) (hn : x ≠ "__name__" := by decide) (hd : (x == ("__debug__" : Str)) = false := by decide) : SE X (.Name x pos) (con (.ty n)) :=
  se_con (pe_bltn hg hm hv (v := .ty n) rfl hn hd) fun _ => .ty n
/-- a module's constant -/
theorem se_glob {x : Str} {v : V} {d : D} {u : Value} {pos : Pos} (hg : Gl X x) (hm : X.mg x = some u) (r : RelV v u) (hd : ∀ H, RD X.K H d v) (hb : (x == ("__debug__" : Str)) = false := by decide) : SE X (.Name x pos) (con d) := se_con (pe_glob hg hm r hb) hd
def cNeg (f : M O) : M O := bnd f fun o => lift (match o with | .d (.int i) => some (.d (.int (-i))) | _ => none)
theorem se_neg {a : Expr} {f : M O} {pos : Pos} (ha : SE X a f) : SE X (.UnaryOp .USub a pos) (cNeg f) :=
  PE.imp (pe_un un_neg ha) fun σ H Q ⟨env, F, rel, h⟩ => tOf_bind rel h fun o env1 v H1 F1 F2 ro a h => by
    cases o with
    | d x =>
      cases x with
      | int i => cases ro.od; exact ⟨i, rfl, h _ H1 nof F2 (.d (.int _)) a.rel (fun _ p _ => p) a.st fun x p => p.elim False.elim fun p => a.sub x (.inr p)⟩
      | _ => exact h.elim
    | _ => exact h.elim
/-- a < b < c: b is asked once -/
def cChain (g g' : O → O → Option O) (fa fb fc : M O) : M O := bnd fa fun x => bnd fb fun y => bnd (lift (match g x y with | some (.d (.bl b)) => some b | _ => none)) fun b => if b = true then bnd fc fun z => lift (g' y z) else ret (.d (.bl false))
theorem chain_ok {g g' : O → O → Option O} {fa fb fc : M O} {σ : L2.St} {H : Hp} {Q : VK} (h : tOf X (cChain g g' fa fb fc) σ H Q) : tChain (rOf X.K g) (rOf X.K g') (tOf X fa) (tOf X fb) (tOf X fc) σ H Q := by
  obtain ⟨env, F, rel, h⟩ := h
  refine tOf_bind rel h fun x env1 v H1 F1 F2 ro1 a h => ?_
  refine tOf_bind a.rel h fun y env2 u H2 F3 F4 ro2 b h => ?_
  obtain ⟨k, e, h⟩ := h.lift
  obtain ⟨st, sub, d13, d14, dm⟩ := a.next b
  have eg : g x y = some (.d (.bl k)) := by
    split at e
    · rename_i q; cases e; exact q
    · cases e
  refine ⟨x, y, _, F1, F3, ro1.step b.st a.dj, ro2, eg, fun z H3 ⟨F', rz, st', sub'⟩ => ?_⟩
  cases rz.od
  refine ⟨k, rfl, ?_⟩
  have rel2 := b.rel.step st' fun _ _ z => z
  have ro3 := ro2.step st' fun _ _ z => z
  have st3 : Step F H H3 := st.trans st' fun _ z => z.elim
  cases k with
  | false => exact iteF (h _ H3 nof F4 (.d (.bl _)) rel2 (fun _ p _ => p) st3 fun x p => p.elim False.elim fun p => sub x (.inr (.inr p)))
  | true =>
    refine iteT (tOf_bind rel2 h fun w env3 v3 H4 F5 F6 ro4 c h => ?_)
    have h' : Post (PV X F σ H Q) (bnd (lift (g' y w)) ret env3) := by
      unfold bnd lift at *
      cases q : g' y w with
      | none => rw [q] at h; exact h
      | some r => rw [q] at h; exact h
    obtain ⟨r, e', h⟩ := h'.lift
    refine ⟨y, w, r, F3, F5, ro3.step c.st b.dj, ro4, e', fun z H5 ⟨F7, rz', st5, sub5⟩ => ?_⟩
    have st4 : Step F H H4 := st3.trans c.st fun x p => sub x (.inr (.inr p))
    refine h z H5 F7 F6 rz' (c.rel.step st5 fun _ _ z => z) (fun q m n => ?_) (st4.trans st5 fun _ z => z.elim) fun q m => ?_
    · have hn : H4 q = none := (sub5 q m).elim False.elim id
      obtain ⟨o, eo⟩ := c.d2 q n; rw [hn] at eo; cases eo
    · rcases m with m | m
      · exact .inr (st4.free ((sub5 q m).elim False.elim id))
      · rcases c.sub q (.inr m) with z | z
        · exact sub q (.inr (.inr z))
        · exact .inr (st3.free z)
theorem se_chain {op op' : CmpOp} {g g' : O → O → Option O} {a b c : Expr} {fa fb fc : M O} {pos : Pos} (ho : OpS X (compareOp op) g) (ho' : OpS X (compareOp op') g') (ha : SE X a fa) (hb : SE X b fb) (hc : SE X c fc)
    (hm : lastMarks [op, op'] [b, c] = false := by with_unfolding_all rfl) : SE X (.Compare a [op, op'] [b, c] pos) (cChain g g' fa fb fc) := PE.imp (pe_chain ho.rule ho'.rule ha hb hc hm) fun _ _ _ h => chain_ok h
theorem be_chain {op op' : CmpOp} {g g' : O → O → Option O} {a b c : Expr} {fa fb fc : M O} {pos : Pos} (ho : OpS X (compareOp op) g) (ho' : OpS X (compareOp op') g') (ha : SE X a fa) (hb : SE X b fb) (hc : SE X c fc)
    (hm : lastMarks [op, op'] [b, c] = false := by with_unfolding_all rfl) : BE X (.Compare a [op, op'] [b, c] pos) (asB (cChain g g' fa fb fc)) := PT.imp (pt_chain ho.rule ho'.rule ha hb hc hm) fun _ _ _ h => test_ok (e := a) (fun _ _ _ => chain_ok) h
end
end TL

set_option maxHeartbeats 1000000
namespace TL
open PySem L2

section
variable {X : Cx}
/-! ### methods of built-in types -/
variable (X) in
def TyB (T : String) (x : V) (H : Hp) : Prop := ∀ (pins : List (Addr × Obj)) (σ : L2.St) (s : Shared) (v : Value), Inv X pins σ H s → RelV x v → s.TypeIs v T ∧ ∀ a, v = .ref a → ∃ ob, s.heap.get? a = some ob ∧ ob.dict = none
theorem tyB_of {o : O} {v : V} {H : Hp} {F : Fp} {T : String} (r : RO X.K H o v F) (e : tyO o = some T) (h : T ∈ ["str", "list", "dict"]) : TyB X T v H := by
  intro pins σ s u I rv
  have dk : ∀ {a : Addr} {kvs : List (Key × V)}, Rd H a (.dK kvs) → s.TypeIs (.ref a) "dict" ∧ ∀ b, Value.ref a = .ref b → ∃ ob, s.heap.get? b = some ob ∧ ob.dict = none := fun {a kvs} h => by
    obtain ⟨_, _, vs, _, ob, _, _, h1, h2, _⟩ := dk_rd I.hok h
    refine ⟨⟨ob, h1, h2.1⟩, fun b e => ?_⟩
    cases e
    exact ⟨ob, h1, h2.2.1⟩
  unfold tyO at e
  split at e
  · cases e; simp at h
  · cases e; simp at h
  · cases e; simp at h
  · cases e; cases r.od; exact tyV_is I rv rfl
  · cases e; simp at h
  · cases e; cases r.od with | lst h2 _ => exact tyV_is I rv (.inl ⟨rfl, _, .inl (.inr ⟨_, h2⟩)⟩)
  · cases e; cases r.od with | dct h2 _ _ => cases rv; exact dk (.inr ⟨_, h2⟩)
  · cases e
  · cases e; cases r with | lst h2 _ _ => exact tyV_is I rv (.inl ⟨rfl, _, .of h2⟩)
  · cases e; cases r with | dct h2 _ _ _ => cases rv; exact dk (.inl h2)
  · cases e; cases r with | dcT h2 _ _ _ => exact tyV_is I rv (.inr (.inr (.inl ⟨rfl, .inr ⟨_, h2⟩⟩)))
  · cases e
section
variable {o e : Expr} {es : List Expr} {to : TE} {t : TA} {name : Str} {apos cpos : Pos} {T id : String} {r : V → List V → Hp → VK → Prop}
theorem pe_bmG0 (pa : PlainAttrs T) (slot : Slot T name id) (hty : typeOf (.builtin id) = pure (.type "method_descriptor")) (hm : MtR X id r) (ho : PE X o to)
    (hbase : attributeBase o name X.env (eval o X.env) = eval o X.env := by rfl) (hline : (apos.endLine == cpos.line) = true := by rfl) : PE X (.Call (.Attribute o name apos) [] [] cpos) (fun σ H Q => to σ H fun x H1 => TyB X T x H1 ∧ r x [] H1 Q) := by
  refine ⟨fun pins s σ H Q I h => ?_⟩
  refine wpAny_Call_method0_late hbase hline (thn (ho.run pins s σ H _ I h) fun v s1 ⟨x, H1, I1, r1, ty, q1⟩ => ?_)
  obtain ⟨h1, h2⟩ := ty pins σ s1 v I1 r1
  exact ⟨T, id, pa, slot, hty, h1, h2, Calls.callWith_builtin rfl (PySem.evalArgs_none (hm pins s1 σ H1 x [] v [] Q I1 r1 .nil q1))⟩
theorem pe_bmG (pa : PlainAttrs T) (slot : Slot T name id) (hty : typeOf (.builtin id) = pure (.type "method_descriptor")) (hm : MtR X id r) (ho : PE X o to) (ha : PA X (e :: es) t)
    (hbase : attributeBase o name X.env (eval o X.env) = eval o X.env := by rfl)
    (hfew : ((backTo cpos (starEach (e :: es) X.env)).all (fun x => !x.1) && (backToKw cpos (keywordEach [] X.env)).all (fun x => x.1.isSome)
      && decide ((e :: es).length + ([] : List Keyword).length + (if ([] : List Keyword).isEmpty then 0 else 1) < 30)) = true := by rfl)
    (hline : (apos.endLine == cpos.line) = true := by rfl) (hs : starEach (e :: es) X.env = (false, eval e X.env) :: starEach es X.env := by rfl) (hplain : (backTo cpos (starEach es X.env)).any (·.1) = false := by rfl) :
    PE X (.Call (.Attribute o name apos) (e :: es) [] cpos) (fun σ H Q => to σ H fun x H1 => TyB X T x H1 ∧ t σ H1 fun xs H2 => r x xs H2 Q) := by
  refine ⟨fun pins s σ H Q I h => ?_⟩
  refine wpAny_Call_method_late hbase hfew hline rfl (thn (ho.run pins s σ H _ I h) fun v s1 ⟨x, H1, I1, r1, ty, q1⟩ => ?_)
  obtain ⟨h1, h2⟩ := ty pins σ s1 v I1 r1
  refine ⟨T, id, pa, slot, hty, h1, h2, ?_⟩
  have hA := ha.run cpos pins s1 σ H1 _ I1 q1
  rw [hs] at hA ⊢
  refine Calls.callWith_builtin (by show (false || (backTo cpos (starEach es X.env)).any (·.1)) = false; rw [hplain] <;> rfl) (Calls.evalArgs_plain ?_)
  exact thn hA fun us s2 ⟨vs, H2, I2, r2, q2⟩ => hm pins s2 σ H2 x vs v us Q I2 r1 r2 q2
end
/-! reading methods: the receiver comes back -/
variable (X) in
def MtS (id : String) (g : O → List O → Option O) : Prop :=
  ∀ (pins : List (Addr × Obj)) (s : Shared) (σ : L2.St) (H : Hp) (x : V) (xs : List V) (v : Value) (us : List Value) (ox : O) (os : List O) (o : O) (F G : Fp), Inv X pins σ H s → RelV x v → Vals xs us → RO X.K H ox x F → ROs X.K H os xs G → g ox os = some o →
    wpAny (model X.prog X.w) X.A (call (.builtin id) (v :: us)) (EP X pins σ (New X.K H o)) X.xe s
theorem MtS.of {id : String} {g : O → List O → Option O} {r : V → List V → Hp → VK → Prop} (h : MtR X id r) (k : ∀ H x xs ox os F G o, RO X.K H ox x F → ROs X.K H os xs G → g ox os = some o → r x xs H (New X.K H o)) : MtS X id g :=
  fun pins s σ H x xs v us ox os o F G I rv rvs r1 r2 e => h pins s σ H x xs v us _ I rv rvs (k H x xs ox os F G o r1 r2 e)
def rOfM (K : PySem.W.Frag) (g : O → List O → Option O) : V → List V → Hp → VK → Prop := fun x xs H Q => ∃ ox os o F G, RO K H ox x F ∧ ROs K H os xs G ∧ g ox os = some o ∧ ∀ z H', New K H o z H' → Q z H'
theorem MtS.rule {id : String} {g : O → List O → Option O} (h : MtS X id g) : MtR X id (rOfM X.K g) := by
  intro pins s σ H x xs v us Q I rv rvs ⟨ox, os, o, F, G, r1, r2, e, q⟩
  exact thn (h pins s σ H x xs v us ox os o F G I rv rvs r1 r2 e) fun w s' ⟨z, H', I', rz, n⟩ => ⟨z, H', I', rz, q z H' n⟩
def chk (T : String) (o : O) : Option Unit := if tyO o = some T then some () else none
def cMt (T : String) (g : O → List O → Option O) (fr : M (O × Option Nat)) (fa : M (List (O × Option Nat))) : M O :=
  bnd fr fun x => bnd (lift (chk T x.1)) fun _ => bnd fa fun rs => bnd (lift (g x.1 (rs.map (·.1)))) fun o => bnd (rstAll rs) fun _ => bnd (rst x.2 x.1) fun _ => ret o
theorem chk_of {T : String} {o : O} {u : Unit} (h : chk T o = some u) : tyO o = some T := by
  unfold chk at h
  split at h
  · assumption
  · cases h
theorem mt_ok {T : String} (hT : T ∈ ["str", "list", "dict"]) {g : O → List O → Option O} {fr : M (O × Option Nat)} {fa : M (List (O × Option Nat))} {σ : L2.St} {H : Hp} {Q : VK} (h : tOf X (cMt T g fr fa) σ H Q) :
    tOp' X fr σ H fun x H1 => TyB X T x H1 ∧ tLOf X fa σ H1 fun xs H2 => rOfM X.K g x xs H2 Q := by
  obtain ⟨env, F, rel, h⟩ := h
  refine tOp_bind rel h fun x env1 v H1 F1 F2 ro1 a g1 h => ?_
  obtain ⟨u, eu, h⟩ := h.lift
  refine ⟨tyB_of ro1 (chk_of eu) hT, ?_⟩
  refine tLO_bind a.rel h fun rs env2 us H2 F3 F4 ro2 b g2 h => ?_
  obtain ⟨o, e, h⟩ := h.lift
  obtain ⟨st, sub, d13, d14, dm⟩ := a.next b
  have ro1' := ro1.step b.st a.dj
  refine ⟨x.1, rs.map (·.1), o, F1, F3, ro1', ro2, e, fun z H' ⟨F', rz, st', sub'⟩ => ?_⟩
  obtain ⟨env3, rel3, h⟩ := rstAll_ok (b.rel.step st' fun _ _ z => z) (ro2.step st' fun _ _ z => z) b.dj g2 h
  obtain ⟨env4, rel4, h⟩ := rst_ok rel3 (ro1'.step st' fun _ _ z => z) (fun q m n => n.elim (d13 q m) (d14 q m)) g1 h
  refine h z H' F' _ rz rel4 (fun q m n => ?_) (st.trans st' fun _ z => z.elim) fun q m => ?_
  · have hn : H2 q = none := (sub' q m).elim False.elim id
    rcases n with n | n | n
    · obtain ⟨o, eo⟩ := dm q n; rw [hn] at eo; cases eo
    · obtain ⟨o, eo⟩ := b.d1 q n; rw [hn] at eo; cases eo
    · obtain ⟨o, eo⟩ := b.d2 q n; rw [hn] at eo; cases eo
  · rcases m with m | m
    · exact .inr (st.free ((sub' q m).elim False.elim id))
    · exact sub q m
theorem se_mt {o e : Expr} {es : List Expr} {name : Str} {apos cpos : Pos} {T id : String} {g : O → List O → Option O} {fr : M (O × Option Nat)} {fa : M (List (O × Option Nat))} (hT : T ∈ ["str", "list", "dict"]) (pa : PlainAttrs T) (slot : Slot T name id) (hty : typeOf (.builtin id) = pure (.type "method_descriptor")) (hm : MtS X id g) (ho : OE X o fr) (ha : AO X (e :: es) fa)
    (hbase : attributeBase o name X.env (eval o X.env) = eval o X.env := by rfl)
    (hfew : ((backTo cpos (starEach (e :: es) X.env)).all (fun x => !x.1) && (backToKw cpos (keywordEach [] X.env)).all (fun x => x.1.isSome)
      && decide ((e :: es).length + ([] : List Keyword).length + (if ([] : List Keyword).isEmpty then 0 else 1) < 30)) = true := by rfl)
    (hline : (apos.endLine == cpos.line) = true := by rfl) (hs : starEach (e :: es) X.env = (false, eval e X.env) :: starEach es X.env := by rfl) (hplain : (backTo cpos (starEach es X.env)).any (·.1) = false := by rfl) :
    SE X (.Call (.Attribute o name apos) (e :: es) [] cpos) (cMt T g fr fa) :=
  PE.imp (pe_bmG pa slot hty hm.rule ho ha hbase hfew hline hs hplain) fun _ _ _ h => mt_ok hT h
theorem se_mt0 {o : Expr} {name : Str} {apos cpos : Pos} {T id : String} {g : O → List O → Option O} {fr : M (O × Option Nat)} (hT : T ∈ ["str", "list", "dict"]) (pa : PlainAttrs T) (slot : Slot T name id) (hty : typeOf (.builtin id) = pure (.type "method_descriptor")) (hm : MtS X id g) (ho : OE X o fr)
    (hbase : attributeBase o name X.env (eval o X.env) = eval o X.env := by rfl) (hline : (apos.endLine == cpos.line) = true := by rfl) : SE X (.Call (.Attribute o name apos) [] [] cpos) (cMt T g fr nilO) :=
  PE.imp (pe_bmG0 pa slot hty hm.rule ho hbase hline) fun σ H Q h => by
    obtain ⟨env, F, rel, h⟩ := h
    refine tOp_bind rel h fun x env1 v H1 F1 F2 ro1 a g1 h => ?_
    obtain ⟨u, eu, h⟩ := h.lift
    refine ⟨tyB_of ro1 (chk_of eu) hT, ?_⟩
    obtain ⟨o, e, h⟩ := Post.lift (g := fun o => bnd (rstAll []) fun _ => bnd (rst x.2 x.1) fun _ => ret o) (o := g x.1 []) (e := env1) h
    refine ⟨x.1, [], o, F1, nof, ro1, .nil, e, fun z H' ⟨F', rz, st', sub'⟩ => ?_⟩
    obtain ⟨env4, rel4, h⟩ := rst_ok (a.rel.step st' fun _ _ z => z) (ro1.step st' fun _ _ z => z) a.dj g1 h
    refine h z H' F' _ rz rel4 (fun q m n => ?_) (a.st.trans st' fun _ z => z.elim) fun q m => ?_
    · have hn : H1 q = none := (sub' q m).elim False.elim fun z => z
      rcases n with n | n
      · obtain ⟨o, eo⟩ := a.d1 q n; rw [hn] at eo; cases eo
      · obtain ⟨o, eo⟩ := a.d2 q n; rw [hn] at eo; cases eo
    · rcases m with m | m
      · exact .inr (a.st.free ((sub' q m).elim False.elim fun z => z))
      · exact a.sub q m
def strsO : List D → Option (List Str)
  | [] => some []
  | .str x :: r => (strsO r).map (x :: ·)
  | _ :: _ => none
theorem strsO_ok {H : Hp} : ∀ {xs : List D} {vs : List V} {bs : List Str}, RDs X.K H xs vs → strsO xs = some bs → vs = bs.map V.str
  | [], _, _, r, e => by cases r; cases e; rfl
  | x :: xs, _, _, .cons h r, e => by
    cases x with
    | str b =>
      unfold strsO at e
      cases q : strsO xs with
      | none => rw [q] at e; cases e
      | some bs => rw [q] at e; cases e; cases h; rw [strsO_ok r q]; rfl
    | _ => cases e
def gJoin : O → List O → Option O := fun x os => match x, os with
  | .d (.str a), [y] => match asQ y with
    | some ys => match strsO ys with
      | some zs => if (zs.map (·.length)).sum + zs.length * a.length ≤ 16777216 then some (.d (.str (Txt.join a zs))) else none
      | none => none
    | none => none
  | _, _ => none
theorem ms_join : MtS X "str.join" gJoin := .of mt_join fun H x xs ox os F G o r1 r2 e => by
  unfold gJoin at e
  split at e
  · rename_i a y
    cases r2 with
    | cons F1 F2 h r _ _ _ =>
      cases r
      split at e
      · rename_i ys hy
        split at e
        · rename_i zs hz
          split at e
          · rename_i c
            cases e
            cases r1.od
            obtain ⟨p, vs, rfl, hs, rd⟩ := asQ_ok h hy
            have ev := strsO_ok rd hz
            subst ev
            exact ⟨a, p, zs, rfl, rfl, hs, c, .d (.str _)⟩
          · cases e
        · cases e
      · cases e
  · cases e

/-! changing methods: the receiver is ours -/
variable (X) in
def MuS (id : String) (g : O → List O → Option (O × O)) : Prop :=
  ∀ (pins : List (Addr × Obj)) (s : Shared) (σ : L2.St) (H : Hp) (x : V) (xs : List V) (v : Value) (us : List Value) (ox : O) (os : List O) (r o' : O) (F G : Fp), Inv X pins σ H s → RelV x v → Vals xs us → RO X.K H ox x F → ROs X.K H os xs G → Disj F G → g ox os = some (r, o') →
    wpAny (model X.prog X.w) X.A (call (.builtin id) (v :: us)) (EP X pins σ fun z H' => ∃ F1 F2, RO X.K H' r z F1 ∧ RO X.K H' o' x F2 ∧ Disj F1 F2 ∧ Step (Or F G) H H' ∧ Sub (Or F1 F2) (Or F G) H) X.xe s
def rOfU (K : PySem.W.Frag) (g : O → List O → Option (O × O)) : V → List V → Hp → VK → Prop := fun x xs H Q => ∃ ox os r o' F G, RO K H ox x F ∧ ROs K H os xs G ∧ Disj F G ∧ g ox os = some (r, o') ∧
  ∀ z H', (∃ F1 F2, RO K H' r z F1 ∧ RO K H' o' x F2 ∧ Disj F1 F2 ∧ Step (Or F G) H H' ∧ Sub (Or F1 F2) (Or F G) H) → Q z H'
theorem MuS.rule {id : String} {g : O → List O → Option (O × O)} (h : MuS X id g) : MtR X id (rOfU X.K g) := by
  intro pins s σ H x xs v us Q I rv rvs ⟨ox, os, r, o', F, G, r1, r2, d, e, q⟩
  exact thn (h pins s σ H x xs v us ox os r o' F G I rv rvs r1 r2 d e) fun w s' ⟨z, H', I', rz, n⟩ => ⟨z, H', I', rz, q z H' n⟩
def cMu (T : String) (g : O → List O → Option (O × O)) (fr : M (O × Option Nat)) (fa : M (List O)) : M O :=
  bnd fr fun x => bnd (lift (chk T x.1)) fun _ => bnd fa fun os => bnd (lift (g x.1 os)) fun r => bnd (rst x.2 r.2) fun _ => ret r.1
theorem mu_end {g : O → List O → Option (O × O)} {σ : L2.St} {H H2 : Hp} {Q : VK} {F F1 F3 F4 : Fp} {x : O × Option Nat} {os : List O} {env2 : Env} {v : V} {us : List V} (ro1 : RO X.K H2 x.1 v F1) (ro2 : ROs X.K H2 os us F3) (rel : RelE X.K H2 env2 σ F4)
    (d13 : Disj F1 F3) (d14 : Disj F1 F4) (d34 : Disj F3 F4) (m1 : Dom F1 H2) (m3 : Dom F3 H2) (m4 : Dom F4 H2) (st : Step F H H2) (sub : Sub (Or F1 (Or F3 F4)) F H) (g1 : ∀ i, x.2 = some i → σ[i]? = some (some v))
    (h : Post (PV X F σ H Q) (bnd (lift (g x.1 os)) (fun r => bnd (rst x.2 r.2) fun _ => ret r.1) env2)) : rOfU X.K g v us H2 Q := by
  obtain ⟨⟨r, o'⟩, e, h⟩ := h.lift
  refine ⟨x.1, os, r, o', F1, F3, ro1, ro2, d13, e, fun z H' ⟨G1, G2, rz, ro', d, st', sub'⟩ => ?_⟩
  have d4 : Disj F4 (Or F1 F3) := fun q m n => n.elim (fun n => d14 q n m) fun n => d34 q n m
  have dn : Disj F4 (Or G1 G2) := disj_new d4 m4 sub'
  obtain ⟨env3, rel3, h⟩ := rst_ok (rel.step st' d4) ro' (fun q m n => dn q n (.inr m)) g1 h
  refine h z H' G1 _ rz rel3 (fun q m n => n.elim (d q m) fun n => dn q n (.inl m)) (st.trans st' fun q m => sub q (m.elim .inl fun m => .inr (.inl m))) fun q m => ?_
  have go : ∀ q, Or G1 G2 q → F q ∨ H q = none := fun q m => (sub' q m).elim (fun m => sub q (m.elim .inl fun m => .inr (.inl m))) fun n => .inr (st.free n)
  rcases m with m | m | m
  · exact go q (.inl m)
  · exact go q (.inr m)
  · exact sub q (.inr (.inr m))
theorem mu_ok {T : String} (hT : T ∈ ["str", "list", "dict"]) {g : O → List O → Option (O × O)} {fr : M (O × Option Nat)} {fa : M (List O)} {σ : L2.St} {H : Hp} {Q : VK} (h : tOf X (cMu T g fr fa) σ H Q) :
    tOp' X fr σ H fun x H1 => TyB X T x H1 ∧ tLf X fa σ H1 fun xs H2 => rOfU X.K g x xs H2 Q := by
  obtain ⟨env, F, rel, h⟩ := h
  refine tOp_bind rel h fun x env1 v H1 F1 F2 ro1 a g1 h => ?_
  obtain ⟨u, eu, h⟩ := h.lift
  refine ⟨tyB_of ro1 (chk_of eu) hT, ?_⟩
  refine tLf_bind a.rel h fun os env2 us H2 F3 F4 ro2 b h => ?_
  obtain ⟨st, sub, d13, d14, dm⟩ := a.next b
  exact mu_end (ro1.step b.st a.dj) ro2 b.rel d13 d14 b.dj dm b.d1 b.d2 st sub g1 h
theorem se_mu {o e : Expr} {es : List Expr} {name : Str} {apos cpos : Pos} {T id : String} {g : O → List O → Option (O × O)} {fr : M (O × Option Nat)} {fa : M (List O)} (hT : T ∈ ["str", "list", "dict"]) (pa : PlainAttrs T) (slot : Slot T name id) (hty : typeOf (.builtin id) = pure (.type "method_descriptor")) (hm : MuS X id g) (ho : OE X o fr) (ha : AE X (e :: es) fa)
    (hbase : attributeBase o name X.env (eval o X.env) = eval o X.env := by rfl)
    (hfew : ((backTo cpos (starEach (e :: es) X.env)).all (fun x => !x.1) && (backToKw cpos (keywordEach [] X.env)).all (fun x => x.1.isSome)
      && decide ((e :: es).length + ([] : List Keyword).length + (if ([] : List Keyword).isEmpty then 0 else 1) < 30)) = true := by rfl)
    (hline : (apos.endLine == cpos.line) = true := by rfl) (hs : starEach (e :: es) X.env = (false, eval e X.env) :: starEach es X.env := by rfl) (hplain : (backTo cpos (starEach es X.env)).any (·.1) = false := by rfl) :
    SE X (.Call (.Attribute o name apos) (e :: es) [] cpos) (cMu T g fr fa) :=
  PE.imp (pe_bmG pa slot hty hm.rule ho ha hbase hfew hline hs hplain) fun _ _ _ h => mu_ok hT h
theorem se_mu0 {o : Expr} {name : Str} {apos cpos : Pos} {T id : String} {g : O → List O → Option (O × O)} {fr : M (O × Option Nat)} (hT : T ∈ ["str", "list", "dict"]) (pa : PlainAttrs T) (slot : Slot T name id) (hty : typeOf (.builtin id) = pure (.type "method_descriptor")) (hm : MuS X id g) (ho : OE X o fr)
    (hbase : attributeBase o name X.env (eval o X.env) = eval o X.env := by rfl) (hline : (apos.endLine == cpos.line) = true := by rfl) : SE X (.Call (.Attribute o name apos) [] [] cpos) (cMu T g fr nilM) :=
  PE.imp (pe_bmG0 pa slot hty hm.rule ho hbase hline) fun σ H Q h => by
    obtain ⟨env, F, rel, h⟩ := h
    refine tOp_bind rel h fun x env1 v H1 F1 F2 ro1 a g1 h => ?_
    obtain ⟨u, eu, h⟩ := h.lift
    refine ⟨tyB_of ro1 (chk_of eu) hT, ?_⟩
    exact mu_end (os := []) (us := []) (F3 := nof) ro1 .nil a.rel (fun _ _ p => p) a.dj (fun _ p => p.elim) a.d1 (fun _ p => p.elim) a.d2 a.st (fun q m => a.sub q (m.elim .inl fun m => m.elim False.elim .inr)) g1 h
theorem ROs.append {K : PySem.W.Frag} {H : Hp} : ∀ {xs ys : List O} {vs ws : List V} {F G : Fp}, ROs K H xs vs F → ROs K H ys ws G → Disj F G → ROs K H (xs ++ ys) (vs ++ ws) (Or F G)
  | _, _, _, _, _, _, .nil, s, d => s.mono fun _ p => .inr p
  | _, _, _, _, _, G, .cons F1 F2 h r a b dd, s, d => .cons F1 (Or F2 G) h (ROs.append r s fun x p q => d x (b x p) q) (fun x p => .inl (a x p)) (fun x p => p.elim (fun p => .inl (b x p)) .inr) fun x p q => q.elim (dd x p) fun q => d x (a x p) q
theorem ROs.erase {K : PySem.W.Frag} {H : Hp} : ∀ {os : List O} {vs : List V} {F : Fp} {i : Nat} {o : O}, ROs K H os vs F → os[i]? = some o → ∃ v F1 F2, vs[i]? = some v ∧ RO K H o v F1 ∧ ROs K H (os.eraseIdx i) (vs.eraseIdx i) F2 ∧ Disj F1 F2 ∧ (∀ x, F1 x → F x) ∧ (∀ x, F2 x → F x)
  | _, _, _, _, _, .nil, e => by simp at e
  | _, _, _, 0, _, .cons F1 F2 h r a b d, e => by simp at e; subst e; exact ⟨_, F1, F2, rfl, h, r, d, a, b⟩
  | _, _, _, i + 1, _, .cons F1 F2 h r a b d, e => by
    obtain ⟨v, G1, G2, q, h', r', d', s1, s2⟩ := ROs.erase (i := i) r (by simpa using e)
    exact ⟨v, G1, Or F1 G2, by simpa using q, h', .cons F1 G2 h r' (fun _ p => .inl p) (fun _ p => .inr p) (fun x p q => d x p (s2 x q)), fun x p q => q.elim (fun q => d x q (s1 x p)) (d' x p), fun x p => b x (s1 x p), fun x p => p.elim (a x) fun p => b x (s2 x p)⟩
def uAppend : O → List O → Option (O × O) := fun x os => match x, os with
  | .lst xs, [o] => if xs.length < sizeLine then some (.d .non, .lst (xs ++ [o])) else none
  | _, _ => none
theorem mu_append : MuS X "list.append" uAppend := by
  intro pins s σ H x xs v us ox os r o' F G I rv rvs r1 r2 d e
  unfold uAppend at e
  split at e
  · rename_i ys o
    split at e
    · rename_i hz
      cases e
      cases r1 with
      | lst h f q =>
        cases r2 with
        | cons F1 F2 h2 r2 a b _ =>
          cases r2
          have hl := q.length
          refine mt_append pins s σ H _ _ v us _ I rv rvs ⟨_, _, _, rfl, rfl, h, by omega, ?_⟩
          have st : ∀ o, Step (Or F G) H (upd H _ o) := fun o => Step.wr h trivial (.inl f)
          refine ⟨nof, Or F G, .d .non, ?_, fun _ p _ => p, st _, fun x p => .inl (p.elim False.elim fun z => z)⟩
          have w : ∀ u, Step (fun z => z = _) H (upd H _ u) := fun u => Step.wr (o := u) h trivial rfl
          refine .lst upd_same (.inl f) ((ROs.append (q.step (w _) fun z m n => m.2 n) ((ROs.cons F1 nof h2 .nil (fun _ p => p) (fun _ p => p.elim) (fun _ _ p => p)).step (w _) fun z m n => ?_) fun z m n => d z m.1 (a z n)).mono fun z m0 => m0.elim (fun m => ⟨.inl m.1, m.2⟩) fun m2 => ⟨.inr (a z m2), fun n => d z (n ▸ f) (a z m2)⟩)
          subst n; exact d _ f (a _ m)
    · cases e
  · cases e
def uPop : O → List O → Option (O × O) := fun x os => match x, os with
  | .lst xs, [] => match xs[xs.length - 1]? with
    | some o => some (o, .lst (xs.eraseIdx (xs.length - 1)))
    | none => none
  | .lst xs, [.d (.int i)] => if -(2 ^ 63) ≤ i ∧ i < 2 ^ 63 then match seqIndex? i xs.length with
      | some k => match xs[k]? with
        | some o => some (o, .lst (xs.eraseIdx k))
        | none => none
      | none => none
    else none
  | _, _ => none
theorem erase_last {α : Type} : ∀ (xs : List α), xs.eraseIdx (xs.length - 1) = xs.dropLast
  | [] => rfl
  | [a] => rfl
  | a :: b :: r => by
    have h := erase_last (b :: r)
    simp only [List.length_cons, Nat.add_sub_cancel] at h ⊢
    rw [List.eraseIdx_cons_succ, h]
    rfl
theorem pop_end {H : Hp} {a : Addr} {xs : List O} {vs : List V} {F G : Fp} {k : Nat} {o : O} (h : H a = some (.lst vs)) (f : F a) (q : ROs X.K H xs vs (fun b => F b ∧ b ≠ a)) (e : xs[k]? = some o) :
    ∃ v, vs[k]? = some v ∧ ∃ F1 F2, RO X.K (upd H a (.lst (vs.eraseIdx k))) o v F1 ∧ RO X.K (upd H a (.lst (vs.eraseIdx k))) (.lst (xs.eraseIdx k)) (.ref a) F2 ∧ Disj F1 F2 ∧ Step (Or F G) H (upd H a (.lst (vs.eraseIdx k))) ∧ Sub (Or F1 F2) (Or F G) H := by
  obtain ⟨v, F1, F2, ev, r1, r2, d, s1, s2⟩ := q.erase e
  have w := Step.wr (F := fun z => z = a) (o := .lst (vs.eraseIdx k)) h trivial rfl
  refine ⟨v, ev, F1, Or (fun z => z = a) F2, r1.step w fun z m n => (s1 z m).2 n, .lst upd_same (.inl rfl) ((r2.step w fun z m n => (s2 z m).2 n).mono fun z m => ⟨.inr m, (s2 z m).2⟩), fun z m n => n.elim (s1 z m).2 (d z m), Step.wr h trivial (.inl f), fun z m => .inl (.inl ?_)⟩
  rcases m with m | m | m
  · exact (s1 z m).1
  · subst m; exact f
  · exact (s2 z m).1
theorem mu_pop : MuS X "list.pop" uPop := by
  intro pins s σ H x xs v us ox os r o' F G I rv rvs r1 r2 d e
  unfold uPop at e
  split at e
  · rename_i ys
    split at e
    · rename_i o ho
      cases e
      cases r2
      cases r1 with
      | lst h f q =>
        have hl := q.length
        obtain ⟨w, ew, z⟩ := pop_end (X := X) (G := G) h f q ho
        refine mt_pop pins s σ H _ _ v us _ I rv rvs ⟨_, _, w, rfl, rfl, h, by rw [← hl]; exact ew, ?_⟩
        rw [hl, erase_last] at z
        exact (by rw [hl, ← erase_last]; rw [erase_last]; exact z)
    · cases e
  · rename_i ys i
    split at e
    · rename_i c
      split at e
      · rename_i k hk
        split at e
        · rename_i o ho
          cases e
          cases r2 with
          | cons F1 F2 h2 r2 a b _ =>
            cases r2
            cases h2.od
            cases r1 with
            | lst h f q =>
              have hl := q.length
              obtain ⟨w, ew, z⟩ := pop_end (X := X) (G := G) h f q ho
              exact mt_popAt pins s σ H _ _ v us _ I rv rvs ⟨_, _, i, k, w, rfl, rfl, h, c.1, c.2, by rw [← hl]; exact hk, ew, z⟩
        · cases e
      · cases e
    · cases e
  · cases e
end
end TL

set_option maxHeartbeats 1000000
namespace TL
open PySem L2

/-! ### statements -/
inductive Ou where
  | nx | bk | ct | rt (o : O)
abbrev S := Env → Option (Ou × Env)
structure Fix (fx : Nat → Bool) (σ σ' : L2.St) : Prop where
  len : σ'.length = σ.length
  at_ : ∀ i, fx i = true → σ'[i]? = σ[i]?
theorem Fix.refl {fx : Nat → Bool} {σ : L2.St} : Fix fx σ σ := ⟨rfl, fun _ _ => rfl⟩
theorem Fix.trans {fx : Nat → Bool} {σ σ1 σ2 : L2.St} (a : Fix fx σ σ1) (b : Fix fx σ1 σ2) : Fix fx σ σ2 := ⟨b.len.trans a.len, fun i h => (b.at_ i h).trans (a.at_ i h)⟩
section
variable (X : Cx) (fx : Nat → Bool)
/-- behind a statement -/
def PSf (D : Ends) (σ : L2.St) (H : Hp) (F : Fp) : Ou × Env → Prop
  | (.nx, e) => ∀ σ' H' F', RelE X.K H' e σ' F' → Fix fx σ σ' → Step F H H' → Sub F' F H → D.nx σ' H'
  | (.bk, e) => ∀ σ' H' F', RelE X.K H' e σ' F' → Fix fx σ σ' → Step F H H' → Sub F' F H → D.bk σ' H'
  | (.ct, e) => ∀ σ' H' F', RelE X.K H' e σ' F' → Fix fx σ σ' → Step F H H' → Sub F' F H → D.ct σ' H'
  | (.rt o, e) => ∀ v σ' H' F1 F2, RO X.K H' o v F1 → RelE X.K H' e σ' F2 → Disj F1 F2 → Fix fx σ σ' → Step F H H' → Sub (Or F1 F2) F H → D.rt v H'
def PSo (D : Ends) (σ : L2.St) (H : Hp) (F : Fp) (r : Option (Ou × Env)) : Prop := match r with
  | some r => PSf X fx D σ H F r
  | none => False
def tSf (f : S) : TS := fun D σ H => ∃ env F, RelE X.K H env σ F ∧ PSo X fx D σ H F (f env)
def SS (st : Stmt) (f : S) : Prop := PS X st (tSf X fx f)
def SB (st : List Stmt) (f : S) : Prop := PSs X st (tSf X fx f)
end
section
variable {X : Cx} {fx : Nat → Bool}
theorem PS.imp {st : Stmt} {t t' : TS} (h : PS X st t) (k : ∀ D σ H, t' D σ H → t D σ H) : PS X st t' := ⟨fun pins s σ H D I q => h.run pins s σ H D I (k _ _ _ q)⟩
theorem PSs.imp {st : List Stmt} {t t' : TS} (h : PSs X st t) (k : ∀ D σ H, t' D σ H → t D σ H) : PSs X st t' := ⟨fun pins s σ H D I q => h.run pins s σ H D I (k _ _ _ q)⟩
/-- from a start to a later one -/
theorem PSf.weak {D : Ends} {σ σ1 : L2.St} {H H1 : Hp} {F F1 : Fp} {r : Ou × Env} (fi : Fix fx σ σ1) (st : Step F H H1) (sub : Sub F1 F H) (h : PSf X fx D σ H F r) : PSf X fx D σ1 H1 F1 r := by
  have g : ∀ {F' : Fp}, Sub F' F1 H1 → Sub F' F H := fun s x p => (s x p).elim (sub x) fun n => .inr (st.free n)
  obtain ⟨o, e⟩ := r
  cases o with
  | nx => exact fun σ' H' F' rel fi' st' sub' => h σ' H' F' rel (fi.trans fi') (st.trans st' sub) (g sub')
  | bk => exact fun σ' H' F' rel fi' st' sub' => h σ' H' F' rel (fi.trans fi') (st.trans st' sub) (g sub')
  | ct => exact fun σ' H' F' rel fi' st' sub' => h σ' H' F' rel (fi.trans fi') (st.trans st' sub) (g sub')
  | rt o => exact fun v σ' H' F1 F2 ro rel d fi' st' sub' => h v σ' H' F1 F2 ro rel d (fi.trans fi') (st.trans st' sub) (g sub')
theorem PSo.weak {D : Ends} {σ σ1 : L2.St} {H H1 : Hp} {F F1 : Fp} {r : Option (Ou × Env)} (fi : Fix fx σ σ1) (st : Step F H H1) (sub : Sub F1 F H) (h : PSo X fx D σ H F r) : PSo X fx D σ1 H1 F1 r := by
  cases r with
  | none => exact h
  | some r => exact PSf.weak fi st sub h
def seqS (f g : S) : S := fun e => match f e with
  | some (.nx, e') => g e'
  | r => r
def nilS : S := fun e => some (.nx, e)
theorem sb_nil : SB X fx [] nilS := PSs.imp pss_nil fun D σ H ⟨env, F, rel, h⟩ => h σ H F rel .refl .refl .refl
theorem seq_ok {f g : S} {D : Ends} {σ : L2.St} {H : Hp} (h : tSf X fx (seqS f g) D σ H) : tSeq (tSf X fx f) (tSf X fx g) D σ H := by
  obtain ⟨env, F, rel, h⟩ := h
  refine ⟨env, F, rel, ?_⟩
  unfold seqS at h
  cases q : f env with
  | none => rw [q] at h; exact h
  | some r =>
    rw [q] at h
    obtain ⟨o, e⟩ := r
    cases o with
    | nx => exact fun σ' H' F' rel' fi st sub => ⟨e, F', rel', PSo.weak fi st sub h⟩
    | bk => exact h
    | ct => exact h
    | rt o => exact h
theorem sb_cons {st : Stmt} {rest : List Stmt} {f g : S} (h1 : SS X fx st f) (h2 : SB X fx rest g) : SB X fx (st :: rest) (seqS f g) := PSs.imp (pss_cons h1 h2) fun _ _ _ h => seq_ok h
theorem sb_one {st : Stmt} {f : S} (h1 : SS X fx st f) : SB X fx [st] f := pss_one h1
def noS : S := fun _ => none
theorem ss_never {st : Stmt} : SS X fx st noS := PS.imp ps_never fun D σ H ⟨env, F, rel, h⟩ => h
theorem sb_never {st : List Stmt} : SB X fx st noS := PSs.imp pss_never fun D σ H ⟨env, F, rel, h⟩ => h
theorem ss_pass {pos : Pos} : SS X fx (.Pass pos) nilS := PS.imp ps_pass fun D σ H ⟨env, F, rel, h⟩ => h σ H F rel .refl .refl .refl
def bkS : S := fun e => some (.bk, e)
theorem ss_break {pos : Pos} : SS X fx (.Break pos) bkS := PS.imp ps_break fun D σ H ⟨env, F, rel, h⟩ => h σ H F rel .refl .refl .refl
def ctS : S := fun e => some (.ct, e)
theorem ss_continue {pos : Pos} : SS X fx (.Continue pos) ctS := PS.imp ps_continue fun D σ H ⟨env, F, rel, h⟩ => h σ H F rel .refl .refl .refl
theorem ss_doc {x j pos pos'} : SS X fx (.Expr (.Constant (.str x) j pos) pos') nilS := PS.imp ps_doc fun D σ H ⟨env, F, rel, h⟩ => h σ H F rel .refl .refl .refl
/-- an expression, then what is done with its value -/
def bndS {α : Type} (f : M α) (g : α → S) : S := fun e => match f e with
  | some (a, e') => g a e'
  | none => none
def PSk (X : Cx) (fx : Nat → Bool) (D : Ends) (σ : L2.St) (H : Hp) (F : Fp) {α : Type} (g : α → S) (a : α) (e : Env) : Prop := PSo X fx D σ H F (g a e)
theorem bndS_ok {α : Type} {f : M α} {g : α → S} {D : Ends} {σ : L2.St} {H : Hp} {F : Fp} {env : Env} (h : PSo X fx D σ H F (bndS f g env)) : Post (PSk X fx D σ H F g) (f env) := by
  unfold bndS at h
  cases q : f env with
  | none => rw [q] at h; exact h
  | some r => rw [q] at h; exact h
theorem Post.tof {f : M O} {P : O → Env → Prop} {σ : L2.St} {H : Hp} {Q : VK} {env : Env} {F : Fp} (rel : RelE X.K H env σ F) (h : Post P (f env))
    (c : ∀ o env' v H' F1 F2, RO X.K H' o v F1 → Aft X F H H' σ env' F1 F2 → P o env' → Q v H') : tOf X f σ H Q :=
  ⟨env, F, rel, h.mono fun o e' q v H' F1 F2 ro re dj st sub => c o e' v H' _ _ ro.dom ⟨re.dom, fun a p q => dj a p.1 q.1, st, fun a z => sub a (z.imp And.left And.left), fun a p => p.2, fun a p => p.2⟩ q⟩
def dropS : O → S := fun _ e => some (.nx, e)
theorem ss_expr {e : Expr} {f : M O} {pos : Pos} (he : SE X e f) (hs : swapsWith e none pos.line X.env = pure false := by rfl) : SS X fx (.Expr e pos) (bndS f dropS) :=
  PS.imp (ps_expr he hs) fun D σ H ⟨env, F, rel, h⟩ => Post.tof rel (bndS_ok h) fun o env1 v H1 F1 F2 ro a h => h σ H1 F2 a.rel .refl a.st fun x p => a.sub x (.inr p)
def retS : O → S := fun o e => some (.rt o, e)
theorem ss_ret {e : Expr} {f : M O} {pos : Pos} (he : SE X e f) : SS X fx (.Return (some e) pos) (bndS f retS) :=
  PS.imp (ps_ret he) fun D σ H ⟨env, F, rel, h⟩ => Post.tof rel (bndS_ok h) fun o env1 v H1 F1 F2 ro a h => h v σ H1 F1 F2 ro a.rel a.dj .refl a.st a.sub
theorem ss_retN {pos : Pos} : SS X fx (.Return none pos) (retS (.d .non)) := PS.imp ps_retN fun D σ H ⟨env, F, rel, h⟩ => h .non σ H nof F (.d .non) rel (fun _ p _ => p) .refl .refl fun x p => .inl (p.elim False.elim id)
def ifS (c : M Bool) (f g : S) : S := bndS c fun b => if b = true then f else g
theorem ss_if {c : Expr} {a b : List Stmt} {k : M Bool} {f g : S} {pos : Pos} (hc : BE X c k) (ha : SB X fx a f) (hb : SB X fx b g) : SS X fx (.If c a b pos) (ifS k f g) :=
  PS.imp (ps_if hc ha hb) fun D σ H ⟨env, F, rel, h⟩ => by
    refine ⟨env, F, rel, (bndS_ok h).mono fun b e q H' F2 rel' st sub => ?_⟩
    cases b with
    | true => exact iteT ⟨e, F2, rel', PSo.weak .refl st sub q⟩
    | false => exact iteF ⟨e, F2, rel', PSo.weak .refl st sub q⟩
/-! ### targets -/
abbrev G := O → Env → Option Env
variable (X fx) in
def tGf (g : G) : TG := fun v σ H Q => ∃ o env F1 F2, RO X.K H o v F1 ∧ RelE X.K H env σ F2 ∧ Disj F1 F2 ∧ ∃ env', g o env = some env' ∧ ∀ σ' H' F', RelE X.K H' env' σ' F' → Fix fx σ σ' → Step (Or F1 F2) H H' → Sub F' (Or F1 F2) H → Q σ' H'
variable (X fx) in
def TG' (e : Expr) (g : G) : Prop := PG X e (tGf X fx g)
theorem PG.imp {e : Expr} {t t' : TG} (h : PG X e t) (k : ∀ v σ H Q, t' v σ H Q → t v σ H Q) : PG X e t' := ⟨fun pins s σ H v u Q I r q => h.run pins s σ H v u Q I r (k _ _ _ _ q)⟩
def setV (i : Nat) : G := fun o e => if i < e.length then some (e.set i (some o)) else none
theorem Fix.set {σ : L2.St} {i : Nat} {v : Option V} (h : fx i = false) : Fix fx σ (σ.set i v) := ⟨List.length_set, fun j hj => by
  rw [List.getElem?_set_ne]
  rintro rfl
  rw [h] at hj; cases hj⟩
theorem setV_ok {i : Nat} {o : O} {env env' : Env} {σ : L2.St} {H : Hp} {v : V} {F1 F2 : Fp} (h : setV i o env = some env') (ro : RO X.K H o v F1) (rel : RelE X.K H env σ F2) (d : Disj F1 F2) : RelE X.K H env' (σ.set i (some v)) (Or F1 F2) := by
  unfold setV at h
  split at h
  · rename_i hi
    cases h
    exact rel.put (by rw [← rel.length]; exact hi) ro d
  · cases h
theorem tg_name (i : Nat) {x : Str} {pos : Pos} (hN : X.N.Nodup) (hi : X.N[i]? = some x := by rfl) (hx : Loc X.env.scope x := by first | exact .inl rfl | exact .inr rfl) (hfx : fx i = false := by rfl) (hf : X.fn x = true ∨ X.env.scope.names.lookup x = some .local := by first | exact .inl rfl | exact .inr rfl | assumption) : TG' X fx (.Name x pos) (setV i) :=
  PG.imp (pg_name hN hi hx hf) fun v σ H Q ⟨o, env, F1, F2, ro, rel, d, env', e, k⟩ => k _ H (Or F1 F2) (setV_ok e ro rel d) (.set hfx) .refl .refl
/-- several targets from a tuple -/
abbrev Gs := List D → Env → Option Env
variable (X fx) in
def tGs (g : Gs) : TGs := fun vs σ H Q => ∃ xs env F2, RDs X.K H xs vs ∧ RelE X.K H env σ F2 ∧ ∃ env', g xs env = some env' ∧ ∀ σ' H' F', RelE X.K H' env' σ' F' → Fix fx σ σ' → Step F2 H H' → Sub F' F2 H → Q σ' H'
variable (X fx) in
def TGs' (es : List Expr) (g : Gs) : Prop := PGs X es (tGs X fx g)
theorem PGs.imp {e : List Expr} {t t' : TGs} (h : PGs X e t) (k : ∀ v σ H Q, t' v σ H Q → t v σ H Q) : PGs X e t' := ⟨fun pins s σ H v u Q I r q => h.run pins s σ H v u Q I r (k _ _ _ _ q)⟩
def nilG : Gs := fun xs e => match xs with
  | [] => some e
  | _ => none
def consG (g : G) (gs : Gs) : Gs := fun xs e => match xs with
  | [] => none
  | x :: r => match g (.d x) e with
    | some e' => gs r e'
    | none => none
theorem tgs_nil : TGs' X fx [] nilG := PGs.imp pgs_nil fun vs σ H Q ⟨xs, env, F2, rd, rel, env', e, k⟩ => by
  cases rd with
  | nil => cases e; exact ⟨rfl, k σ H F2 rel .refl .refl .refl⟩
  | cons _ _ => cases e
theorem tgs_cons {e : Expr} {es : List Expr} {g : G} {gs : Gs} (h1 : TG' X fx e g) (h2 : TGs' X fx es gs) (hs : (assignEach (e :: es) X.env).map (·.2) = assign e X.env :: (assignEach es X.env).map (·.2) := by rfl) : TGs' X fx (e :: es) (consG g gs) :=
  PGs.imp (pgs_cons h1 h2 hs) fun vs σ H Q ⟨xs, env, F2, rd, rel, env', e, k⟩ => by
    cases rd with
    | nil => cases e
    | cons r1 r2 =>
      unfold consG at e
      dsimp only at e
      split at e
      · rename_i env1 e1
        refine ⟨_, _, rfl, _, env, nof, F2, .d r1, rel, fun _ p _ => p, env1, e1, fun σ1 H1 F3 rel1 fi st sub => ?_⟩
        have st' : Step F2 H H1 := st.mono fun x p => .inl (p.elim False.elim id)
        have sub' : Sub F3 F2 H := fun x p => (sub x p).imp (fun p => p.elim False.elim id) id
        refine ⟨_, env1, F3, r2.keep st'.pers, rel1, env', e, fun σ2 H2 F4 rel2 fi2 st2 sub2 => k σ2 H2 F4 rel2 (fi.trans fi2) (st'.trans st2 sub') (sub'.trans sub2 st')⟩
      · cases e
def tupG (gs : Gs) : G := fun o e => match asT o with
  | some xs => gs xs e
  | none => none
theorem tg_tup {es : List Expr} {k : Nat} {gs : Gs} {pos : Pos} {n : Nat} (hc : X.calm = true) (h : TGs' X fx es gs) (hl : ∀ xs e e', gs xs e = some e' → xs.length = n) (hn : (assignEach es X.env).length = n := by rfl) (hst : (assignEach es X.env).findIdx? (·.1) = none := by rfl) : TG' X fx (.Tuple es k pos) (tupG gs) :=
  PG.imp (pg_tup hc h hn hst) fun v σ H Q ⟨o, env, F1, F2, ro, rel, d, env', e, kk⟩ => by
    unfold tupG at e
    split at e
    · rename_i xs hx
      obtain ⟨a, vs, rfl, hs, rd⟩ := asT_ok ro hx
      refine ⟨a, vs, rfl, .of hs, by rw [← rd.length]; exact hl _ _ _ e, xs, env, F2, rd, rel, env', e, fun σ' H' F' rel' fi st sub => ?_⟩
      exact kk σ' H' F' rel' fi (st.mono fun x p => .inl (.inr p)) fun x p => (sub x p).imp .inr id
    · cases e
theorem gs_len0 : ∀ xs e e', nilG xs e = some e' → xs.length = 0 := fun xs e e' h => by cases xs with | nil => rfl | cons _ _ => cases h
theorem gs_lenS {g : G} {gs : Gs} {n : Nat} (hn : ∀ xs e e', gs xs e = some e' → xs.length = n) : ∀ xs e e', consG g gs xs e = some e' → xs.length = n + 1 := fun xs e e' h => by
  cases xs with
  | nil => cases h
  | cons x r =>
    unfold consG at h
    dsimp only at h
    split at h
    · rw [List.length_cons, hn _ _ _ h]
    · cases h
def asgS (g : G) : O → S := fun o e => match g o e with
  | some e' => some (.nx, e')
  | none => none
theorem asg_end {g : G} {D : Ends} {σ : L2.St} {H H1 : Hp} {F F1 F2 : Fp} {o : O} {env1 : Env} {v : V} (ro : RO X.K H1 o v F1) (a : Aft X F H H1 σ env1 F1 F2) (h : PSk X fx D σ H F (asgS g) o env1) : tGf X fx g v σ H1 D.nx := by
  have h' : PSo X fx D σ H F (asgS g o env1) := h
  unfold asgS at h'
  cases q : g o env1 with
  | none => rw [q] at h'; exact h'.elim
  | some env' =>
    rw [q] at h'
    exact ⟨o, env1, F1, F2, ro, a.rel, a.dj, env', q, fun σ' H' F' rel fi st sub => h' σ' H' F' rel fi (a.st.trans st a.sub) (Sub.trans a.sub sub a.st)⟩
theorem ss_asg {tg e : Expr} {f : M O} {g : G} {pos : Pos} (he : SE X e f) (hg : TG' X fx tg g) (hs : swapsWithSole [tg] e pos.line X.env = pure false := by rfl) (hw : swappedStores [tg] e X.env = pure none := by rfl)
    (h1 : (assignEach [tg] X.env).map (·.2) = [assign tg X.env] := by rfl) : SS X fx (.Assign [tg] e pos) (bndS f (asgS g)) :=
  PS.imp (ps_asg he hg hs hw h1) fun D σ H ⟨env, F, rel, h⟩ => Post.tof rel (bndS_ok h) fun o env1 v H1 F1 F2 ro a h => asg_end ro a h
theorem ss_set (i : Nat) {x : Str} {e : Expr} {f : M O} {pos pos' : Pos} (hN : X.N.Nodup) (he : SE X e f) (hi : X.N[i]? = some x := by rfl) (hx : Loc X.env.scope x := by first | exact .inl rfl | exact .inr rfl) (hfx : fx i = false := by rfl) (hs : swapsWith e (some (.Name x pos')) pos.line X.env = pure false := by rfl) (hf : X.fn x = true ∨ X.env.scope.names.lookup x = some .local := by first | exact .inl rfl | exact .inr rfl | assumption) :
    SS X fx (.Assign [.Name x pos'] e pos) (bndS f (asgS (setV i))) :=
  PS.imp (ps_set hN hi hx he hs hf) fun D σ H ⟨env, F, rel, h⟩ => Post.tof rel (bndS_ok h) fun o env1 v H1 F1 F2 ro a h => by
    obtain ⟨o', env', G1, G2, ro', rel', d', env2, e, k⟩ := asg_end ro a h
    exact k _ _ (Or G1 G2) (setV_ok e ro' rel' d') (.set hfx) .refl .refl
/-- a, b = x, y -/
def parS (i j : Nat) : List O → S := fun os e => match os with
  | [a, b] => if i < e.length ∧ j < e.length then some (.nx, (e.set i (some a)).set j (some b)) else none
  | _ => none
theorem Post.tlf {f : M (List O)} {P : List O → Env → Prop} {σ : L2.St} {H : Hp} {Q : List V → Hp → Prop} {env : Env} {F : Fp} (rel : RelE X.K H env σ F) (h : Post P (f env))
    (c : ∀ o env' v H' F1 F2, ROs X.K H' o v F1 → Aft X F H H' σ env' F1 F2 → P o env' → Q v H') : tLf X f σ H Q :=
  ⟨env, F, rel, h.mono fun o e' q v H' F1 F2 ro re dj st sub => c o e' v H' _ _ ro.dom ⟨re.dom, fun a p q => dj a p.1 q.1, st, fun a z => sub a (z.imp And.left And.left), fun a p => p.2, fun a p => p.2⟩ q⟩
theorem ss_par (i j : Nat) {x y : Str} {a b : Expr} {f : M (List O)} {px py pt : Pos} {kt k2 pt2} {pos : Pos} (hc : X.calm = true) (hN : X.N.Nodup) (ha : AE X [a, b] f) (hi : X.N[i]? = some x := by rfl) (hj : X.N[j]? = some y := by rfl) (hij : i ≠ j := by decide)
    (hx : X.env.scope.names.lookup x = some .local := by rfl) (hy : X.env.scope.names.lookup y = some .local := by rfl) (hfi : fx i = false := by rfl) (hfj : fx j = false := by rfl)
    (hw : swappedStores [.Tuple [.Name x px, .Name y py] kt pt] (.Tuple [a, b] k2 pt2) X.env = pure (some [x, y]) := by rfl)
    (hs : swapsWithSole [.Tuple [.Name x px, .Name y py] kt pt] (.Tuple [a, b] k2 pt2) pos.line X.env = pure false := by rfl) :
    SS X fx (.Assign [.Tuple [.Name x px, .Name y py] kt pt] (.Tuple [a, b] k2 pt2) pos) (bndS f (parS i j)) :=
  PS.imp (ps_par hc hN hi hj hij hx hy ha hw hs) fun D σ H ⟨env, F, rel, h⟩ => Post.tlf rel (bndS_ok h) fun os env1 vs H1 F1 F2 ro q h => by
    have h' : PSo X fx D σ H F (parS i j os env1) := h
    unfold parS at h'
    split at h'
    · rename_i o1 o2
      split at h'
      · rename_i hl
        cases ro with
        | cons G1 G2 r1 r2 s1 s2 d =>
          cases r2 with
          | cons G3 G4 r3 r4 s3 s4 d' =>
            cases r4
            rename_i v w
            refine ⟨v, w, rfl, ?_⟩
            have e1 := q.rel.put (i := i) (by rw [← q.rel.length]; exact hl.1) r1 fun x m n => q.dj x (s1 x m) n
            have e2 := e1.put (i := j) (by rw [List.length_set, ← q.rel.length]; exact hl.2) r3 fun x m n => n.elim (fun n => d x n (s3 x m)) fun n => q.dj x (s2 x (s3 x m)) n
            exact h' _ H1 _ e2 ((Fix.set hfi).trans (Fix.set hfj)) q.st fun x m => m.elim (fun m => q.sub x (.inl (s2 x (s3 x m)))) fun m => m.elim (fun m => q.sub x (.inl (s1 x m))) fun m => q.sub x (.inr m)
      · exact h'.elim
    · exact h'.elim
def par3S (i j l : Nat) : List O → S := fun os e => match os with
  | [a, b, c] => if i < e.length ∧ j < e.length ∧ l < e.length then some (.nx, ((e.set i (some a)).set j (some b)).set l (some c)) else none
  | _ => none
theorem ss_par3 (i j l : Nat) {x y z : Str} {a b c : Expr} {f : M (List O)} {px py pz pt pos : Pos} {kt k2 pt2} (hc : X.calm = true) (hN : X.N.Nodup) (ha : AE X [a, b, c] f) (hi : X.N[i]? = some x := by rfl) (hj : X.N[j]? = some y := by rfl) (hl : X.N[l]? = some z := by rfl) (hij : i ≠ j := by decide) (hil : i ≠ l := by decide) (hjl : j ≠ l := by decide)
    (hx : X.env.scope.names.lookup x = some .local := by rfl) (hy : X.env.scope.names.lookup y = some .local := by rfl) (hz : X.env.scope.names.lookup z = some .local := by rfl) (hfi : fx i = false := by rfl) (hfj : fx j = false := by rfl) (hfl : fx l = false := by rfl)
    (hw : swappedStores [.Tuple [.Name x px, .Name y py, .Name z pz] kt pt] (.Tuple [a, b, c] k2 pt2) X.env = pure (some [x, y, z]) := by rfl)
    (hs : swapsWithSole [.Tuple [.Name x px, .Name y py, .Name z pz] kt pt] (.Tuple [a, b, c] k2 pt2) pos.line X.env = pure false := by rfl) :
    SS X fx (.Assign [.Tuple [.Name x px, .Name y py, .Name z pz] kt pt] (.Tuple [a, b, c] k2 pt2) pos) (bndS f (par3S i j l)) :=
  PS.imp (ps_par3 hc hN hi hj hl hij hil hjl hx hy hz ha hw hs) fun D σ H ⟨env, F, rel, h⟩ => Post.tlf rel (bndS_ok h) fun os env1 vs H1 F1 F2 ro q h => by
    have h' : PSo X fx D σ H F (par3S i j l os env1) := h
    unfold par3S at h'
    split at h'
    · rename_i o1 o2 o3
      split at h'
      · rename_i hl
        cases ro with
        | cons G1 G2 r1 r2 s1 s2 d =>
          cases r2 with
          | cons G3 G4 r3 r4 s3 s4 d' =>
            cases r4 with
            | cons G5 G6 r5 r6 s5 s6 d'' =>
              cases r6
              rename_i v w u
              refine ⟨v, w, u, rfl, ?_⟩
              have e1 := q.rel.put (i := i) (by rw [← q.rel.length]; exact hl.1) r1 fun x m n => q.dj x (s1 x m) n
              have e2 := e1.put (i := j) (by rw [List.length_set, ← q.rel.length]; exact hl.2.1) r3 fun x m n => n.elim (fun n => d x n (s3 x m)) fun n => q.dj x (s2 x (s3 x m)) n
              have e3 := e2.put (i := l) (by rw [List.length_set, List.length_set, ← q.rel.length]; exact hl.2.2) r5 fun x m n => n.elim (fun n => d' x n (s5 x m)) fun n => n.elim (fun n => d x n (s4 x (s5 x m))) fun n => q.dj x (s2 x (s4 x (s5 x m))) n
              exact h' _ H1 _ e3 (((Fix.set hfi).trans (Fix.set hfj)).trans (Fix.set hfl)) q.st fun x m => m.elim (fun m => q.sub x (.inl (s2 x (s4 x (s5 x m))))) fun m => m.elim (fun m => q.sub x (.inl (s2 x (s3 x m)))) fun m => m.elim (fun m => q.sub x (.inl (s1 x m))) fun m => q.sub x (.inr m)
      · exact h'.elim
    · exact h'.elim
/-! ### xs[i] = e, d[k] = e -/
/-- the changed thing; the key is not kept -/
def uSet : O → O → O → Option O := fun x i o => match x, i with
  | .lst xs, .d (.int n) => match ixN xs.length n with
    | some j => some (.lst (xs.set j o))
    | none => none
  | .dct m, y => match keyO y with
    | some k => if m.length < sizeLine then some (.dct (setK m k o)) else none
    | none => none
  | _, _ => none
end
end TL

set_option maxHeartbeats 1000000
namespace TL
open PySem L2

/-! ### what is walked -/
/-- at each turn i the i-th of ds comes -/
def ItD (X : Cx) (J : It) (ds : List D) (G : Hp → Prop) : Prop := ∃ Y, Walk J ds.length G Y ∧ ∀ i H x H', i < ds.length → G H → Y i H x H' → ∃ d, ds[i]? = some d ∧ RD X.K H' d x ∧ Step nof H H'
section
variable {X : Cx}
def PIf (X : Cx) (F : Fp) (σ : L2.St) (H : Hp) (R : It → Hp → Prop) (r : List D × (O × Option Nat)) (env : Env) : Prop :=
  ∀ J H' vh Fh F2 G, RO X.K H' r.2.1 vh Fh → (∀ i, r.2.2 = some i → σ[i]? = some (some vh)) → ItD X J r.1 G → G H' → (∀ H1 H2 F', G H1 → Step F' H1 H2 → Disj Fh F' → G H2) → RelE X.K H' env σ F2 → Disj Fh F2 → Step F H H' → Sub (Or Fh F2) F H → Dom Fh H' → R J H'
def tIf (X : Cx) (f : M (List D × (O × Option Nat))) : TI := fun σ H R => ∃ env F, RelE X.K H env σ F ∧ Post (PIf X F σ H R) (f env)
variable (X) in
def IE (tg e : Expr) (f : M (List D × (O × Option Nat))) : Prop := PI X tg e (tIf X f)
theorem PI.imp {tg e : Expr} {t t' : TI} (h : PI X tg e t) (k : ∀ σ H R, t' σ H R → t σ H R) : PI X tg e t' := ⟨fun pins s σ H R I q => h.run pins s σ H R I (k _ _ _ q)⟩
def PIv (X : Cx) (tg : Expr) (r : V → Hp → (It → Hp → Prop) → Prop) : Prop :=
  ∀ (pins : List (Addr × Obj)) (s : Shared) (σ : L2.St) (H : Hp) (x : V) (v : Value) (R : It → Hp → Prop), Inv X pins σ H s → RelV x v → r x H R → wpAny (model X.prog X.w) X.A (pyIter v) (PIE X pins σ tg R) X.xe s
theorem pi_val {tg e : Expr} {te : TE} {r : V → Hp → (It → Hp → Prop) → Prop} (hr : PIv X tg r) (he : PE X e te) : PI X tg e (fun σ H R => te σ H fun x H1 => r x H1 R) :=
  ⟨fun pins s σ H R I h => thn (he.run pins s σ H _ I h) fun v s1 ⟨x, H1, I1, r1, q⟩ => hr pins s1 σ H1 x v R I1 r1 q⟩
theorem PIv.or {tg : Expr} {r r' : V → Hp → (It → Hp → Prop) → Prop} (h : PIv X tg r) (h' : PIv X tg r') : PIv X tg (fun x H R => r x H R ∨ r' x H R) := fun pins s σ H x v R I rv q => q.elim (h pins s σ H x v R I rv) (h' pins s σ H x v R I rv)
theorem pv_list {tg : Expr} : PIv X tg fun x H R => ∃ a xs, x = .ref a ∧ SqL X.K H a xs ∧ R (Itl X.K a) H := by
  intro pins s1 σ H1 x v R I1 rv ⟨a, xs, e, hq, q⟩
  subst e
  cases rv
  obtain ⟨its, rv, p, hz⟩ := I1.list hq
  refine wpAny_pyIter_list p.isList ?_
  refine ⟨s1.heap.objs.size, [s1.heap.objs.size], _, _, H1, rfl, I1.kept (t' := s1.toks) fun b o e => Heap.get?_push_of_some _ e, turn_list a _, ⟨_, Heap.get?_push_size _ rfl, rfl, rfl⟩, fun b hb => ?_, q⟩
  have e : b = s1.heap.objs.size := by simpa using hb
  subst e
  exact I1.fpOk (Nat.le_refl _) (I1.hok.fresh (Nat.le_refl _))
theorem pv_tup {tg : Expr} : PIv X tg fun x H R => ∃ a xs, x = .ref a ∧ SqT X.K H a xs ∧ R (Itt X.K a) H := by
  intro pins s1 σ H1 x v R I1 rv ⟨a, xs, e, hq, q⟩
  subst e
  cases rv
  obtain ⟨its, rv, p, hz⟩ := I1.tuple hq
  refine wpAny_pyIter_tuple (show s1.heap.IsTuple a its.toArray from p) ?_
  refine ⟨s1.heap.objs.size, [s1.heap.objs.size], _, _, H1, rfl, I1.kept (t' := s1.toks) fun b o e => Heap.get?_push_of_some _ e, turn_tuple a _, ⟨_, Heap.get?_push_size _ rfl, rfl, rfl⟩, fun b hb => ?_, q⟩
  have e : b = s1.heap.objs.size := by simpa using hb
  subst e
  exact I1.fpOk (Nat.le_refl _) (I1.hok.fresh (Nat.le_refl _))
theorem pv_str {tg : Expr} : PIv X tg fun v H R => ∃ x, v = .str x ∧ R (Its x) H := by
  intro pins s1 σ H1 y v R I1 r1 ⟨x, ex, q⟩
  subst ex
  obtain ⟨t, rfl⟩ := r1
  cases ha : x.cps.all (· < 128)
  · exact wpAny_pyIter_wide ha (pi_one (tk := s1.toks) I1 _ (turn_str _ x t "str_iterator" (.inr rfl)) ⟨_, Heap.get?_push_size _ rfl, rfl, rfl⟩ q)
  · exact wpAny_pyIter_ascii ha (pi_one (tk := s1.toks) I1 _ (turn_str _ x t "str_ascii_iterator" (.inl rfl)) ⟨_, Heap.get?_push_size _ rfl, rfl, rfl⟩ q)
theorem pv_keys {tg : Expr} : PIv X tg fun x H R => ∃ d o kvs, x = .ref d ∧ H d = some (.frz o (.dK kvs)) ∧ R (Itk d o kvs) H := by
  intro pins s1 σ H1 x u R I1 rx ⟨d, o, kvs, ex, hd, q⟩
  subst ex
  obtain rfl : u = Value.ref d := rx
  obtain ⟨hs, hgd, hx, es, ep, vs, hdt, hsz, kv, hm⟩ := I1.frzK hd
  refine iter_keys hs hgd hx hdt (pi_one (tk := s1.toks) I1 _ (turn_keys _ hdt) ⟨_, Heap.get?_push_size _ rfl, rfl, ?_⟩ q)
  rw [hsz] <;> rfl
/-- the items that come -/
def chars (z : Str) : List D := z.cps.toList.map fun c => .str ⟨#[c]⟩
def itO : O → Option (List D)
  | .d (.str z) => some (chars z)
  | .d (.dct m) => some (m.map fun p => kD p.1)
  | o => asQ o
theorem itd_seq {J : It} {ds : List D} {vs : List V} {G : Hp → Prop} (w : Walk J vs.length G (YAt vs)) (h : ∀ H, G H → RDs X.K H ds vs) (hl : ds.length = vs.length) : ItD X J ds G := by
  refine ⟨YAt vs, by rw [hl]; exact w, fun i H x H' hi g y => ?_⟩
  obtain ⟨e, hx⟩ := y
  subst e
  obtain ⟨d, hd⟩ : ∃ d, ds[i]? = some d := ⟨ds[i], by simp [hi]⟩
  obtain ⟨v, e2, r⟩ := (h _ g).get hd
  rw [hx] at e2; cases e2
  exact ⟨d, hd, r, .refl⟩
/-- what stands while only others are changed -/
def Stable (Fh : Fp) (G : Hp → Prop) : Prop := ∀ H1 H2 F', G H1 → Step F' H1 H2 → Disj Fh F' → G H2
theorem asL_st {o : O} {v : V} {H : Hp} {Fh : Fp} {xs : List D} (r : RO X.K H o v Fh) (e : asL o = some xs) : ∃ a vs, ∃ G : Hp → Prop, v = .ref a ∧ G H ∧ (∀ H, G H → SqL X.K H a vs ∧ RDs X.K H xs vs) ∧ Stable Fh G := by
  cases o with
  | d x =>
    cases x with
    | lst ys =>
      cases e
      cases r.od with
      | lst h q => exact ⟨_, _, fun H => H _ = some (.frz _ (.lst _)) ∧ RDs X.K H xs _, rfl, ⟨h, q⟩, fun H g => ⟨.inl (.inr ⟨_, g.1⟩), g.2⟩, fun H1 H2 F' g st d => ⟨st.pers _ _ g.1 fun z => z, g.2.keep st.pers⟩⟩
    | scr ys =>
      cases e
      cases r.od with
      | scr h q => exact ⟨_, _, fun H => FrzL X.K H _ _ ∧ RDs X.K H xs _, rfl, ⟨h, q⟩, fun H g => ⟨g.1.sq, g.2⟩, fun H1 H2 F' g st d => ⟨g.1.keep st.pers, g.2.keep st.pers⟩⟩
    | _ => cases e
  | lst os =>
    cases r with
    | lst h f q =>
      exact ⟨_, _, fun H => H _ = some (.lst _) ∧ RDs X.K H xs _, rfl, ⟨h, dOnly_ok q e⟩, fun H g => ⟨.of g.1, g.2⟩, fun H1 H2 F' g st d => ⟨st.keep _ _ g.1 fun z => d _ f z, g.2.keep st.pers⟩⟩
  | _ => cases e
theorem asT_st {o : O} {v : V} {H : Hp} {Fh : Fp} {xs : List D} (r : RO X.K H o v Fh) (e : asT o = some xs) : ∃ a vs, ∃ G : Hp → Prop, v = .ref a ∧ G H ∧ (∀ H, G H → SqT X.K H a vs ∧ RDs X.K H xs vs) ∧ Stable nof G := by
  obtain ⟨a, vs, rfl, h, rd⟩ := asT_ok r e
  exact ⟨a, vs, fun H => SqT X.K H a vs ∧ RDs X.K H xs vs, rfl, ⟨.of h, rd⟩, fun _ g => g, fun H1 H2 F' g st d => ⟨SqT.keepP g.1 st.pers, g.2.keep st.pers⟩⟩
theorem itv {o : O} {ds : List D} {v : V} {H : Hp} {Fh : Fp} {R : It → Hp → Prop} (ro : RO X.K H o v Fh) (e : itO o = some ds) (k : ∀ J G, ItD X J ds G → G H → Stable Fh G → R J H) :
    ((∃ a xs, v = .ref a ∧ SqL X.K H a xs ∧ R (Itl X.K a) H) ∨ (∃ a xs, v = .ref a ∧ SqT X.K H a xs ∧ R (Itt X.K a) H)) ∨ (∃ x, v = .str x ∧ R (Its x) H) ∨ ∃ d o kvs, v = .ref d ∧ H d = some (.frz o (.dK kvs)) ∧ R (Itk d o kvs) H := by
  have seq : asQ o = some ds → ((∃ a xs, v = .ref a ∧ SqL X.K H a xs ∧ R (Itl X.K a) H) ∨ (∃ a xs, v = .ref a ∧ SqT X.K H a xs ∧ R (Itt X.K a) H)) := fun e => by
    unfold asQ at e
    cases q : asT o with
    | some ys =>
      rw [q] at e; cases e
      obtain ⟨a, vs, G, rfl, g, hg, st⟩ := asT_st ro q
      exact .inr ⟨a, vs, rfl, (hg _ g).1, k _ G (itd_seq (Walk.mono walk_tup (fun _ h => (hg _ h).1) fun _ _ _ _ _ _ h => h) (fun _ h => (hg _ h).2) (hg _ g).2.length) g fun H1 H2 F' g s _ => st H1 H2 F' g s fun _ z => z.elim⟩
    | none =>
      rw [q] at e
      obtain ⟨a, vs, G, rfl, g, hg, st⟩ := asL_st ro e
      exact .inl ⟨a, vs, rfl, (hg _ g).1, k _ G (itd_seq (Walk.mono walk_list (fun _ h => (hg _ h).1) fun _ _ _ _ _ _ h => h) (fun _ h => (hg _ h).2) (hg _ g).2.length) g st⟩
  unfold itO at e
  split at e
  · rename_i z
    cases e
    cases ro.od
    refine .inr (.inl ⟨z, rfl, k _ (fun _ => True) ⟨_, by show Walk _ (chars z).length _ _; unfold chars; rw [List.length_map, Array.length_toList]; exact walk_str, fun i H x H' hi _ y => ?_⟩ trivial fun _ _ _ g _ _ => g⟩)
    obtain ⟨e, c, hc, ex⟩ := y
    subst e ex
    refine ⟨.str ⟨#[c]⟩, ?_, .str _, .refl⟩
    unfold chars
    rw [List.getElem?_map, Array.getElem?_toList, hc]
    rfl
  · rename_i m
    cases e
    cases ro.od with
    | @dct a ob kvs m h e2 r =>
      refine .inr (.inr ⟨a, ob, kvs, rfl, h, k _ (fun H => H a = some (.frz ob (.dK kvs))) ⟨fun i H x H' => H' = H ∧ ∃ k v, kvs[i]? = some (k, v) ∧ x = kV k, ?_, fun i H x H' hi _ y => ?_⟩ h fun H1 H2 F' g st _ => st.pers _ _ g fun z => z⟩)
      · rw [List.length_map, show m.length = kvs.length by have := congrArg List.length e2; simpa using this.symm]
        exact walk_keys
      · obtain ⟨e, kk, v, hk, ex⟩ := y
        subst e ex
        refine ⟨kD kk, ?_, kD_ok kk, .refl⟩
        have q : (kvs.map (·.1))[i]? = some kk := by rw [List.getElem?_map, hk]; rfl
        rw [e2, List.getElem?_map] at q
        rw [List.getElem?_map]
        cases q2 : m[i]? with
        | none => rw [q2] at q; cases q
        | some p => rw [q2] at q; cases q; rfl
  · exact .inl (seq e)
def cIt (f : M (O × Option Nat)) : M (List D × (O × Option Nat)) := bnd f fun x => bnd (lift (itO x.1)) fun ds => ret (ds, x)
theorem ie_val {tg e : Expr} {f : M (O × Option Nat)} (he : OE X e f) : IE X tg e (cIt f) :=
  PI.imp (pi_val ((pv_list.or pv_tup).or (pv_str.or pv_keys)) he) fun σ H R ⟨env, F, rel, h⟩ => by
    refine tOp_bind rel h fun x env1 v H1 F1 F2 ro a g1 h => ?_
    obtain ⟨ds, e, h⟩ := h.lift
    exact itv ro e fun J G it g st => h J H1 v F1 F2 G ro g1 it g st a.rel a.dj a.st a.sub a.d1
/-- range -/
def rng (lo hi : Int) : List D := (List.range (hi - lo).toNat).map fun i => .int (lo + (i : Nat))
theorem itd_rng {lo hi : Int} : ItD X (Itr lo (hi - lo).toNat) (rng lo hi) (fun _ => True) := by
  refine ⟨_, by unfold rng; rw [List.length_map, List.length_range]; exact walk_range, fun i H x H' hi' _ y => ?_⟩
  obtain ⟨e, ex⟩ := y
  subst e ex
  unfold rng at hi' ⊢
  rw [List.length_map, List.length_range] at hi'
  exact ⟨.int (lo + i), by rw [List.getElem?_map, List.getElem?_range hi']; rfl, .int _, .refl⟩
def noneO : O × Option Nat := (.d .non, none)
def cRng1 (f : M (List O)) : M (List D × (O × Option Nat)) := bnd f fun os => lift (match os with
  | [.d (.int j)] => if -(2 ^ 62) ≤ j ∧ j < 2 ^ 62 then some (rng 0 j, noneO) else none
  | _ => none)
theorem ie_range1 {tg a : Expr} {f : M (List O)} {p pos : Pos} (hg : Gl X "range") (hm : X.mg "range" = none) (ha : AE X [a] f) (hs : starEach [a] X.env = [(false, eval a X.env)] := by rfl) : IE X tg (.Call (.Name "range" p) [a] [] pos) (cRng1 f) :=
  PI.imp (pi_range1 hg hm ha hs) fun σ H R ⟨env, F, rel, h⟩ => by
    refine tLf_bind rel h fun os env1 vs H1 F1 F2 ro a h => ?_
    split at h
    · rename_i j
      split at h
      · rename_i hj
        cases ro with
        | cons G1 G2 r1 r2 _ _ _ =>
          cases r2
          cases r1.od
          refine ⟨j, rfl, hj.1, hj.2, ?_⟩
          have z : (j - 0).toNat = j.toNat := by omega
          have w := itd_rng (X := X) (lo := 0) (hi := j)
          rw [z] at w
          exact h _ H1 .non nof F2 _ (.d .non) (fun _ e => nomatch e) w trivial (fun _ _ _ _ _ _ => trivial) a.rel (fun _ p _ => p) a.st (fun x p => p.elim False.elim fun p => a.sub x (.inr p)) fun _ p => p.elim
      · exact h.elim
    · exact h.elim
def cRng2 (f : M (List O)) : M (List D × (O × Option Nat)) := bnd f fun os => lift (match os with
  | [.d (.int i), .d (.int j)] => if -(2 ^ 62) ≤ i ∧ i < 2 ^ 62 ∧ -(2 ^ 62) ≤ j ∧ j < 2 ^ 62 then some (rng i j, noneO) else none
  | _ => none)
theorem ie_range2 {tg a b : Expr} {f : M (List O)} {p pos : Pos} (hg : Gl X "range") (hm : X.mg "range" = none) (ha : AE X [a, b] f) (hs : starEach [a, b] X.env = [(false, eval a X.env), (false, eval b X.env)] := by rfl) (hs2 : starEach [b] X.env = [(false, eval b X.env)] := by rfl) : IE X tg (.Call (.Name "range" p) [a, b] [] pos) (cRng2 f) :=
  PI.imp (pi_range2 hg hm ha hs hs2) fun σ H R ⟨env, F, rel, h⟩ => by
    refine tLf_bind rel h fun os env1 vs H1 F1 F2 ro a h => ?_
    split at h
    · rename_i i j
      split at h
      · rename_i hj
        cases ro with
        | cons G1 G2 r1 r2 _ _ _ =>
          cases r2 with
          | cons G3 G4 r3 r4 _ _ _ =>
            cases r4
            cases r1.od
            cases r3.od
            exact ⟨i, j, rfl, hj, h _ H1 .non nof F2 _ (.d .non) (fun _ e => nomatch e) itd_rng trivial (fun _ _ _ _ _ _ => trivial) a.rel (fun _ p _ => p) a.st (fun x p => p.elim False.elim fun p => a.sub x (.inr p)) fun _ p => p.elim⟩
      · exact h.elim
    · exact h.elim
/-- pairs -/
def pairs (xs ys : List D) : List D := List.zipWith (fun x y => .tup [x, y]) xs ys
theorem itd_pair {J : It} {xs ys : List D} {vs ws : List V} {G : Hp → Prop} (w : Walk J (min vs.length ws.length) G (YPair (fun i => vs[i]?) (fun i => ws[i]?))) (h : ∀ H, G H → RDs X.K H xs vs ∧ RDs X.K H ys ws) (h1 : xs.length = vs.length) (h2 : ys.length = ws.length) : ItD X J (pairs xs ys) G := by
  refine ⟨_, by unfold pairs; rw [List.length_zipWith, h1, h2]; exact w, fun i H x H' hi g y => ?_⟩
  obtain ⟨T, v, u, rfl, hT, rfl, e1, e2⟩ := y
  unfold pairs at hi ⊢
  rw [List.length_zipWith] at hi
  have l1 : i < xs.length := by omega
  have l2 : i < ys.length := by omega
  obtain ⟨r1, r2⟩ := h _ g
  obtain ⟨v', q1, p1⟩ := r1.get (i := i) (x := xs[i]) (by simp [l1])
  obtain ⟨u', q2, p2⟩ := r2.get (i := i) (x := ys[i]) (by simp [l2])
  have e1' : vs[i]? = some v := e1
  have e2' : ws[i]? = some u := e2
  obtain rfl : v = v' := Option.some.inj (e1'.symm.trans q1)
  obtain rfl : u = u' := Option.some.inj (e2'.symm.trans q2)
  have st : Step nof H (upd H T (.tup [v, u])) := .new hT
  refine ⟨.tup [xs[i], ys[i]], by simp [List.getElem?_zipWith, l1, l2], .tup upd_same (.cons (p1.keep st.pers) (.cons (p2.keep st.pers) .nil)), st⟩
theorem walk_zipT {K : PySem.W.Frag} {a b : Addr} {xs ys : List V} : Walk (RZ.ItzT K a b) (min xs.length ys.length) (fun H => SqT K H a xs ∧ SqT K H b ys) (YPair (fun i => xs[i]?) (fun i => ys[i]?)) := by
  refine ⟨fun i _ hi q => ?_, fun _ q => ⟨xs, ys, q.1, q.2, by omega⟩, fun i H v H' _ q y => ?_⟩
  · have h1 : i < xs.length := by omega
    have h2 : i < ys.length := by omega
    exact ⟨xs, ys, xs[i], ys[i], q.1, q.2, by simp [h1], by simp [h2]⟩
  · obtain ⟨T, x, z, h1, h2, h3, h4, h5⟩ := y
    exact ⟨T, x, z, h1, h2, h3, h4 xs q.1, h5 ys q.2⟩
/-- zip of two lists or two tuples that stay -/
def asLd : O → Option (List D)
  | .d (.lst xs) => some xs
  | .d (.scr xs) => some xs
  | _ => none
theorem asLd_st {o : O} {v : V} {H : Hp} {Fh : Fp} {xs : List D} (r : RO X.K H o v Fh) (e : asLd o = some xs) : ∃ a vs, ∃ G : Hp → Prop, v = .ref a ∧ G H ∧ (∀ H, G H → SqL X.K H a vs ∧ RDs X.K H xs vs) ∧ Stable nof G := by
  cases o with
  | d x =>
    have r' : RO X.K H (.d x) v nof := .d r.od
    refine asL_st r' ?_
    cases x <;> first | exact e | cases e
  | _ => cases e
def zipO : O → O → Option (List D) := fun x y => match asT x, asT y with
  | some a, some b => some (pairs a b)
  | _, _ => match asLd x, asLd y with
    | some a, some b => some (pairs a b)
    | _, _ => none
def cZip (f : M (List O)) : M (List D × (O × Option Nat)) := bnd f fun os => lift (match os with
  | [x, y] => match zipO x y with
    | some ds => some (ds, noneO)
    | none => none
  | _ => none)
theorem ie_zip {e e2 : Expr} {f : M (List O)} {p pos tpos : Pos} {elts : List Expr} {kk : Nat} (hg : Gl X "zip") (hm : X.mg "zip" = none) (ha : AE X [e, e2] f)
    (hs : starEach [e, e2] X.env = (false, eval e X.env) :: starEach [e2] X.env := by rfl) (hpl : (backTo pos (starEach [e2] X.env)).any (·.1) = false := by rfl) : IE X (.Tuple elts kk tpos) (.Call (.Name "zip" p) [e, e2] [] pos) (cZip f) :=
  PI.imp (RZ.pi_zipA hg hm ha hs hpl) fun σ H R ⟨env, F, rel, h⟩ => by
    refine tLf_bind rel h fun os env1 vs H1 F1 F2 ro a h => ?_
    split at h
    · rename_i x y
      cases ro with
      | cons G1 G2 r1 r2 _ _ _ =>
        cases r2 with
        | cons G3 G4 r3 r4 _ _ _ =>
          cases r4
          cases q : zipO x y with
          | none => rw [q] at h; exact h.elim
          | some ds =>
            rw [q] at h
            have fin : ∀ J G, ItD X J ds G → G H1 → Stable nof G → R J H1 := fun J G it g st =>
              h J H1 .non nof F2 G (.d .non) (fun _ e => nomatch e) it g st a.rel (fun _ p _ => p) a.st (fun x p => p.elim False.elim fun p => a.sub x (.inr p)) fun _ p => p.elim
            unfold zipO at q
            split at q
            · rename_i xs ys q1 q2
              cases q
              obtain ⟨a1, vs1, Ga, rfl, g1, hg1, st1⟩ := asT_st r1 q1
              obtain ⟨a2, vs2, Gb, rfl, g2, hg2, st2⟩ := asT_st r3 q2
              exact ⟨a1, a2, vs1, vs2, rfl, .inr ⟨(hg1 _ g1).1, (hg2 _ g2).1, fin _ (fun H => Ga H ∧ Gb H) (itd_pair (walk_zipT.mono (fun H h => ⟨(hg1 H h.1).1, (hg2 H h.2).1⟩) fun _ _ _ _ _ _ h => h) (fun H h => ⟨(hg1 H h.1).2, (hg2 H h.2).2⟩) (hg1 _ g1).2.length (hg2 _ g2).2.length) ⟨g1, g2⟩
                fun H1 H2 F' g s d => ⟨st1 H1 H2 F' g.1 s d, st2 H1 H2 F' g.2 s d⟩⟩⟩
            · split at q
              · rename_i xs ys q1 q2
                cases q
                obtain ⟨a1, vs1, Ga, rfl, g1, hg1, st1⟩ := asLd_st r1 q1
                obtain ⟨a2, vs2, Gb, rfl, g2, hg2, st2⟩ := asLd_st r3 q2
                exact ⟨a1, a2, vs1, vs2, rfl, .inl ⟨(hg1 _ g1).1, (hg2 _ g2).1, fin _ (fun H => Ga H ∧ Gb H) (itd_pair ((walk_zip rfl).mono (fun H h => ⟨(hg1 H h.1).1, (hg2 H h.2).1⟩) fun _ _ _ _ _ _ h => h) (fun H h => ⟨(hg1 H h.1).2, (hg2 H h.2).2⟩) (hg1 _ g1).2.length (hg2 _ g2).2.length) ⟨g1, g2⟩
                  fun H1 H2 F' g s d => ⟨st1 H1 H2 F' g.1 s d, st2 H1 H2 F' g.2 s d⟩⟩⟩
              · cases q
    · exact h.elim
end
end TL

set_option maxHeartbeats 1000000
namespace TL
open PySem L2

section
variable {X : Cx} {fx : Nat → Bool}
/-! ### xs[i] = e, d[k] = e -/
variable (X) in
def SetS (u : O → O → O → Option O) : Prop :=
  ∀ (pins : List (Addr × Obj)) (s : Shared) (σ : L2.St) (H : Hp) (o i v : V) (ov iv uv : Value) (ox oi oo o' : O) (F1 F2 F3 : Fp), Inv X pins σ H s → RelV o ov → RelV i iv → RelV v uv → RO X.K H ox o F1 → RO X.K H oi i F2 → RO X.K H oo v F3 → Disj F1 F3 → u ox oi oo = some o' →
    wpAny (model X.prog X.w) X.A (setItem ov iv uv) (fun _ s' => ∃ H' F', Inv X pins σ H' s' ∧ RO X.K H' o' o F' ∧ Step (Or F1 F3) H H' ∧ Sub F' (Or F1 F3) H) X.xe s
theorem ROs.set {K : PySem.W.Frag} {H : Hp} : ∀ {os : List O} {vs : List V} {F G : Fp} {j : Nat} {o : O} {v : V}, ROs K H os vs F → RO K H o v G → Disj F G → ROs K H (os.set j o) (vs.set j v) (Or F G)
  | _, _, _, _, _, _, _, .nil, _, _ => .nil
  | _, _, F, G, 0, o, v, .cons F1 F2 h r a b d, ro, dj => .cons G F2 ro r (fun _ p => .inr p) (fun x p => .inl (b x p)) fun x p q => dj x (b x q) p
  | _, _, F, G, j + 1, o, v, .cons F1 F2 h r a b d, ro, dj => .cons F1 (Or F2 G) h (ROs.set (j := j) r ro fun x p q => dj x (b x p) q) (fun x p => .inl (a x p)) (fun x p => p.elim (fun p => .inl (b x p)) .inr) fun x p q => q.elim (d x p) fun q => dj x (a x p) q
theorem setK_ro {K : PySem.W.Frag} {H : Hp} {k : Key} {o : O} {v : V} {G : Fp} : ∀ {m : List (Key × O)} {kvs : List (Key × V)} {F : Fp}, kvs.map (·.1) = m.map (·.1) → (kvs.map (·.1)).Nodup → ROs K H (m.map (·.2)) (kvs.map (·.2)) F → RO K H o v G → Disj F G →
    (m.map fun p => if p.1 = k then (p.1, o) else p).map (·.1) = m.map (·.1) ∧ ROs K H ((m.map fun p => if p.1 = k then (p.1, o) else p).map (·.2)) ((kvs.map fun p => if p.1 = k then (p.1, v) else p).map (·.2)) (Or F G)
  | [], [], F, _, _, r, _, _ => ⟨rfl, .nil⟩
  | [], _ :: _, F, h, _, _, _, _ => by cases h
  | (k1, y) :: m, [], F, h, _, _, _, _ => by cases h
  | (k1, y) :: m, (k2, w) :: kvs, F, h, nd, r, ro, dj => by
    simp only [List.map_cons, List.cons.injEq] at h
    obtain ⟨h1, h2⟩ := h
    subst h1
    simp only [List.map_cons, List.nodup_cons] at nd
    cases r with
    | cons F1 F2 r1 r2 a b d =>
      by_cases c : k2 = k
      · subst c
        have same : ∀ {β : Type} {l : List (Key × β)} (z : β), k2 ∉ l.map (·.1) → (l.map fun p => if p.1 = k2 then (p.1, z) else p) = l := fun {β l} z hn => by
          induction l with
          | nil => rfl
          | cons p l ih =>
            simp only [List.map_cons, List.mem_cons, not_or] at hn
            rw [List.map_cons, if_neg (fun e => hn.1 e.symm), ih hn.2]
        have n1 : k2 ∉ kvs.map (·.1) := nd.1
        have n2 : k2 ∉ m.map (·.1) := by rw [← h2]; exact n1
        simp only [List.map_cons, if_pos]
        rw [same o n2, same v n1]
        exact ⟨trivial |> fun _ => rfl, .cons G F2 ro r2 (fun _ p => .inr p) (fun x p => .inl (b x p)) fun x p q => dj x (b x q) p⟩
      · obtain ⟨e1, e2⟩ := setK_ro h2 nd.2 r2 ro fun x p q => dj x (b x p) q
        simp only [List.map_cons, if_neg c]
        refine ⟨?_, .cons F1 (Or F2 G) r1 ?_ (fun x p => .inl (a x p)) (fun x p => p.elim (fun p => .inl (b x p)) .inr) fun x p q => q.elim (d x p) fun q => dj x (a x p) q⟩
        · have := e1; simp only [List.map_map] at this ⊢; rw [this]
        · exact e2
theorem dk_nodup {pins : List (Addr × Obj)} {σ : L2.St} {H : Hp} {s : Shared} {a : Addr} {kvs : List (Key × V)} (I : Inv X pins σ H s) (h : Rd H a (.dK kvs)) : (kvs.map (·.1)).Nodup := by
  obtain ⟨_, _, vs, r, o, es, ep, _, _, _, _, _, nd⟩ := dk_rd I.hok h
  rw [r.keys]
  exact nd
theorem hasK_keys {α β : Type} {m : List (Key × α)} {n : List (Key × β)} (k : Key) (e : m.map (·.1) = n.map (·.1)) : hasK m k = hasK n k := by
  have h : ∀ {γ : Type} (l : List (Key × γ)), hasK l k = (l.map (·.1)).any fun x => decide (x = k) := fun l => by unfold hasK; rw [List.any_map]; rfl
  rw [h m, h n, e]
theorem put_ro {K : PySem.W.Frag} {H : Hp} {k : Key} {o : O} {v : V} {G F : Fp} {m : List (Key × O)} {kvs : List (Key × V)} (e : kvs.map (·.1) = m.map (·.1)) (nd : (kvs.map (·.1)).Nodup) (r : ROs K H (m.map (·.2)) (kvs.map (·.2)) F) (ro : RO K H o v G) (d : Disj F G) :
    (putK kvs k v).map (·.1) = (setK m k o).map (·.1) ∧ ROs K H ((setK m k o).map (·.2)) ((putK kvs k v).map (·.2)) (Or F G) := by
  have eh := hasK_keys k e
  have hp : putK kvs k v = if hasK kvs k then kvs.map fun p => if p.1 = k then (p.1, v) else p else kvs ++ [(k, v)] := rfl
  rw [hp]
  unfold setK
  rw [eh]
  have ks : ∀ {γ : Type} (l : List (Key × γ)) (z : γ), (l.map fun p => if p.1 = k then (p.1, z) else p).map (·.1) = l.map (·.1) := fun l z => by
    rw [List.map_map]; apply List.map_congr_left; intro p _; dsimp only [Function.comp]; split <;> rfl
  cases q : hasK m k with
  | true =>
    simp only [if_true]
    exact ⟨by rw [ks kvs v, ks m o, e], (setK_ro e nd r ro d).2⟩
  | false =>
    simp only [Bool.false_eq_true, if_false, List.map_append, List.map_cons, List.map_nil]
    exact ⟨by rw [e], ROs.append r (.cons G nof ro .nil (fun _ p => p) (fun _ p => p.elim) fun _ _ p => p) d⟩
theorem ss_uSet (hu : X.A.units + 1 < cLine) : SetS X uSet := by
  intro pins s σ H o i v ov iv uv ox oi oo o' F1 F2 F3 I ro' ri rv r1 r2 r3 d e
  unfold uSet at e
  cases ox with
  | lst xs =>
    cases oi with
    | d y =>
      cases y with
      | int n =>
        dsimp only at e
        cases q : ixN xs.length n with
        | none => rw [q] at e; cases e
        | some j =>
          rw [q] at e; cases e
          cases r2.od
          cases r1 with
          | lst h f r =>
            refine thn (set_list pins s σ H _ _ v ov iv uv (fun H' => ∃ F', RO X.K H' (.lst (xs.set j oo)) _ F' ∧ Step (Or F1 F3) H H' ∧ Sub F' (Or F1 F3) H) I ro' ri rv ⟨_, _, n, j, rfl, rfl, h, by rw [← r.length]; exact q, ?_⟩) fun _ s' ⟨H', I', F', z⟩ => ⟨H', F', I', z⟩
            have w : ∀ u, Step (fun z => z = _) H (upd H _ u) := fun u => Step.wr (o := u) h trivial rfl
            exact ⟨Or F1 F3, .lst upd_same (.inl f) ((ROs.set (r.step (w _) fun z m n => m.2 n) (r3.step (w _) fun z m n => d z (n ▸ f) m) fun z m n => d z m.1 n).mono fun z m => m.elim (fun m => ⟨.inl m.1, m.2⟩) fun m => ⟨.inr m, fun n => d z (n ▸ f) m⟩), Step.wr h trivial (.inl f), fun _ m => .inl m⟩
      | _ => simp [keyO, keyD] at e
    | _ => cases e
  | dct m =>
    dsimp only at e
    cases q : keyO oi with
    | none => rw [q] at e; cases e
    | some k =>
      rw [q] at e
      dsimp only at e
      split at e
      · rename_i hz
        cases e
        have ei := keyO_ok r2 q
        subst ei
        cases r1 with
        | dct h f e2 r =>
          rename_i a kvs
          have hl : kvs.length = m.length := by have := congrArg List.length e2; simpa using this
          refine thn (set_dict hu pins s σ H _ _ v ov iv uv (fun H' => ∃ F', RO X.K H' (.dct (setK m k oo)) (.ref a) F' ∧ Step (Or F1 F3) H H' ∧ Sub F' (Or F1 F3) H) I ro' ri rv ⟨a, _, rfl, .k h (by omega), ?_⟩) fun _ s' ⟨H', I', F', z⟩ => ⟨H', F', I', z⟩
          have w : ∀ u, Step (fun z => z = a) H (upd H a u) := fun u => Step.wr (o := u) h trivial rfl
          obtain ⟨p1, p2⟩ := put_ro e2 (dk_nodup I (.inl h)) (r.step (w (.dK (putK kvs k v))) fun z m n => m.2 n) (r3.step (w (.dK (putK kvs k v))) fun z m n => d z (n ▸ f) m) (k := k) fun z m n => d z m.1 n
          exact ⟨Or F1 F3, .dct upd_same (.inl f) p1 (p2.mono fun z m => m.elim (fun m => ⟨.inl m.1, m.2⟩) fun m => ⟨.inr m, fun n => d z (n ▸ f) m⟩), Step.wr h trivial (.inl f), fun _ m => .inl m⟩
      · cases e
  | d x => cases oi <;> cases e
  | _ => cases e
def setS (u : O → O → O → Option O) (fr : M (O × Option Nat)) (fi : M O) : O → S := fun oo => bndS fr fun x => bndS fi fun oi => bndS (lift (u x.1 oi oo)) fun o' => bndS (rst x.2 o') fun _ e => some (.nx, e)
theorem Post.liftS {α : Type} {o : Option α} {g : α → S} {D : Ends} {σ : L2.St} {H : Hp} {F : Fp} {e : Env} (h : PSo X fx D σ H F (bndS (TL.lift o) g e)) : ∃ a, o = some a ∧ PSo X fx D σ H F (g a e) := by
  cases o with
  | none => exact h.elim
  | some a => exact ⟨a, rfl, h⟩
theorem Post.top {f : M (O × Option Nat)} {P : O × Option Nat → Env → Prop} {σ : L2.St} {H : Hp} {Q : VK} {env : Env} {F : Fp} (rel : RelE X.K H env σ F) (h : Post P (f env))
    (c : ∀ r env' v H' F1 F2, RO X.K H' r.1 v F1 → Aft X F H H' σ env' F1 F2 → (∀ i, r.2 = some i → σ[i]? = some (some v)) → P r env' → Q v H') : tOp' X f σ H Q :=
  ⟨env, F, rel, h.mono fun o e' q v H' F1 F2 ro re dj st sub g => c o e' v H' _ _ ro.dom ⟨re.dom, fun a p q => dj a p.1 q.1, st, fun a z => sub a (z.imp And.left And.left), fun a p => p.2, fun a p => p.2⟩ g q⟩
theorem rstS_ok {ri : Option Nat} {o : O} {k : Unit → S} {D : Ends} {env : Env} {σ σ0 : L2.St} {H H0 : Hp} {F G F0 : Fp} {v : V} (rel : RelE X.K H env σ F) (ro : RO X.K H o v G) (dj : Disj G F) (hi : ∀ i, ri = some i → σ[i]? = some (some v))
    (h : PSo X fx D σ0 H0 F0 (bndS (rst ri o) k env)) : ∃ env', RelE X.K H env' σ (Or G F) ∧ PSo X fx D σ0 H0 F0 (k () env') := by
  cases ri with
  | none => exact ⟨env, rel.mono fun a z => .inr z, h⟩
  | some i => exact ⟨env.set i (some o), rel.back (hi i rfl) ro dj, h⟩
theorem ss_setIx {o i e : Expr} {f fi : M O} {fr : M (O × Option Nat)} {u : O → O → O → Option O} {pos pos' : Pos} (hset : SetS X u) (he : SE X e f) (ho : OE X o fr) (hi : SE X i fi)
    (ha : ∀ v, assign (.Subscript o i pos') X.env v = (do
      let ov ← holding [v] (eval o X.env)
      let iv ← holding [v, ov] (eval i X.env)
      standAt pos'
      holding [v, ov, iv] (setItem ov iv v)
      release [v, ov, iv] []) := by intro _; rfl)
    (hs : swapsWithSole [.Subscript o i pos'] e pos.line X.env = pure false := by rfl) (hw : swappedStores [.Subscript o i pos'] e X.env = pure none := by rfl)
    (h1 : (assignEach [.Subscript o i pos'] X.env).map (·.2) = [assign (.Subscript o i pos') X.env] := by rfl) : SS X fx (.Assign [.Subscript o i pos'] e pos) (bndS f (setS u fr fi)) := by
  have hP : PSet X (fun o i v H Q => ∃ ox oi oo o' F1 F2 F3, RO X.K H ox o F1 ∧ RO X.K H oi i F2 ∧ RO X.K H oo v F3 ∧ Disj F1 F3 ∧ u ox oi oo = some o' ∧ ∀ H' F', RO X.K H' o' o F' → Step (Or F1 F3) H H' → Sub F' (Or F1 F3) H → Q H') := by
    intro pins s σ H o i v ov iv uv Q I r1 r2 r3 ⟨ox, oi, oo, o', F1, F2, F3, q1, q2, q3, d, e, k⟩
    exact thn (hset pins s σ H o i v ov iv uv ox oi oo o' F1 F2 F3 I r1 r2 r3 q1 q2 q3 d e) fun _ s' ⟨H', F', I', ro, st, sub⟩ => ⟨H', I', k H' F' ro st sub⟩
  refine PS.imp (ps_asg he (pg_sub ho hi hP ha) hs hw h1) fun D σ H ⟨env, F, rel, h⟩ => Post.tof rel (bndS_ok h) fun oo env1 v H1 F1 F2 ro a h => ?_
  refine Post.top a.rel (bndS_ok h) fun x env2 w H2 F3 F4 ro2 b g h => ?_
  refine Post.tof b.rel (bndS_ok h) fun oi env3 z H3 F5 F6 ro3 c h => ?_
  obtain ⟨o', e, h⟩ := Post.liftS h
  obtain ⟨stA, subA, d13, d14, dm⟩ := a.next b
  obtain ⟨stB, subB, d35, d36, dm3⟩ := b.next c
  have n1 : Disj F1 (Or F5 F6) := disj_new d14 dm c.sub
  have ro' := (ro.step b.st a.dj).step c.st d14
  have ro2' := ro2.step c.st b.dj
  refine ⟨x.1, oi, oo, o', F3, F5, F1, ro2', ro3, ro', fun q m n => d13 q n m, e, fun H' F' rz st sub => ?_⟩
  have dF6 : Disj F6 (Or F3 F1) := fun q m n => n.elim (fun n => d36 q n m) fun n => n1 q n (.inr m)
  have dn : Disj F6 F' := disj_new dF6 c.d2 sub
  obtain ⟨env4, rel4, h⟩ := rstS_ok (c.rel.step st dF6) rz (fun q m n => dn q n m) g h
  have stC : Step F H H3 := stA.trans c.st fun q m => subA q (.inr (.inr m))
  refine h σ H' _ rel4 .refl (stC.trans st fun q m => m.elim (fun m => subA q (.inr (.inl m))) fun m => subA q (.inl m)) fun q m => ?_
  rcases m with m | m
  · rcases sub q m with (m | m) | m
    · exact subA q (.inr (.inl m))
    · exact subA q (.inl m)
    · exact .inr (stC.free m)
  · rcases c.sub q (.inr m) with m | m
    · exact subA q (.inr (.inr m))
    · exact .inr (stA.free m)

/-! ### loops -/
def loopS (g : G) (fb : S) : List D → S
  | [] => fun e => some (.nx, e)
  | d :: ds => fun e => match g (.d d) e with
    | none => none
    | some e1 => match fb e1 with
      | some (.nx, e2) => loopS g fb ds e2
      | some (.ct, e2) => loopS g fb ds e2
      | some (.bk, e2) => some (.nx, e2)
      | some (.rt o, e2) => some (.rt o, e2)
      | none => none
def forS (src : M (List D × (O × Option Nat))) (g : G) (fb : S) : S := bndS src fun r => loopS g fb r.1
theorem ss_for {tg iter : Expr} {body : List Stmt} {src : M (List D × (O × Option Nat))} {g : G} {fb : S} {pos : Pos} (hp : PassesOwn (model X.prog X.w) X.A X.env X.xe) (hc : X.calm = true) (hi : IE X tg iter src) (hg : TG' X fx tg g) (hb : SB X fx body fb)
    (hs : ∀ x, foldedSetIterable iter X.env x = pure x := by intro _; rfl) : SS X fx (.For tg iter body [] pos) (forS src g fb) := by
  refine PS.imp (ps_for hp hc hi hg hb hs) fun D σ H ⟨env, F, rel, h⟩ => ?_
  refine ⟨env, F, rel, (bndS_ok h).mono fun r e h J H1 vh Fh F2 G ro gi it gs stb rel1 dj st sub dm => ?_⟩
  obtain ⟨Y, w, hY⟩ := it
  obtain ⟨ds, hl⟩ := r
  dsimp only at ro gi w hY h
  refine ⟨fun i m σ' H' => m = ds.length - i ∧ i ≤ ds.length ∧ G H' ∧ ∃ env' F', RelE X.K H' env' σ' F' ∧ Disj Fh F' ∧ Fix fx σ σ' ∧ Step F H H' ∧ Sub F' F H ∧ Dom Fh H' ∧ PSo X fx D σ H F (loopS g fb (ds.drop i) env'), ⟨ds.length, by simp, Nat.zero_le _, gs, e, F2, rel1, dj, .refl, st, fun x p => sub x (.inr p), dm, by rw [List.drop_zero]; exact h⟩, ?_⟩
  rintro i m σ' H' ⟨rfl, hi', g', env', F', rel', dj', fi', st', sub', dm', h'⟩
  by_cases hlt : i < ds.length
  · refine .inr ⟨w.goes i H' hlt g', fun σ2 H2 => (i + 1 ≤ ds.length ∧ G H2 ∧ ∃ env' F', RelE X.K H2 env' σ2 F' ∧ Disj Fh F' ∧ Fix fx σ σ2 ∧ Step F H H2 ∧ Sub F' F H ∧ Dom Fh H2 ∧ PSo X fx D σ H F (loopS g fb (ds.drop (i + 1)) env')), fun σ2 H2 q => ⟨ds.length - (i + 1), by omega, rfl, q⟩, fun x H2 y => ?_⟩
    obtain ⟨d, hd, rd, st2⟩ := hY i H' x H2 hlt g' (w.yields i H' x H2 hlt g' y)
    have ed : ds.drop i = d :: ds.drop (i + 1) := by
      rw [List.drop_eq_getElem_cons hlt]
      have : ds[i]? = some ds[i] := by simp [hlt]
      rw [this] at hd; cases hd; rfl
    rw [ed] at h'
    unfold loopS at h'
    cases q1 : g (.d d) env' with
    | none => rw [q1] at h'; exact h'.elim
    | some e1 =>
      rw [q1] at h'
      dsimp only at h'
      have gg2 := stb H' H2 nof g' st2 fun _ _ z => z
      have rel2 := rel'.step st2 fun _ _ z => z
      have st02 : Step F H H2 := st'.trans st2 fun _ z => z.elim
      refine ⟨.d d, env', nof, F', .d rd, rel2, fun _ p _ => p, e1, q1, fun σ3 H3 F3 rel3 fi3 st3 sub3 => ?_⟩
      have st3' : Step F' H2 H3 := st3.mono fun x p => .inl (p.elim False.elim id)
      have sub3' : Sub F3 F' H2 := fun x p => (sub3 x p).imp (fun p => p.elim False.elim id) id
      have dm2 := dm'.step st2
      have g3 := stb H2 H3 F' gg2 st3' dj'
      have d3 : Disj Fh F3 := disj_new dj' dm2 sub3'
      have st03 : Step F H H3 := st02.trans st3' sub'
      have subF3 : Sub F3 F H := fun x p => (sub3' x p).elim (sub' x) fun n => .inr (st02.free n)
      have fi03 : Fix fx σ σ3 := fi'.trans fi3
      refine ⟨e1, F3, rel3, ?_⟩
      have go : ∀ {e2 : Env} {σ4 : L2.St} {H4 : Hp} {F4 : Fp}, PSo X fx D σ H F (loopS g fb (ds.drop (i + 1)) e2) → RelE X.K H4 e2 σ4 F4 → Fix fx σ3 σ4 → Step F3 H3 H4 → Sub F4 F3 H3 →
          i + 1 ≤ ds.length ∧ G H4 ∧ ∃ env' F', RelE X.K H4 env' σ4 F' ∧ Disj Fh F' ∧ Fix fx σ σ4 ∧ Step F H H4 ∧ Sub F' F H ∧ Dom Fh H4 ∧ PSo X fx D σ H F (loopS g fb (ds.drop (i + 1)) env') :=
        fun {e2 σ4 H4 F4} hh r4 f4 s4 b4 => ⟨hlt, stb H3 H4 F3 g3 s4 d3, e2, F4, r4, disj_new d3 (dm2.step st3') b4, fi03.trans f4, st03.trans s4 subF3, fun x p => (b4 x p).elim (subF3 x) fun n => .inr (st03.free n), (dm2.step st3').step s4, hh⟩
      cases q2 : fb e1 with
      | none => rw [q2] at h'; exact h'.elim
      | some r =>
        obtain ⟨o, e2⟩ := r
        rw [q2] at h'
        cases o with
        | nx => exact fun σ4 H4 F4 r4 f4 s4 b4 => go h' r4 f4 s4 b4
        | ct => exact fun σ4 H4 F4 r4 f4 s4 b4 => go h' r4 f4 s4 b4
        | bk => exact fun σ4 H4 F4 r4 f4 s4 b4 => h' σ4 H4 F4 r4 (fi03.trans f4) (st03.trans s4 subF3) fun x p => (b4 x p).elim (subF3 x) fun n => .inr (st03.free n)
        | rt o => exact fun v σ4 H4 G1 G2 ro4 r4 d4 f4 s4 b4 => h' v σ4 H4 G1 G2 ro4 r4 d4 (fi03.trans f4) (st03.trans s4 subF3) fun x p => (b4 x p).elim (subF3 x) fun n => .inr (st03.free n)
  · have e : i = ds.length := by omega
    subst e
    rw [List.drop_length] at h'
    exact .inl ⟨w.stops H' g', h' σ' H' F' rel' fi' st' sub'⟩
def whileS (c : M Bool) (fb : S) : Nat → S
  | 0 => fun _ => none
  | n + 1 => fun e => match c e with
    | none => none
    | some (false, e1) => some (.nx, e1)
    | some (true, e1) => match fb e1 with
      | some (.nx, e2) => whileS c fb n e2
      | some (.ct, e2) => whileS c fb n e2
      | some (.bk, e2) => some (.nx, e2)
      | some (.rt o, e2) => some (.rt o, e2)
      | none => none
theorem ss_while {c : Expr} {body : List Stmt} {k : M Bool} {fb : S} {pos : Pos} (n : Nat) (hp : PassesOwn (model X.prog X.w) X.A X.env X.xe) (hc : BE X c k) (hb : SB X fx body fb) : SS X fx (.While c body [] pos) (whileS k fb n) := by
  refine PS.imp (ps_while hp hc hb) fun D σ H ⟨env, F, rel, h⟩ => ?_
  refine ⟨fun m σ' H' => ∃ env' F', RelE X.K H' env' σ' F' ∧ Fix fx σ σ' ∧ Step F H H' ∧ Sub F' F H ∧ PSo X fx D σ H F (whileS k fb m env'), ⟨n, env, F, rel, .refl, .refl, .refl, h⟩, ?_⟩
  rintro m σ1 H1 ⟨env1, F1, rel1, fi1, st1, sub1, h⟩
  cases m with
  | zero => exact h.elim
  | succ m =>
    refine ⟨env1, F1, rel1, ?_⟩
    unfold whileS at h
    cases q : k env1 with
    | none => rw [q] at h; exact h
    | some r =>
      obtain ⟨b, e1⟩ := r
      rw [q] at h
      intro H2 F2 rel2 st2 sub2
      have st02 : Step F H H2 := st1.trans st2 sub1
      have sub02 : Sub F2 F H := fun x p => (sub2 x p).elim (sub1 x) fun n => .inr (st1.free n)
      cases b with
      | false => exact iteF (h σ1 H2 F2 rel2 fi1 st02 sub02)
      | true =>
        refine iteT ⟨fun σ' H' => ∃ env' F', RelE X.K H' env' σ' F' ∧ Fix fx σ σ' ∧ Step F H H' ∧ Sub F' F H ∧ PSo X fx D σ H F (whileS k fb m env'), fun σ' H' q => ⟨m, Nat.lt_succ_self _, q⟩, e1, F2, rel2, ?_⟩
        dsimp only at h
        have go : ∀ {e2 : Env} {σ4 : L2.St} {H4 : Hp} {F4 : Fp}, PSo X fx D σ H F (whileS k fb m e2) → RelE X.K H4 e2 σ4 F4 → Fix fx σ1 σ4 → Step F2 H2 H4 → Sub F4 F2 H2 →
            ∃ env' F', RelE X.K H4 env' σ4 F' ∧ Fix fx σ σ4 ∧ Step F H H4 ∧ Sub F' F H ∧ PSo X fx D σ H F (whileS k fb m env') :=
          fun {e2 σ4 H4 F4} hh r4 f4 s4 b4 => ⟨e2, F4, r4, fi1.trans f4, st02.trans s4 sub02, fun x p => (b4 x p).elim (sub02 x) fun n => .inr (st02.free n), hh⟩
        cases q2 : fb e1 with
        | none => rw [q2] at h; exact h.elim
        | some r =>
          obtain ⟨o, e2⟩ := r
          rw [q2] at h
          cases o with
          | nx => exact fun σ4 H4 F4 r4 f4 s4 b4 => go h r4 f4 s4 b4
          | ct => exact fun σ4 H4 F4 r4 f4 s4 b4 => go h r4 f4 s4 b4
          | bk => exact fun σ4 H4 F4 r4 f4 s4 b4 => h σ4 H4 F4 r4 (fi1.trans f4) (st02.trans s4 sub02) fun x p => (b4 x p).elim (sub02 x) fun n => .inr (st02.free n)
          | rt o => exact fun v σ4 H4 G1 G2 ro4 r4 d4 f4 s4 b4 => h v σ4 H4 G1 G2 ro4 r4 d4 (fi1.trans f4) (st02.trans s4 sub02) fun x p => (b4 x p).elim (sub02 x) fun n => .inr (st02.free n)
end
end TL

set_option maxHeartbeats 1000000
namespace TL
open PySem L2

section
variable {X : Cx}
/-! ### comprehensions -/
def wipeE (e : Env) : List Nat → Env
  | [] => e
  | v :: vs => (wipeE e vs).set v none
theorem RelE.wipe {K : PySem.W.Frag} {H : Hp} {env : Env} {σ : L2.St} {F : Fp} (r : RelE K H env σ F) : ∀ vs : List Nat, RelE K H (wipeE env vs) (L2.wipe σ vs) F
  | [] => r
  | v :: vs => by
    have q := RelE.wipe r vs
    unfold wipeE L2.wipe
    have h : ∀ {env : Env} {σ : L2.St} {F : Fp} {i : Nat}, RelE K H env σ F → RelE K H (env.set i none) (σ.set i none) F := by
      intro env σ F i r
      induction i generalizing env σ F with
      | zero => cases r with
        | nil => exact .nil
        | no r => exact .no r
        | so F1 F2 h r a b d => exact .no (r.mono b)
      | succ i ih => cases r with
        | nil => exact .nil
        | no r => exact .no (ih r)
        | so F1 F2 h r a b d => exact .so F1 F2 h (ih r) a b d
    exact h q
theorem RelE.patch {K : PySem.W.Frag} {H : Hp} : ∀ {e e' : Env} {σ σ' : L2.St} {F : Fp}, RelE K H e σ F → e'.length = e.length → σ'.length = σ.length →
    (∀ i, i < e.length → (e'[i]? = e[i]? ∧ σ'[i]? = σ[i]?) ∨ e'[i]? = some none ∨ ∃ x v, e'[i]? = some (some (.d x)) ∧ σ'[i]? = some (some v) ∧ RD K H x v) → RelE K H e' σ' F
  | _, e', _, σ', F, .nil, h1, h2, _ => by
    have h1 : e'.length = 0 := h1
    have h2 : σ'.length = 0 := h2
    rw [List.length_eq_zero_iff.mp h1, List.length_eq_zero_iff.mp h2]
    exact .nil
  | _ :: env, e', s :: σ, σ', F, r, h1, h2, h => by
    cases e' with
    | nil => cases h1
    | cons y e' =>
      cases σ' with
      | nil => cases h2
      | cons s' σ' =>
        have h0 := h 0 (by simp)
        have ht : ∀ i, i < env.length → (e'[i]? = env[i]? ∧ σ'[i]? = σ[i]?) ∨ e'[i]? = some none ∨ ∃ x v, e'[i]? = some (some (.d x)) ∧ σ'[i]? = some (some v) ∧ RD K H x v := fun i hi => by simpa using h (i + 1) (by simpa using hi)
        simp only [List.getElem?_cons_zero, Option.some.injEq] at h0
        have l1 : e'.length = env.length := by simpa using h1
        have l2 : σ'.length = σ.length := by simpa using h2
        cases r with
        | no r =>
          have q := RelE.patch r l1 l2 ht
          rcases h0 with ⟨a, b⟩ | a | ⟨x, v, a, b, c⟩
          · subst a; exact .no q
          · subst a; exact .no q
          · subst a b; exact .so nof F (.d c) q (fun _ z => z.elim) (fun _ z => z) fun _ z _ => z
        | so F1 F2 g r a1 b1 d1 =>
          have q := RelE.patch r l1 l2 ht
          rcases h0 with ⟨a, b⟩ | a | ⟨x, v, a, b, c⟩
          · subst a b; exact .so F1 F2 g q a1 b1 d1
          · subst a; exact .no (q.mono b1)
          · subst a b; exact .so nof F2 (.d c) q (fun _ z => z.elim) b1 fun _ z _ => z
/-- the comprehension's own places are as they were -/
def backE (e1 e2 : Env) : List Nat → Env
  | [] => e2
  | v :: vs => (backE e1 e2 vs).set v (e1.getD v none)
theorem backE_len (e1 e2 : Env) : ∀ vs, (backE e1 e2 vs).length = e2.length
  | [] => rfl
  | v :: vs => by unfold backE; rw [List.length_set, backE_len e1 e2 vs]
theorem backE_get {e1 e2 : Env} : ∀ {vs : List Nat} {i : Nat}, i < e2.length → (backE e1 e2 vs)[i]? = if i ∈ vs then some (e1.getD i none) else e2[i]?
  | [], i, h => by simp [backE]
  | v :: vs, i, h => by
    unfold backE
    by_cases c : v = i
    · subst c
      rw [List.getElem?_set_self (by rw [backE_len]; exact h)]
      simp
    · rw [List.getElem?_set_ne c, backE_get h]
      have : i ≠ v := fun e => c e.symm
      simp [this]
theorem wipe_get {σ : L2.St} : ∀ {vs : List Nat} {i : Nat}, i < σ.length → (L2.wipe σ vs)[i]? = if i ∈ vs then some none else σ[i]?
  | [], i, h => by simp [L2.wipe]
  | v :: vs, i, h => by
    unfold L2.wipe
    by_cases c : v = i
    · subst c
      rw [List.getElem?_set_self (by rw [wipe_length]; exact h)]
      simp
    · rw [List.getElem?_set_ne c, wipe_get h]
      have : i ≠ v := fun e => c e.symm
      simp [this]
/-- no place of these is owned -/
def ownOk (e : Env) (vs : List Nat) : Bool := vs.all fun v => match e[v]? with
  | some (some (.d _)) => true
  | some (some _) => false
  | _ => true
theorem RelE.recover {K : PySem.W.Frag} {H H' : Hp} {e1 e2 : Env} {σ : L2.St} {F F' : Fp} {vs : List Nat} (r1 : RelE K H e1 σ F) (ok : ownOk e1 vs = true) (p : ∀ a o, H a = some o → ¬ MutO o → H' a = some o) (r2 : RelE K H' e2 (L2.wipe σ vs) F') :
    RelE K H' (backE e1 e2 vs) σ F' := by
  have l2 : e2.length = σ.length := by rw [r2.length, wipe_length]
  refine r2.patch (backE_len _ _ _) (by rw [wipe_length]) fun i hi => ?_
  rw [backE_get hi, wipe_get (by omega)]
  by_cases c : i ∈ vs
  · rw [if_pos c, if_pos c]
    unfold ownOk at ok
    have q := List.all_eq_true.mp ok i c
    rw [List.getD_eq_getElem?_getD]
    cases e : e1[i]? with
    | none => exact .inr (.inl rfl)
    | some o =>
      cases o with
      | none => exact .inr (.inl rfl)
      | some o =>
        rw [e] at q
        cases o with
        | d x =>
          obtain ⟨v, e3, rd⟩ := r1.getD e
          exact .inr (.inr ⟨x, v, rfl, e3, rd.keep p⟩)
        | _ => cases q
  · rw [if_neg c, if_neg c]
    exact .inl ⟨rfl, rfl⟩
def compL (g : G) (t : M Bool) (f : M O) (vs : List Nat) : List D → M (List O)
  | [] => ret []
  | d :: ds => fun e => match g (.d d) e with
    | none => none
    | some e1 => match t e1 with
      | none => none
      | some (false, e2) => compL g t f vs ds (wipeE e2 vs)
      | some (true, e2) => match f e2 with
        | none => none
        | some (o, e3) => match compL g t f vs ds (wipeE e3 vs) with
          | none => none
          | some (os, e4) => some (o :: os, e4)
def compM (src : M (List D × (O × Option Nat))) (g : G) (t : M Bool) (f : M O) (vs : List Nat) : M O := fun e => match src e with
  | none => none
  | some ((ds, x), e1) => if ownOk e1 vs then match compL g t f vs ds (wipeE e1 vs) with
      | none => none
      | some (os, e2) => if os.length ≤ sizeLine then bnd (rst x.2 x.1) (fun _ => ret (.lst os)) (backE e1 e2 vs) else none
    else none
variable (X) in
/-- a clause's tests -/
def TsE (ifs : List Expr) (t : M Bool) : Prop := PTs X ifs (tBf X t)
theorem PTs.imp {e : List Expr} {t t' : TT} (h : PTs X e t) (k : ∀ σ H Q, t' σ H Q → t σ H Q) : PTs X e t' := ⟨fun pins s σ H Q I q => h.run pins s σ H Q I (k _ _ _ q)⟩
theorem ts_nil : TsE X [] (ret true) := PTs.imp pts_nil fun σ H Q ⟨env, F, rel, h⟩ => h H F rel .refl .refl
theorem ts_one {c : Expr} {t : M Bool} (h : BE X c t) : TsE X [c] t := pts_one h
def fxOf (vs : List Nat) : Nat → Bool := fun i => !vs.contains i
theorem wipe_fix {σ σ2 : L2.St} {vs : List Nat} (h : Fix (fxOf vs) (L2.wipe σ vs) σ2) : L2.wipe σ2 vs = L2.wipe σ vs := by
  have hl : σ2.length = σ.length := by rw [h.len, wipe_length]
  apply List.ext_getElem?
  intro i
  by_cases hi : i < σ.length
  · rw [wipe_get (by omega), wipe_get hi]
    by_cases c : i ∈ vs
    · rw [if_pos c, if_pos c]
    · rw [if_neg c, if_neg c, h.at_ i (by unfold fxOf; simp [c]), wipe_get hi, if_neg c]
  · rw [List.getElem?_eq_none (by rw [wipe_length]; omega), List.getElem?_eq_none (by rw [wipe_length]; omega)]
theorem wipe_wipe {σ σ2 : L2.St} {vs : List Nat} (h : L2.wipe σ2 vs = L2.wipe σ vs) (K : PySem.W.Frag) {H : Hp} {e : Env} {F : Fp} (r : RelE K H e σ2 F) : RelE K H (wipeE e vs) (L2.wipe σ vs) F := by
  rw [← h]; exact r.wipe vs
/-- the state of a comprehension ahead of a turn: its list at Da so far, what is held (Fh), the places (F') -/
structure Lc (X : Cx) (F0 : Fp) (H0 : Hp) (Da : Addr) (Fh : Fp) (acc : List O) (av : List V) (Fa F' : Fp) (H : Hp) : Prop where
  hD : H Da = some (.lst av)
  ra : ROs X.K H acc av Fa
  dA : Disj Fa F'
  dH : Disj Fh (Or Fa F')
  nA : ¬ Fa Da
  nE : ¬ F' Da
  nH : ¬ Fh Da
  st : Step F0 H0 H
  sb : Sub (Or Fa F') F0 H0
  mH : Dom Fh H
  mA : Dom Fa H
  h0 : H0 Da = none
theorem Lc.adv {F0 : Fp} {H0 : Hp} {Da : Addr} {Fh : Fp} {acc : List O} {av : List V} {Fa F' F2 : Fp} {H H' : Hp} (c : Lc X F0 H0 Da Fh acc av Fa F' H) (st : Step F' H H') (sub : Sub F2 F' H) : Lc X F0 H0 Da Fh acc av Fa F2 H' where
  hD := st.keep _ _ c.hD c.nE
  ra := c.ra.step st c.dA
  dA := disj_new c.dA c.mA sub
  dH := fun x p q => q.elim (fun q => c.dH x p (.inl q)) fun q => disj_new (fun x p q => c.dH x p (.inr q)) c.mH sub x p q
  nA := c.nA
  nE := fun z => (sub _ z).elim c.nE fun e => by rw [c.hD] at e; cases e
  nH := c.nH
  st := c.st.trans st fun x p => c.sb x (.inr p)
  sb := fun x p => p.elim (fun p => c.sb x (.inl p)) fun p => (sub x p).elim (fun p => c.sb x (.inr p)) fun n => .inr (c.st.free n)
  mH := c.mH.step st
  mA := c.mA.step st
  h0 := c.h0
theorem Lc.push {F0 : Fp} {H0 : Hp} {Da : Addr} {Fh : Fp} {acc : List O} {av : List V} {Fa F6 F7 : Fp} {H : Hp} {o : O} {v : V} (c : Lc X F0 H0 Da Fh acc av Fa (Or F6 F7) H) (ro : RO X.K H o v F6) (d : Disj F6 F7) (m6 : Dom F6 H) (n0 : ¬ F0 Da) :
    Lc X F0 H0 Da Fh (acc ++ [o]) (av ++ [v]) (Or Fa F6) F7 (upd H Da (.lst (av ++ [v]))) ∧ Step (fun z => z = Da) H (upd H Da (.lst (av ++ [v]))) := by
  have w : Step (fun z => z = Da) H (upd H Da (.lst (av ++ [v]))) := Step.wr c.hD trivial rfl
  refine ⟨⟨upd_same, ?_, fun x p q => p.elim (fun p => c.dA x p (.inr q)) fun p => d x p q, fun x p q => c.dH x p (q.elim (fun q => q.elim .inl fun q => .inr (.inl q)) fun q => .inr (.inr q)), fun z => z.elim c.nA fun z => c.nE (.inl z), fun z => c.nE (.inr z), c.nH, ?_, fun x p => c.sb x (p.elim (fun p => p.elim .inl fun p => .inr (.inl p)) fun p => .inr (.inr p)), c.mH.step w, fun x p => p.elim (fun p => c.mA.step w x p) fun p => m6.step w x p, c.h0⟩, w⟩
  · exact ROs.append (c.ra.step w fun z m n => c.nA (n ▸ m)) ((ROs.cons F6 nof ro .nil (fun _ p => p) (fun _ p => p.elim) fun _ _ p => p).step w fun z m n => c.nE (.inl (n ▸ m))) fun x p q => c.dA x p (.inl q)
  · exact ⟨fun a o e n => by rw [upd_ne (fun z => by subst z; rw [c.h0] at e; cases e)]; exact c.st.keep a o e n, fun a o e n => by rw [upd_ne (fun z => by subst z; rw [c.h0] at e; cases e)]; exact c.st.pers a o e n, fun a o e => by rw [upd_ne (fun z => by subst z; rw [c.h0] at e; cases e)]; exact c.st.there a o e⟩
theorem lc_ok {src : M (List D × (O × Option Nat))} {g : G} {t : M Bool} {f : M O} {vs : List Nat} {σ : L2.St} {H : Hp} {Q : VK} (h : tOf X (compM src g t f vs) σ H Q) :
    tLc (tIf X src) (tGf X (fxOf vs) g) (tBf X t) (tOf X f) vs σ H Q := by
  obtain ⟨env, F0, rel0, h⟩ := h
  refine ⟨env, fun a => F0 a ∧ ∃ o, H a = some o, rel0.dom, ?_⟩
  unfold compM at h
  cases q0 : src env with
  | none => rw [q0] at h; exact h
  | some r =>
    obtain ⟨⟨ds, x⟩, e1⟩ := r
    rw [q0] at h
    dsimp only at h
    intro J H1 vh Fh F2 Gd ro gi it gs stb rel1 dj st sub dm Da hDa
    obtain ⟨Y, w, hY⟩ := it
    dsimp only at ro gi w hY
    split at h
    · rename_i ok
      cases q1 : compL g t f vs ds (wipeE e1 vs) with
      | none => rw [q1] at h; exact h.elim
      | some r =>
        obtain ⟨os, ef⟩ := r
        rw [q1] at h
        dsimp only at h
        split at h
        · rename_i hz
          have hDn : H Da = none := st.free hDa
          have nF : ¬ (F0 Da ∧ ∃ o, H Da = some o) := fun z => by obtain ⟨_, o, e⟩ := z; rw [hDn] at e; cases e
          refine lc_it w (Pv := fun i H' => Gd H' ∧ ∃ acc env' os' av Fa F', Lc X (fun a => F0 a ∧ ∃ o, H a = some o) H Da Fh acc av Fa F' H' ∧ RelE X.K H' env' (L2.wipe σ vs) F' ∧ RO X.K H' x.1 vh Fh ∧ (∀ a o, H1 a = some o → ¬ MutO o → H' a = some o) ∧ compL g t f vs (ds.drop i) env' = some (os', ef) ∧ acc ++ os' = os) ?_ (fun i H' _ p => p.1) ?_ ?_
          · -- start
            have s1 : Step nof H1 (upd H1 Da (.lst [])) := .new hDa
            refine ⟨stb _ _ nof gs s1 fun _ _ z => z, [], wipeE e1 vs, os, [], nof, _, ⟨upd_same, .nil, fun _ p _ => p, fun a p q => q.elim False.elim fun q => dj a p q.1, fun z => z, fun z => ?_, fun z => ?_, st.trans s1 fun _ z => z.elim, fun a p => p.elim False.elim fun p => (sub a (.inr p.1)), dm.step s1, fun _ p => p.elim, hDn⟩, (rel1.dom.wipe vs).step s1 fun _ _ z => z, ro.step s1 fun _ _ z => z, s1.pers, by rw [List.drop_zero]; exact q1, rfl⟩
            · obtain ⟨_, o, e⟩ := z; rw [hDa] at e; cases e
            · obtain ⟨o, e⟩ := dm _ z; rw [hDa] at e; cases e
          · -- a turn
            rintro i xv H2 H3 hi ⟨gd, acc, env', os', av, Fa, F', c, rel', rh, pp, hc, happ⟩ y
            obtain ⟨d, hd, rd, st23⟩ := hY i H2 xv H3 hi gd y
            have ed : ds.drop i = d :: ds.drop (i + 1) := by
              rw [List.drop_eq_getElem_cons hi]
              have : ds[i]? = some ds[i] := by simp [hi]
              rw [this] at hd; cases hd; rfl
            rw [ed] at hc
            unfold compL at hc
            cases p1 : g (.d d) env' with
            | none => rw [p1] at hc; cases hc
            | some ea =>
              rw [p1] at hc
              dsimp only at hc
              have mf : ∀ {G1 : Fp} {Hx Hy : Hp}, Step nof Hx Hy → Step G1 Hx Hy := fun s => s.mono fun _ z => z.elim
              have c3 := c.adv (mf st23) .refl
              refine ⟨.d d, env', nof, F', .d rd, rel'.step st23 fun _ _ z => z, fun _ p _ => p, ea, p1, fun σ4 H4 F4 rel4 fi4 st4 sub4 => ?_⟩
              have st4' : Step F' H3 H4 := st4.mono fun x p => .inl (p.elim False.elim id)
              have sub4' : Sub F4 F' H3 := fun x p => (sub4 x p).imp (fun p => p.elim False.elim id) id
              have c4 := c3.adv st4' sub4'
              have hwp := wipe_fix fi4
              have g4 := stb _ _ _ (stb _ _ nof gd st23 fun _ _ z => z) st4' fun x p q => c3.dH x p (.inr q)
              have r4 := (rh.step st23 fun _ _ z => z).step st4' fun x p q => c3.dH x p (.inr q)
              refine ⟨hwp, ea, F4, rel4, ?_⟩
              cases p2 : t ea with
              | none => rw [p2] at hc; cases hc
              | some r =>
                obtain ⟨b, e2⟩ := r
                rw [p2] at hc
                intro H5 F5 rel5 st5 sub5
                have c5 := c4.adv st5 sub5
                have g5 := stb _ _ _ g4 st5 fun x p q => c4.dH x p (.inr q)
                have r5 := r4.step st5 fun x p q => c4.dH x p (.inr q)
                have pp5 : ∀ a o, H1 a = some o → ¬ MutO o → H5 a = some o := fun a o e n => st5.pers _ _ (st4.pers _ _ (st23.pers _ _ (pp a o e n) n) n) n
                cases b with
                | false =>
                  dsimp only at hc
                  exact iteF ⟨g5, acc, wipeE e2 vs, os', av, Fa, F5, c5, wipe_wipe hwp X.K rel5, r5, pp5, hc, happ⟩
                | true =>
                  dsimp only at hc
                  refine iteT ⟨e2, F5, rel5, ?_⟩
                  cases p3 : f e2 with
                  | none => rw [p3] at hc; cases hc
                  | some r =>
                    obtain ⟨o, e3⟩ := r
                    rw [p3] at hc
                    dsimp only at hc
                    cases p4 : compL g t f vs (ds.drop (i + 1)) (wipeE e3 vs) with
                    | none => rw [p4] at hc; cases hc
                    | some r =>
                      obtain ⟨ot, e4⟩ := r
                      rw [p4] at hc
                      cases hc
                      intro v H6 F6 F7 ro6 rel7 d67 st6 sub6
                      have c6 := c5.adv st6 (F2 := Or (fun a => F6 a ∧ ∃ o, H6 a = some o) F7) fun x p => sub6 x (p.imp And.left id)
                      obtain ⟨c7, w7⟩ := c6.push ro6.dom (fun x p q => d67 x p.1 q) (fun x p => p.2) nF
                      have la := c6.ra.length
                      have g6 := stb _ _ _ g5 st6 fun x p q => c5.dH x p (.inr q)
                      have r6 := r5.step st6 fun x p q => c5.dH x p (.inr q)
                      refine ⟨av, c6.hD, ?_, stb _ _ _ g6 w7 fun x p q => c6.nH (q ▸ p), acc ++ [o], wipeE e3 vs, ot, _, _, F7, c7, (wipe_wipe hwp X.K rel7).step w7 fun x p q => c6.nE (.inr (q ▸ p)), r6.step w7 fun x p q => c6.nH (q ▸ p), fun a u e n => w7.pers _ _ (st6.pers _ _ (pp5 a u e n) n) n, p4, by rw [List.append_assoc]; exact happ⟩
                      have := congrArg List.length happ
                      rw [List.length_append, List.length_cons] at this
                      omega
          · -- the end
            rintro H2 ⟨gd, acc, env', os', av, Fa, F', c, rel', rh, pp, hc, happ⟩
            rw [List.drop_length] at hc
            cases hc
            rw [List.append_nil] at happ
            subst happ
            have fin := RelE.recover (vs := vs) rel1 ok pp rel'
            obtain ⟨ee, rele, hh⟩ := rst_ok fin rh (fun a p q => c.dH a p (.inr q)) gi h
            have stF : Step F0 H H2 := c.st.mono fun a p => .inl p.1
            refine hh (.ref Da) H2 (Or (fun z => z = Da) Fa) _ (.lst c.hD (.inl rfl) (c.ra.mono fun a p => ⟨.inr p, fun z => c.nA (z ▸ p)⟩)) rele (fun a p q => ?_) stF fun a p => ?_
            · rcases p with p | p
              · subst p; exact q.elim c.nH c.nE
              · exact q.elim (fun q => c.dH a q (.inl p)) fun q => c.dA a p q
            · rcases p with (p | p) | (p | p)
              · subst p; exact .inr hDn
              · exact (c.sb a (.inl p)).imp And.left id
              · exact (sub a (.inl p)).imp And.left id
              · exact (c.sb a (.inr p)).imp And.left id
        · exact h.elim
    · exact h.elim
theorem se_lc {elt tg iter : Expr} {ifs : List Expr} {scope : Scope} {own : List (Str × Nat)} {pos : Pos} {src : M (List D × (O × Option Nat))} {g : G} {t : M Bool} {f : M O} (hc : X.calm = true) (hN : X.N.Nodup) (ok : BlkOk X.N X.env.scope scope own) (hi : IE X tg iter src)
    (hg : ∀ (s : Shared) (H : Hp) (C : Addr) (cl : List (Str × Addr)) (fp : List Addr), TG' (X.blk s H scope (compEnvC scope cl C X.env) fp) (fxOf (own.map (·.2))) tg g) (ht : ∀ (s : Shared) (H : Hp) (C : Addr) (cl : List (Str × Addr)) (fp : List Addr), TsE (X.blk s H scope (compEnvC scope cl C X.env) fp) ifs t)
    (he : ∀ (s : Shared) (H : Hp) (C : Addr) (cl : List (Str × Addr)) (fp : List Addr), SE (X.blk s H scope (compEnvC scope cl C X.env) fp) elt f) (hs : ∀ x, foldedSetIterable iter X.env x = pure x := by intro _; rfl) :
    SE X (.ListComp elt [⟨tg, iter, ifs, 0⟩] scope pos) (compM src g t f (own.map (·.2))) := PE.imp (pe_lc (wi := tIf X src) (g := tGf X (fxOf (own.map Prod.snd)) g) (tt := tBf X t) (te := tOf X f) hc hN hi ok hg ht he hs) fun _ _ _ h => lc_ok h
theorem ss_setLc {fx : Nat → Bool} (i : Nat) {y : Str} {py : Pos} {elt tg iter : Expr} {ifs : List Expr} {scope : Scope} {own : List (Str × Nat)} {pos spos : Pos} {src : M (List D × (O × Option Nat))} {g : G} {t : M Bool} {f : M O} (hc : X.calm = true) (hN : X.N.Nodup) (ok : BlkOk X.N X.env.scope scope own) (hi : IE X tg iter src)
    (hg : ∀ (s : Shared) (H : Hp) (C : Addr) (cl : List (Str × Addr)) (fp : List Addr), TG' (X.blk s H scope (compEnvC scope cl C X.env) fp) (fxOf (own.map (·.2))) tg g) (ht : ∀ (s : Shared) (H : Hp) (C : Addr) (cl : List (Str × Addr)) (fp : List Addr), TsE (X.blk s H scope (compEnvC scope cl C X.env) fp) ifs t)
    (he : ∀ (s : Shared) (H : Hp) (C : Addr) (cl : List (Str × Addr)) (fp : List Addr), SE (X.blk s H scope (compEnvC scope cl C X.env) fp) elt f) (hsw : swapsWith (.ListComp elt [⟨tg, iter, ifs, 0⟩] scope pos) (some (.Name y py)) spos.line X.env = pure true) (hy : X.N[i]? = some y := by rfl) (hyl : X.env.scope.names.lookup y = some .local := by rfl) (hfx : fx i = false := by rfl)
    (hs : ∀ x, foldedSetIterable iter X.env x = pure x := by intro _; rfl) : SS X fx (.Assign [.Name y py] (.ListComp elt [⟨tg, iter, ifs, 0⟩] scope pos) spos) (bndS (compM src g t f (own.map (·.2))) (asgS (setV i))) :=
  PS.imp (ps_setLc (wi := tIf X src) (g := tGf X (fxOf (own.map Prod.snd)) g) (tt := tBf X t) (te := tOf X f) hc hN hy hyl hsw hi ok hg ht he hs) fun D σ H ⟨env, F, rel, h⟩ => lc_ok (Post.tof rel (bndS_ok h) fun o env1 v H1 F1 F2 ro a h => by
    obtain ⟨o', env', G1, G2, ro', rel', d', env2, e, k⟩ := asg_end ro a h
    exact k _ _ (Or G1 G2) (setV_ok e ro' rel' d') (.set hfx) .refl .refl)
end
end TL

set_option maxHeartbeats 1000000
namespace TL
open PySem L2 PySem.Spec PyProof.Rows

/-! ### defs -/
/-- a def's promise where nothing that is shown stands around -/
structure FnG (P : Program) (w : World) (K : PySem.W.Frag) (mg : Str → Option Value) (base : Heap) (CX : CXT) (k : Nat) (f : Addr) (fd : FuncData) (ps : List Str) (sp : Sp) : Prop where
  len : ∀ vs H Q E, sp vs H Q E → vs.length = ps.length
  run : ∀ (A : Around) (outer : List PySem.Env) (s : Shared) (H : Hp) (args : Args) (us : List Value) (vs : List V) (Q : VK) (E : XK), Room k A → A.guards = some [] → Env0 P w K mg base A outer s H → BindsTo s fd args (ps.zip us) → Vals vs us → sp vs H Q E →
    codeAny (model P w) A (.call (.ref f) args) (CR CX outer P w H s Q E) s
theorem FnG.mono {P : Program} {w : World} {K : PySem.W.Frag} {mg : Str → Option Value} {base : Heap} {CX : CXT} {j k : Nat} {f : Addr} {fd : FuncData} {ps : List Str} {sp : Sp} (F : FnG P w K mg base CX j f fd ps sp) (h : j ≤ k) : FnG P w K mg base CX k f fd ps sp :=
  ⟨F.len, fun A outer s H args us vs Q E hr => F.run A outer s H args us vs Q E (hr.mono h)⟩
theorem guards_deeper {A : Around} {env : PySem.Env} (h : A.guards = some []) : (A.deeper env).guards = some [] := by
  have : (A.deeper env).guards = A.guards := by
    simp [Around.deeper, Around.under, Around.in1, Code.guards, Code.isGuard, pushGuards]
  rw [this]; exact h
/-- a def of the text, by its body -/
theorem fng_of {CX : CXT} {P : Program} {w : World} {K : PySem.W.Frag} {mg : Str → Option Value} {base : Heap} {k : Nat} {f : Addr} {name qual : Str} {params : Arguments} {body : List Stmt} {scope : Scope} {dV kV doc pm cdv ct oc : Value} {an od : Option Addr}
    {osl : Array (Option Value)} {N ps : List Str} {sp : Sp} (lk : K.lookup f = some ⟨oc, od, .func (PySem.W.fnOf name qual params body scope dV kV doc pm an cdv ct), osl⟩) (hcd : PySem.W.codeIn K cdv qual = true) (S : FnScope N ps scope)
    (len : ∀ vs H Q E, sp vs H Q E → vs.length = ps.length)
    (hbody : ∀ (A : Around) (outer : List PySem.Env) (s : Shared) (H : Hp) (vs : List V) (Q : VK) (E : XK), Room k (A.deeper (envOfC qual scope s.heap.objs.size f cdv)) → (A.deeper (envOfC qual scope s.heap.objs.size f cdv)).guards = some [] → sp vs H Q E →
      ∃ t, PSs (cxOf CX P w K mg base N qual scope f cdv A outer s H E) body t ∧ t { nx := fun _ H' => Q .non H', rt := Q } (L2.start N vs) H) :
    FnG P w K mg base CX (k + 1) f (PySem.W.fnOf name qual params body scope dV kV doc pm an cdv ct) ps sp := by
  refine ⟨len, fun A outer s H args us vs Q E hr hgd e0 hb r hsp => ?_⟩
  have KIn : K.In s.heap := e0.mod.kin.keeps fun b o e => (e0.bs b o e).1
  refine codeAny_call_function hr.depth (KIn _ _ lk) rfl S.co S.gen rfl (PySem.W.codeRec_of KIn hcd) (hb _ _ _ _ ?_)
  refine wpAny_newFunctionEnv_cells S.kind (fun y hy => ?_) fun env he s1 x => ?_
  · obtain ⟨n, v⟩ := y
    exact (S.par n (List.of_mem_zip hy).1).imp id fun q => ⟨q, PySem.W.cellsFrom_some _ _ _ (.inl q)⟩
  · subst he
    refine ⟨(e0.mod.nolimit.keeps fun b o e => (e0.bs b o e).1).keeps x.toInCall.keep, codeAny_func ?_⟩
    obtain ⟨t, ht, hq⟩ := hbody A outer s H vs Q E (hr.deeper _) (guards_deeper hgd) hsp
    refine wpAny_mono (ht.run [] s1 (L2.start N vs) H _ (inv_start S hr.hd e0 (len _ _ _ _ hsp) r x) hq) (fun fl s' hs => ?_) fun e s' hs => hs
    cases fl with
    | ret u => obtain ⟨v, σ', H', J, rv, q⟩ := hs; exact ⟨v, H', J.os, J.bare, J.base, J.hok, rv, q⟩
    | next => obtain ⟨σ', H', J, q⟩ := hs; exact ⟨.non, H', J.os, J.bare, J.base, J.hok, rfl, q⟩
    | brk => obtain ⟨_, _, _, q⟩ := hs; exact False.elim q
    | cont => obtain ⟨_, _, _, q⟩ := hs; exact False.elim q
section
variable {X : Cx} {CX : CXT} {k : Nat} {f C : Addr} {fd : FuncData} {ps : List Str} {sp : Sp} {dvs : List V} {ds : List Value} {E : XK} {x m : Str} {p pos apos : Pos} {e o : Expr} {es : List Expr} {ta : TE} {t : TA}
/-- the callee runs -/
theorem run_fng {pins : List (Addr × Obj)} {σ : L2.St} {H : Hp} {s : Shared} {Q : VK} {us : List Value} {vs : List V} (F : FnG X.prog X.w X.K X.mg X.base CX k f fd ps sp) (hr : Room k X.A) (hgd : X.A.guards = some []) (hb : Binds X.K fd ps ds) (hd : Vals dvs ds) (hx : Passes CX X E)
    (I : Inv X pins σ H s) (r : Vals vs us) (h : sp (vs ++ dvs) H Q E) : wpAny (model X.prog X.w) X.A (call (.ref f) us) (EP X pins σ Q) X.xe s := by
  have r2 := r.append hd
  have hl : (us ++ ds).length = ps.length := by rw [← r2.length]; exact F.len _ _ _ _ h
  refine wpAny_call (codeAny_mono (F.run X.A X.stack s H ⟨us, []⟩ (us ++ ds) (vs ++ dvs) Q E hr hgd I.env0 (hb s us I.kIn hl) r2 h) fun r s' hq => ?_)
  cases r with
  | error e => exact hx pins σ H s e s' I hq
  | ok fl => cases fl with
    | ret u => exact I.after hq
    | next => exact False.elim hq
    | brk => exact False.elim hq
    | cont => exact False.elim hq
theorem pe_callG (F : FnG X.prog X.w X.K X.mg X.base CX k f fd ps sp) (hr : Room k X.A) (hgd : X.A.guards = some []) (hg : Gl X x) (hm : X.mg x = some (.ref f)) (hk : PySem.W.keepIn X.K (.ref f) = true) (hb : Binds X.K fd ps ds) (hd : Vals dvs ds) (hx : Passes CX X E)
    (ha : PA X (e :: es) t) (hdb : (x == ("__debug__" : Str)) = false := by decide) (he : starEach (e :: es) X.env = (false, eval e X.env) :: starEach es X.env := by rfl) (hpl : (backTo pos (starEach es X.env)).any (·.1) = false := by rfl) :
    PE X (.Call (.Name x p) (e :: es) [] pos) (tCall sp dvs E t) := by
  refine ⟨fun pins s σ H Q I h => wpAny_Call_Name_kw (ld_glob I hg hm ?_ hdb)⟩
  exact PySem.W.callWith_K (h₀ := X.base) I.ok.mod.kin hk (thn (ha.run pos pins s σ H _ I h) fun us s1 ⟨vs, H1, I1, r, q⟩ => ⟨I1.kIn, run_fng F hr hgd hb hd hx I1 r q⟩) he hpl
theorem pe_callG0 (F : FnG X.prog X.w X.K X.mg X.base CX k f fd ps sp) (hr : Room k X.A) (hgd : X.A.guards = some []) (hg : Gl X x) (hm : X.mg x = some (.ref f)) (hk : PySem.W.keepIn X.K (.ref f) = true) (hb : Binds X.K fd ps ds) (hd : Vals dvs ds) (hx : Passes CX X E)
    (hdb : (x == ("__debug__" : Str)) = false := by decide) : PE X (.Call (.Name x p) [] [] pos) (tCall sp dvs E tNil) :=
  ⟨fun pins s σ H Q I h => wpAny_Call_Name_kw (ld_glob I hg hm (PySem.W.callWith_K0 I.kIn hk (run_fng (us := []) F hr hgd hb hd hx I .nil h)) hdb)⟩
end
/-! ### a def as a function of what it is given -/
/-- places: the arguments, then nothing yet -/
def startE (N : Nat) (os : List O) : Env := os.map some ++ List.replicate (N - os.length) none
/-- what is given back: the lent arguments -/
def keepE (fx : Nat → Bool) (n : Nat) (e : Env) : Env := (List.range n).map fun i => if fx i = true then e.getD i none else none
def fnG (n N : Nat) (fx : Nat → Bool) (f : S) : List O → Option (O × Env) := fun os => if os.length = n then match f (startE N os) with
    | some (.rt o, e) => some (o, keepE fx n e)
    | some (.nx, e) => some (.d .non, keepE fx n e)
    | _ => none
  else none
def spG (K : PySem.W.Frag) (g : List O → Option (O × Env)) : Sp := fun vs H Q E => ∃ os F r outs, ROs K H os vs F ∧ g os = some (r, outs) ∧
  ∀ z H' F1 F2, RO K H' r z F1 → RelE K H' outs (vs.map some) F2 → Disj F1 F2 → Step F H H' → Sub (Or F1 F2) F H → Q z H'
section
variable {K : PySem.W.Frag} {H H' : Hp}
theorem relE_none : ∀ (n : Nat) {F : Fp}, RelE K H (List.replicate n none) (List.replicate n none) F
  | 0, _ => .nil
  | n + 1, _ => .no (relE_none n)
theorem relE_args : ∀ {os : List O} {vs : List V} {F : Fp} {n : Nat}, ROs K H os vs F → RelE K H (os.map some ++ List.replicate n none) (vs.map some ++ List.replicate n none) F
  | _, _, _, n, .nil => relE_none n
  | _, _, _, n, .cons F1 F2 h r a b d => .so F1 F2 h (relE_args r) a b d
theorem RelE.pre : ∀ {e : Env} {σ : L2.St} {F : Fp} (n : Nat), RelE K H e σ F → RelE K H (e.take n) (σ.take n) F
  | _, _, _, 0, _ => by rw [List.take_zero, List.take_zero]; exact .nil
  | _, _, _, n + 1, .nil => .nil
  | _, _, _, n + 1, .no r => .no (RelE.pre n r)
  | _, _, _, n + 1, .so F1 F2 h r a b d => .so F1 F2 h (RelE.pre n r) a b d
theorem keep_ok {fx : Nat → Bool} {N : List Str} {vs : List V} {e : Env} {σ : L2.St} {F : Fp} (r : RelE K H e σ F) (fi : Fix fx (L2.start N vs) σ) (hl : vs.length ≤ N.length) : RelE K H (keepE fx vs.length e) (vs.map some) F := by
  have hs : (L2.start N vs).length = N.length := by unfold L2.start; rw [List.length_append, List.length_map, List.length_replicate]; omega
  have le : e.length = N.length := by rw [r.length, fi.len, hs]
  refine (r.pre vs.length).patch ?_ ?_ fun i hi => ?_
  · unfold keepE; rw [List.length_map, List.length_range, List.length_take]; omega
  · rw [List.length_map, List.length_take, fi.len, hs]; omega
  · have hi : i < vs.length := by rw [List.length_take] at hi; omega
    have ek : (keepE fx vs.length e)[i]? = some (if fx i = true then e.getD i none else none) := by
      unfold keepE; rw [List.getElem?_map, List.getElem?_range hi]; rfl
    rw [ek]
    by_cases c : fx i = true
    · rw [if_pos c]
      refine .inl ⟨?_, ?_⟩
      · rw [List.getElem?_take_of_lt hi, List.getD_eq_getElem?_getD, List.getElem?_eq_getElem (by omega)]; rfl
      · rw [List.getElem?_take_of_lt hi, fi.at_ i c]
        unfold L2.start
        rw [List.getElem?_append_left (by simpa using hi)]
    · rw [if_neg c]; exact .inr (.inl rfl)
end
theorem fng_body {CX : CXT} {P : Program} {w : World} {K : PySem.W.Frag} {mg : Str → Option Value} {base : Heap} {k : Nat} {f : Addr} {name qual : Str} {params : Arguments} {body : List Stmt} {scope : Scope} {dV kV doc pm cdv ct oc : Value} {an od : Option Addr}
    {osl : Array (Option Value)} {N ps : List Str} {fx : Nat → Bool} {g : S} (n m : Nat) (lk : K.lookup f = some ⟨oc, od, .func (PySem.W.fnOf name qual params body scope dV kV doc pm an cdv ct), osl⟩) (hcd : PySem.W.codeIn K cdv qual = true) (S : FnScope N ps scope)
    (hn : ps.length = n) (hm : N.length = m)
    (hbody : ∀ (A : Around) (outer : List PySem.Env) (s : Shared) (H : Hp) (E : XK), Room k (A.deeper (envOfC qual scope s.heap.objs.size f cdv)) → (A.deeper (envOfC qual scope s.heap.objs.size f cdv)).guards = some [] → SB (cxOf CX P w K mg base N qual scope f cdv A outer s H E) fx body g) :
    FnG P w K mg base CX (k + 1) f (PySem.W.fnOf name qual params body scope dV kV doc pm an cdv ct) ps (spG K (fnG n m fx g)) := by
  subst hn hm
  have hpl : ps.length ≤ N.length := by have := congrArg List.length S.pre; rw [List.length_take] at this; omega
  refine fng_of lk hcd S (fun vs H Q E ⟨os, F, r, outs, ro, e, q⟩ => ?_) fun A outer s H vs Q E hr hgd ⟨os, F, r, outs, ro, e, q⟩ => ⟨_, hbody A outer s H E hr hgd, ?_⟩
  · unfold fnG at e
    split at e
    · rename_i c; rw [← ro.length, c]
    · cases e
  · unfold fnG at e
    split at e
    · rename_i c
      have lv : vs.length = ps.length := by rw [← ro.length, c]
      have re : RelE K H (startE N.length os) (L2.start N vs) F := by
        unfold startE L2.start
        rw [ro.length]
        exact relE_args ro
      refine ⟨startE N.length os, F, re, ?_⟩
      cases p : g (startE N.length os) with
      | none => rw [p] at e; cases e
      | some z =>
        obtain ⟨ou, e2⟩ := z
        rw [p] at e
        cases ou with
        | nx =>
          cases e
          intro σ' H' F' rel fi st sub
          have kk := keep_ok rel fi (by omega)
          rw [lv] at kk
          exact q .non H' nof F' (.d .non) kk (fun _ z _ => z) st fun a z => z.elim False.elim (sub a)
        | rt o =>
          cases e
          intro v σ' H' F1 F2 ro' rel dj fi st sub
          have kk := keep_ok rel fi (by omega)
          rw [lv] at kk
          exact q v H' F1 F2 ro' kk dj st sub
        | bk => cases e
        | ct => cases e
    · cases e
/-! ### calls -/
def rst1 : Option Nat → Option O → Env → Env
  | some i, some o, e => e.set i (some o)
  | _, _, e => e
def rstO : List (O × Option Nat) → Env → Env → Env
  | r :: rs, o :: outs, e => rstO rs outs (rst1 r.2 o e)
  | _, _, e => e
section
variable {X : Cx}
theorem rstO_ok {σ : L2.St} {H : Hp} : ∀ {rs : List (O × Option Nat)} {outs : Env} {vs : List V} {env : Env} {F G : Fp}, RelE X.K H env σ F → RelE X.K H outs (vs.map some) G → Disj G F →
    (∀ (k : Nat) (r : O × Option Nat) (i : Nat), rs[k]? = some r → r.2 = some i → ∃ v, vs[k]? = some v ∧ σ[i]? = some (some v)) → RelE X.K H (rstO rs outs env) σ (Or G F)
  | [], outs, _, env, F, G, rel, _, _, _ => by unfold rstO; exact rel.mono fun _ p => .inr p
  | r :: rs, [], _, env, F, G, rel, _, _, _ => by unfold rstO; exact rel.mono fun _ p => .inr p
  | r :: rs, o :: outs, [], env, F, G, rel, ro, _, _ => by cases ro
  | r :: rs, none :: outs, v :: vs, env, F, G, rel, ro, dj, g => by
    cases ro with
    | no ro =>
      have e : rst1 r.2 none env = env := by unfold rst1; cases r.2 <;> rfl
      unfold rstO
      rw [e]
      exact rstO_ok (vs := vs) rel ro dj fun k r' i e1 e2 => by obtain ⟨w, q1, q2⟩ := g (k + 1) r' i (by simpa using e1) e2; exact ⟨w, by simpa using q1, q2⟩
  | r :: rs, some o :: outs, v :: vs, env, F, G, rel, ro, dj, g => by
    cases ro with
    | so F1 F2 h ro a b d =>
      unfold rstO
      have g' : ∀ (k : Nat) (r : O × Option Nat) (i : Nat), rs[k]? = some r → r.2 = some i → ∃ v, vs[k]? = some v ∧ σ[i]? = some (some v) := fun k r' i e1 e2 => by obtain ⟨w, q1, q2⟩ := g (k + 1) r' i (by simpa using e1) e2; exact ⟨w, by simpa using q1, q2⟩
      have r1 : RelE X.K H (rst1 r.2 (some o) env) σ (Or F1 F) := by
        cases e : r.2 with
        | none => unfold rst1; exact rel.mono fun _ p => .inr p
        | some i =>
          obtain ⟨w, q1, q2⟩ := g 0 r i rfl e
          simp at q1; subst q1
          unfold rst1
          exact rel.back q2 h fun x p q => dj x (a x p) q
      exact (rstO_ok (vs := vs) r1 ro (fun x p q => q.elim (fun q => d x q p) fun q => dj x (b x p) q) g').mono fun x p => p.elim (fun p => .inl (b x p)) fun p => p.elim (fun p => .inl (a x p)) .inr
def cFn (g : List O → Option (O × Env)) (fa : M (List (O × Option Nat))) : M O := bnd fa fun rs => bnd (lift (g (rs.map (·.1)))) fun r e => some (r.1, rstO rs r.2 e)
theorem fn_ok {g : List O → Option (O × Env)} {fa : M (List (O × Option Nat))} {σ : L2.St} {H : Hp} {Q : VK} {E : XK} (h : tOf X (cFn g fa) σ H Q) : tCall (spG X.K g) [] E (tLOf X fa) σ H Q := by
  obtain ⟨env, F, rel, h⟩ := h
  refine tLO_bind rel h fun rs env1 vs H1 F1 F2 ro a g1 h => ?_
  obtain ⟨r, e, h⟩ := h.lift
  rw [List.append_nil]
  refine ⟨rs.map (·.1), F1, r.1, r.2, ro, e, fun z H' F3 F4 rz rel' dj st' sub' => ?_⟩
  have d34 : Disj F2 (Or F3 F4) := disj_new (fun x p q => a.dj x q p) a.d2 sub'
  have rel2 := rstO_ok (rs := rs) (a.rel.step st' fun x p q => a.dj x q p) rel' (fun x p q => d34 x q (.inr p)) g1
  refine h z H' F3 _ rz rel2 (fun x p q => q.elim (dj x p) fun q => d34 x q (.inl p)) (a.st.trans st' fun x p => a.sub x (.inl p)) fun x p => ?_
  have s2 : ∀ {x}, Or F3 F4 x → F x ∨ H x = none := fun {x} p => (sub' x p).elim (fun p => a.sub x (.inl p)) fun n => .inr (a.st.free n)
  rcases p with p | p | p
  · exact s2 (.inl p)
  · exact s2 (.inr p)
  · exact a.sub x (.inr p)
theorem se_fn {CX : CXT} {k : Nat} {f : Addr} {fd : FuncData} {ps : List Str} {x : Str} {p pos : Pos} {e : Expr} {es : List Expr} {g : List O → Option (O × Env)} {fa : M (List (O × Option Nat))} {E : XK} (F : FnG X.prog X.w X.K X.mg X.base CX k f fd ps (spG X.K g)) (hr : Room k X.A) (hgd : X.A.guards = some []) (hg : Gl X x) (hm : X.mg x = some (.ref f)) (hk : PySem.W.keepIn X.K (.ref f) = true) (hb : Binds X.K fd ps []) (hx : Passes CX X E)
    (ha : AO X (e :: es) fa) (hdb : (x == ("__debug__" : Str)) = false := by decide) (he : starEach (e :: es) X.env = (false, eval e X.env) :: starEach es X.env := by rfl) (hpl : (backTo pos (starEach es X.env)).any (·.1) = false := by rfl) :
    SE X (.Call (.Name x p) (e :: es) [] pos) (cFn g fa) := PE.imp (pe_callG F hr hgd hg hm hk hb .nil hx ha hdb he hpl) fun _ _ _ h => fn_ok h
theorem se_fn0 {CX : CXT} {k : Nat} {f : Addr} {fd : FuncData} {ps : List Str} {x : Str} {p pos : Pos} {g : List O → Option (O × Env)} {E : XK} (F : FnG X.prog X.w X.K X.mg X.base CX k f fd ps (spG X.K g)) (hr : Room k X.A) (hgd : X.A.guards = some []) (hg : Gl X x) (hm : X.mg x = some (.ref f)) (hk : PySem.W.keepIn X.K (.ref f) = true) (hb : Binds X.K fd ps []) (hx : Passes CX X E)
    (hdb : (x == ("__debug__" : Str)) = false := by decide) : SE X (.Call (.Name x p) [] [] pos) (cFn g nilO) :=
  PE.imp (pe_callG0 F hr hgd hg hm hk hb .nil hx hdb) fun σ H Q ⟨env, F, rel, h⟩ => by
    have rel := rel.dom
    obtain ⟨r, e, h⟩ := (show Post (PV X F σ H Q) (bnd (lift (g [])) (fun r e => some (r.1, rstO [] r.2 e)) env) from h).lift
    refine ⟨[], nof, r.1, r.2, .nil, e, fun z H' F3 F4 rz rel' dj st' sub' => ?_⟩
    refine h z H' F3 _ rz (rel.step st' fun _ _ z => z) (fun x p q => ?_) (st'.mono fun _ z => z.elim) fun x p => p.elim (fun p => .inr ((sub' x (.inl p)).elim False.elim id)) fun p => .inl p.1
    obtain ⟨_, o, eo⟩ := q
    rcases sub' x (.inl p) with n | n
    · exact n.elim
    · rw [n] at eo; cases eo
end
/-- no def raises -/
def NoX : CXT := fun _ _ _ _ _ _ => False
theorem noX_passes {X : Cx} {E : XK} : Passes NoX X E := fun _ _ _ _ _ _ _ h => h.elim
end TL

/-! Sorting by insertion: the same list as the library's sort, and the kernel can reckon it. -/
namespace TL
open PySem
section
variable {α : Type} {le : α → α → Bool}
def insL (le : α → α → Bool) (a : α) : List α → List α
  | [] => [a]
  | b :: r => match le a b with
    | true => a :: b :: r
    | false => b :: insL le a r
def sortI (le : α → α → Bool) : List α → List α
  | [] => []
  | a :: r => insL le a (sortI le r)
theorem insL_at {a : α} {l2 : List α} (h2 : ∀ b ∈ l2, le a b = true) : ∀ l1 : List α, (∀ b ∈ l1, le a b = false) → insL le a (l1 ++ l2) = l1 ++ a :: l2
  | [], _ => by
    cases l2 with
    | nil => rfl
    | cons b r =>
      show (match le a b with | true => a :: b :: r | false => b :: insL le a r) = _
      rw [h2 b (by simp)]
      rfl
  | b :: l1, h1 => by
    show (match le a b with | true => a :: b :: (l1 ++ l2) | false => b :: insL le a (l1 ++ l2)) = _
    rw [h1 b (by simp), insL_at h2 l1 fun c hc => h1 c (by simp [hc])]
    rfl
theorem sortI_ms (T : PySem.W.TotalLe le) : ∀ l : List α, sortI le l = l.mergeSort le
  | [] => by simp [sortI]
  | a :: r => by
    obtain ⟨l1, l2, e1, e2, h⟩ := List.mergeSort_cons (le := le) (fun a b c h1 h2 => T.trans a b c h1 h2) (fun a b => Bool.or_eq_true_iff.mpr (T.total a b)) a r
    have pw := PySem.W.sort_pairwise T (a :: r)
    rw [e1] at pw ⊢
    show insL le a (sortI le r) = _
    rw [sortI_ms T r, e2]
    refine insL_at (fun b hb => ?_) l1 fun b hb => ?_
    · exact (List.pairwise_cons.mp (List.pairwise_append.mp pw).2.1).1 b hb
    · have := h b hb
      simpa using this
end
end TL

set_option maxHeartbeats 1000000
namespace TL
open PySem L2

section
variable {X : Cx}
/-! ### a name that is never changed from now on -/
def nf (i : Nat) : M O := fun e => match e[i]? with
  | some (some o) => some (.d o.shr, e.set i (some (.d o.shr)))
  | _ => none
theorem se_nf (i : Nat) {x : Str} {pos : Pos} (hN : X.N[i]? = some x := by rfl) (hv : Vis X.env.scope x := by first | exact Or.inl rfl | exact Or.inr (Or.inl rfl) | exact Or.inr (Or.inr rfl)) (hd : (x == ("__debug__" : Str)) = false := by decide)
    (hcd : (x == ("__classdict__" : Str)) = false := by decide) : SE X (.Name x pos) (nf i) := by
  refine PE.imp (pe_gh (G := GFz X) (pe_var hN hv hd hcd) fun pins σ s v H Q I ⟨o, F, r, q⟩ => ?_) fun σ H Q ⟨env, F, rel, h⟩ => ?_
  · obtain ⟨H', I', r', z⟩ := frz_ok I r
    exact ⟨H', I', q H' r' z⟩
  · unfold nf at h
    split at h
    · rename_i o e
      obtain ⟨v, F1, F2, e1, r, rel', a, b, d⟩ := rel.take e
      refine ⟨v, e1, o, F1, r, fun H' r' z => ?_⟩
      have rel2 := (rel'.step z.step fun x p q => d x q p).back (F1 := nof) e1 (RO.d r') (fun _ z _ => z)
      rw [List.set_set] at rel2
      refine h v H' nof _ (.d r') rel2 (fun _ p _ => p) (z.step.mono fun x p => .inl (a x p)) fun x p => .inl ?_
      rcases p with p | p | p
      · exact p.elim
      · exact p.elim
      · exact b x p
    · exact h.elim

/-! ### a text some times -/
theorem foldl_cat : ∀ (n : Nat) (c acc : Array Nat), ((List.replicate n c).foldl (· ++ ·) acc).toList = acc.toList ++ (List.replicate n c.toList).flatten
  | 0, c, acc => by simp
  | n + 1, c, acc => by
    rw [List.replicate_succ, List.foldl_cons, foldl_cat n c (acc ++ c), List.replicate_succ, List.flatten_cons, Array.toList_append, List.append_assoc]
theorem os_mulS : OpS X (binaryOp .Mult) gMulS := by
  intro pins s σ H x y v u ox oy o F G I rx ry r1 r2 e
  unfold gMulS at e
  split at e
  · rename_i i n
    split at e
    · rename_i c
      obtain ⟨c1, c2, c3⟩ := c
      cases e
      cases r1.od
      cases r2.od
      obtain ⟨t, rfl⟩ := rx
      obtain ⟨t', rfl⟩ := ry
      have res : ∀ {z : Str} {tk tk'}, z.cps.toList = (List.replicate n.toNat i.cps.toList).flatten → EP X pins σ (New X.K H (.d (.str ⟨(List.replicate n.toNat i.cps.toList).flatten.toArray⟩))) (.str z tk) { s with toks := tk' } := fun {z tk tk'} h => by
        have ez : z = ⟨(List.replicate n.toNat i.cps.toList).flatten.toArray⟩ := by
          apply Str.ext'
          apply Array.toList_inj.mp
          rw [h]
        exact ⟨.str z, H, I.tok tk', ⟨tk, rfl⟩, by rw [ez]; exact .d (.str _)⟩
      have lo : ¬ n < -(2 ^ 63 : Int) := by omega
      have hi : ¬ n ≥ 2 ^ 63 := by omega
      refine PySem.P.mul_str (by rw [decide_eq_false lo, decide_eq_false hi]; rfl) (fun h1 h2 h3 => ?_) (fun h1 h2 => ?_) ?_
      · rw [Bool.or_eq_false_iff] at h2
        have hn : 0 < n := by omega
        have hm : (i.length : Int) * n ≤ 2 ^ 63 - 1 := by
          have : ((i.length * n.toNat : Nat) : Int) = (i.length : Int) * n := by rw [Int.natCast_mul, Int.toNat_of_nonneg c1]
          have h4 : sizeLine ≤ 2 ^ 62 := by rw [sizeLine_eq]; decide
          have h5 : ((i.length * n.toNat : Nat) : Int) ≤ (sizeLine : Int) := by exact_mod_cast c3
          rw [← this]
          have h6 : (sizeLine : Int) ≤ 2 ^ 62 := by exact_mod_cast h4
          omega
        have := (Int.le_ediv_iff_mul_le hn).mpr hm
        omega
      · unfold Builtin.Str.tooLong
        simp; exact c3
      · split
        · rename_i h1
          have : n.toNat = 0 := by omega
          exact ⟨by decide, res (by rw [this]; rfl)⟩
        · split
          · rename_i h1 h2
            rw [Bool.or_eq_true] at h2
            have e0 : i.cps.toList = (List.replicate n.toNat i.cps.toList).flatten := by
              rcases h2 with h2 | h2
              · have : n.toNat = 1 := by have := eq_of_beq h2; omega
                rw [this]; simp
              · have : i.cps.toList = [] := by
                  have q : i.length = 0 := eq_of_beq h2
                  have q2 : i.cps.size = 0 := q
                  exact List.eq_nil_of_length_eq_zero (by rw [Array.length_toList]; exact q2)
                rw [this]; simp
            have q := res (z := i) (tk := t) (tk' := s.toks) e0
            exact q
          · refine ⟨?_, res (by rw [foldl_cat]; rfl)⟩
            show Array.size _ ≤ _
            rw [← Array.length_toList, foldl_cat]
            simp only [List.nil_append, List.length_flatten, List.map_replicate, Array.length_toList]
            rw [List.sum_replicate_nat, Nat.mul_comm]
            exact c3
    · cases e
  · cases e
/-! ### a dict's display -/
def prsM : List (M O × M O) → M (List (D × D))
  | [] => ret []
  | (fk, fv) :: r => bnd fk fun k => bnd fv fun v => match k, v with
    | .d k, .d v => bnd (prsM r) fun ds => ret ((k, v) :: ds)
    | _, _ => lift none
theorem prs_ok {β : Type} {P : β → Env → Prop} {σ : L2.St} : ∀ {fs : List (M O × M O)} {k : List (D × D) → M β} {H : Hp} {Q : List (V × V) → Hp → Prop} {env : Env} {F : Fp}, RelE X.K H env σ F → Post P (bnd (prsM fs) k env) →
    (∀ ds env' ps H' F2, RDs X.K H' (ds.map (·.1)) (ps.map (·.1)) → RDs X.K H' (ds.map (·.2)) (ps.map (·.2)) → RelE X.K H' env' σ F2 → Step F H H' → Sub F2 F H → Post P (k ds env') → Q ps H') → tPairs (fs.map fun p => (tOf X p.1, tOf X p.2)) σ H Q
  | [], k, H, Q, env, F, rel, h, c => c [] env [] H F .nil .nil rel .refl .refl h
  | (fk, fv) :: r, k, H, Q, env, F, rel, h, c => by
    have h' : Post P (bnd fk (fun x => bnd fv fun y => bnd (match x, y with | .d a, .d b => bnd (prsM r) fun ds => ret ((a, b) :: ds) | _, _ => lift none) k) env) := by
      unfold prsM at h
      unfold bnd at h ⊢
      cases q : fk env with
      | none => rw [q] at h; exact h
      | some z =>
        rw [q] at h
        dsimp only at h ⊢
        cases q2 : fv z.2 with
        | none => rw [q2] at h; exact h
        | some z2 => rw [q2] at h; exact h
    refine tOf_bind rel h' fun x env1 v H1 F1 F2 ro a h1 => ?_
    refine tOf_bind a.rel h1 fun y env2 u H2 F3 F4 ro2 b h2 => ?_
    obtain ⟨st, sub, d13, d14, dm⟩ := a.next b
    cases x with
    | d x =>
      cases y with
      | d y =>
        have h3 : Post P (bnd (prsM r) (fun ds => k ((x, y) :: ds)) env2) := by
          dsimp only at h2
          unfold bnd at h2 ⊢
          cases q : prsM r env2 with
          | none => rw [q] at h2; exact h2
          | some z => rw [q] at h2; exact h2
        refine prs_ok b.rel h3 fun ds env' ps H' F5 r1 r2 rel' st' sub' hk => ?_
        exact c ((x, y) :: ds) env' ((v, u) :: ps) H' F5 (.cons ((ro.od.keep b.st.pers).keep st'.pers) r1) (.cons (ro2.od.keep st'.pers) r2) rel' (st.trans st' fun z p => sub z (.inr (.inr p)))
          (fun z p => (sub' z p).elim (fun p => sub z (.inr (.inr p))) fun n => .inr (st.free n)) hk
      | _ => exact h2.elim
    | _ => exact h2.elim
variable (X) in
/-- the pairs that are written -/
def DsE (pos : Pos) (ks : List (Option Expr)) (vs : List Expr) (fs : List (M O × M O)) : Prop := PPs X pos ks vs (fs.map fun p => (tOf X p.1, tOf X p.2))
theorem ds_nil {pos : Pos} : DsE X pos [] [] [] := pps_nil
theorem ds_cons {pos : Pos} {k v : Expr} {ks : List (Option Expr)} {vs : List Expr} {fk fv : M O} {fs : List (M O × M O)} (hk : SE X k fk) (hv : SE X v fv) (hr : DsE X pos ks vs fs) : DsE X pos (some k :: ks) (v :: vs) ((fk, fv) :: fs) := pps_cons hk hv hr
/-- the table of pairs, from the left -/
def tabK : List (D × D) → List (Key × O) → Option (List (Key × O))
  | [], m => some m
  | (k, v) :: r, m => match keyD k with
    | some k => tabK r (setK m k (.d v))
    | none => none
def cDisp (fs : List (M O × M O)) : M O := bnd (prsM fs) fun ds => bnd (lift (if ds.length ≤ 15 then tabK ds [] else none)) fun m => ret (.dct m)
theorem nodup_put {kvs : List (Key × V)} {k : Key} {v : V} (nd : (kvs.map (·.1)).Nodup) : ((putK kvs k v).map (·.1)).Nodup := by
  have hp : putK kvs k v = if hasK kvs k then kvs.map fun p => if p.1 = k then (p.1, v) else p else kvs ++ [(k, v)] := rfl
  rw [hp]
  cases q : hasK kvs k with
  | true =>
    have : (kvs.map fun p => if p.1 = k then (p.1, v) else p).map (·.1) = kvs.map (·.1) := by
      rw [List.map_map]; apply List.map_congr_left; intro p _; dsimp only [Function.comp]; split <;> rfl
    simp only [if_true]; rw [this]; exact nd
  | false =>
    simp only [Bool.false_eq_true, if_false, List.map_append, List.map_cons, List.map_nil]
    refine List.nodup_append.mpr ⟨nd, by simp, fun x hx y hy e => ?_⟩
    have hy : y = k := by simpa using hy
    subst hy; subst e
    obtain ⟨p, hpm, rfl⟩ := List.mem_map.mp hx
    have : hasK kvs p.1 = true := List.any_eq_true.mpr ⟨p, hpm, decide_eq_true rfl⟩
    rw [q] at this; cases this
theorem tab_ok {H : Hp} : ∀ {ds : List (D × D)} {ps : List (V × V)} {m m' : List (Key × O)} {kvs : List (Key × V)}, RDs X.K H (ds.map (·.1)) (ps.map (·.1)) → RDs X.K H (ds.map (·.2)) (ps.map (·.2)) → tabK ds m = some m' →
    kvs.map (·.1) = m.map (·.1) → (kvs.map (·.1)).Nodup → ROs X.K H (m.map (·.2)) (kvs.map (·.2)) nof →
    ∃ more : List (Key × V), ps = more.map (fun kv => (kV kv.1, kv.2)) ∧ (mergeK kvs more).map (·.1) = m'.map (·.1) ∧ ROs X.K H (m'.map (·.2)) ((mergeK kvs more).map (·.2)) nof
  | [], ps, m, m', kvs, r1, r2, e, hk, nd, ro => by
    cases e
    have : ps = [] := by
      have := r1.length
      exact List.eq_nil_of_length_eq_zero (by simpa using this.symm)
    subst this
    exact ⟨[], rfl, hk, ro⟩
  | (k, v) :: ds, [], m, m', kvs, r1, r2, e, hk, nd, ro => by cases r1
  | (k, v) :: ds, (x, y) :: ps, m, m', kvs, r1, r2, e, hk, nd, ro => by
    cases r1 with
    | cons r1 r1' =>
      cases r2 with
      | cons r2 r2' =>
        unfold tabK at e
        cases q : keyD k with
        | none => rw [q] at e; cases e
        | some key =>
          rw [q] at e
          dsimp only at e
          have ex : x = kV key := keyO_ok (F := nof) (.d r1) (show keyO (.d k) = some key from q)
          subst ex
          obtain ⟨a1, a2⟩ := put_ro (k := key) hk nd ro (RO.d (F := nof) r2) fun _ z _ => z
          have a2 : ROs X.K H ((setK m key (.d v)).map (·.2)) ((putK kvs key y).map (·.2)) nof := a2.mono fun _ z => z.elim id id
          obtain ⟨more, b1, b2, b3⟩ := tab_ok r1' r2' e a1 (nodup_put nd) a2
          exact ⟨(key, y) :: more, by rw [b1]; rfl, b2, b3⟩
theorem tab_len : ∀ {ds : List (D × D)} {m m' : List (Key × O)}, tabK ds m = some m' → True := fun _ => trivial
theorem se_disp {ks : List (Option Expr)} {vs : List Expr} {fs : List (M O × M O)} {pos : Pos} (h : DsE X pos ks vs fs) (hall : ks.all (·.isSome) = true := by rfl) (hl : ks.length = vs.length := by rfl) (h0 : ks ≠ [] := by intro e; cases e) (h15 : ks.length ≤ 15 := by decide) : SE X (.Dict ks vs pos) (cDisp fs) := by
  refine PE.imp (pe_disp h hall hl h0 h15) fun σ H Q ⟨env, F, rel, h⟩ => ?_
  intro p hp
  have rel := rel.dom
  have s1 : Step nof H (upd H p (.dK [])) := .new hp
  refine prs_ok (rel.step s1 fun _ _ z => z) h fun ds env' ps H' F2 r1 r2 rel' st sub hk => ?_
  have np : ¬ (fun a => F a ∧ ∃ o, H a = some o) p := fun z => by obtain ⟨_, o, e⟩ := z; rw [hp] at e; cases e
  have e1 := st.keep _ _ (upd_same (H := H) (a := p) (o := .dK [])) np
  obtain ⟨m, e, hk⟩ := hk.lift
  split at e
  · rename_i hz
    obtain ⟨more, b1, b2, b3⟩ := tab_ok (kvs := []) r1 r2 e rfl (by simp) .nil
    refine ⟨e1, more, b1, ?_, ?_⟩
    · have := r1.length
      rw [List.length_map, List.length_map, b1, List.length_map] at this
      omega
    · have w : Step (fun z => z = p) H' (upd H' p (.dK (mergeK [] more))) := .wr e1 trivial rfl
      have n2 : ¬ F2 p := fun z => (sub _ z).elim np fun n => by rw [upd_same] at n; cases n
      refine hk (.ref p) _ (fun z => z = p) F2 (.dct upd_same rfl b2 ((b3.step w fun _ z => z.elim).mono fun _ z => z.elim)) (rel'.step w fun x p q => n2 (q ▸ p)) (fun x p q => n2 (p ▸ q)) ?_ fun x q => ?_
      · refine ⟨fun a o ea n => ?_, fun a o ea n => ?_, fun a o ea => ?_⟩
        · rw [upd_ne (ne_of_none ea hp)]
          exact st.keep a o (by rw [upd_ne (ne_of_none ea hp)]; exact ea) fun z => n z.1
        · rw [upd_ne (ne_of_none ea hp)]
          exact st.pers a o (by rw [upd_ne (ne_of_none ea hp)]; exact ea) n
        · rw [upd_ne (ne_of_none ea hp)]
          exact st.there a o (by rw [upd_ne (ne_of_none ea hp)]; exact ea)
      · rcases q with q | q
        · subst q; exact .inr hp
        · exact (sub x q).imp And.left fun n => s1.free n
  · cases e
def cNewD : M O := ret (.dct [])
theorem se_newD {pos : Pos} : SE X (.Dict [] [] pos) cNewD := PE.imp pe_dnewK fun σ H Q ⟨env, F, rel, h⟩ => fun p hp => by
  have rel := rel.dom
  have s1 : Step nof H (upd H p (.dK [])) := .new hp
  refine h (.ref p) _ (fun z => z = p) _ (.dct upd_same rfl rfl .nil) (rel.step s1 fun _ _ z => z) (fun x p q => ?_) (s1.mono fun _ z => z.elim) fun x q => ?_
  · subst p; obtain ⟨_, o, e⟩ := q; rw [hp] at e; cases e
  · rcases q with q | q
    · subst q; exact .inr hp
    · exact .inl q.1
/-! ### repr of data -/
def isSeqD : PyData → Bool
  | .list _ => true
  | .tuple _ => true
  | _ => false
def gRepr : List O → Option O := g1 fun x => match x.shr.py with
  | some d => if (isSeqD d && d.showable && !d.hasDict && decide (d.depth ≤ 50) && decide (d.shown.length ≤ sizeLine)) = true then some (.d (.str d.shown)) else none
  | none => none
theorem cs_repr (hgd : X.A.guards = some []) (hu : X.A.units + 64 < cLine) : CallS X (.builtin "repr") gRepr := by
  intro pins s σ H xs us os o F I rv r e
  obtain ⟨x, v, G, rfl, rfl, h, q⟩ := g1_of r e
  obtain ⟨u, rfl, rx⟩ := vals1 rv
  split at q
  · rename_i d hd
    split at q
    · rename_i c
      simp only [Bool.and_eq_true, Bool.not_eq_true', decide_eq_true_eq] at c
      obtain ⟨⟨⟨⟨c1, c2⟩, c3⟩, c4⟩, c5⟩ := c
      cases q
      have dp := h.dp hd
      obtain ⟨as, rd⟩ := Dp.reads I d v u dp rx
      have ref : ∃ a, u = .ref a := by
        cases dp with
        | lst _ _ => cases rx; exact ⟨_, rfl⟩
        | tup _ _ => cases rx; exact ⟨_, rfl⟩
        | _ => cases c1
      obtain ⟨a, rfl⟩ := ref
      exact repr_of_reads' rd c2 (fun z => by rw [c3] at z; cases z) hgd (by omega) (fun _ _ e => e) (fun h' u tk k => ⟨.str d.shown, H, I.kept k, ⟨u, rfl⟩, .d (.str _)⟩) c5
    · cases q
  · cases q
/-! ### sorted -/
def encD (d : D) : PyData := (d.py).getD .none
def sortD (xs : List D) : List D := sortI (PySem.W.dataLe false encD) xs
theorem sortD_ms (xs : List D) : sortD xs = xs.mergeSort (PySem.W.dataLe false encD) := sortI_ms (by delta PySem.W.dataLe; exact PySem.W.sortLe_total _ _ _) xs
def canSort (ds : List PyData) : Bool := (ds.all fun d => ds.all fun d' => PySem.W.alike d d') && (ds.all (fun d => match d with | .tuple (_ :: _) => true | _ => false) || ds.all fun d => match d with | .none => false | .tuple _ => false | _ => true) && ds.all fun d => decide (d.depth ≤ 40)
def gSorted : List O → Option O := g1 fun x => match asL x with
  | some xs => match pys xs with
    | some ds => if (canSort ds && decide (xs.length ≤ sizeLine)) = true then some (.lst ((sortD xs).map O.d)) else none
    | none => none
  | none => none
theorem pys_map : ∀ {xs : List D} {ds : List PyData}, pys xs = some ds → xs.map encD = ds
  | [], _, e => by rw [pys] at e; cases e; rfl
  | x :: xs, _, e => by
    rw [pys] at e
    cases q : x.py with
    | none => rw [q] at e; cases e
    | some d =>
      cases q2 : pys xs with
      | none => rw [q, q2] at e; cases e
      | some ds =>
        rw [q, q2] at e; cases e
        rw [List.map_cons, pys_map q2]
        unfold encD; rw [q]; rfl
theorem pys_py : ∀ {xs : List D} {ds : List PyData}, pys xs = some ds → ∀ x ∈ xs, x.py = some (encD x)
  | [], _, _, x, h => nomatch h
  | y :: xs, _, e, x, h => by
    rw [pys] at e
    cases q : y.py with
    | none => rw [q] at e; cases e
    | some d =>
      cases q2 : pys xs with
      | none => rw [q, q2] at e; cases e
      | some ds =>
        rcases List.mem_cons.mp h with h | h
        · subst h; unfold encD; rw [q]; rfl
        · exact pys_py q2 x h
def RVD (X : Cx) (H : Hp) (u : Value) (d : D) : Prop := ∃ v, RelV v u ∧ RD X.K H d v
theorem each_rvd {H : Hp} : ∀ {xs : List D} {vs : List V} {us : List Value}, RDs X.K H xs vs → Vals vs us → PySem.W.EachIs (RVD X H) us xs
  | _, _, _, .nil, h => by cases h; exact .nil
  | _, _, _, .cons r rs, h => by
    cases h with
    | cons h hs => exact .cons ⟨_, h, r⟩ (each_rvd rs hs)
theorem each_back {H : Hp} : ∀ {us : List Value} {xs : List D}, PySem.W.EachIs (RVD X H) us xs → ∃ vs, Vals vs us ∧ RDs X.K H xs vs
  | _, _, .nil => ⟨[], .nil, .nil⟩
  | _, _, .cons ⟨v, h, r⟩ t => let ⟨vs, a, b⟩ := each_back t; ⟨v :: vs, .cons h a, .cons r b⟩
theorem each_and {α β : Type} {R R' : α → β → Prop} {P : β → Prop} (k : ∀ a b, P b → R a b → R' a b) : ∀ {as : List α} {bs : List β}, (∀ b ∈ bs, P b) → PySem.W.EachIs R as bs → PySem.W.EachIs R' as bs
  | _, _, _, .nil => .nil
  | _, _, h, .cons r t => .cons (k _ _ (h _ (by simp)) r) (each_and k (fun b hb => h b (by simp [hb])) t)
theorem canSort_ok {ds : List PyData} (h : canSort ds = true) : PySem.W.AllAlike ds ∧ PySem.W.Sortable ds ∧ ∀ d ∈ ds, d.depth ≤ 40 := by
  unfold canSort at h
  simp only [Bool.and_eq_true, Bool.or_eq_true] at h
  obtain ⟨⟨h1, h2⟩, h3⟩ := h
  refine ⟨fun d hd d' hd' => List.all_eq_true.mp (List.all_eq_true.mp h1 d hd) d' hd', ?_, fun d hd => of_decide_eq_true (List.all_eq_true.mp h3 d hd)⟩
  rcases h2 with h2 | h2
  · refine .inl fun d hd => ?_
    have q := List.all_eq_true.mp h2 d hd
    split at q
    · exact ⟨_, _, rfl⟩
    · cases q
  · refine .inr fun d hd => ?_
    have q := List.all_eq_true.mp h2 d hd
    refine ⟨fun e => ?_, fun xs e => ?_⟩
    · subst e; cases q
    · subst e; cases q
theorem cs_sorted (hu : X.A.units + 64 < cLine) : CallS X (.builtin "sorted") gSorted := by
  intro pins s σ H xs us os o F I rv r e
  obtain ⟨x, v, G, rfl, rfl, h, q⟩ := g1_of r e
  obtain ⟨u, rfl, rx⟩ := vals1 rv
  split at q
  · rename_i ys hy
    split at q
    · rename_i ds hd
      split at q
      · rename_i c
        rw [Bool.and_eq_true, decide_eq_true_eq] at c
        rw [sortD_ms] at q
        cases q
        obtain ⟨a, vs, rfl, hs, rd⟩ := asL_ok h hy
        obtain ⟨its, rvs, hl, _⟩ := I.list hs
        obtain rfl : u = Value.ref a := rx
        obtain ⟨c1, c2, c3⟩ := canSort_ok c.1
        have em := pys_map hd
        rw [← em] at c1 c2 c3
        have ee := each_rvd rd rvs
        have er := each_and (R' := fun u d => ∃ as, Reads s.heap u (encD d) as) (fun u d hp ⟨v, h1, h2⟩ => Dp.reads I (encD d) v u (h2.dp hp) h1) (pys_py hd) ee
        refine PySem.W.sorted_data hl.isList ee er c1 c2 c.2 (fun b hb => by have := c3 _ (List.mem_map.mpr ⟨b, hb, rfl⟩); omega) fun out ho eo => ?_
        obtain ⟨ep, he'⟩ := PyProof.Rows.sortedAll_at s.heap its out.toArray
        obtain ⟨vs', hv, rd'⟩ := each_back eo
        have hlen : vs'.length ≤ sizeLine := by rw [hv.length, ho]; exact c.2
        have hf := I.hok.fresh (Nat.le_succ s.heap.objs.size)
        have J := I.laid (a := s.heap.objs.size + 1) (o := .lst vs') (h' := PyProof.Rows.sortedAll s.heap its out.toArray) (t' := s.toks) (fun _ _ => PyProof.Rows.sortedAll_old) (Nat.le_succ _) ⟨hlen, out, ep, hv, he'⟩
        refine ⟨.ref _, _, J, rfl, fun z => z = s.heap.objs.size + 1, .lst upd_same rfl ((rd'.keep (Step.new (F := nof) hf).pers).os), .new hf, fun z e => .inr (e ▸ hf)⟩
      · cases q
    · cases q
  · cases q
end
end TL

set_option maxHeartbeats 4000000
namespace TL
open PySem L2 PySem.Spec PyProof.Rows

/-! ### sets of keys, with all that a walk of them asks -/
section
variable {P : Program} {w : World} {κ : Type} [DecidableEq κ] {knd : KeyKind P w κ}
/-- the entry stands for the key -/
def EK (knd : KeyKind P w κ) (e : Int × Value) (k : κ) : Prop := knd.is k e.2 = true ∧ e.1 = knd.hash k ∧ e.2.scannable = true
inductive EKs (knd : KeyKind P w κ) : List (Int × Value) → List κ → Prop
  | nil : EKs knd [] []
  | cons {e k es ks} : EK knd e k → EKs knd es ks → EKs knd (e :: es) (k :: ks)
theorem EKs.length : ∀ {es : List (Int × Value)} {ks : List κ}, EKs knd es ks → es.length = ks.length
  | _, _, .nil => rfl
  | _, _, .cons _ r => by simp [EKs.length r]
theorem EKs.perm {es es' : List (Int × Value)} (p : es'.Perm es) : ∀ {ks : List κ}, EKs knd es ks → ∃ ks', EKs knd es' ks' ∧ ks'.Perm ks := by
  induction p with
  | nil => intro ks h; exact ⟨ks, h, .refl _⟩
  | cons x _ ih =>
    intro ks h
    cases h with
    | cons a b => obtain ⟨ks', c, d⟩ := ih b; exact ⟨_, .cons a c, d.cons _⟩
  | swap x y l =>
    intro ks h
    cases h with
    | cons a b => cases b with
      | cons c d => exact ⟨_, .cons c (.cons a d), .swap _ _ _⟩
  | trans _ _ ih1 ih2 =>
    intro ks h
    obtain ⟨k1, a, b⟩ := ih2 h
    obtain ⟨k2, c, d⟩ := ih1 a
    exact ⟨k2, c, d.trans b⟩
theorem EKs.append : ∀ {es fs : List (Int × Value)} {ks ls : List κ}, EKs knd es ks → EKs knd fs ls → EKs knd (es ++ fs) (ks ++ ls)
  | _, _, _, _, .nil, h => h
  | _, _, _, _, .cons a r, h => .cons a (EKs.append r h)
theorem EKs.elems : ∀ {es : List (Int × Value)} {ks : List κ}, EKs knd es ks → ElemsOf knd es
  | _, _, .nil => fun e he => nomatch he
  | _, _, .cons a r => fun e he => by
    rcases List.mem_cons.mp he with z | z
    · subst z; exact ⟨⟨_, a.1, a.2.1⟩, a.2.2⟩
    · exact r.elems e z
theorem EKs.find : ∀ {es : List (Int × Value)} {ks : List κ} (k : κ), EKs knd es ks → ((∃ e ∈ es, knd.is k e.2 = true) ↔ k ∈ ks)
  | _, _, k, .nil => by simp
  | _, _, k, .cons (e := e) (k := j) a r => by
    have ih := r.find k
    constructor
    · rintro ⟨x, hx, q⟩
      rcases List.mem_cons.mp hx with z | z
      · subst z; rw [knd.inj _ _ _ q a.1]; simp
      · exact List.mem_cons_of_mem _ (ih.mp ⟨x, z, q⟩)
    · intro h
      rcases List.mem_cons.mp h with z | z
      · subst z; exact ⟨e, by simp, a.1⟩
      · obtain ⟨x, hx, q⟩ := ih.mpr z; exact ⟨x, List.mem_cons_of_mem _ hx, q⟩
/-- the set of the keys ks at a -/
def SetG (knd : KeyKind P w κ) (h : Heap) (a : Addr) (ks : List κ) : Prop :=
  ∃ o es ep t ks', h.get? a = some o ∧ o.ExactSet ∧ o.data = .set es ep t ∧ EKs knd es.toList ks' ∧ ks'.Perm ks ∧ ks.Nodup ∧ es.size < scanBound ∧ t.fits es.size = true ∧ Ris t.place.toList ∧ (w.params.followText "set-order" = true ∨ t.led = true)
theorem SetG.at {h h' : Heap} {a : Addr} {ks : List κ} (R : SetG knd h a ks) (k : ∀ o, h.get? a = some o → h'.get? a = some o) : SetG knd h' a ks := by
  obtain ⟨o, es, ep, t, ks', ho, r⟩ := R
  exact ⟨o, es, ep, t, ks', k o ho, r⟩
theorem SetG.size {h : Heap} {a : Addr} {ks : List κ} (R : SetG knd h a ks) : ks.length < scanBound := by
  obtain ⟨o, es, ep, t, ks', ho, _, _, e, p, _, b, _⟩ := R
  rw [← p.length_eq, ← e.length, Array.length_toList]; exact b
variable {A : Around} {E : Value → Shared → Prop} {s : Shared} {a : Addr} {ks : List κ}
/-- a key more -/
def addK (ks : List κ) (k : κ) : List κ := if k ∈ ks then ks else ks ++ [k]
theorem setG_tail {g : Bool → Sem Unit} (hg : ∀ (b : Bool) (s₁ : Shared) (Q' : Unit → Shared → Prop), Q' () s₁ → wpAny (model P w) A (g b) Q' E s₁)
    {o : Obj} {es : Array (Int × Value)} {ep : Nat} {t : SetTable} (ho : s.heap.get? a = some o) (hex : o.ExactSet) (hd : o.data = .set es ep t)
    {es1 : Array (Int × Value)} {t2 : SetTable} {ks1 : List κ} (e1 : EKs knd es1.toList ks1) (pk : ks1.Perm ks) (nd : ks.Nodup)
    (hb1 : es1.size < scanBound) (hf2 : t2.fits es1.size = true) (hr : Ris t2.place.toList) (hl : w.params.followText "set-order" = true ∨ t2.led = true) {wasDummy : Bool} {R : Option Bool → Shared → Prop}
    (hR : ∀ h', Heap.SameBut a s.heap h' → SetG knd h' a ks → R (some true) { s with heap := h' }) :
    wpAny (model P w) A (do
        storeSet a es1 t2
        if (!wasDummy && t2.tooFull) = true then do
            g (relayAll t2 es1 (SetTable.grown es1.size)).2.2
            storeSet a (relayAll t2 es1 (SetTable.grown es1.size)).1 (relayAll t2 es1 (SetTable.grown es1.size)).2.1
            pure (some true)
          else pure (some true)) R E s := by
  refine wpAny_bind (wpAny_storeSet_of ho hd ?_ (fits_of_scanBound hb1))
  have ho1 := store_at (es' := es1) (t' := t2) ho hd
  have sb1 := Heap.SameBut.update s.heap a (Obj.putSet es1 t2)
  split
  · have pm := relayAll_perm t2 es1 (SetTable.grown es1.size)
    have hf3 := relayAll_fits t2 es1 (SetTable.grown es1.size)
    have hr3 := relayAll_ris t2 es1 (SetTable.grown es1.size)
    have hl3 := relayAll_led t2 es1 (SetTable.grown es1.size)
    generalize relayAll t2 es1 (SetTable.grown es1.size) = Z at pm hf3 hr3 hl3 ⊢
    obtain ⟨es2, t3, gave⟩ := Z
    dsimp only at pm hf3 hr3 hl3 ⊢
    have hsz : es2.size = es1.size := by rw [← Array.length_toList, pm.length_eq, Array.length_toList]
    have hb2 : es2.size < scanBound := by rw [hsz]; exact hb1
    obtain ⟨ks2, e2, p2⟩ := e1.perm pm
    refine wpAny_bind (hg _ _ _ (wpAny_bind (wpAny_storeSet_of ho1 rfl ?_ (fits_of_scanBound hb2))))
    have ho2 := store_at (es' := es2) (t' := t3) ho1 rfl
    exact wpAny_pure (hR _ (sb1.trans (Heap.SameBut.update _ a _)) ⟨_, es2, _, t3, ks2, ho2, hex, rfl, e2, p2.trans pk, nd, hb2, hf3, hr3, hl.imp id fun z => by rw [hl3]; exact z⟩)
  · exact wpAny_pure (hR _ sb1 ⟨_, es1, _, t2, ks1, ho1, hex, rfl, e1, pk, nd, hb1, hf2, hr, hl⟩)
theorem setG_add {k : κ} {x : Value} {Q : Bool → Shared → Prop} (hkey : knd.is k x = true) (hsc : x.scannable = true) (R : SetG knd s.heap a ks) (room : ks.length + 1 < scanBound)
    (hQ : ∀ b h', Heap.SameBut a s.heap h' → SetG knd h' a (addK ks k) → Q b { s with heap := h' }) :
    wpAny (model P w) A (setAddHashed a x (knd.hash k)) Q E s := by
  obtain ⟨o, es, ep, t, ks', ho, hex, hd, ek, pk, nd, hb, hf, hr, hl⟩ := R
  have hel : ElemsOf knd es.toList := ek.elems
  have hn : es.size = ks.length := by rw [← Array.length_toList, ek.length, pk.length_eq]
  unfold setAddHashed setAddHashedIn
  refine wpAny_holding (wpAny_bind (wpAny_setState_of ho hd hf ?_))
  dsimp only
  rw [byScan_of hsc hb hel]
  simp only [↓reduceIte]
  unfold setAddByScan
  refine wpAny_bind ?_
  refine wpAny_bind (wpAny_rule ?_)
  refine wpAny_bind (wpAny_setScan_of hkey ho hd hf hel ?_)
  cases hfi : List.findIdx? (fun e => knd.is k e.2) es.toList with
  | some j =>
    dsimp only
    obtain ⟨hj, pj, _⟩ := List.findIdx?_eq_some_iff_getElem.mp hfi
    have hk : k ∈ ks := pk.mem_iff.mp ((ek.find k).mp ⟨es.toList[j], List.getElem_mem hj, pj⟩)
    refine wpAny_pure (wpAny_pure ?_)
    refine hQ _ s.heap (Heap.SameBut.refl a s.heap) ?_
    unfold addK; rw [if_pos hk]
    exact ⟨o, es, ep, t, ks', ho, hex, hd, ek, pk, nd, hb, hf, hr, hl⟩
  | none =>
    dsimp only
    have hnk : k ∉ ks := fun z => by
      obtain ⟨e, he, q⟩ := (ek.find k).mpr (pk.mem_iff.mpr z)
      have c := List.findIdx?_eq_none_iff.mp hfi e he
      rw [q] at c
      cases c
    have hgw : ∀ (b : Bool) {s₁ : Shared} {Q' : Unit → Shared → Prop}, Q' () s₁ → wpAny (model P w) A (match b with | true => rule "set.scan.the-table-gave-way" | false => pure ()) Q' E s₁ :=
      fun b s₁ Q' q => by cases b <;> first | exact wpAny_pure q | exact wpAny_rule q
    have pm := layNew_perm t es (knd.hash k) x
    have hf1 := layNew_fits t es (knd.hash k) x
    have hr1 := layNew_ris t es (knd.hash k) x hr
    have hl1 := layNew_led t es (knd.hash k) x
    generalize layNew t es (knd.hash k) x = Z at pm hf1 hr1 hl1 ⊢
    obtain ⟨es1, t1, wasDummy, gave⟩ := Z
    dsimp only at pm hf1 hr1 hl1 ⊢
    rw [Array.toList_push] at pm
    obtain ⟨ks1, e1, p1⟩ := (ek.append (.cons ⟨hkey, rfl, hsc⟩ .nil)).perm pm
    have p1 : ks1.Perm (ks ++ [k]) := p1.trans (pk.append_right _)
    have nd1 : (ks ++ [k]).Nodup := List.nodup_append.mpr ⟨nd, by simp, fun x hx y hy e => by
      have hy : y = k := by simpa using hy
      subst hy; subst e; exact hnk hx⟩
    have hsz : es1.size = ks.length + 1 := by rw [← Array.length_toList, e1.length, p1.length_eq, List.length_append]; rfl
    have hb1 : es1.size < scanBound := by rw [hsz]; exact room
    have hled : w.params.followText "set-order" = true ∨ t1.led = true := hl.imp id fun z => by rw [hl1]; exact z
    have ea : addK ks k = ks ++ [k] := by unfold addK; rw [if_neg hnk]
    refine wpAny_bind (hgw _ ?_)
    split
    · refine wpAny_bind ?_
      rw [hashByValue_scannable 8 hsc]
      refine wpAny_pure ?_
      refine setG_tail ?_ ho hex hd e1 p1 nd1 hb1 ?_ ?_ ?_ ?_
      · intro b s₁ Q' q; cases b <;> first | exact wpAny_pure q | exact wpAny_rule q
      · first | (split <;> first | exact hf1 | exact SetTable.fits_plain_off hf1) | exact hf1
      · first | (split <;> exact hr1) | exact hr1
      · first | (split <;> exact hled) | exact hled
      · intro h' sb r; dsimp only; exact wpAny_pure (hQ _ _ sb (by rw [ea]; exact r))
    · refine wpAny_bind (wpAny_pure ?_)
      simp only [↓reduceIte]
      refine setG_tail ?_ ho hex hd e1 p1 nd1 hb1 hf1 hr1 hled ?_
      · intro b s₁ Q' q; cases b <;> first | exact wpAny_pure q | exact wpAny_rule q
      · intro h' sb r; dsimp only; exact wpAny_pure (hQ _ _ sb (by rw [ea]; exact r))
/-- the first of each -/
def dedupK (ks : List κ) : List κ := ks.foldl addK []
theorem addK_len (ks : List κ) (k : κ) : (addK ks k).length ≤ ks.length + 1 := by unfold addK; split <;> simp
theorem fold_len : ∀ (l ks : List κ), (l.foldl addK ks).length ≤ ks.length + l.length
  | [], ks => by simp
  | k :: l, ks => by
    have h1 := fold_len l (addK ks k)
    have h2 := addK_len ks k
    simp only [List.foldl_cons, List.length_cons]; omega
theorem setG_new_at {h : Heap} (ho : h.get? a = some { cls := .type "set", dict := none, data := .set #[] 0 (.fresh 0 0 (!w.params.followText "set-order")) }) : SetG knd h a [] :=
  ⟨_, #[], 0, _, [], ho, ⟨rfl, rfl, rfl⟩, rfl, .nil, .refl _, List.nodup_nil, by decide, by rfl, List.Pairwise.nil, by
    show _ ∨ (!w.params.followText "set-order") = true
    cases w.params.followText "set-order"
    · exact .inr rfl
    · exact .inl rfl⟩
theorem setG_update {I : Addr} {fp wr : List Addr} {G : Array GenState → Array GenState → Prop} {n : Nat} {Pv : Nat → Value → Prop} {St : Nat → Shared → Prop} {R : Result → Shared → Prop}
    (W : WalksS P w A.in1 I fp wr G n Pv St) (S : Addr) (hSf : S ∉ fp) (js : List κ) (hn : n = js.length) (hb : js.length + 1 < scanBound) (hval : ∀ i v, Pv i v → ∃ k, js[i]? = some k ∧ knd.is k v = true ∧ v.scannable = true) :
    ∀ (k i : Nat) (s : Shared), n - i = k → i ≤ n → St i s → SetG knd s.heap S (dedupK (js.take i)) →
      (∀ s', Moved (S :: wr) G s s' → SetG knd s'.heap S (dedupK js) → R (.ok (.ret .none)) s') →
      codeAny (model P w) A (.builtin "set.update.loop" ⟨[.ref S, .ref I], []⟩) R s := by
  have hSw : S ∉ wr := fun h => hSf (W.sub _ h)
  have hsub : ∀ b ∈ wr, b ∈ S :: wr := fun b hb => List.mem_cons_of_mem _ hb
  intro k
  induction k with
  | zero =>
    intro i s hk' hi hst hS hR
    have hin : i = n := by omega
    subst hin
    refine codeAny_builtin F.entry_set_update_loop ?_
    rw [Around.under_plainId F.plain_set_update_loop _]
    show wpAny _ A.in1 (pyNext (.ref I) >>= _) _ _ s
    refine wpAny_bind (W.done s _ _ hst fun s' hm => ?_)
    show wpAny _ A.in1 (PySem.ret Value.none) _ _ s'
    rw [show js.take i = js from List.take_of_length_le (by omega)] at hS
    exact wpAny_pure (hR s' (hm.mono hsub) (hS.at fun o e => hm.heap S o hSw e))
  | succ k ih =>
    intro i s hk' hi hst hS hR
    have hlt : i < n := by omega
    refine codeAny_builtin F.entry_set_update_loop ?_
    rw [Around.under_plainId F.plain_set_update_loop _]
    show wpAny _ A.in1 (pyNext (.ref I) >>= _) _ _ s
    refine wpAny_bind (W.item i s _ _ hlt hst fun v s' hP hst' hm => ?_)
    obtain ⟨z, hz, hkv, hsc⟩ := hval i v hP
    have hS' : SetG knd s'.heap S (dedupK (js.take i)) := hS.at fun o e => hm.heap S o hSw e
    show wpAny _ A.in1 (holding [v] (setAdd S v) >>= _) _ _ s'
    refine wpAny_bind (wpAny_holding ?_)
    unfold setAdd
    refine wpAny_holding ?_
    refine wpAny_bind (knd.pyHash hkv ?_)
    have hroom : (dedupK (js.take i)).length + 1 < scanBound := by
      have := fold_len (js.take i) []
      have h2 : (js.take i).length ≤ js.length := by rw [List.length_take]; omega
      unfold dedupK
      simp only [List.length_nil] at this
      omega
    refine setG_add (s := { s' with toks := s'.toks + 1 }) hkv hsc hS' hroom fun b h' hsb hS2 => ?_
    have hS3 : SetG knd h' S (dedupK (js.take (i + 1))) := by
      rw [List.take_add_one, hz]
      unfold dedupK
      rw [List.foldl_append]
      exact hS2
    refine wpAny_pure ⟨plainId_quiet F.plain_set_update_loop _, ih (i + 1) _ (by omega) hlt (W.frame _ s' _ _ hst' (Nat.le_succ _) fun b hb o e => ?_) hS3 fun s'' hm'' hS'' => ?_⟩
    · rw [hsb.2 b (fun h : b = S => hSf (by rw [← h]; exact hb))]; exact e
    · refine hR s'' (Moved.trans W.gtrans ((hm.mono hsub).then_heap (Nat.le_succ _) fun b o hb e => ?_) hm'') hS''
      rw [hsb.2 b (fun h : b = S => hb (by rw [h]; exact List.mem_cons_self))]; exact e

set_option maxHeartbeats 8000000 in
theorem call_setG_tuple {l : Addr} {items : Array Value} (js : List κ) {Q : Value → Shared → Prop} (hh : A.handled = none) (hl : s.heap.IsTuple l items) (hit : ∀ (i : Nat) (v : Value), items[i]? = some v → ∃ k, js[i]? = some k ∧ knd.is k v = true ∧ v.scannable = true) (hisz : items.size = js.length) (hb : js.length + 1 < scanBound)
    (h : ∀ (h' : Heap) (tk : Nat), SetG knd h' s.heap.objs.size (dedupK js) → (∀ b o, s.heap.get? b = some o → h'.get? b = some o) → Q (.ref s.heap.objs.size) { s with heap := h', toks := tk }) :
    wpAny (model P w) A (call (.type "set") [.ref l]) Q E s := by
  obtain ⟨c, tl, hmro⟩ := F.called_set.mro
  have hmade := F.called_set.made
  have hsub := F.called_set.sub
  refine wpAny_call (codeAny_of_tree ?_)
  show wpAny _ _ (callAny (.type "set") _) _ _ _
  refine wpAny_pure ⟨Code.quiet_builtin _ (by decide +kernel), codeAny_builtin F.entry_type_call ?_⟩
  rw [Around.under_plain (weight_type_call_type "set" [.ref l] []) rfl]
  have h1 := F.called_set.notType
  have h2 := F.called_set.canCreate
  have hct := F.typeCall_set_1 (.ref l)
  repeat (any_goals (first | assumption | wp_step))
  refine codeAny_mono (code_set_led1 (.ref l) (E := E) (Q₁ := fun obj s₁ => obj = .ref s.heap.objs.size ∧ s₁ = { s with heap := s.heap.push { cls := .type "set", dict := none, data := .set #[] 0 (.fresh 0 0 (!w.params.followText "set-order")) } }) ⟨rfl, rfl⟩) fun r s₁ hr => ?_
  cases r with
  | error e => exact hr
  | ok fl =>
    cases fl with
    | ret obj =>
      obtain ⟨rfl, rfl⟩ := hr
      have hS : (s.heap.push { cls := .type "set", dict := none, data := .set #[] 0 (.fresh 0 0 (!w.params.followText "set-order")) }).get? s.heap.objs.size = some { cls := .type "set", dict := none, data := .set #[] 0 (.fresh 0 0 (!w.params.followText "set-order")) } := Heap.get?_push_size _ rfl
      have hT : Shared.TypeIs { s with heap := s.heap.push { cls := .type "set", dict := none, data := .set #[] 0 (.fresh 0 0 (!w.params.followText "set-order")) } } (.ref s.heap.objs.size) "set" := ⟨_, hS, rfl⟩
      have hli := F.called_set.init.lookup
      have hbi := F.called_set.init.bind (.ref s.heap.objs.size)
      repeat (any_goals (first | assumption | wp_step))
      refine codeAny_mono (codeAny_call_builtin (R := wants (fun r s₂ => r = .none ∧ ∃ h' tk, s₂ = { s with heap := h', toks := tk } ∧ SetG knd h' s.heap.objs.size (dedupK js) ∧ (∀ b o, s.heap.get? b = some o → h'.get? b = some o)) E) F.called_set.init.plain F.entry_set_init (check_set_init_1 hT ?_)) fun r₂ s₂ hr₂ => ?_
      · obtain ⟨ol, hol, hcl, nl, hdl⟩ := hl
        obtain ⟨ocls, odict, odata, oslots⟩ := ol
        simp only at hcl hdl
        subst hcl; subst hdl
        have hol' : (s.heap.push { cls := .type "set", dict := none, data := .set #[] 0 (.fresh 0 0 (!w.params.followText "set-order")) }).get? l = some { cls := .type "tuple", dict := odict, data := .seq items nl, slots := oslots } := Heap.get?_push_of_some _ hol
        have hsls := F.sub_tuple_set
        have hslf := F.sub_tuple_frozenset
        have hne : (Value.type "tuple" == Value.type "dict") = false := by decide
        have hl1 : (s.heap.push { cls := .type "set", dict := none, data := .set #[] 0 (.fresh 0 0 (!w.params.followText "set-order")) }).IsTuple l items := ⟨_, hol', rfl, nl, rfl⟩
        unfold Builtin.«set.__init__» noKeywords Builtin.Frozenset.updateFrom
        generalize hPI : pyIter = PI
        wp_walk
        subst hPI
        refine wpAny_pyIter_tuple hl1 ?_
        refine wpAny_bind (wpAny_runValue ?_)
        have hlS : l < s.heap.objs.size := Heap.lt_size hol
        have hh3 : A.in1.in1.in1.handled = none := by simp [hh]
        have hneI : l ≠ (s.heap.push { cls := .type "set", dict := none, data := .set #[] 0 (.fresh 0 0 (!w.params.followText "set-order")) }).objs.size := by
          rw [Heap.size_push]; exact Nat.ne_of_lt (Nat.lt_succ_of_lt hlS)
        have hSf : s.heap.objs.size ∉ [(s.heap.push { cls := .type "set", dict := none, data := .set #[] 0 (.fresh 0 0 (!w.params.followText "set-order")) }).objs.size, l] := by
          rw [Heap.size_push]; simp only [List.mem_cons, List.mem_singleton, List.not_mem_nil, or_false, not_or]
          exact ⟨Nat.ne_of_lt (Nat.lt_succ_self _), Nat.ne_of_gt hlS⟩
        refine setG_update ((Walks.tuple hh3 _ l hneI items).toS) s.heap.objs.size hSf js hisz hb hit (items.size - 0) 0 _ (by omega) (Nat.zero_le _)
          ⟨⟨_, Heap.get?_push_size _ rfl, rfl, rfl⟩, (hl1.push _)⟩ ?hS0 ?hR
        case hS0 =>
          exact setG_new_at (Heap.get?_push_of_some _ hS)
        case hR =>
          intro s' hm hS'
          obtain ⟨h', g2, d', tk', os'⟩ := s'
          have eg : g2 = s.gens := hm.gens
          have ed : d' = s.drawn := hm.drawn
          have eo : os' = s.os := hm.os
          subst eg; subst ed; subst eo
          show wpAny _ _ _ _ _ _
          refine wpAny_pure ?_
          show wpAny _ _ (PySem.ret Value.none) _ _ _
          refine wpAny_pure ⟨rfl, h', tk', rfl, hS', fun b o e => ?_⟩
          have hb0 : b < s.heap.objs.size := Heap.lt_size e
          have hb1 : b ≠ s.heap.objs.size := Nat.ne_of_lt hb0
          have hb2 : b ≠ (s.heap.push { cls := .type "set", dict := none, data := .set #[] 0 (.fresh 0 0 (!w.params.followText "set-order")) }).objs.size := by
            rw [Heap.size_push]; exact Nat.ne_of_lt (Nat.lt_succ_of_lt hb0)
          exact hm.heap b o (by simp only [List.mem_cons, List.mem_singleton, List.not_mem_nil, or_false, not_or]; exact ⟨hb1, hb2⟩) (Heap.get?_push_of_some _ (Heap.get?_push_of_some _ e))
      · cases r₂ with
        | error e => exact hr₂
        | ok fl₂ =>
          cases fl₂ with
          | ret r =>
            obtain ⟨rfl, h', tk, rfl, hS', hk'⟩ := hr₂
            repeat (any_goals (first | assumption | wp_step))
            exact h _ _ hS' hk'
          | _ => exact hr₂.elim
    | _ => exact hr.elim

set_option maxHeartbeats 8000000 in
theorem call_setG_list {l : Addr} {items : Array Value} (js : List κ) {Q : Value → Shared → Prop} (hh : A.handled = none) (hl : s.heap.IsList l items) (hit : ∀ (i : Nat) (v : Value), items[i]? = some v → ∃ k, js[i]? = some k ∧ knd.is k v = true ∧ v.scannable = true) (hisz : items.size = js.length) (hb : js.length + 1 < scanBound)
    (h : ∀ (h' : Heap) (tk : Nat), SetG knd h' s.heap.objs.size (dedupK js) → (∀ b o, s.heap.get? b = some o → h'.get? b = some o) → Q (.ref s.heap.objs.size) { s with heap := h', toks := tk }) :
    wpAny (model P w) A (call (.type "set") [.ref l]) Q E s := by
  obtain ⟨c, tl, hmro⟩ := F.called_set.mro
  have hmade := F.called_set.made
  have hsub := F.called_set.sub
  refine wpAny_call (codeAny_of_tree ?_)
  show wpAny _ _ (callAny (.type "set") _) _ _ _
  refine wpAny_pure ⟨Code.quiet_builtin _ (by decide +kernel), codeAny_builtin F.entry_type_call ?_⟩
  rw [Around.under_plain (weight_type_call_type "set" [.ref l] []) rfl]
  have h1 := F.called_set.notType
  have h2 := F.called_set.canCreate
  have hct := F.typeCall_set_1 (.ref l)
  repeat (any_goals (first | assumption | wp_step))
  refine codeAny_mono (code_set_led1 (.ref l) (E := E) (Q₁ := fun obj s₁ => obj = .ref s.heap.objs.size ∧ s₁ = { s with heap := s.heap.push { cls := .type "set", dict := none, data := .set #[] 0 (.fresh 0 0 (!w.params.followText "set-order")) } }) ⟨rfl, rfl⟩) fun r s₁ hr => ?_
  cases r with
  | error e => exact hr
  | ok fl =>
    cases fl with
    | ret obj =>
      obtain ⟨rfl, rfl⟩ := hr
      have hS : (s.heap.push { cls := .type "set", dict := none, data := .set #[] 0 (.fresh 0 0 (!w.params.followText "set-order")) }).get? s.heap.objs.size = some { cls := .type "set", dict := none, data := .set #[] 0 (.fresh 0 0 (!w.params.followText "set-order")) } := Heap.get?_push_size _ rfl
      have hT : Shared.TypeIs { s with heap := s.heap.push { cls := .type "set", dict := none, data := .set #[] 0 (.fresh 0 0 (!w.params.followText "set-order")) } } (.ref s.heap.objs.size) "set" := ⟨_, hS, rfl⟩
      have hli := F.called_set.init.lookup
      have hbi := F.called_set.init.bind (.ref s.heap.objs.size)
      repeat (any_goals (first | assumption | wp_step))
      refine codeAny_mono (codeAny_call_builtin (R := wants (fun r s₂ => r = .none ∧ ∃ h' tk, s₂ = { s with heap := h', toks := tk } ∧ SetG knd h' s.heap.objs.size (dedupK js) ∧ (∀ b o, s.heap.get? b = some o → h'.get? b = some o)) E) F.called_set.init.plain F.entry_set_init (check_set_init_1 hT ?_)) fun r₂ s₂ hr₂ => ?_
      · obtain ⟨ol, hol, hcl, nl, hdl⟩ := hl
        obtain ⟨ocls, odict, odata, oslots⟩ := ol
        simp only at hcl hdl
        subst hcl; subst hdl
        have hol' : (s.heap.push { cls := .type "set", dict := none, data := .set #[] 0 (.fresh 0 0 (!w.params.followText "set-order")) }).get? l = some { cls := .type "list", dict := odict, data := .seq items nl, slots := oslots } := Heap.get?_push_of_some _ hol
        have hsls := F.sub_list_set
        have hslf := F.sub_list_frozenset
        have hne : (Value.type "list" == Value.type "dict") = false := by decide
        have hl1 : (s.heap.push { cls := .type "set", dict := none, data := .set #[] 0 (.fresh 0 0 (!w.params.followText "set-order")) }).IsList l items := ⟨_, hol', rfl, nl, rfl⟩
        unfold Builtin.«set.__init__» noKeywords Builtin.Frozenset.updateFrom
        generalize hPI : pyIter = PI
        wp_walk
        subst hPI
        refine wpAny_pyIter_list hl1 ?_
        refine wpAny_bind (wpAny_runValue ?_)
        have hlS : l < s.heap.objs.size := Heap.lt_size hol
        have hh3 : A.in1.in1.in1.handled = none := by simp [hh]
        have hneI : l ≠ (s.heap.push { cls := .type "set", dict := none, data := .set #[] 0 (.fresh 0 0 (!w.params.followText "set-order")) }).objs.size := by
          rw [Heap.size_push]; exact Nat.ne_of_lt (Nat.lt_succ_of_lt hlS)
        have hSf : s.heap.objs.size ∉ [(s.heap.push { cls := .type "set", dict := none, data := .set #[] 0 (.fresh 0 0 (!w.params.followText "set-order")) }).objs.size, l] := by
          rw [Heap.size_push]; simp only [List.mem_cons, List.mem_singleton, List.not_mem_nil, or_false, not_or]
          exact ⟨Nat.ne_of_lt (Nat.lt_succ_self _), Nat.ne_of_gt hlS⟩
        refine setG_update ((Walks.list hh3 _ l hneI items).toS) s.heap.objs.size hSf js hisz hb hit (items.size - 0) 0 _ (by omega) (Nat.zero_le _)
          ⟨⟨_, Heap.get?_push_size _ rfl, rfl, rfl⟩, (hl1.push _)⟩ ?hS0 ?hR
        case hS0 =>
          exact setG_new_at (Heap.get?_push_of_some _ hS)
        case hR =>
          intro s' hm hS'
          obtain ⟨h', g2, d', tk', os'⟩ := s'
          have eg : g2 = s.gens := hm.gens
          have ed : d' = s.drawn := hm.drawn
          have eo : os' = s.os := hm.os
          subst eg; subst ed; subst eo
          show wpAny _ _ _ _ _ _
          refine wpAny_pure ?_
          show wpAny _ _ (PySem.ret Value.none) _ _ _
          refine wpAny_pure ⟨rfl, h', tk', rfl, hS', fun b o e => ?_⟩
          have hb0 : b < s.heap.objs.size := Heap.lt_size e
          have hb1 : b ≠ s.heap.objs.size := Nat.ne_of_lt hb0
          have hb2 : b ≠ (s.heap.push { cls := .type "set", dict := none, data := .set #[] 0 (.fresh 0 0 (!w.params.followText "set-order")) }).objs.size := by
            rw [Heap.size_push]; exact Nat.ne_of_lt (Nat.lt_succ_of_lt hb0)
          exact hm.heap b o (by simp only [List.mem_cons, List.mem_singleton, List.not_mem_nil, or_false, not_or]; exact ⟨hb1, hb2⟩) (Heap.get?_push_of_some _ (Heap.get?_push_of_some _ e))
      · cases r₂ with
        | error e => exact hr₂
        | ok fl₂ =>
          cases fl₂ with
          | ret r =>
            obtain ⟨rfl, h', tk, rfl, hS', hk'⟩ := hr₂
            repeat (any_goals (first | assumption | wp_step))
            exact h _ _ hS' hk'
          | _ => exact hr₂.elim
    | _ => exact hr.elim

theorem each_perm {α β : Type} {R : α → β → Prop} {as as' : List α} (p : as'.Perm as) : ∀ {bs : List β}, PySem.W.EachIs R as bs → ∃ bs', PySem.W.EachIs R as' bs' ∧ bs'.Perm bs := by
  induction p with
  | nil => intro bs h; exact ⟨bs, h, .refl _⟩
  | cons x _ ih =>
    intro bs h
    cases h with
    | cons a b => obtain ⟨ks', c, d⟩ := ih b; exact ⟨_, .cons a c, d.cons _⟩
  | swap x y l =>
    intro bs h
    cases h with
    | cons a b => cases b with
      | cons c d => exact ⟨_, .cons c (.cons a d), .swap _ _ _⟩
  | trans _ _ ih1 ih2 =>
    intro bs h
    obtain ⟨k1, a, b⟩ := ih2 h
    obtain ⟨k2, c, d⟩ := ih1 a
    exact ⟨k2, c, d.trans b⟩
theorem EKs.vals : ∀ {es : List (Int × Value)} {ks : List κ}, EKs knd es ks → PySem.W.EachIs (fun v k => knd.is k v = true) (es.map (·.2)) ks
  | _, _, .nil => .nil
  | _, _, .cons a r => .cons a.1 r.vals
theorem each_imp {α β : Type} {R R' : α → β → Prop} : ∀ {as : List α} {bs : List β}, (∀ a b, b ∈ bs → R a b → R' a b) → PySem.W.EachIs R as bs → PySem.W.EachIs R' as bs
  | _, _, _, .nil => .nil
  | _, _, k, .cons r t => .cons (k _ _ (by simp) r) (each_imp (fun a b hb => k a b (by simp [hb])) t)
theorem setG_sorted {enc : κ → PyData} {Rb : Value → κ → Prop} {Q : Value → Shared → Prop} (R : SetG knd s.heap a ks) (hh : A.handled = none)
    (hr : ∀ k ∈ ks, ∀ v, knd.is k v = true → Rb v k ∧ ∀ h : Heap, Reads h v (enc k) []) (hal : ∀ ks' : List κ, ks'.Perm ks → PySem.W.AllAlike (ks'.map enc)) (hk : ∀ ks' : List κ, ks'.Perm ks → PySem.W.Sortable (ks'.map enc))
    (hu : ∀ k ∈ ks, A.units + 2 + (enc k).depth < cLine)
    (hQ : ∀ s' p (out : Array Value) (c : Nat) (ks' : List κ), ks'.Perm ks → (∀ b o, s.heap.get? b = some o → s'.heap.get? b = some o) → s'.gens = s.gens → s'.os = s.os → s.heap.objs.size ≤ p →
      s'.heap.get? p = some (seqObj "list" out c) → out.size = ks.length → PySem.W.EachIs Rb out.toList (ks'.mergeSort (PySem.W.dataLe false enc)) → Q (.ref p) s') :
    wpAny (model P w) A (call (.builtin "sorted") [.ref a]) Q E s := by
  have hlim := R.size
  obtain ⟨o, es, ep, t, ks1, ho, hex, hd, ek, pk, nd, hb, hf, hri, hl⟩ := R
  refine Calls.call_function_entry kind_sorted plain_sorted entry_sorted (args_sorted1 _) ?_
  unfold Builtin.«sorted»
  refine wpAny_bind (m := checkCount "sorted" 1 1 _) (wpAny_pure ?_)
  refine wpAny_bind (collect_set (A := A.in1) hh ⟨o, ho, hex.1, hd⟩ hf hb hri hl fun s1 vs k1 hz g1 o1 pm => ?_)
  obtain ⟨ks', ev, pk'⟩ := each_perm pm ek.vals
  have pk2 : ks'.Perm ks := pk'.trans pk
  have hvl : vs.length = ks.length := by rw [ev.length, pk2.length_eq]
  have hvs : vs.length ≤ sizeLine := by rw [hvl]; exact fits_of_scanBound hlim
  refine wpAny_bind (wpAny_newList ?_ hvs)
  have hoL : (s1.heap.push (seqObj "list" vs.toArray 0)).get? s1.heap.objs.size = some (seqObj "list" vs.toArray 0) := Heap.get?_push_size _ rfl
  have e1 : PySem.W.EachIs Rb vs ks' := each_imp (fun v k hk h => (hr k (pk2.mem_iff.mp hk) v h).1) ev
  have e2 : PySem.W.EachIs (fun v k => ∃ as, Reads (s1.heap.push (seqObj "list" vs.toArray 0)) v (enc k) as ∧ ¬ s1.heap.objs.size ∈ as) vs ks' := each_imp (fun v k hk h => ⟨[], (hr k (pk2.mem_iff.mp hk) v h).2 _, by simp⟩) ev
  refine wpAny_bind (wpAny_holding (PySem.W.list_sort_data (s := { s1 with heap := s1.heap.push (seqObj "list" vs.toArray 0) }) hoL e1 e2 (hal _ pk2) (hk _ pk2) (by rw [← ev.length]; exact hvs) (fun b hb => hu b (pk2.mem_iff.mp hb)) fun out ho2 eo => ?_))
  obtain ⟨c, hc⟩ := sortedHeap_at (vs := vs) (out := out.toArray) hoL
  refine wpAny_pure ⟨_, rfl, hQ _ s1.heap.objs.size out.toArray c ks' pk2 (fun b u e => ?_) g1 o1 hz hc (by rw [List.size_toArray, ho2, pk2.length_eq]) eo⟩
  have q := k1 b u e
  have hlt := Heap.lt_size q
  show (sortedHeap (s1.heap.push (seqObj "list" vs.toArray 0)) s1.heap.objs.size vs out.toArray).get? b = some u
  rw [sortedHeap_old (Nat.ne_of_lt hlt) (by rw [size_push']; exact Nat.lt_succ_of_lt hlt)]
  exact Heap.get?_push_of_some _ q
end
/-! ### sorted(set(xs)), len(set(xs)) of keys -/
def keyPy : Key → PyData
  | .inl i => .int i
  | .inr x => .str x
def keysO : List D → Option (List Key)
  | [] => some []
  | x :: xs => match keyD x, keysO xs with
    | some k, some ks => some (k :: ks)
    | _, _ => none
/-- all of one kind -/
def oneK : List Key → Bool
  | [] => true
  | .inl _ :: r => r.all fun k => match k with | .inl _ => true | _ => false
  | .inr _ :: r => r.all fun k => match k with | .inr _ => true | _ => false
def keyLe : Key → Key → Bool := PySem.W.dataLe false keyPy
def sortK (ks : List Key) : List Key := sortI keyLe ks
section
variable {X : Cx}
theorem keysO_ok {K : PySem.W.Frag} {H : Hp} : ∀ {xs : List D} {vs : List V} {ks : List Key}, RDs K H xs vs → keysO xs = some ks → vs = ks.map kV
  | [], _, _, r, e => by cases r; cases e; rfl
  | x :: xs, _, _, .cons h r, e => by
    unfold keysO at e
    cases q : keyD x with
    | none => rw [q] at e; cases e
    | some k =>
      cases q2 : keysO xs with
      | none => rw [q, q2] at e; cases e
      | some ks =>
        rw [q, q2] at e; cases e
        rw [keysO_ok r q2, keyO_ok (F := nof) (.d h) (show keyO (.d x) = some k from q)]; rfl
theorem keyLe_antisymm {a b : Key} (h : ∀ i x, ¬ (a = .inl i ∧ b = .inr x)) (h' : ∀ i x, ¬ (a = .inr x ∧ b = .inl i)) (h1 : keyLe a b = true) (h2 : keyLe b a = true) : a = b := by
  cases a with
  | inl i =>
    cases b with
    | inl j =>
      have e := congrFun (congrFun (PySem.W.dataLe_int (id : Int → Int)) i) j
      have e' := congrFun (congrFun (PySem.W.dataLe_int (id : Int → Int)) j) i
      have q1 : decide (i ≤ j) = true := e ▸ h1
      have q2 : decide (j ≤ i) = true := e' ▸ h2
      have := of_decide_eq_true q1
      have := of_decide_eq_true q2
      rw [show i = j by omega]
    | inr y => exact absurd ⟨rfl, rfl⟩ (h i y)
  | inr x =>
    cases b with
    | inl j => exact absurd ⟨rfl, rfl⟩ (h' j x)
    | inr y =>
      have e := congrFun (congrFun (PySem.W.dataLe_str (id : Str → Str)) x) y
      have e' := congrFun (congrFun (PySem.W.dataLe_str (id : Str → Str)) y) x
      have q1 : decide (x.cps.toList ≤ y.cps.toList) = true := e ▸ h1
      have q2 : decide (y.cps.toList ≤ x.cps.toList) = true := e' ▸ h2
      have e3 : x.cps.toList = y.cps.toList := List.le_antisymm (of_decide_eq_true q1) (of_decide_eq_true q2)
      rw [show x = y from Str.ext' (Array.toList_inj.mp e3)]
theorem oneK_mem {ks : List Key} (h : oneK ks = true) {a b : Key} (ha : a ∈ ks) (hb : b ∈ ks) : (∀ i x, ¬ (a = .inl i ∧ b = .inr x)) ∧ (∀ i x, ¬ (a = .inr x ∧ b = .inl i)) := by
  have sides : (∀ k ∈ ks, ∃ i, k = .inl i) ∨ ∀ k ∈ ks, ∃ x, k = .inr x := by
    cases ks with
    | nil => exact .inl fun k hk => nomatch hk
    | cons k0 r =>
      cases k0 with
      | inl i =>
        refine .inl fun k hk => ?_
        rcases List.mem_cons.mp hk with z | z
        · exact ⟨i, z⟩
        · have q := List.all_eq_true.mp h k z
          cases k with
          | inl j => exact ⟨j, rfl⟩
          | inr x => cases q
      | inr i =>
        refine .inr fun k hk => ?_
        rcases List.mem_cons.mp hk with z | z
        · exact ⟨i, z⟩
        · have q := List.all_eq_true.mp h k z
          cases k with
          | inr j => exact ⟨j, rfl⟩
          | inl x => cases q
  rcases sides with s | s
  · obtain ⟨i, rfl⟩ := s a ha
    obtain ⟨j, rfl⟩ := s b hb
    exact ⟨fun _ _ z => (nomatch z.2), fun _ _ z => (nomatch z.1)⟩
  · obtain ⟨i, rfl⟩ := s a ha
    obtain ⟨j, rfl⟩ := s b hb
    exact ⟨fun _ _ z => (nomatch z.1), fun _ _ z => (nomatch z.2)⟩
theorem keyLe_total : PySem.W.TotalLe keyLe := by
  delta keyLe PySem.W.dataLe
  exact PySem.W.sortLe_total _ _ _
theorem sortK_ms (ks : List Key) : sortK ks = ks.mergeSort keyLe := sortI_ms keyLe_total ks
theorem sortK_perm {ks ks' : List Key} (h : oneK ks = true) (p : ks'.Perm ks) : sortK ks' = sortK ks := by
  rw [sortK_ms, sortK_ms]
  refine List.Perm.eq_of_pairwise (le := fun a b => keyLe a b = true) (fun a b ha hb h1 h2 => ?_) (PySem.W.sort_pairwise keyLe_total ks') (PySem.W.sort_pairwise keyLe_total ks) (((List.mergeSort_perm _ _).trans p).trans (List.mergeSort_perm _ _).symm)
  have ha := p.mem_iff.mp ((List.mergeSort_perm ks' keyLe).mem_iff.mp ha)
  have hb := (List.mergeSort_perm ks keyLe).mem_iff.mp hb
  obtain ⟨x, y⟩ := oneK_mem h ha hb
  exact keyLe_antisymm x y h1 h2
/-- the set of the keys at a -/
def SetHO (P : Program) (w : World) (a : Addr) (ks : List Key) : HO := .ext fun h => SetG (mixKind P w) h a ks
theorem setHO_new {w : World} {P : Program} {H : Hp} {h : Heap} {a : Addr} {ks : List Key} (R : SetG (mixKind P w) h a ks) : ObjOk P w H h a (SetHO P w a ks) := by
  have ⟨o, _, _, _, _, ho, _⟩ := R
  exact ⟨R, ⟨o, ho⟩, fun h1 h2 p k => SetG.at p k⟩
def rSetG (K : PySem.W.Frag) (P : Program) (w : World) : List V → Hp → VK → Prop := fun xs H Q => ∃ a ks, xs = [V.ref a] ∧ (SqL K H a (ks.map kV) ∨ SqT K H a (ks.map kV)) ∧ ks.length + 1 < scanBound ∧ ∀ p, H p = none → Q (.ref p) (upd H p (SetHO P w p (dedupK ks)))
theorem valsK_at : ∀ {ks : List Key} {us : List Value}, Vals (ks.map kV) us → ∀ (i : Nat) (v : Value), us[i]? = some v → ∃ k, ks[i]? = some k ∧ (mixKind X.prog X.w).is k v = true ∧ v.scannable = true
  | [], _, r, i, v, h => by cases r; simp at h
  | k :: ks, _, r, 0, v, h => by
    cases r with
    | cons a b => simp at h; subst h; exact ⟨k, rfl, kV_is a, key_scan a⟩
  | k :: ks, _, r, i + 1, v, h => by
    cases r with
    | cons a b => simpa using valsK_at b i v (by simpa using h)
theorem cr_setG (hc : X.calm = true) : CallR X (.type "set") (rSetG X.K X.prog X.w) := by
  intro pins s σ H xs us Q I r h
  obtain ⟨a, ks, rfl, hs, room, q⟩ := h
  obtain ⟨u, rfl, rx⟩ := vals1 r
  obtain rfl : u = Value.ref a := rx
  have fin : ∀ (h' : Heap) (tk : Nat), SetG (mixKind X.prog X.w) h' s.heap.objs.size (dedupK ks) → (∀ b o, s.heap.get? b = some o → h'.get? b = some o) → EP X pins σ Q (.ref s.heap.objs.size) { s with heap := h', toks := tk } := fun h' tk g k =>
    ⟨.ref _, _, I.laid (t' := tk) k (Nat.le_refl _) (setHO_new g), rfl, q _ (I.hok.fresh (Nat.le_refl _))⟩
  rcases hs with hs | hs
  · obtain ⟨its, rv, hl, _⟩ := I.list hs
    have hz : its.toArray.size = ks.length := by rw [List.size_toArray, ← rv.length, List.length_map]
    exact call_setG_list (knd := mixKind X.prog X.w) ks (I.ok.hd hc) hl.isList (fun i v e => valsK_at rv i v (by simpa using e)) hz room fin
  · obtain ⟨its, rv, hl, _⟩ := I.tuple hs
    have hz : its.toArray.size = ks.length := by rw [List.size_toArray, ← rv.length, List.length_map]
    exact call_setG_tuple (knd := mixKind X.prog X.w) ks (I.ok.hd hc) hl (fun i v e => valsK_at rv i v (by simpa using e)) hz room fin
def rSortG (P : Program) (w : World) : List V → Hp → VK → Prop := fun xs H Q => ∃ a ks, xs = [V.ref a] ∧ H a = some (SetHO P w a ks) ∧ oneK ks = true ∧ ∀ p, H p = none → Q (.ref p) (upd H p (.lst ((sortK ks).map kV)))
theorem key_rel {k : Key} {v : Value} (h : (mixKind X.prog X.w).is k v = true) : RelV (kV k) v := by
  rcases keyIs_shape h with ⟨i, t, rfl, rfl⟩ | ⟨x, t, rfl, rfl⟩
  · exact ⟨t, rfl⟩
  · exact ⟨t, rfl⟩
theorem key_reads {k : Key} {v : Value} (h : (mixKind X.prog X.w).is k v = true) (hp : Heap) : Reads hp v (keyPy k) [] := by
  rcases keyIs_shape h with ⟨i, t, rfl, rfl⟩ | ⟨x, t, rfl, rfl⟩
  · exact .int i t
  · exact .str x t
theorem one_alike {ks : List Key} (h : oneK ks = true) : PySem.W.AllAlike (ks.map keyPy) := by
  intro d hd d' hd'
  obtain ⟨a, ha, rfl⟩ := List.mem_map.mp hd
  obtain ⟨b, hb, rfl⟩ := List.mem_map.mp hd'
  obtain ⟨x, y⟩ := oneK_mem h ha hb
  cases a with
  | inl i => cases b with
    | inl j => simp [keyPy, PySem.W.alike]
    | inr j => exact absurd ⟨rfl, rfl⟩ (x i j)
  | inr i => cases b with
    | inr j => simp [keyPy, PySem.W.alike]
    | inl j => exact absurd ⟨rfl, rfl⟩ (y j i)
theorem key_sortable (ks : List Key) : PySem.W.Sortable (ks.map keyPy) := .others fun k => by cases k <;> exact ⟨nofun, nofun⟩
theorem perm_alike {ks ks' : List Key} (p : ks'.Perm ks) (h : PySem.W.AllAlike (ks.map keyPy)) : PySem.W.AllAlike (ks'.map keyPy) := fun d hd d' hd' => h d ((p.map keyPy).mem_iff.mp hd) d' ((p.map keyPy).mem_iff.mp hd')
theorem vals_each : ∀ {us : List Value} {ks : List Key}, PySem.W.EachIs (fun v k => RelV (kV k) v) us ks → Vals (ks.map kV) us
  | _, _, .nil => .nil
  | _, _, .cons a r => .cons a (vals_each r)
theorem cr_sortG (hc : X.calm = true) (hu : X.A.units + 64 < cLine) : CallR X (.builtin "sorted") (rSortG X.prog X.w) := by
  intro pins s σ H xs us Q I r h
  obtain ⟨a, ks, rfl, ha, ho, q⟩ := h
  obtain ⟨u, rfl, rx⟩ := vals1 r
  obtain rfl : u = Value.ref a := rx
  have R : SetG (mixKind X.prog X.w) s.heap a ks := (I.hok a _ ha).1
  refine setG_sorted (enc := keyPy) (Rb := fun v k => RelV (kV k) v) R (I.ok.hd hc) (fun k hk v h => ⟨key_rel h, key_reads h⟩) (fun ks' p => perm_alike p (one_alike ho)) (fun ks' _ => key_sortable ks') (fun k _ => ?_) fun s' p out c ks' pk k g o hp hg hz eo => ?_
  · have : (keyPy k).depth ≤ 1 := by cases k <;> simp [keyPy, PyData.depth]
    omega
  · have eo' := vals_each eo
    rw [show ks'.mergeSort (PySem.W.dataLe false keyPy) = sortK ks from (sortK_ms ks').symm.trans (sortK_perm ho pk)] at eo'
    have hlen : ((sortK ks).map kV).length ≤ sizeLine := by rw [eo'.length, Array.length_toList, hz]; exact fits_of_scanBound R.size
    have hn : H p = none := I.hok.fresh hp
    have J : Inv X pins σ (upd H p (.lst ((sortK ks).map kV))) { s with heap := s'.heap, gens := s'.gens, drawn := s'.drawn, toks := s'.toks } :=
      I.call (ch := []) (Un.laid k hp hn) (I.hok.laid k hp ⟨hlen, out.toList, c, eo', hg⟩) (by rw [g]; exact I.bare) (fun _ z => nomatch z)
    have e : s' = { s with heap := s'.heap, gens := s'.gens, drawn := s'.drawn, toks := s'.toks } := by
      cases s'; cases s; cases o; rfl
    rw [e]
    exact ⟨.ref p, _, J, rfl, q p hn⟩
def gSortSet (o : O) : Option O := match asQ o with
  | some xs => match keysO xs with
    | some ks => if (oneK (dedupK ks) && decide (ks.length + 1 < scanBound)) = true then some (.lst ((sortK (dedupK ks)).map fun k => .d (kD k))) else none
    | none => none
  | none => none
def cSortSet (fa : M (O × Option Nat)) : M O := bnd fa fun x => bnd (lift (gSortSet x.1)) fun r => bnd (rst x.2 x.1) fun _ => ret r
theorem keys_ro {K : PySem.W.Frag} {H : Hp} {F : Fp} : ∀ ks : List Key, ROs K H (ks.map fun k => .d (kD k)) (ks.map kV) F
  | [] => .nil
  | k :: ks => .cons nof nof (.d (kD_ok k)) (keys_ro ks) (fun _ z => z.elim) (fun _ z => z.elim) fun _ z _ => z
/-- sorted(set(e)) -/
theorem se_sortSet {e : Expr} {fa : M (O × Option Nat)} {p1 p2 pos1 pos2 : Pos} (hc : X.calm = true) (hu : X.A.units + 64 < cLine) (hg1 : Gl X "sorted") (hm1 : X.mg "sorted" = none) (hg2 : Gl X "set") (hm2 : X.mg "set" = none) (he : OE X e fa)
    (hs : starEach [e] X.env = (false, eval e X.env) :: starEach [] X.env := by rfl) (hs2 : starEach [.Call (.Name "set" p2) [e] [] pos2] X.env = (false, eval (.Call (.Name "set" p2) [e] [] pos2) X.env) :: starEach [] X.env := by rfl) :
    SE X (.Call (.Name "sorted" p1) [.Call (.Name "set" p2) [e] [] pos2] [] pos1) (cSortSet fa) := by
  refine PE.imp (pe_callB (cr_sortG hc hu) hg1 hm1 (by rfl) (pa_cons (pe_callTy (cr_setG hc) hg2 hm2 (by rfl) (pa_cons he pa_nil hs) (he := hs)) pa_nil hs2) (he := hs2)) fun σ H Q ⟨env, F, rel, h⟩ => ?_
  refine tOp_bind rel h fun x env1 v H1 F1 F2 ro a g1 h => ?_
  obtain ⟨r, e, h⟩ := h.lift
  unfold gSortSet at e
  split at e
  · rename_i xs hx
    split at e
    · rename_i ks hk
      split at e
      · rename_i c
        rw [Bool.and_eq_true, decide_eq_true_eq] at c
        cases e
        obtain ⟨b, vs, rfl, hs, rd⟩ := asQ_ok ro hx
        obtain rfl := keysO_ok rd hk
        refine ⟨b, ks, rfl, hs, c.2, fun p hp => ?_⟩
        refine ⟨p, dedupK ks, rfl, upd_same, c.1, fun l hl => ?_⟩
        have s1 : Step nof H1 (upd H1 p (SetHO X.prog X.w p (dedupK ks))) := .new hp
        have s2 : Step nof (upd H1 p (SetHO X.prog X.w p (dedupK ks))) (upd (upd H1 p (SetHO X.prog X.w p (dedupK ks))) l (.lst ((sortK (dedupK ks)).map kV))) := .new hl
        have st := s1.trans s2 fun _ z => z.elim
        obtain ⟨env2, rel2, h⟩ := rst_ok (a.rel.step st fun _ _ z => z) (ro.step st fun _ _ z => z) a.dj g1 h
        have hl1 : H1 l = none := s1.free hl
        refine h (.ref l) _ (fun z => z = l) _ (.lst upd_same rfl (keys_ro _)) rel2 (fun q m n => ?_) (a.st.trans st fun _ z => z.elim) fun q m => ?_
        · subst m
          rcases n with n | n
          · obtain ⟨o, eo⟩ := a.d1 _ n; rw [hl1] at eo; cases eo
          · obtain ⟨o, eo⟩ := a.d2 _ n; rw [hl1] at eo; cases eo
        · rcases m with m | m
          · subst m; exact .inr (a.st.free hl1)
          · exact a.sub q m
      · cases e
    · cases e
  · cases e
end
end TL

set_option maxHeartbeats 1000000
namespace TL
open PySem L2
section
variable {X : Cx}
/-- list(text) -/
def gListS : List O → Option O := g1 fun x => match x with
  | .d (.str z) => if z.cps.size ≤ sizeLine then some (.lst ((chars z).map O.d)) else none
  | _ => none
theorem signs_vals {z : Str} : ∀ {n : Nat} {us : List Value}, us.length = n → n ≤ z.cps.size → (∀ j v, us[j]? = some v → ∃ c u, z.cps.toList[z.cps.size - n + j]? = some c ∧ v = .str ⟨#[c]⟩ u) → Vals ((z.cps.toList.drop (z.cps.size - n)).map fun c => V.str ⟨#[c]⟩) us
  | 0, us, h, hn, k => by
    have : us = [] := List.eq_nil_of_length_eq_zero h
    subst this
    rw [List.drop_of_length_le (by rw [Array.length_toList]; omega)]
    exact .nil
  | n + 1, [], h, _, _ => by cases h
  | n + 1, u :: us, h, hn, k => by
    obtain ⟨c, t, e1, e2⟩ := k 0 u rfl
    rw [Nat.add_zero] at e1
    have e3 : z.cps.toList.drop (z.cps.size - (n + 1)) = c :: z.cps.toList.drop (z.cps.size - n) := by
      rw [List.drop_eq_getElem?_toList_append, e1]
      simp only [Option.toList_some, List.singleton_append]
      rw [show z.cps.size - (n + 1) + 1 = z.cps.size - n by omega]
    rw [e3]
    refine .cons ⟨t, e2⟩ (signs_vals (by simpa using h) (by omega) fun j v e => ?_)
    obtain ⟨c', t', a, b⟩ := k (j + 1) v (by simpa using e)
    exact ⟨c', t', by rw [← a]; congr 1; omega, b⟩
theorem chars_rd {K : PySem.W.Frag} {H : Hp} : ∀ l : List Nat, RDs K H (l.map fun c => .str ⟨#[c]⟩) (l.map fun c => V.str ⟨#[c]⟩)
  | [] => .nil
  | c :: l => .cons (.str _) (chars_rd l)
theorem cs_listS (hc : X.calm = true) : CallS X (.type "list") gListS := by
  intro pins s σ H xs us os o F I rv r e
  obtain ⟨x, v, G, rfl, rfl, h, q⟩ := g1_of r e
  obtain ⟨u, rfl, rx⟩ := vals1 rv
  split at q
  · rename_i z
    split at q
    · rename_i hz
      cases q
      cases h.od
      obtain ⟨t, rfl⟩ := rx
      refine PySem.call_list_str (I.ok.hd hc) z t (fun h' tk acc c k e1 it => ?_) hz
      have hv : Vals (z.cps.toList.map fun c => V.str ⟨#[c]⟩) acc.toList := by
        have q := signs_vals (z := z) (n := z.cps.size) (us := acc.toList) (by rw [Array.length_toList]; exact it.1) (Nat.le_refl _) fun j v e => by
          obtain ⟨c, u, a, b⟩ := it.2 j v (by rw [← Array.getElem?_toList]; exact e)
          exact ⟨c, u, by rw [Nat.sub_self, Nat.zero_add, Array.getElem?_toList]; exact a, b⟩
        rw [Nat.sub_self, List.drop_zero] at q
        exact q
      have hl : (z.cps.toList.map fun c => V.str ⟨#[c]⟩).length ≤ sizeLine := by rw [List.length_map, Array.length_toList]; exact hz
      have hf := I.hok.fresh (Nat.le_refl s.heap.objs.size)
      have J := I.laid (a := s.heap.objs.size) (o := .lst (z.cps.toList.map fun c => V.str ⟨#[c]⟩)) (h' := h') (t' := tk) k (Nat.le_refl _) ⟨hl, acc.toList, c, hv, e1⟩
      exact ⟨.ref _, _, J, rfl, fun y => y = s.heap.objs.size, .lst upd_same rfl (chars_rd _).os, .new hf, fun y e => .inr (e ▸ hf)⟩
    · cases q
  · cases q
end
end TL

set_option maxHeartbeats 1000000
namespace TL
open PySem L2 PySem.Spec PyProof.Rows
section
variable {X : Cx}
/-! ### the operators in short -/
theorem os_add : OpS X (binaryOp .Add) gAdd := (os_int0 op_add).or ((OpS.of op_add_str fun H x y ox oy F G o r1 r2 e => by
    obtain ⟨i, j, d, rfl, rfl, q, rfl⟩ := gS_of r1 r2 e
    split at q
    · rename_i c; cases q; exact ⟨i, j, rfl, rfl, c, .d (.str _)⟩
    · cases q).or (os_catL.or os_catT))
def gSub : O → O → Option O := gI fun i j => some (.int (i - j))
theorem os_sub : OpS X (binaryOp .Sub) gSub := os_int0 op_sub
def gMul : O → O → Option O := orO (gI fun i j => if CMulW i j then some (.int (i * j)) else none) gMulS
theorem os_mul : OpS X (binaryOp .Mult) gMul := (os_int op_mulW).or os_mulS
def gMod : O → O → Option O := gI fun i j => if 0 < j then some (.int (i % j)) else none
theorem os_mod : OpS X (binaryOp .Mod) gMod := os_int op_mod
def gDiv : O → O → Option O := gI fun i j => if CDivW i j then some (.int (i / j)) else none
theorem os_div : OpS X (binaryOp .FloorDiv) gDiv := os_int op_fdivW
def gPow : O → O → Option O := gI fun i j => if CPowW i j then some (.int (i ^ j.toNat)) else none
theorem os_pow : OpS X (binaryOp .Pow) gPow := os_int op_powW
def gIn (neg : Bool) : O → O → Option O := orO (gInS neg) (gInD neg)
theorem os_in (hu : X.A.units + 64 < cLine) : OpS X (compareOp .In) (gIn false) := os_inS.or (os_inD' (by omega) false)
theorem os_notIn (hu : X.A.units + 64 < cLine) : OpS X (compareOp .NotIn) (gIn true) := os_notInS.or (os_inD' (by omega) true)
def gListA : List O → Option O := orC gListS gList
theorem cs_listA (hc : X.calm = true) : CallS X (.type "list") gListA := (cs_listS hc).or cs_list
theorem is_ix' (hu : X.A.units + 64 < cLine) : IxS X gIx := is_ix (by omega)
theorem ss_uSet' (hu : X.A.units + 64 < cLine) : SetS X uSet := ss_uSet (by omega)
/-! ### methods in short -/
theorem se_join {o e : Expr} {apos cpos : Pos} {fr : M (O × Option Nat)} {fa : M (List (O × Option Nat))} (ho : OE X o fr) (ha : AO X [e] fa)
    (hbase : attributeBase o "join" X.env (eval o X.env) = eval o X.env := by rfl)
    (hfew : ((backTo cpos (starEach [e] X.env)).all (fun x => !x.1) && (backToKw cpos (keywordEach [] X.env)).all (fun x => x.1.isSome) && decide ([e].length + ([] : List Keyword).length + (if ([] : List Keyword).isEmpty then 0 else 1) < 30)) = true := by rfl)
    (hline : (apos.endLine == cpos.line) = true := by rfl) (hs : starEach [e] X.env = (false, eval e X.env) :: starEach [] X.env := by rfl) : SE X (.Call (.Attribute o "join" apos) [e] [] cpos) (cMt "str" gJoin fr fa) :=
  se_mt (by decide) PySem.F.plainAttrs_str PySem.F.slot_str_join PySem.F.type_str_join ms_join ho ha hbase hfew hline hs
theorem se_append {o e : Expr} {apos cpos : Pos} {fr : M (O × Option Nat)} {fa : M (List O)} (ho : OE X o fr) (ha : AE X [e] fa)
    (hbase : attributeBase o "append" X.env (eval o X.env) = eval o X.env := by rfl)
    (hfew : ((backTo cpos (starEach [e] X.env)).all (fun x => !x.1) && (backToKw cpos (keywordEach [] X.env)).all (fun x => x.1.isSome) && decide ([e].length + ([] : List Keyword).length + (if ([] : List Keyword).isEmpty then 0 else 1) < 30)) = true := by rfl)
    (hline : (apos.endLine == cpos.line) = true := by rfl) (hs : starEach [e] X.env = (false, eval e X.env) :: starEach [] X.env := by rfl) : SE X (.Call (.Attribute o "append" apos) [e] [] cpos) (cMu "list" uAppend fr fa) :=
  se_mu (by decide) PySem.F.plainAttrs_list PySem.F.slot_list_append PySem.F.type_list_append mu_append ho ha hbase hfew hline hs
theorem se_pop1 {o e : Expr} {apos cpos : Pos} {fr : M (O × Option Nat)} {fa : M (List O)} (ho : OE X o fr) (ha : AE X [e] fa)
    (hbase : attributeBase o "pop" X.env (eval o X.env) = eval o X.env := by rfl)
    (hfew : ((backTo cpos (starEach [e] X.env)).all (fun x => !x.1) && (backToKw cpos (keywordEach [] X.env)).all (fun x => x.1.isSome) && decide ([e].length + ([] : List Keyword).length + (if ([] : List Keyword).isEmpty then 0 else 1) < 30)) = true := by rfl)
    (hline : (apos.endLine == cpos.line) = true := by rfl) (hs : starEach [e] X.env = (false, eval e X.env) :: starEach [] X.env := by rfl) : SE X (.Call (.Attribute o "pop" apos) [e] [] cpos) (cMu "list" uPop fr fa) :=
  se_mu (by decide) PySem.F.plainAttrs_list PySem.F.slot_list_pop PySem.F.type_list_pop mu_pop ho ha hbase hfew hline hs
theorem se_pop0 {o : Expr} {apos cpos : Pos} {fr : M (O × Option Nat)} (ho : OE X o fr)
    (hbase : attributeBase o "pop" X.env (eval o X.env) = eval o X.env := by rfl) (hline : (apos.endLine == cpos.line) = true := by rfl) : SE X (.Call (.Attribute o "pop" apos) [] [] cpos) (cMu "list" uPop fr nilM) :=
  se_mu0 (by decide) PySem.F.plainAttrs_list PySem.F.slot_list_pop PySem.F.type_list_pop mu_pop ho hbase hline
end
section
variable {X : Cx}
/-! ### a changing method of a name: its arguments may still read it -/
def peek (T : String) (i : Nat) : M Unit := fun e => match e[i]? with
  | some (some o) => if tyO o = some T then some ((), e) else none
  | _ => none
def cMuN (T : String) (g : O → List O → Option (O × O)) (i : Nat) (fa : M (List O)) : M O :=
  bnd (peek T i) fun _ => bnd fa fun os e => match e[i]? with
    | some (some o) => bnd (lift (g o os)) (fun r => bnd (rst (some i) r.2) fun _ => TL.ret r.1) (e.set i none)
    | _ => none
theorem se_muN {x : Str} {px : Pos} {e : Expr} {es : List Expr} {name : Str} {apos cpos : Pos} {T id : String} {g : O → List O → Option (O × O)} {fa : M (List O)} (i : Nat) (hT : T ∈ ["str", "list", "dict"]) (pa : PlainAttrs T) (slot : Slot T name id) (hty : typeOf (.builtin id) = pure (.type "method_descriptor")) (hm : MuS X id g) (ha : AE X (e :: es) fa)
    (hN : X.N[i]? = some x) (hv : Vis X.env.scope x) (hd : (x == ("__debug__" : Str)) = false) (hcd : (x == ("__classdict__" : Str)) = false)
    (hbase : attributeBase (.Name x px) name X.env (eval (.Name x px) X.env) = eval (.Name x px) X.env)
    (hfew : ((backTo cpos (starEach (e :: es) X.env)).all (fun x => !x.1) && (backToKw cpos (keywordEach [] X.env)).all (fun x => x.1.isSome)
      && decide ((e :: es).length + ([] : List Keyword).length + (if ([] : List Keyword).isEmpty then 0 else 1) < 30)) = true)
    (hline : (apos.endLine == cpos.line) = true) (hs : starEach (e :: es) X.env = (false, eval e X.env) :: starEach es X.env) (hplain : (backTo cpos (starEach es X.env)).any (·.1) = false) :
    SE X (.Call (.Attribute (.Name x px) name apos) (e :: es) [] cpos) (cMuN T g i fa) :=
  PE.imp (pe_bmG pa slot hty hm.rule (pe_var hN hv hd hcd) ha hbase hfew hline hs hplain) fun σ H Q ⟨env, F, rel, h⟩ => by
    have h := h.bnd
    unfold peek at h
    split at h
    · rename_i o e0
      split at h
      · rename_i ht
        obtain ⟨v, F1, F2, e1, r, rel', a, b, d⟩ := rel.take e0
        refine ⟨v, e1, tyB_of r ht hT, ?_⟩
        refine tLf_bind rel h fun os env2 us H2 F3 F4 ro2 b h => ?_
        split at h
        · rename_i o2 e2
          obtain ⟨v2, G1, G2, q1, r2, rel2, a2, b2, d2⟩ := b.rel.take e2
          rw [e1] at q1
          cases q1
          have m1 : Dom G1 H2 := fun x p => b.d2 x (a2 x p)
          exact mu_end (x := (o2, some i)) r2 ro2 rel2 (fun x p q => b.dj x q (a2 x p)) d2 (fun x p q => b.dj x p (b2 x q)) m1 b.d1 (fun x p => b.d2 x (b2 x p)) b.st (fun x p => b.sub x (p.elim (fun p => .inr (a2 x p)) fun p => p.elim .inl fun p => .inr (b2 x p)))
            (fun j z => by cases z; exact e1) h
        · exact h.elim
      · exact h.elim
    · exact h.elim
theorem se_appendN {x : Str} {px : Pos} {e : Expr} {apos cpos : Pos} {fa : M (List O)} (i : Nat) (ha : AE X [e] fa)
    (hN : X.N[i]? = some x := by rfl) (hv : Vis X.env.scope x := by first | exact Or.inl rfl | exact Or.inr (Or.inl rfl) | exact Or.inr (Or.inr rfl)) (hd : (x == ("__debug__" : Str)) = false := by decide) (hcd : (x == ("__classdict__" : Str)) = false := by decide)
    (hbase : attributeBase (.Name x px) "append" X.env (eval (.Name x px) X.env) = eval (.Name x px) X.env := by rfl)
    (hfew : ((backTo cpos (starEach [e] X.env)).all (fun x => !x.1) && (backToKw cpos (keywordEach [] X.env)).all (fun x => x.1.isSome) && decide ([e].length + ([] : List Keyword).length + (if ([] : List Keyword).isEmpty then 0 else 1) < 30)) = true := by rfl)
    (hline : (apos.endLine == cpos.line) = true := by rfl) (hs : starEach [e] X.env = (false, eval e X.env) :: starEach [] X.env := by rfl) : SE X (.Call (.Attribute (.Name x px) "append" apos) [e] [] cpos) (cMuN "list" uAppend i fa) :=
  se_muN i (by decide) PySem.F.plainAttrs_list PySem.F.slot_list_append PySem.F.type_list_append mu_append ha hN hv hd hcd hbase hfew hline hs rfl
theorem se_popN {x : Str} {px : Pos} {e : Expr} {apos cpos : Pos} {fa : M (List O)} (i : Nat) (ha : AE X [e] fa)
    (hN : X.N[i]? = some x := by rfl) (hv : Vis X.env.scope x := by first | exact Or.inl rfl | exact Or.inr (Or.inl rfl) | exact Or.inr (Or.inr rfl)) (hd : (x == ("__debug__" : Str)) = false := by decide) (hcd : (x == ("__classdict__" : Str)) = false := by decide)
    (hbase : attributeBase (.Name x px) "pop" X.env (eval (.Name x px) X.env) = eval (.Name x px) X.env := by rfl)
    (hfew : ((backTo cpos (starEach [e] X.env)).all (fun x => !x.1) && (backToKw cpos (keywordEach [] X.env)).all (fun x => x.1.isSome) && decide ([e].length + ([] : List Keyword).length + (if ([] : List Keyword).isEmpty then 0 else 1) < 30)) = true := by rfl)
    (hline : (apos.endLine == cpos.line) = true := by rfl) (hs : starEach [e] X.env = (false, eval e X.env) :: starEach [] X.env := by rfl) : SE X (.Call (.Attribute (.Name x px) "pop" apos) [e] [] cpos) (cMuN "list" uPop i fa) :=
  se_muN i (by decide) PySem.F.plainAttrs_list PySem.F.slot_list_pop PySem.F.type_list_pop mu_pop ha hN hv hd hcd hbase hfew hline hs rfl
end
section
variable {X : Cx} {fx : Nat → Bool}
/-! ### (a, b, ..) = a tuple or a list -/
theorem PG.or {e : Expr} {t t' : TG} (h : PG X e t) (h' : PG X e t') : PG X e (fun v σ H Q => t v σ H Q ∨ t' v σ H Q) := ⟨fun pins s σ H v u Q I r q => q.elim (h.run pins s σ H v u Q I r) (h'.run pins s σ H v u Q I r)⟩
def unpG (gs : Gs) : G := fun o e => match asQ o with
  | some xs => gs xs e
  | none => none
theorem tg_unp {es : List Expr} {k : Nat} {gs : Gs} {pos : Pos} {n : Nat} (hc : X.calm = true) (h : TGs' X fx es gs) (hl : ∀ xs e e', gs xs e = some e' → xs.length = n) (hn : (assignEach es X.env).length = n := by rfl) (hst : (assignEach es X.env).findIdx? (·.1) = none := by rfl) : TG' X fx (.Tuple es k pos) (unpG gs) :=
  PG.imp (PG.or (pg_tup hc h hn hst) (pg_unl hc h hn hst)) fun v σ H Q ⟨o, env, F1, F2, ro, rel, d, env', e, kk⟩ => by
    unfold unpG at e
    split at e
    · rename_i xs hx
      have fin : ∀ {vs : List V}, RDs X.K H xs vs → tGs X fx gs vs σ H Q := fun {vs} rd => ⟨xs, env, F2, rd, rel, env', e, fun σ' H' F' rel' fi st sub => kk σ' H' F' rel' fi (st.mono fun x p => .inl (.inr p)) fun x p => (sub x p).imp .inr id⟩
      obtain ⟨a, vs, rfl, hs, rd⟩ := asQ_ok ro hx
      rcases hs with hs | hs
      · exact .inr ⟨a, vs, rfl, hs, by rw [← rd.length]; exact hl _ _ _ e, fin rd⟩
      · exact .inl ⟨a, vs, rfl, hs, by rw [← rd.length]; exact hl _ _ _ e, fin rd⟩
    · cases e
end
/-! ### defs of a text -/
/-- a constant of the module -/
def ConAt (K : PySem.W.Frag) (mg : Str → Option Value) (x : Str) (d : D) : Prop := ∃ u v, mg x = some u ∧ RelV v u ∧ ∀ H, RD K H d v
theorem se_gl {X : Cx} {x : Str} {d : D} {pos : Pos} (h : ConAt X.K X.mg x d) (hg : Gl X x := by rfl) (hb : (x == ("__debug__" : Str)) = false := by decide) : SE X (.Name x pos) (con d) := by
  obtain ⟨u, v, hm, r, hd⟩ := h
  exact se_glob hg hm r hd hb
theorem own_cx {CX : CXT} {P : Program} {w : World} {K : PySem.W.Frag} {mg : Str → Option Value} {base : Heap} {N : List Str} {qual : Str} {scope : Scope} {f : Addr} {cd : Value} {A : Around} {outer : List PySem.Env} {s : Shared} {H : Hp} {E : XK} :
    PassesOwn (model (cxOf CX P w K mg base N qual scope f cd A outer s H E).prog (cxOf CX P w K mg base N qual scope f cd A outer s H E).w) (cxOf CX P w K mg base N qual scope f cd A outer s H E).A (cxOf CX P w K mg base N qual scope f cd A outer s H E).env (cxOf CX P w K mg base N qual scope f cd A outer s H E).xe :=
  passes_of (K := fun e s'' => CX outer H s E e s'') rfl
/-- the def x of the text is known -/
def FnAt (K : PySem.W.Frag) (mg : Str → Option Value) (x : Str) (st : Stmt) : Prop := ∃ f fd, mg x = some (.ref f) ∧ L2.Fun K x x st f fd
/-- .. and does what g tells -/
def OkF (P : Program) (w : World) (K : PySem.W.Frag) (mg : Str → Option Value) (base : Heap) (k : Nat) (x : Str) (ps : List Str) (g : List O → Option (O × Env)) : Prop :=
  ∃ f fd, mg x = some (.ref f) ∧ PySem.W.keepIn K (.ref f) = true ∧ Binds K fd ps [] ∧ FnG P w K mg base NoX k f fd ps (spG K g)
def fxL (l : List Nat) : Nat → Bool := fun i => l.contains i
section
variable {P : Program} {w : World} {K : PySem.W.Frag} {mg : Str → Option Value} {base : Heap}
theorem okf_mk {k : Nat} {x : Str} {st : Stmt} {N ps : List Str} {fx : Nat → Bool} {g : S} (n m : Nat) (F : FnAt K mg x st) (sc : FnScope N ps (defScope st)) (hn : ps.length = n) (hm : N.length = m)
    (hb : ∀ (kV doc pm : Value) (an : Option Addr) (cdv ct : Value) (us : List Value), us.length = ps.length → bindArgs (PySem.W.fnOf x x (defArgs st) (defBody st) (defScope st) .none kV doc pm an cdv ct) ⟨us, []⟩ = pure (ps.zip us))
    (hbody : ∀ (f : Addr) (cdv : Value) (A : Around) (outer : List PySem.Env) (s : Shared) (H : Hp) (E : XK), Room k (A.deeper (envOfC x (defScope st) s.heap.objs.size f cdv)) → (A.deeper (envOfC x (defScope st) s.heap.objs.size f cdv)).guards = some [] →
      SB (cxOf NoX P w K mg base N x (defScope st) f cdv A outer s H E) fx (defBody st) g) : OkF P w K mg base (k + 1) x ps (fnG n m fx g) := by
  obtain ⟨f, fd, hf, ⟨oc, od, kV, doc, pm, an, cdv, ct, osl, rfl, lk, hcd⟩, kp⟩ := F
  exact ⟨f, _, hf, kp, Binds.all (hb kV doc pm an cdv ct), fng_body n m lk hcd sc hn hm fun A outer s H E hr hgd => hbody f cdv A outer s H E hr hgd⟩
end
section
variable {X : Cx}
theorem se_ok {j : Nat} {x : Str} {ps : List Str} {p pos : Pos} {e : Expr} {es : List Expr} {g : List O → Option (O × Env)} {fa : M (List (O × Option Nat))} (h : OkF X.prog X.w X.K X.mg X.base j x ps g) (hr : Room j X.A) (hgd : X.A.guards = some [])
    (ha : AO X (e :: es) fa) (hg : Gl X x := by rfl) (hdb : (x == ("__debug__" : Str)) = false := by decide) (he : starEach (e :: es) X.env = (false, eval e X.env) :: starEach es X.env := by rfl) (hpl : (backTo pos (starEach es X.env)).any (·.1) = false := by rfl) :
    SE X (.Call (.Name x p) (e :: es) [] pos) (cFn g fa) := by
  obtain ⟨f, fd, hm, hk, hb, F⟩ := h
  exact se_fn (E := fun _ _ _ => False) F hr hgd hg hm hk hb noX_passes ha hdb he hpl
theorem se_ok0 {j : Nat} {x : Str} {ps : List Str} {p pos : Pos} {g : List O → Option (O × Env)} (h : OkF X.prog X.w X.K X.mg X.base j x ps g) (hr : Room j X.A) (hgd : X.A.guards = some [])
    (hg : Gl X x := by rfl) (hdb : (x == ("__debug__" : Str)) = false := by decide) : SE X (.Call (.Name x p) [] [] pos) (cFn g nilO) := by
  obtain ⟨f, fd, hm, hk, hb, F⟩ := h
  exact se_fn0 (E := fun _ _ _ => False) F hr hgd hg hm hk hb noX_passes hdb
end
end TL

set_option maxHeartbeats 1000000
namespace TL
open PySem L2 PySem.Spec PyProof.Rows
theorem ints_rd {K : PySem.W.Frag} {H : Hp} : ∀ ns : List Int, RDs K H (ns.map D.int) (ns.map V.int)
  | [] => .nil
  | n :: ns => .cons (.int n) (ints_rd ns)
theorem scr_of {K : PySem.W.Frag} {H : Hp} {a : Addr} {ns : List Int} (hO : L2.Only H) (hS : SqL K H a (ns.map V.int)) : RD K H (.scr (ns.map D.int)) (.ref a) := by
  refine .scr ?_ (ints_rd ns)
  rcases hS with (h | ⟨o, h⟩) | h
  · rcases hO a with z | ⟨o, xs, z⟩
    · rw [h] at z; cases z
    · rw [h] at z; cases z
  · exact .inl ⟨o, h⟩
  · exact .inr h
/-- the call of the law at a heap in which nothing but the script is tracked -/
theorem law_core {P : Program} {w : World} {K : PySem.W.Frag} {mg mb : Str → Option Value} {k : Nat} {fa a : Addr} {x : Str} {sp : Sp} {s₁ : Shared} {vs : List Value} {ns : List Int} {H : Hp}
    (KX : K.In s₁.heap) (hns : s₁.heap.Ns mainGlobals mg) (hb : s₁.heap.Ns builtinsNs mb) (hbb : ∀ x : Str, x ≠ "__name__" → mb x = bootBuiltins x) (hlim : s₁.heap.NoLimit) (hg : s₁.gens = #[])
    (ha : s₁.heap.get? a = some { cls := .type "list", data := .seq vs.toArray }) (hr : Room k callerA)
    (F : ∀ base : Heap, K.In base → base.Ns mainGlobals mg → ∃ fd : FuncData, Binds K fd [x] [] ∧ FnG P w K mg base NoX k fa fd [x] sp)
    (hO : L2.Only H) (hS : SqL K H a (ns.map V.int)) (hok : HOk P w H s₁.heap) (hA : ∀ b, H b ≠ none → b = a) (hK : H a ≠ none → K.lookup a = none)
    (hsp : sp [.ref a] H (fun v _ => v = .bl true) fun _ _ _ => False) :
    codeAny (model P w) callerA (.call (.ref fa) ⟨[.ref a], []⟩) (fun r s' => r = .ok (.ret (.bool true)) ∧ OldK s₁.heap s'.heap ∧ s'.os = s₁.os ∧ AllBare s'.gens) s₁ := by
  have is_a : ∀ {b : Addr} {u : HO}, H b = some u → b = a := fun {b u} q => hA b (by rw [q]; simp)
  have nod : ∀ {b : Addr} {o : Obj} {es : Array DictEntry} {ep : Nat}, s₁.heap.get? b = some o → o.data = .dict es ep → H b = none := fun {b o es ep} e d => by
    cases q : H b with
    | none => rfl
    | some u =>
      have z := is_a q
      subst z
      rw [ha] at e; cases e
      have d' : Data.seq vs.toArray _ = Data.dict es ep := d
      cases d'
  have nsK : ∀ {b : Addr} {m : Str → Option Value}, s₁.heap.Ns b m → (hidT s₁.heap H).Ns b m := fun {b m} ⟨o, es, ep, e, d, r⟩ => ⟨o, es, ep, hidT_get e (nod e d), d, r⟩
  have hKb : K.In (hidT s₁.heap H) := fun b o e => hidT_get (KX b o e) (by
    cases q : H b with
    | none => rfl
    | some u =>
      have z := is_a q
      subst z
      rw [hK (by rw [q]; simp)] at e; cases e)
  have hM : Mod K mg (hidT s₁.heap H) := ⟨hKb, nsK hns, ⟨mb, nsK hb, hbb⟩, let ⟨mc, h1, h2⟩ := hlim; ⟨mc, nsK h1, h2⟩⟩
  have e0 : Env0 P w K mg (hidT s₁.heap H) callerA [] s₁ H := ⟨rfl, hM, fun b o e => of_hidT e, Nat.le_of_eq (hidT_size _ _), trivial, fun b hb => (nomatch (show b ∈ ([] : List Addr) from hb)), hok, .of_eq hg⟩
  obtain ⟨fd, hbind, FF⟩ := F _ hKb (nsK hns)
  refine codeAny_mono (FF.run callerA [] s₁ H ⟨[.ref a], []⟩ [.ref a] [.ref a] _ _ hr rfl e0 (hbind s₁ [.ref a] KX rfl) (.cons rfl .nil) hsp) fun r s' h => ?_
  cases r with
  | error e => exact (show False from h).elim
  | ok fl =>
    cases fl with
    | next => exact False.elim h
    | brk => exact False.elim h
    | cont => exact False.elim h
    | ret u =>
      obtain ⟨v, H', os, bare, un, hok', r', q⟩ := h
      have q' : v = .bl true := q
      subst q'
      obtain rfl : u = Value.bool true := r'
      refine ⟨rfl, OldK.of_keep fun b o e => ?_, os, bare⟩
      cases q : H b with
      | none => exact un.keep b o e q (fun z => (nomatch (show b ∈ ([] : List Addr) from z))) (by simp)
      | some u =>
        rcases hO b with z | ⟨ob, xs, z⟩
        · rw [q] at z; cases z
        · have z2 := un.frzs b ob _ z
          obtain ⟨e1, _⟩ := hok b _ z
          obtain ⟨e2, _⟩ := hok' b _ z2
          rw [e] at e1; cases e1
          exact e2
theorem law_callG {P : Program} {w : World} {K : PySem.W.Frag} {mg mb : Str → Option Value} {k : Nat} {fa a : Addr} {x : Str} {sp : Sp} {s₁ : Shared} {vs : List Value} {ns : List Int}
    (KX : K.In s₁.heap) (hns : s₁.heap.Ns mainGlobals mg) (hb : s₁.heap.Ns builtinsNs mb) (hbb : ∀ x : Str, x ≠ "__name__" → mb x = bootBuiltins x) (hlim : s₁.heap.NoLimit) (hg : s₁.gens = #[])
    (ha : s₁.heap.get? a = some { cls := .type "list", data := .seq vs.toArray }) (hi : IntsAre vs ns) (hl : ns.length ≤ sizeLine) (hr : Room k callerA)
    (F : ∀ base : Heap, K.In base → base.Ns mainGlobals mg → ∃ fd : FuncData, Binds K fd [x] [] ∧ FnG P w K mg base NoX k fa fd [x] sp)
    (hsp : ∀ H : Hp, L2.Only H → SqL K H a (ns.map V.int) → sp [.ref a] H (fun v _ => v = .bl true) fun _ _ _ => False) :
    codeAny (model P w) callerA (.call (.ref fa) ⟨[.ref a], []⟩) (fun r s' => r = .ok (.ret (.bool true)) ∧ OldK s₁.heap s'.heap ∧ s'.os = s₁.os ∧ AllBare s'.gens) s₁ := by
  have rv := vals_ints hi
  have lenV := hi.length
  cases hk : K.lookup a with
  | some o =>
    have e := KX a o hk
    rw [ha] at e
    cases e
    have hO : L2.Only fun _ => none := fun _ => .inl rfl
    have hS : SqL K (fun _ => none) a (ns.map V.int) := .inr ⟨_, vs.toArray, _, hk, rfl, rfl, rfl, by rw [List.size_toArray, lenV]; exact hl, by simpa using rv⟩
    exact law_core KX hns hb hbb hlim hg ha hr F hO hS (fun b u z => by have z' : (none : Option HO) = some u := z; cases z') (fun b z => absurd rfl z) (fun z => absurd rfl z) (hsp _ hO hS)
  | none =>
    let H : Hp := fun b => if b = a then some (.frz { cls := .type "list", data := .seq vs.toArray } (.lst (ns.map V.int))) else none
    have hH : H a = some (.frz { cls := .type "list", data := .seq vs.toArray } (.lst (ns.map V.int))) := if_pos rfl
    have hN : ∀ b, b ≠ a → H b = none := fun b h => if_neg h
    have hO : L2.Only H := fun b => by
      by_cases h : b = a
      · subst h; exact .inr ⟨_, _, hH⟩
      · exact .inl (hN b h)
    have hS : SqL K H a (ns.map V.int) := .inl (.inr ⟨_, hH⟩)
    refine law_core KX hns hb hbb hlim hg ha hr F hO hS (fun b u z => ?_) (fun b z => ?_) (fun _ => hk) (hsp _ hO hS)
    · by_cases h : b = a
      · subst h
        rw [hH] at z; cases z
        exact ⟨ha, by rw [List.length_map]; exact hl, vs, _, rv, ha⟩
      · rw [hN b h] at z; cases z
    · exact Classical.byContradiction fun h => z (hN b h)
/-- a law's walk, from its function over places -/
theorem walk_G {l : PySem.W.OpenLaw} {n k : Nat} {q : Program} {loose : List Str} {XP : (Str → Option Value) → Heap → Prop} {YP : World → Heap → Prop} {d : DefRec} {x : Str} {g : List O → Option (O × Env)}
    (hn : l.most = some n) (hn2 : n ≤ sizeLine) (hdf : d.params.defaults = []) (hr : Room k callerA)
    (F : ∀ (w : World) (mg : Str → Option Value) (h : Heap), YP w h → h.Ns mainGlobals mg → ∃ K : PySem.W.Frag, K.In h ∧ ∀ base : Heap, K.In base → base.Ns mainGlobals mg → OkF l.prog w K mg base k d.name [x] g)
    (law : ∀ ns : List Int, ns.length ≤ n → (∀ z ∈ ns, Builtin.Int.intBits z ≤ 1048576) → ∃ e, g [.d (.scr (ns.map D.int))] = some (.d (.bl true), e)) :
    PySem.W.WalkO q loose XP YP l.row.toRowW d [] (fun f vs => PySem.call f vs) := by
  refine Att.attach_callB hn hdf fun w s₀ s₁ mg mb fa o pm cd doc a vs ns G Y ho hd hcd hmg hobj hints hlen hbits hg => ?_
  obtain ⟨K, KX, hF⟩ := F w mg _ Y G.T.g
  obtain ⟨e, hlaw⟩ := law ns hlen hbits
  refine law_callG (x := x) (sp := spG K g) KX G.T.g G.T.b G.T.builtins G.T.nolimit hg hobj hints (Nat.le_trans hlen hn2) hr (fun base h1 h2 => ?_) fun H hO hS => ?_
  · obtain ⟨f, fd, hf, _, hb, F2⟩ := hF base h1 h2
    obtain rfl : fa = f := by rw [hmg] at hf; cases hf; rfl
    exact ⟨fd, hb, F2⟩
  · exact ⟨[.d (.scr (ns.map D.int))], nof, _, e, .cons nof nof (.d (scr_of hO hS)) .nil (fun _ z => z) (fun _ z => z) (fun _ z _ => z), hlaw, fun z H' F1 F2 rz _ _ _ _ => by cases rz.od; rfl⟩
end TL

set_option maxHeartbeats 1000000
namespace TL
open PySem L2

section
variable {X : Cx}
/-! ### d.values(), d.items(), enumerate(xs) -/
def valsD : O → Option (List D)
  | .d (.dct m) => some (m.map (·.2))
  | _ => none
def itemsD : O → Option (List D)
  | .d (.dct m) => some (pairs (m.map fun p => kD p.1) (m.map (·.2)))
  | _ => none
def cItB (g : O → Option (List D)) (f : M (O × Option Nat)) : M (List D × (O × Option Nat)) := bnd f fun x => bnd (lift (g x.1)) fun ds => ret (ds, x)
theorem keys_rd {K : PySem.W.Frag} {H : Hp} : ∀ {m : List (Key × D)} {kvs : List (Key × V)}, kvs.map (·.1) = m.map (·.1) → RDs K H (m.map fun p => kD p.1) (kvs.map fun p => kV p.1)
  | [], [], _ => .nil
  | [], _ :: _, e => by cases e
  | _ :: _, [], e => by cases e
  | (k, x) :: m, (k', v) :: kvs, e => by
    simp only [List.map_cons, List.cons.injEq] at e
    obtain ⟨e1, e2⟩ := e
    subst e1
    exact .cons (kD_ok _) (keys_rd e2)
theorem dct_st {o : O} {v : V} {H : Hp} {Fh : Fp} {m : List (Key × D)} (r : RO X.K H o v Fh) (e : o = .d (.dct m)) : ∃ a ob kvs, v = .ref a ∧ H a = some (.frz ob (.dK kvs)) ∧ kvs.map (·.1) = m.map (·.1) ∧ RDs X.K H (m.map (·.2)) (kvs.map (·.2)) := by
  subst e
  cases r.od with
  | @dct a ob kvs _ h e2 r2 => exact ⟨a, ob, kvs, rfl, h, e2, r2⟩
def dctG (K : PySem.W.Frag) (b : Addr) (ob : Obj) (kvs : List (Key × V)) (m : List (Key × D)) : Hp → Prop := fun H => H b = some (.frz ob (.dK kvs)) ∧ RDs K H (m.map Prod.snd) (kvs.map Prod.snd)
theorem dctG_st {b : Addr} {ob : Obj} {kvs : List (Key × V)} {m : List (Key × D)} {Fh : Fp} : Stable Fh (dctG X.K b ob kvs m) := fun H1 H2 F' g s _ => ⟨s.pers _ _ g.1 fun z => z, g.2.keep s.pers⟩
theorem ie_values {tg e : Expr} {f : M (O × Option Nat)} {apos cpos : Pos} (he : OE X e f) (hbase : attributeBase e "values" X.env (eval e X.env) = eval e X.env := by rfl) (hline : (apos.endLine == cpos.line) = true := by rfl) : IE X tg (.Call (.Attribute e "values" apos) [] [] cpos) (cItB valsD f) :=
  PI.imp (pi_values he hbase hline) fun σ H R ⟨env, F, rel, h⟩ => by
    refine tOp_bind rel h fun x env1 v H1 F1 F2 ro a g1 h => ?_
    obtain ⟨ds, e, h⟩ := h.lift
    unfold valsD at e
    split at e
    · rename_i m q
      cases e
      obtain ⟨b, ob, kvs, rfl, hb, ek, rd⟩ := dct_st ro q
      refine ⟨b, ob, kvs, rfl, hb, h _ H1 (.ref b) F1 F2 (dctG X.K b ob kvs m) ro g1 ⟨fun i H x H' => H' = H ∧ ∃ k, kvs[i]? = some (k, x), ?_, fun i H x H' hi g y => ?_⟩ ⟨hb, rd⟩ dctG_st a.rel a.dj a.st a.sub a.d1⟩
      · have hl : (m.map (·.2)).length = kvs.length := by have := rd.length; simpa using this
        rw [hl]
        exact walk_values.mono (fun _ h => h.1) fun _ _ _ _ _ _ h => h
      · obtain ⟨e, k, hk⟩ := y
        subst e
        obtain ⟨d, hd⟩ : ∃ d, (m.map Prod.snd)[i]? = some d := ⟨(m.map Prod.snd)[i]'hi, List.getElem?_eq_getElem hi⟩
        obtain ⟨w, e2, r⟩ := g.2.get hd
        rw [List.getElem?_map, hk] at e2
        cases e2
        exact ⟨d, hd, r, .refl⟩
    · cases e
theorem ie_items {e : Expr} {elts : List Expr} {kk : Nat} {tpos : Pos} {f : M (O × Option Nat)} {apos cpos : Pos} (he : OE X e f) (hbase : attributeBase e "items" X.env (eval e X.env) = eval e X.env := by rfl) (hline : (apos.endLine == cpos.line) = true := by rfl) :
    IE X (.Tuple elts kk tpos) (.Call (.Attribute e "items" apos) [] [] cpos) (cItB itemsD f) :=
  PI.imp (pi_items he hbase hline) fun σ H R ⟨env, F, rel, h⟩ => by
    refine tOp_bind rel h fun x env1 v H1 F1 F2 ro a g1 h => ?_
    obtain ⟨ds, e, h⟩ := h.lift
    unfold itemsD at e
    split at e
    · rename_i m q
      cases e
      obtain ⟨b, ob, kvs, rfl, hb, ek, rd⟩ := dct_st ro q
      refine ⟨b, ob, kvs, rfl, hb, h _ H1 (.ref b) F1 F2 (dctG X.K b ob kvs m) ro g1 (itd_pair (vs := kvs.map fun p : Key × V => kV p.1) (ws := kvs.map Prod.snd) ?_ (fun H g => ⟨keys_rd ek, g.2⟩) (by have := congrArg List.length ek; simpa using this.symm) (by have := congrArg List.length ek; simpa using this.symm)) ⟨hb, rd⟩ dctG_st a.rel a.dj a.st a.sub a.d1⟩
      have e1 : (fun (i : Nat) => (kvs.map fun p : Key × V => kV p.1)[i]?) = fun (i : Nat) => (kvs[i]?).map fun kv : Key × V => kV kv.1 := by funext i; rw [List.getElem?_map]
      have e2 : (fun (i : Nat) => (kvs.map Prod.snd)[i]?) = fun (i : Nat) => (kvs[i]?).map Prod.snd := by funext i; rw [List.getElem?_map]
      rw [e1, e2, List.length_map, List.length_map, Nat.min_self]
      exact walk_items.mono (fun _ h => h.1) fun _ _ _ _ _ _ h => h
    · cases e
def numsD (n : Nat) : List D := (List.range n).map fun i => .int (i : Nat)
def enumM (f : M (List O)) : M (List D × (O × Option Nat)) := bnd f fun os => lift (match os with
  | [x] => match asLd x with
    | some xs => some (pairs (numsD xs.length) xs, noneO)
    | none => none
  | _ => none)
theorem nums_rd {K : PySem.W.Frag} {H : Hp} (n : Nat) : RDs K H (numsD n) ((List.range n).map fun i => V.int (i : Nat)) := by
  unfold numsD
  generalize List.range n = l
  induction l with
  | nil => exact .nil
  | cons a l ih => exact .cons (.int _) ih
theorem ie_enum {e : Expr} {f : M (List O)} {p pos tpos : Pos} {elts : List Expr} {kk : Nat} (hg : Gl X "enumerate") (hm : X.mg "enumerate" = none) (ha : AE X [e] f) (hs : starEach [e] X.env = [(false, eval e X.env)] := by rfl) :
    IE X (.Tuple elts kk tpos) (.Call (.Name "enumerate" p) [e] [] pos) (enumM f) :=
  PI.imp (pi_enum hg hm ha hs) fun σ H R ⟨env, F, rel, h⟩ => by
    refine tLf_bind rel h fun os env1 vs H1 F1 F2 ro a h => ?_
    split at h
    · rename_i x
      cases ro with
      | cons G1 G2 r1 r2 _ _ _ =>
        cases r2
        cases q : asLd x with
        | none => rw [q] at h; exact h.elim
        | some xs =>
          rw [q] at h
          obtain ⟨b, vs, G, rfl, g, hg1, st⟩ := asLd_st r1 q
          refine ⟨b, vs, rfl, (hg1 _ g).1, h _ H1 .non nof F2 G (.d .non) (fun _ e => nomatch e) (itd_pair (vs := (List.range xs.length).map fun i => V.int (i : Nat)) (ws := vs) ?_ (fun H g => ⟨nums_rd _, (hg1 H g).2⟩) (by simp [numsD]) (hg1 _ g).2.length) g (fun H1 H2 F' g s _ => st H1 H2 F' g s fun _ z => z.elim) a.rel (fun _ p _ => p) a.st (fun x p => p.elim False.elim fun p => a.sub x (.inr p)) fun _ p => p.elim⟩
          have hl := (hg1 _ g).2.length
          have hm : min ((List.range xs.length).map fun i => V.int (i : Nat)).length vs.length = vs.length := by rw [List.length_map, List.length_range, hl, Nat.min_self]
          rw [hm]
          refine Walk.mono walk_enum (fun _ h => (hg1 _ h).1) fun i H v H' hi _ y => ?_
          obtain ⟨T, x, u, e1, e2, e3, e4, e5⟩ := y
          refine ⟨T, x, u, e1, e2, e3, ?_, e5⟩
          show ((List.range xs.length).map fun i => V.int (i : Nat))[i]? = some x
          rw [List.getElem?_map, List.getElem?_range (by omega)]
          exact e4
    · exact h.elim
/-! ### a value in a list or tuple of data -/
def gInQ (neg : Bool) : O → O → Option O := fun x y => match x.shr.py, y.shr.py with
  | some d, some (.list ds) => if (SeqAt.shaped d && SeqAt.shaped (.list ds)) = true then some (.d (.bl (if neg then !(ds.any fun z => PyData.eqv z d) else ds.any fun z => PyData.eqv z d))) else none
  | some d, some (.tuple ds) => if (SeqAt.shaped d && SeqAt.shaped (.tuple ds)) = true then some (.d (.bl (if neg then !(ds.any fun z => PyData.eqv z d) else ds.any fun z => PyData.eqv z d))) else none
  | _, _ => none
theorem roomIn {A : Around} {d : PyData} {ds : List PyData} (h : SeqAt.shaped d = true) (hu : A.units + 65 < cLine) : A.units + 1 + min (PyData.depthAll ds) d.depth < cLine := by
  have h1 := SeqAt.depth_of_shaped h
  have h2 := Nat.min_le_right (PyData.depthAll ds) d.depth
  omega
theorem os_inQ (hu : X.A.units + 65 < cLine) : OpS X (compareOp .In) (gInQ false) := by
  intro pins s σ H x y v u ox oy o F G I rx ry r1 r2 e
  unfold gInQ at e
  split at e
  · rename_i d ds q1 q2
    split at e
    · rename_i c
      rw [Bool.and_eq_true] at c
      cases e
      obtain ⟨as, a1⟩ := Dp.reads I d x v (r1.dp q1) rx
      obtain ⟨bs, a2⟩ := Dp.reads I _ y u (r2.dp q2) ry
      exact SeqAt.in_list_reads a2 a1 (SeqAt.canLay_of_shaped c.2) (SeqAt.canLay_of_shaped c.1) (roomIn c.1 hu) ⟨.bl _, H, I, rfl, .d (.bl _)⟩
    · cases e
  · rename_i d ds q1 q2
    split at e
    · rename_i c
      rw [Bool.and_eq_true] at c
      cases e
      obtain ⟨as, a1⟩ := Dp.reads I d x v (r1.dp q1) rx
      obtain ⟨bs, a2⟩ := Dp.reads I _ y u (r2.dp q2) ry
      exact SeqAt.in_tuple_reads a2 a1 (SeqAt.canLay_of_shaped c.2) (SeqAt.canLay_of_shaped c.1) (roomIn c.1 hu) ⟨.bl _, H, I, rfl, .d (.bl _)⟩
    · cases e
  · cases e
theorem os_notInQ (hu : X.A.units + 65 < cLine) : OpS X (compareOp .NotIn) (gInQ true) := by
  intro pins s σ H x y v u ox oy o F G I rx ry r1 r2 e
  unfold gInQ at e
  split at e
  · rename_i d ds q1 q2
    split at e
    · rename_i c
      rw [Bool.and_eq_true] at c
      cases e
      obtain ⟨as, a1⟩ := Dp.reads I d x v (r1.dp q1) rx
      obtain ⟨bs, a2⟩ := Dp.reads I _ y u (r2.dp q2) ry
      exact SeqAt.notIn_list_reads a2 a1 (SeqAt.canLay_of_shaped c.2) (SeqAt.canLay_of_shaped c.1) (roomIn c.1 hu) ⟨.bl _, H, I, rfl, .d (.bl _)⟩
    · cases e
  · rename_i d ds q1 q2
    split at e
    · rename_i c
      rw [Bool.and_eq_true] at c
      cases e
      obtain ⟨as, a1⟩ := Dp.reads I d x v (r1.dp q1) rx
      obtain ⟨bs, a2⟩ := Dp.reads I _ y u (r2.dp q2) ry
      exact SeqAt.notIn_tuple_reads a2 a1 (SeqAt.canLay_of_shaped c.2) (SeqAt.canLay_of_shaped c.1) (roomIn c.1 hu) ⟨.bl _, H, I, rfl, .d (.bl _)⟩
    · cases e
  · cases e
/-! ### dict comprehensions -/
def dcL (g : G) (t : M Bool) (fk fv : M O) (vs : List Nat) : List D → List (Key × O) → M (List (Key × O))
  | [], m => ret m
  | d :: ds, m => fun e => match g (.d d) e with
    | none => none
    | some e1 => match t e1 with
      | none => none
      | some (false, e2) => dcL g t fk fv vs ds m (wipeE e2 vs)
      | some (true, e2) => match fk e2 with
        | none => none
        | some (k, e3) => match fv e3 with
          | none => none
          | some (v, e4) => match keyO k with
            | none => none
            | some k => if m.length < sizeLine then dcL g t fk fv vs ds (setK m k v) (wipeE e4 vs) else none
def dcM (src : M (List D × (O × Option Nat))) (g : G) (t : M Bool) (fk fv : M O) (vs : List Nat) : M O := fun e => match src e with
  | none => none
  | some ((ds, x), e1) => if ownOk e1 vs then match dcL g t fk fv vs ds [] (wipeE e1 vs) with
      | none => none
      | some (m, e2) => bnd (rst x.2 x.1) (fun _ => ret (.dct m)) (backE e1 e2 vs)
    else none
/-- the state of a dict comprehension ahead of a turn -/
structure Dc (X : Cx) (F0 : Fp) (H0 : Hp) (Da : Addr) (Fh : Fp) (m : List (Key × O)) (kvs : List (Key × V)) (Fa F' : Fp) (H : Hp) : Prop where
  hD : H Da = some (.dK kvs)
  ek : kvs.map (·.1) = m.map (·.1)
  nd : (kvs.map (·.1)).Nodup
  ra : ROs X.K H (m.map (·.2)) (kvs.map (·.2)) Fa
  dA : Disj Fa F'
  dH : Disj Fh (Or Fa F')
  nA : ¬ Fa Da
  nE : ¬ F' Da
  nH : ¬ Fh Da
  st : Step F0 H0 H
  sb : Sub (Or Fa F') F0 H0
  mH : Dom Fh H
  mA : Dom Fa H
  h0 : H0 Da = none
theorem Dc.adv {F0 : Fp} {H0 : Hp} {Da : Addr} {Fh : Fp} {m : List (Key × O)} {kvs : List (Key × V)} {Fa F' F2 : Fp} {H H' : Hp} (c : Dc X F0 H0 Da Fh m kvs Fa F' H) (st : Step F' H H') (sub : Sub F2 F' H) : Dc X F0 H0 Da Fh m kvs Fa F2 H' where
  hD := st.keep _ _ c.hD c.nE
  ek := c.ek
  nd := c.nd
  ra := c.ra.step st c.dA
  dA := disj_new c.dA c.mA sub
  dH := fun x p q => q.elim (fun q => c.dH x p (.inl q)) fun q => disj_new (fun x p q => c.dH x p (.inr q)) c.mH sub x p q
  nA := c.nA
  nE := fun z => (sub _ z).elim c.nE fun e => by rw [c.hD] at e; cases e
  nH := c.nH
  st := c.st.trans st fun x p => c.sb x (.inr p)
  sb := fun x p => p.elim (fun p => c.sb x (.inl p)) fun p => (sub x p).elim (fun p => c.sb x (.inr p)) fun n => .inr (c.st.free n)
  mH := c.mH.step st
  mA := c.mA.step st
  h0 := c.h0
theorem Dc.push {F0 : Fp} {H0 : Hp} {Da : Addr} {Fh : Fp} {m : List (Key × O)} {kvs : List (Key × V)} {Fa F6 F7 : Fp} {H : Hp} {o : O} {v : V} {k : Key} (c : Dc X F0 H0 Da Fh m kvs Fa (Or F6 F7) H) (ro : RO X.K H o v F6) (d : Disj F6 F7) (m6 : Dom F6 H) :
    Dc X F0 H0 Da Fh (setK m k o) (putK kvs k v) (Or Fa F6) F7 (upd H Da (.dK (putK kvs k v))) ∧ Step (fun z => z = Da) H (upd H Da (.dK (putK kvs k v))) := by
  have w : Step (fun z => z = Da) H (upd H Da (.dK (putK kvs k v))) := Step.wr c.hD trivial rfl
  obtain ⟨e1, r1⟩ := put_ro (k := k) c.ek c.nd (c.ra.step w fun z m n => c.nA (n ▸ m)) (ro.step w fun z m n => c.nE (.inl (n ▸ m))) fun x p q => c.dA x p (.inl q)
  refine ⟨⟨upd_same, e1, nodup_put c.nd, r1, fun x p q => p.elim (fun p => c.dA x p (.inr q)) fun p => d x p q, fun x p q => c.dH x p (q.elim (fun q => q.elim .inl fun q => .inr (.inl q)) fun q => .inr (.inr q)), fun z => z.elim c.nA fun z => c.nE (.inl z), fun z => c.nE (.inr z), c.nH, ?_, fun x p => c.sb x (p.elim (fun p => p.elim .inl fun p => .inr (.inl p)) fun p => .inr (.inr p)), c.mH.step w, fun x p => p.elim (fun p => c.mA.step w x p) fun p => m6.step w x p, c.h0⟩, w⟩
  exact ⟨fun a o e n => by rw [upd_ne (fun z => by subst z; rw [c.h0] at e; cases e)]; exact c.st.keep a o e n, fun a o e n => by rw [upd_ne (fun z => by subst z; rw [c.h0] at e; cases e)]; exact c.st.pers a o e n, fun a o e => by rw [upd_ne (fun z => by subst z; rw [c.h0] at e; cases e)]; exact c.st.there a o e⟩
theorem dc_it {J : It} {n : Nat} {G : Hp → Prop} {Y : Nat → Hp → V → Hp → Prop} (w : Walk J n G Y) {g : TG} {tt : TT} {tk tv : TE} {vs : List Nat} {σ : L2.St} {H1 : Hp} {D : Addr} {Qd : Hp → Prop} (Pv : Nat → Hp → Prop) (h0 : Pv 0 (upd H1 D (.dK []))) (hl : ∀ i H, i ≤ n → Pv i H → G H)
    (hs : ∀ i x H H', i < n → Pv i H → Y i H x H' → g x (L2.wipe σ vs) H' fun σ2 H2 => L2.wipe σ2 vs = L2.wipe σ vs ∧ tt σ2 H2 fun b H3 =>
      if b = true then tk σ2 H3 fun y H4 => tv σ2 H4 fun z H5 => ∃ kvs k, y = kV k ∧ H5 D = some (.dK kvs) ∧ kvs.length < sizeLine ∧ Pv (i + 1) (upd H5 D (.dK (putK kvs k z))) else Pv (i + 1) H3) (hd : ∀ H, Pv n H → Qd H) :
    ∃ W : Nat → Nat → Hp → Prop, (∃ m, W 0 m (upd H1 D (.dK []))) ∧ ∀ i m H, W i m H →
      (J.stop i H ∧ Qd H) ∨ (J.go i H ∧ ∃ Nx : Hp → Prop, (∀ H', Nx H' → ∃ m', m' < m ∧ W (i + 1) m' H') ∧ ∀ x H', J.yld i H x H' → g x (L2.wipe σ vs) H' fun σ2 H2 => L2.wipe σ2 vs = L2.wipe σ vs ∧ tt σ2 H2 fun b H3 =>
        if b = true then tk σ2 H3 fun y H4 => tv σ2 H4 fun z H5 => ∃ kvs k, y = kV k ∧ H5 D = some (.dK kvs) ∧ kvs.length < sizeLine ∧ Nx (upd H5 D (.dK (putK kvs k z))) else Nx H3) := by
  obtain ⟨go, stop, yld⟩ := w
  refine ⟨fun i m H => m = n - i ∧ i ≤ n ∧ Pv i H, ⟨n, by simp, Nat.zero_le _, h0⟩, ?_⟩
  rintro i m H ⟨rfl, hi, p⟩
  have q := hl i H hi p
  by_cases hlt : i < n
  · exact .inr ⟨go i _ hlt q, Pv (i + 1), fun H' p' => ⟨n - (i + 1), by omega, rfl, hlt, p'⟩, fun x H' y => hs i x H H' hlt p (yld i H x H' hlt q y)⟩
  · have e : i = n := by omega
    subst e
    exact .inl ⟨stop _ q, hd H p⟩
theorem dc_ok {src : M (List D × (O × Option Nat))} {g : G} {t : M Bool} {fk fv : M O} {vs : List Nat} {σ : L2.St} {H : Hp} {Q : VK} (h : tOf X (dcM src g t fk fv vs) σ H Q) :
    tDc (tIf X src) (tGf X (fxOf vs) g) (tBf X t) (tOf X fk) (tOf X fv) vs σ H Q := by
  obtain ⟨env, F0, rel0, h⟩ := h
  refine ⟨env, fun a => F0 a ∧ ∃ o, H a = some o, rel0.dom, ?_⟩
  unfold dcM at h
  cases q0 : src env with
  | none => rw [q0] at h; exact h
  | some r =>
    obtain ⟨⟨ds, x⟩, e1⟩ := r
    rw [q0] at h
    dsimp only at h
    intro J H1 vh Fh F2 Gd ro gi it gs stb rel1 dj st sub dm Da hDa
    obtain ⟨Y, w, hY⟩ := it
    dsimp only at ro gi w hY
    split at h
    · rename_i ok
      cases q1 : dcL g t fk fv vs ds [] (wipeE e1 vs) with
      | none => rw [q1] at h; exact h.elim
      | some r =>
        obtain ⟨mf, ef⟩ := r
        rw [q1] at h
        dsimp only at h
        have hDn : H Da = none := st.free hDa
        refine dc_it w (Pv := fun i H' => Gd H' ∧ ∃ m kvs env' Fa F', Dc X (fun a => F0 a ∧ ∃ o, H a = some o) H Da Fh m kvs Fa F' H' ∧ RelE X.K H' env' (L2.wipe σ vs) F' ∧ RO X.K H' x.1 vh Fh ∧ (∀ a o, H1 a = some o → ¬ MutO o → H' a = some o) ∧ dcL g t fk fv vs (ds.drop i) m env' = some (mf, ef)) ?_ (fun i H' _ p => p.1) ?_ ?_
        · have s1 : Step nof H1 (upd H1 Da (.dK [])) := .new hDa
          refine ⟨stb _ _ nof gs s1 fun _ _ z => z, [], [], wipeE e1 vs, nof, _, ⟨upd_same, rfl, List.nodup_nil, .nil, fun _ p _ => p, fun a p q => q.elim False.elim fun q => dj a p q.1, fun z => z, fun z => ?_, fun z => ?_, st.trans s1 fun _ z => z.elim, fun a p => p.elim False.elim fun p => (sub a (.inr p.1)), dm.step s1, fun _ p => p.elim, hDn⟩, (rel1.dom.wipe vs).step s1 fun _ _ z => z, ro.step s1 fun _ _ z => z, s1.pers, by rw [List.drop_zero]; exact q1⟩
          · obtain ⟨_, o, e⟩ := z; rw [hDa] at e; cases e
          · obtain ⟨o, e⟩ := dm _ z; rw [hDa] at e; cases e
        · rintro i xv H2 H3 hi ⟨gd, m, kvs, env', Fa, F', c, rel', rh, pp, hc⟩ y
          obtain ⟨d, hd, rd, st23⟩ := hY i H2 xv H3 hi gd y
          have ed : ds.drop i = d :: ds.drop (i + 1) := by
            rw [List.drop_eq_getElem_cons hi]
            have : ds[i]? = some ds[i] := by simp [hi]
            rw [this] at hd; cases hd; rfl
          rw [ed] at hc
          unfold dcL at hc
          cases p1 : g (.d d) env' with
          | none => rw [p1] at hc; cases hc
          | some ea =>
            rw [p1] at hc
            dsimp only at hc
            have mf : ∀ {G1 : Fp} {Hx Hy : Hp}, Step nof Hx Hy → Step G1 Hx Hy := fun s => s.mono fun _ z => z.elim
            have c3 := c.adv (mf st23) .refl
            refine ⟨.d d, env', nof, F', .d rd, rel'.step st23 fun _ _ z => z, fun _ p _ => p, ea, p1, fun σ4 H4 F4 rel4 fi4 st4 sub4 => ?_⟩
            have st4' : Step F' H3 H4 := st4.mono fun x p => .inl (p.elim False.elim id)
            have sub4' : Sub F4 F' H3 := fun x p => (sub4 x p).imp (fun p => p.elim False.elim id) id
            have c4 := c3.adv st4' sub4'
            have hwp := wipe_fix fi4
            have g4 := stb _ _ _ (stb _ _ nof gd st23 fun _ _ z => z) st4' fun x p q => c3.dH x p (.inr q)
            have r4 := (rh.step st23 fun _ _ z => z).step st4' fun x p q => c3.dH x p (.inr q)
            refine ⟨hwp, ea, F4, rel4, ?_⟩
            cases p2 : t ea with
            | none => rw [p2] at hc; cases hc
            | some r =>
              obtain ⟨b, e2⟩ := r
              rw [p2] at hc
              intro H5 F5 rel5 st5 sub5
              have c5 := c4.adv st5 sub5
              have g5 := stb _ _ _ g4 st5 fun x p q => c4.dH x p (.inr q)
              have r5 := r4.step st5 fun x p q => c4.dH x p (.inr q)
              have pp5 : ∀ a o, H1 a = some o → ¬ MutO o → H5 a = some o := fun a o e n => st5.pers _ _ (st4.pers _ _ (st23.pers _ _ (pp a o e n) n) n) n
              cases b with
              | false =>
                dsimp only at hc
                exact iteF ⟨g5, m, kvs, wipeE e2 vs, Fa, F5, c5, wipe_wipe hwp X.K rel5, r5, pp5, hc⟩
              | true =>
                dsimp only at hc
                refine iteT ⟨e2, F5, rel5, ?_⟩
                cases p3 : fk e2 with
                | none => rw [p3] at hc; cases hc
                | some r =>
                  obtain ⟨ko, e3⟩ := r
                  rw [p3] at hc
                  dsimp only at hc
                  intro vk H6 Fk F7 rok rel7 dk7 st6 sub6
                  have sub6' : Sub F7 F5 H5 := fun x p => sub6 x (.inr p)
                  have c6 := c5.adv st6 sub6'
                  have g6 := stb _ _ _ g5 st6 fun x p q => c5.dH x p (.inr q)
                  have r6 := r5.step st6 fun x p q => c5.dH x p (.inr q)
                  have pp6 : ∀ a o, H1 a = some o → ¬ MutO o → H6 a = some o := fun a o e n => st6.pers _ _ (pp5 a o e n) n
                  refine ⟨e3, F7, rel7, ?_⟩
                  cases p4 : fv e3 with
                  | none => rw [p4] at hc; cases hc
                  | some r =>
                    obtain ⟨vo, e4⟩ := r
                    rw [p4] at hc
                    dsimp only at hc
                    cases p5 : keyO ko with
                    | none => rw [p5] at hc; cases hc
                    | some k =>
                      rw [p5] at hc
                      dsimp only at hc
                      split at hc
                      · rename_i hz
                        intro v H7 F8 F9 ro8 rel9 d89 st7 sub7
                        have c7 := c6.adv st7 (F2 := Or (fun a => F8 a ∧ ∃ o, H7 a = some o) F9) fun x p => sub7 x (p.imp And.left id)
                        obtain ⟨c8, w8⟩ := c7.push (k := k) ro8.dom (fun x p q => d89 x p.1 q) (fun x p => p.2)
                        have g7 := stb _ _ _ g6 st7 fun x p q => c6.dH x p (.inr q)
                        have r7 := r6.step st7 fun x p q => c6.dH x p (.inr q)
                        refine ⟨kvs, k, keyO_ok rok p5, c7.hD, ?_, stb _ _ _ g7 w8 fun x p q => c7.nH (q ▸ p), setK m k vo, _, wipeE e4 vs, _, F9, c8, (wipe_wipe hwp X.K rel9).step w8 fun x p q => c7.nE (.inr (q ▸ p)), r7.step w8 fun x p q => c7.nH (q ▸ p), fun a u e n => w8.pers _ _ (st7.pers _ _ (pp6 a u e n) n) n, hc⟩
                        have := congrArg List.length c7.ek
                        rw [List.length_map, List.length_map] at this
                        omega
                      · cases hc
        · rintro H2 ⟨gd, m, kvs, env', Fa, F', c, rel', rh, pp, hc⟩
          rw [List.drop_length] at hc
          cases hc
          have fin := RelE.recover (vs := vs) rel1 ok pp rel'
          obtain ⟨ee, rele, hh⟩ := rst_ok fin rh (fun a p q => c.dH a p (.inr q)) gi h
          have stF : Step F0 H H2 := c.st.mono fun a p => .inl p.1
          refine hh (.ref Da) H2 (Or (fun z => z = Da) Fa) _ (.dct c.hD (.inl rfl) c.ek (c.ra.mono fun a p => ⟨.inr p, fun z => c.nA (z ▸ p)⟩)) rele (fun a p q => ?_) stF fun a p => ?_
          · rcases p with p | p
            · subst p; exact q.elim c.nH c.nE
            · exact q.elim (fun q => c.dH a q (.inl p)) fun q => c.dA a p q
          · rcases p with (p | p) | (p | p)
            · subst p; exact .inr hDn
            · exact (c.sb a (.inl p)).imp And.left id
            · exact (sub a (.inl p)).imp And.left id
            · exact (c.sb a (.inr p)).imp And.left id
    · exact h.elim
theorem se_dc {kx vx tg iter : Expr} {ifs : List Expr} {scope : Scope} {own : List (Str × Nat)} {pos : Pos} {src : M (List D × (O × Option Nat))} {g : G} {t : M Bool} {fk fv : M O} (hc : X.calm = true) (hN : X.N.Nodup) (ok : BlkOk X.N X.env.scope scope own) (hi : IE X tg iter src)
    (hg : ∀ (s : Shared) (H : Hp) (C : Addr) (cl : List (Str × Addr)) (fp : List Addr), TG' (X.blk s H scope (compEnvC scope cl C X.env) fp) (fxOf (own.map (·.2))) tg g) (ht : ∀ (s : Shared) (H : Hp) (C : Addr) (cl : List (Str × Addr)) (fp : List Addr), TsE (X.blk s H scope (compEnvC scope cl C X.env) fp) ifs t)
    (hk : ∀ (s : Shared) (H : Hp) (C : Addr) (cl : List (Str × Addr)) (fp : List Addr), SE (X.blk s H scope (compEnvC scope cl C X.env) fp) kx fk)
    (he : ∀ (s : Shared) (H : Hp) (C : Addr) (cl : List (Str × Addr)) (fp : List Addr), SE (X.blk s H scope (compEnvC scope cl C X.env) fp) vx fv) (hs : ∀ x, foldedSetIterable iter X.env x = pure x := by intro _; rfl) :
    SE X (.DictComp kx vx [⟨tg, iter, ifs, 0⟩] scope pos) (dcM src g t fk fv (own.map (·.2))) := PE.imp (pe_dc (wi := tIf X src) (g := tGf X (fxOf (own.map Prod.snd)) g) (tt := tBf X t) (tk := tOf X fk) (tv := tOf X fv) hc hN hi ok hg ht hk he hs) fun _ _ _ h => dc_ok h
end
end TL

set_option maxHeartbeats 1000000
/-! Own classes: fields read and stored. -/
namespace TL
open PySem L2 PySem.Spec PyProof.Rows

section
variable {X : Cx} {pins : List (Addr × Obj)} {σ : L2.St} {H : Hp} {s : Shared} {a C dx : Addr} {vfs : List (Str × V)} {f : Str} {v : V} {A : Around} {E : Value → Shared → Prop}
theorem ins_getR (hok : HOk X.prog X.w H s.heap) (e : Rd H a (.ins C dx vfs)) : ∃ mA, ObjM s.heap a dx C mA ∧ ∀ f, RelO (vfs.lookup f) (mA f) := by
  rcases e with e | ⟨o, e⟩
  · obtain ⟨mA, O, r, _, _, _⟩ := ins_get hok e
    exact ⟨mA, O, r⟩
  · obtain ⟨_, d, z, ne, ob, mA, n, r, q⟩ := (show ObjOk X.prog X.w H s.heap a (.frz o (.ins C dx vfs)) from hok a _ e)
    exact ⟨mA, ⟨ob, n, ne⟩, r⟩
theorem getattr_okR {b : Bool} {Q : Value → Shared → Prop} (I : Inv X pins σ H s) (e : Rd H a (.ins C dx vfs)) (c : Cls X.K C) (n : NoAttr X.K C f) (l : vfs.lookup f = some v)
    (h : ∀ u s', Inv X pins σ H s' → RelV v u → Q u s') : wpAny (model X.prog X.w) A (getAttr (.ref a) f b) Q E s := by
  obtain ⟨mA, O, r⟩ := ins_getR I.hok e
  obtain ⟨u, hu, ru⟩ := RelO.some_of (v := v) (o := mA f) (by rw [← l]; exact r f)
  exact get_map I.kIn O (c.get f) c.hd n hu (handed_of ru) (h u _ (I.tok _) ru)
theorem getmeth_okR {m : Str} {g : Addr} {pl : Sem Bool} {Q : Value × List Value → Shared → Prop} (I : Inv X pins σ H s) (e : Rd H a (.ins C dx vfs)) (c : Cls X.K C) (k : Meth X.K C m g) (l : vfs.lookup m = none)
    (h : Q (.ref g, [.ref a]) s) : wpAny (model X.prog X.w) A (getMethod (.ref a) m pl) Q E s := by
  obtain ⟨mA, O, r⟩ := ins_getR I.hok e
  have hn : mA m = none := RelO.none_of (by rw [← l]; exact r m)
  exact get_meth I.kIn O (c.get m) k.at_ k.fn hn h
end
def tFldR (K : PySem.W.Frag) (ta : TE) (f : Str) : TE := fun σ H Q => ta σ H fun x H1 => ∃ a C dx fs v, x = .ref a ∧ Rd H1 a (.ins C dx fs) ∧ Cls K C ∧ NoAttr K C f ∧ fs.lookup f = some v ∧ Q v H1
theorem pe_fldR {X : Cx} {e : Expr} {f : Str} {pos : Pos} {ta : TE} (he : PE X e ta) (hb : attributeBase e f X.env (eval e X.env) = eval e X.env) : PE X (.Attribute e f pos) (tFldR X.K ta f) := by
  refine ⟨fun pins s σ H Q I h => ?_⟩
  refine attr_of hb (thn (he.run pins s σ H _ I h) fun u s1 ⟨x, H1, I1, rx, a, C, dx, fs, v, ex, ea, c, n, l, q⟩ => ?_)
  subst ex
  obtain rfl : u = Value.ref a := rx
  exact getattr_okR I1 ea c n l fun u' s2 I2 ru => ⟨v, H1, I2, ru, q⟩

/-! ### the fields as pairs -/
def putO (f : Str) (x : O) : List (Str × O) → List (Str × O)
  | [] => [(f, x)]
  | (g, y) :: r => if g = f then (g, x) :: r else (g, y) :: putO f x r
section
variable {K : PySem.W.Frag} {H : Hp}
theorem lookD {f : Str} {x : D} : ∀ {fs : List (Str × D)} {vfs : List (Str × V)}, vfs.map (·.1) = fs.map (·.1) → RDs K H (fs.map (·.2)) (vfs.map (·.2)) → fs.lookup f = some x → ∃ w, vfs.lookup f = some w ∧ RD K H x w
  | [], _, _, _, e => by cases e
  | (k, y) :: fs, [], h, _, _ => by cases h
  | (k, y) :: fs, (k', w) :: vfs, h, r, e => by
    simp only [List.map_cons, List.cons.injEq] at h
    obtain ⟨rfl, h2⟩ := h
    cases r with
    | cons r1 r2 =>
      rw [List.lookup_cons] at e ⊢
      by_cases c : (f == k') = true
      · rw [c] at e ⊢; cases e; exact ⟨w, rfl, r1⟩
      · rw [Bool.not_eq_true] at c
        rw [c] at e ⊢; exact lookD h2 r2 e
theorem lookO {f : Str} {x : D} : ∀ {fs : List (Str × O)} {vfs : List (Str × V)} {F : Fp}, vfs.map (·.1) = fs.map (·.1) → ROs K H (fs.map (·.2)) (vfs.map (·.2)) F → fs.lookup f = some (.d x) → ∃ w, vfs.lookup f = some w ∧ RD K H x w
  | [], _, _, _, _, e => by cases e
  | (k, y) :: fs, [], _, h, _, _ => by cases h
  | (k, y) :: fs, (k', w) :: vfs, F, h, r, e => by
    simp only [List.map_cons, List.cons.injEq] at h
    obtain ⟨rfl, h2⟩ := h
    cases r with
    | cons F1 F2 r1 r2 a b d =>
      rw [List.lookup_cons] at e ⊢
      by_cases c : (f == k') = true
      · rw [c] at e ⊢; cases e; exact ⟨w, rfl, r1.od⟩
      · rw [Bool.not_eq_true] at c
        rw [c] at e ⊢; exact lookO h2 r2 e
theorem putO_ok {f : Str} {x : D} {w : V} (rx : RD K H x w) : ∀ {fs : List (Str × O)} {vfs : List (Str × V)} {F : Fp}, vfs.map (·.1) = fs.map (·.1) → ROs K H (fs.map (·.2)) (vfs.map (·.2)) F →
    (putF f w vfs).map (·.1) = (putO f (.d x) fs).map (·.1) ∧ ROs K H ((putO f (.d x) fs).map (·.2)) ((putF f w vfs).map (·.2)) F
  | [], [], F, _, _ => ⟨rfl, .cons nof F (.d rx) .nil (fun _ p => p.elim) (fun _ p => p) fun _ p _ => p⟩
  | [], _ :: _, _, h, _ => by cases h
  | (k, y) :: fs, [], _, h, _ => by cases h
  | (k, y) :: fs, (k', u) :: vfs, F, h, r => by
    simp only [List.map_cons, List.cons.injEq] at h
    obtain ⟨rfl, h2⟩ := h
    cases r with
    | cons F1 F2 r1 r2 a b d =>
      unfold putF putO
      by_cases c : k' = f
      · rw [if_pos c, if_pos c]
        exact ⟨by simp only [List.map_cons, h2], .cons nof F2 (.d rx) r2 (fun _ p => p.elim) b fun _ p _ => p⟩
      · rw [if_neg c, if_neg c]
        obtain ⟨e1, e2⟩ := putO_ok rx h2 r2
        exact ⟨by simp only [List.map_cons, e1], .cons F1 F2 r1 e2 a b d⟩
end
def fldO (Cs : List Addr) (f : Str) : O → Option D
  | .d (.ins C fs) => if C ∈ Cs then fs.lookup f else none
  | .ins C fs => if C ∈ Cs then (match fs.lookup f with | some (.d x) => some x | _ => none) else none
  | _ => none
theorem fldO_ok {K : PySem.W.Frag} {H : Hp} {Cs : List Addr} {f : Str} {o : O} {v : V} {F : Fp} {x : D} (r : RO K H o v F) (e : fldO Cs f o = some x) :
    ∃ a C dx vfs w, v = .ref a ∧ Rd H a (.ins C dx vfs) ∧ C ∈ Cs ∧ vfs.lookup f = some w ∧ RD K H x w := by
  unfold fldO at e
  split at e
  · rename_i C fs
    split at e
    · rename_i hc
      cases r with
      | d r =>
        cases r with
        | ins h e1 r =>
          obtain ⟨w, l, rw⟩ := lookD e1 r e
          exact ⟨_, C, _, _, w, rfl, .inr ⟨_, h⟩, hc, l, rw⟩
    · cases e
  · rename_i C fs
    split at e
    · rename_i hc
      cases r with
      | ins h f' e1 r =>
        split at e
        · rename_i y q
          cases e
          obtain ⟨w, l, rw⟩ := lookO e1 r q
          exact ⟨_, C, _, _, w, rfl, .inl h, hc, l, rw⟩
        · cases e
    · cases e
  · cases e

section
variable {X : Cx} {fx : Nat → Bool}
/-! ### o.f -/
def cFld (Cs : List Addr) (f : Str) (fa : M (O × Option Nat)) : M O := bnd fa fun r => bnd (lift (fldO Cs f r.1)) fun x => bnd (rst r.2 r.1) fun _ => ret (.d x)
theorem se_fld {e : Expr} {f : Str} {pos : Pos} {Cs : List Addr} {fa : M (O × Option Nat)} (hC : ∀ C ∈ Cs, Cls X.K C ∧ NoAttr X.K C f) (ha : OE X e fa) (hb : attributeBase e f X.env (eval e X.env) = eval e X.env := by rfl) : SE X (.Attribute e f pos) (cFld Cs f fa) := by
  refine PE.imp (pe_fldR ha hb) fun σ H Q ⟨env, F, rel, h⟩ => ?_
  refine tOp_bind rel h fun r env1 v H1 F1 F2 ro a1 g1 h => ?_
  obtain ⟨x, ex, h⟩ := h.lift
  obtain ⟨a, C, dx, vfs, w, rfl, er, hc, l, rw⟩ := fldO_ok ro ex
  obtain ⟨env2, rel2, h⟩ := rst_ok a1.rel ro a1.dj g1 h
  refine ⟨a, C, dx, vfs, w, rfl, er, (hC C hc).1, (hC C hc).2, l, ?_⟩
  exact h w H1 nof _ (.d rw) rel2 (fun _ p _ => p) a1.st fun x p => p.elim False.elim (a1.sub x)

/-! ### self.f = e -/
def setFS (Cs : List Addr) (f : Str) (i : Nat) : O → S := fun o e => match o, e[i]? with
  | .d x, some (some (.ins C fs)) => if C ∈ Cs ∧ fs.length < 1000 then some (.nx, e.set i (some (.ins C (putO f (.d x) fs)))) else none
  | _, _ => none
theorem ss_setFld (i : Nat) {x f : Str} {e : Expr} {Cs : List Addr} {fv : M O} {px pos pos' : Pos} (hC : ∀ C ∈ Cs, Cls X.K C ∧ NoAttr X.K C f) (he : SE X e fv) (hN : X.N[i]? = some x := by rfl)
    (hv : Vis X.env.scope x := by first | exact Or.inl rfl | exact Or.inr (Or.inl rfl) | exact Or.inr (Or.inr rfl)) (hd : (x == ("__debug__" : Str)) = false := by decide) (hcd : (x == ("__classdict__" : Str)) = false := by decide)
    (hs : swapsWith e (some (.Attribute (.Name x px) f pos')) pos.line X.env = pure false := by rfl) : SS X fx (.Assign [.Attribute (.Name x px) f pos'] e pos) (bndS (fz fv) (setFS Cs f i)) := by
  refine PS.imp (ps_fld (pe_var hN hv hd hcd) (se_fz he) hs) fun D σ H ⟨env, F, rel, h⟩ => ?_
  refine Post.tof rel (bndS_ok h) fun o env1 w H1 F1 F2 ro a h => ?_
  have h' : PSo X fx D σ H F (setFS Cs f i o env1) := h
  unfold setFS at h'
  split at h'
  · rename_i x C fs ei
    split at h'
    · rename_i hc
      obtain ⟨v, G1, G2, ev, r, rel', sa, sb, d⟩ := a.rel.take ei
      cases r with
      | ins hh ff e1 rr =>
        rename_i p dx vfs
        have hl : vfs.length < 1000 := by have := congrArg List.length e1; simp only [List.length_map] at this; omega
        obtain ⟨e2, r2⟩ := putO_ok (f := f) ro.od e1 rr
        have w1 : ∀ u, Step (fun z => z = p) H1 (upd H1 p u) := fun u => Step.wr (o := u) hh trivial rfl
        have rel2 := (rel'.step (w1 (.ins C dx (putF f w vfs))) fun z m n => d p ff (n ▸ m)).back ev (.ins upd_same ff e2 (r2.step (w1 (.ins C dx (putF f w vfs))) fun z m n => m.2 n)) d
        rw [List.set_set] at rel2
        refine ⟨.ref p, ev, p, C, dx, vfs, rfl, hh, (hC C hc.1).1, (hC C hc.1).2, hl, ?_⟩
        refine h' σ _ _ rel2 .refl (a.st.trans (Step.wr (F := F2) hh trivial (sa p ff)) fun x q => a.sub x (.inr q)) fun x q => ?_
        exact a.sub x (.inr (q.elim (sa x) (sb x)))
    · exact h'.elim
  · exact h'.elim
end
end TL

set_option maxHeartbeats 1000000
/-! Own classes: methods, new instances, isinstance. -/
namespace TL
open PySem L2 PySem.Spec PyProof.Rows

section
variable {X : Cx} {CX : CXT} {k : Nat} {f C : Addr} {fd : FuncData} {ps : List Str} {sp : Sp} {dvs : List V} {ds : List Value} {E : XK} {x m : Str} {p pos apos : Pos} {e o : Expr} {es : List Expr} {ta : TE} {t : TA}
def tMethR (C : Addr) (m : Str) (sp : Sp) (E : XK) (ta : TE) (t : TA) : TE := fun σ H Q => ta σ H fun x H1 => ∃ a dx fs, x = .ref a ∧ Rd H1 a (.ins C dx fs) ∧ fs.lookup m = none ∧ t σ H1 fun vs H2 => sp (x :: vs) H2 Q E
theorem pe_methG {pl : Sem Bool} (he : PE X o ta) (c : Cls X.K C) (hm : Meth X.K C m f) (F : FnG X.prog X.w X.K X.mg X.base CX k f fd ps sp) (hr : Room k X.A) (hgd : X.A.guards = some []) (hb : Binds X.K fd ps []) (hx : Passes CX X E) (ha : PA X (e :: es) t)
    (hst : starEach (e :: es) X.env = (false, eval e X.env) :: starEach es X.env := by rfl) (hpl : (backTo pos (starEach es X.env)).any (·.1) = false := by rfl)
    (ht : eval (.Call (.Attribute o m apos) (e :: es) [] pos) X.env = (do
      let ov ← eval o X.env
      standAt apos.atName
      let (f, first) ← holding [ov] (getMethod ov m pl)
      callWith pos f first (backTo pos (starEach (e :: es) X.env)) (backToKw pos (keywordEach [] X.env))) := by rfl) :
    PE X (.Call (.Attribute o m apos) (e :: es) [] pos) (tMethR C m sp E ta t) := by
  refine ⟨fun pins s σ H Q I h => ?_⟩
  refine PySem.W.methodCall_KW (pl := pl) (thn (he.run pins s σ H _ I h) fun u s1 ⟨x, H1, I1, rx, a, dx, fs, ex, ea, l, q⟩ => ?_) ht
  subst ex
  obtain rfl : u = Value.ref a := rx
  refine getmeth_okR I1 ea c hm l ?_
  refine PySem.W.callWith_K (first := [.ref a]) (h₀ := X.base) I.ok.mod.kin hm.kp (thn (ha.run pos pins s1 σ H1 _ I1 q) fun us s2 ⟨vs, H2, I2, r, q2⟩ => ⟨I2.kIn, ?_⟩) hst hpl
  exact run_fng (us := .ref a :: us) (vs := .ref a :: vs) F hr hgd hb .nil hx I2 (.cons rfl r) (by rw [List.append_nil]; exact q2)
theorem pe_methG0 {pl : Sem Bool} (he : PE X o ta) (c : Cls X.K C) (hm : Meth X.K C m f) (F : FnG X.prog X.w X.K X.mg X.base CX k f fd ps sp) (hr : Room k X.A) (hgd : X.A.guards = some []) (hb : Binds X.K fd ps []) (hx : Passes CX X E)
    (ht : eval (.Call (.Attribute o m apos) [] [] pos) X.env = (do
      let ov ← eval o X.env
      standAt apos.atName
      let (f, first) ← holding [ov] (getMethod ov m pl)
      callWith pos f first (backTo pos (starEach [] X.env)) (backToKw pos (keywordEach [] X.env))) := by rfl) :
    PE X (.Call (.Attribute o m apos) [] [] pos) (tMethR C m sp E ta tNil) := by
  refine ⟨fun pins s σ H Q I h => ?_⟩
  refine PySem.W.methodCall_KW (pl := pl) (thn (he.run pins s σ H _ I h) fun u s1 ⟨x, H1, I1, rx, a, dx, fs, ex, ea, l, q⟩ => ?_) ht
  subst ex
  obtain rfl : u = Value.ref a := rx
  refine getmeth_okR I1 ea c hm l ?_
  exact PySem.W.callWith_K0 (first := [.ref a]) I1.kIn hm.kp (run_fng (us := [.ref a]) (vs := [.ref a]) F hr hgd hb .nil hx I1 (.cons rfl .nil) q)
theorem guards_make {A : Around} {us : List Value} {kw : List (Str × Value)} (h : A.guards = some []) : (A.under (.builtin "type.__call__" ⟨us, kw⟩)).guards = some [] := by
  have : (A.under (.builtin "type.__call__" ⟨us, kw⟩)).guards = A.guards := by
    simp [Around.under, Code.guards, Code.isGuard, pushGuards]
    rw [if_neg (by decide)]
  rw [this]; exact h
theorem run_makeG {pins : List (Addr × Obj)} {σ : L2.St} {H : Hp} {s : Shared} {Q : VK} {us : List Value} {vs : List V} (M : Mk X.K C f) (F : FnG X.prog X.w X.K X.mg X.base CX k f fd ps sp) (hr : Room (k + 1) X.A) (hgd : X.A.guards = some []) (hb : Binds X.K fd ps [])
    (hx : Passes CX X E) (I : Inv X pins σ H s) (r : Vals vs us)
    (h : ∀ x dx, H x = none → H dx = none → dx ≠ x → sp (.ref x :: vs) (upd (upd H dx (.own x)) x (.ins C dx [])) (fun v H2 => v = .non ∧ Q (.ref x) H2) E) :
    wpAny (model X.prog X.w) X.A (call (.ref C) us) (EP X pins σ Q) X.xe s := by
  have hq := h (s.heap.objs.size + 1) s.heap.objs.size (I.hok.fresh (Nat.le_succ _)) (I.hok.fresh (Nat.le_refl _)) (Nat.ne_of_lt (Nat.lt_succ_self _))
  have I2 := Inv.made (C := C) I
  have r2 : Vals (V.ref (s.heap.objs.size + 1) :: vs) (Value.ref (s.heap.objs.size + 1) :: us) := .cons rfl r
  have hl : (Value.ref (s.heap.objs.size + 1) :: us ++ []).length = ps.length := by
    have e := r2.length
    rw [F.len _ _ _ _ hq] at e
    rw [List.append_nil]
    exact e.symm
  refine wpAny_call (make_map (f := f) I.kIn M.makes M.init (beq_iff_eq.mp M.fn) (codeAny_mono (F.run _ X.stack _ _ ⟨Value.ref (s.heap.objs.size + 1) :: us, []⟩ (Value.ref (s.heap.objs.size + 1) :: us) _ _ E (hr.make C us []) (guards_make hgd)
    (I2.env0.make C us []) (by have q := hb _ (Value.ref (s.heap.objs.size + 1) :: us) I2.kIn hl; rwa [List.append_nil] at q) r2 hq) fun r s' hq' => ?_))
  cases r with
  | error e => exact hx pins σ _ _ e s' I2 hq'
  | ok fl =>
    cases fl with
    | ret u =>
      obtain ⟨v, H', I3, rv, ev, q3⟩ := I2.after hq'
      subst ev
      exact ⟨rv, ⟨V.ref (s.heap.objs.size + 1), H', I3, rfl, q3⟩⟩
    | next => exact False.elim hq'
    | brk => exact False.elim hq'
    | cont => exact False.elim hq'
def tMakeR' (C : Addr) (sp : Sp) (E : XK) (t : TA) : TE := fun σ H Q => t σ H fun vs H1 => ∀ x dx, H1 x = none → H1 dx = none → dx ≠ x → sp (.ref x :: vs) (upd (upd H1 dx (.own x)) x (.ins C dx [])) (fun v H2 => v = .non ∧ Q (.ref x) H2) E
theorem pe_makeG (M : Mk X.K C f) (F : FnG X.prog X.w X.K X.mg X.base CX k f fd ps sp) (hr : Room (k + 1) X.A) (hgd : X.A.guards = some []) (hg : Gl X x) (hm : X.mg x = some (.ref C)) (hb : Binds X.K fd ps []) (hx : Passes CX X E)
    (ha : PA X (e :: es) t) (hdb : (x == ("__debug__" : Str)) = false := by decide) (he : starEach (e :: es) X.env = (false, eval e X.env) :: starEach es X.env := by rfl) (hpl : (backTo pos (starEach es X.env)).any (·.1) = false := by rfl) :
    PE X (.Call (.Name x p) (e :: es) [] pos) (tMakeR' C sp E t) := by
  refine ⟨fun pins s σ H Q I h => ?_⟩
  refine wpAny_Call_Name_kw (ld_glob I hg hm ?_ hdb)
  refine PySem.W.callWith_K (h₀ := X.base) I.ok.mod.kin M.kp (thn (ha.run pos pins s σ H _ I h) fun us s1 ⟨vs, H1, I1, r, q⟩ => ⟨I1.kIn, ?_⟩) he hpl
  exact run_makeG M F hr hgd hb hx I1 r q
end

section
variable {X : Cx}
/-- a call's end: what is lent comes back -/
theorem fn_end {g : List O → Option (O × Env)} {rs : List (O × Option Nat)} {σ : L2.St} {H H1 : Hp} {Q : VK} {E : XK} {env1 : Env} {vs : List V} {F F1 F2 : Fp} (ro : ROs X.K H1 (rs.map (·.1)) vs F1) (a : Aft X F H H1 σ env1 F1 F2)
    (g1 : ∀ (k : Nat) (r : O × Option Nat) (i : Nat), rs[k]? = some r → r.2 = some i → ∃ v, vs[k]? = some v ∧ σ[i]? = some (some v))
    (h : Post (PV X F σ H Q) (bnd (lift (g (rs.map (·.1)))) (fun r e => some (r.1, rstO rs r.2 e)) env1)) : spG X.K g vs H1 Q E := by
  obtain ⟨r, e, h⟩ := h.lift
  refine ⟨rs.map (·.1), F1, r.1, r.2, ro, e, fun z H' F3 F4 rz rel' dj st' sub' => ?_⟩
  have d34 : Disj F2 (Or F3 F4) := disj_new (fun x p q => a.dj x q p) a.d2 sub'
  have rel2 := rstO_ok (rs := rs) (a.rel.step st' fun x p q => a.dj x q p) rel' (fun x p q => d34 x q (.inr p)) g1
  refine h z H' F3 _ rz rel2 (fun x p q => q.elim (dj x p) fun q => d34 x q (.inl p)) (a.st.trans st' fun x p => a.sub x (.inl p)) fun x p => ?_
  have s2 : ∀ {x}, Or F3 F4 x → F x ∨ H x = none := fun {x} p => (sub' x p).elim (fun p => a.sub x (.inl p)) fun n => .inr (a.st.free n)
  rcases p with p | p | p
  · exact s2 (.inl p)
  · exact s2 (.inr p)
  · exact a.sub x (.inr p)

/-! ### o.m(..) -/
def insO (C : Addr) (m : Str) : O → Option Unit
  | .d (.ins C' fs) => if C' = C ∧ fs.lookup m = none then some () else none
  | .ins C' fs => if C' = C ∧ fs.lookup m = none then some () else none
  | _ => none
theorem look_none {α β : Type} {m : Str} : ∀ {fs : List (Str × α)} {gs : List (Str × β)}, gs.map (·.1) = fs.map (·.1) → fs.lookup m = none → gs.lookup m = none
  | [], [], _, _ => rfl
  | [], _ :: _, h, _ => by cases h
  | _ :: _, [], h, _ => by cases h
  | (k, y) :: fs, (k', w) :: gs, h, e => by
    simp only [List.map_cons, List.cons.injEq] at h
    obtain ⟨rfl, h2⟩ := h
    rw [List.lookup_cons] at e ⊢
    by_cases c : (m == k') = true
    · rw [c] at e; cases e
    · rw [Bool.not_eq_true] at c
      rw [c] at e ⊢; exact look_none h2 e
theorem insO_ok {H : Hp} {C : Addr} {m : Str} {o : O} {v : V} {F : Fp} {u : Unit} (r : RO X.K H o v F) (e : insO C m o = some u) : ∃ a dx vfs, v = .ref a ∧ Rd H a (.ins C dx vfs) ∧ vfs.lookup m = none := by
  unfold insO at e
  split at e
  · split at e
    · rename_i hc
      obtain ⟨rfl, hl⟩ := hc
      cases r with
      | d r => cases r with
        | ins h e1 r => exact ⟨_, _, _, rfl, .inr ⟨_, h⟩, look_none e1 hl⟩
    · cases e
  · split at e
    · rename_i hc
      obtain ⟨rfl, hl⟩ := hc
      cases r with
      | ins h f e1 r => exact ⟨_, _, _, rfl, .inl h, look_none e1 hl⟩
    · cases e
  · cases e
def cMeth (C : Addr) (m : Str) (g : List O → Option (O × Env)) (fo : M (O × Option Nat)) (fa : M (List (O × Option Nat))) : M O :=
  bnd fo fun r => bnd (lift (insO C m r.1)) fun _ => bnd fa fun rs => bnd (lift (g ((r :: rs).map (·.1)))) fun q e => some (q.1, rstO (r :: rs) q.2 e)
theorem meth_ok {C : Addr} {m : Str} {g : List O → Option (O × Env)} {fo : M (O × Option Nat)} {fa : M (List (O × Option Nat))} {σ : L2.St} {H : Hp} {Q : VK} {E : XK} (h : tOf X (cMeth C m g fo fa) σ H Q) :
    tMethR C m (spG X.K g) E (tOp' X fo) (tLOf X fa) σ H Q := by
  obtain ⟨env, F, rel, h⟩ := h
  refine tOp_bind rel h fun r env1 v H1 F1 F2 ro a g1 h => ?_
  obtain ⟨u, eu, h⟩ := h.lift
  obtain ⟨p, dx, vfs, rfl, er, l⟩ := insO_ok ro eu
  refine ⟨p, dx, vfs, rfl, er, l, ?_⟩
  refine tLO_bind a.rel h fun os env2 vs H2 F3 F4 ro2 b g2 h => ?_
  obtain ⟨st, sub, d13, d14, dm⟩ := a.next b
  have a' : Aft X F H H2 σ env2 (Or F1 F3) F4 := ⟨b.rel, fun x p q => p.elim (fun p => d14 x p q) fun p => b.dj x p q, st, fun x p => sub x (by
    rcases p with (p | p) | p
    · exact .inl p
    · exact .inr (.inl p)
    · exact .inr (.inr p)), fun x p => p.elim (dm x) (b.d1 x), b.d2⟩
  refine fn_end (rs := r :: os) (.cons F1 F3 (ro.step b.st a.dj) ro2 (fun _ p => .inl p) (fun _ p => .inr p) d13) a' (fun k r' i e1 e2 => ?_) h
  cases k with
  | zero => simp at e1; subst e1; exact ⟨_, rfl, g1 i e2⟩
  | succ k => simp at e1; simpa using g2 k r' i e1 e2
section
variable {CX : CXT} {k : Nat} {f C : Addr} {fd : FuncData} {ps : List Str} {E : XK} {x m : Str} {p pos apos : Pos} {e o : Expr} {es : List Expr} {g : List O → Option (O × Env)} {fo : M (O × Option Nat)} {fa : M (List (O × Option Nat))}
theorem se_meth {pl : Sem Bool} (ho : OE X o fo) (c : Cls X.K C) (hm : Meth X.K C m f) (F : FnG X.prog X.w X.K X.mg X.base CX k f fd ps (spG X.K g)) (hr : Room k X.A) (hgd : X.A.guards = some []) (hb : Binds X.K fd ps []) (hx : Passes CX X E) (ha : AO X (e :: es) fa)
    (hst : starEach (e :: es) X.env = (false, eval e X.env) :: starEach es X.env := by rfl) (hpl : (backTo pos (starEach es X.env)).any (·.1) = false := by rfl)
    (ht : eval (.Call (.Attribute o m apos) (e :: es) [] pos) X.env = (do
      let ov ← eval o X.env
      standAt apos.atName
      let (f, first) ← holding [ov] (getMethod ov m pl)
      callWith pos f first (backTo pos (starEach (e :: es) X.env)) (backToKw pos (keywordEach [] X.env))) := by rfl) :
    SE X (.Call (.Attribute o m apos) (e :: es) [] pos) (cMeth C m g fo fa) := PE.imp (pe_methG ho c hm F hr hgd hb hx ha hst hpl ht) fun _ _ _ h => meth_ok h
theorem se_meth0 {pl : Sem Bool} (ho : OE X o fo) (c : Cls X.K C) (hm : Meth X.K C m f) (F : FnG X.prog X.w X.K X.mg X.base CX k f fd ps (spG X.K g)) (hr : Room k X.A) (hgd : X.A.guards = some []) (hb : Binds X.K fd ps []) (hx : Passes CX X E)
    (ht : eval (.Call (.Attribute o m apos) [] [] pos) X.env = (do
      let ov ← eval o X.env
      standAt apos.atName
      let (f, first) ← holding [ov] (getMethod ov m pl)
      callWith pos f first (backTo pos (starEach [] X.env)) (backToKw pos (keywordEach [] X.env))) := by rfl) :
    SE X (.Call (.Attribute o m apos) [] [] pos) (cMeth C m g fo nilO) := PE.imp (pe_methG0 ho c hm F hr hgd hb hx ht) fun σ H Q h => by
  obtain ⟨env, F, rel, h⟩ := h
  refine tOp_bind rel h fun r env1 v H1 F1 F2 ro a g1 h => ?_
  obtain ⟨u, eu, h⟩ := h.lift
  obtain ⟨p, dx, vfs, rfl, er, l⟩ := insO_ok ro eu
  refine ⟨p, dx, vfs, rfl, er, l, ?_⟩
  refine fn_end (E := E) (rs := [r]) (F1 := F1) (.cons F1 nof ro .nil (fun _ p => p) (fun _ p => p.elim) fun _ _ p => p) a (fun k r' i e1 e2 => ?_) h
  cases k with
  | zero => simp at e1; subst e1; exact ⟨_, rfl, g1 i e2⟩
  | succ k => simp at e1
end

/-! ### C(..) -/
def makeK (rs : List (O × Option Nat)) (r : O × Env) : M O := fun e => match r.1, r.2 with
  | .d .non, some o :: outs => some (o, rstO rs outs e)
  | _, _ => none
def cMake (C : Addr) (g : List O → Option (O × Env)) (fa : M (List (O × Option Nat))) : M O := bnd fa fun rs => bnd (lift (g (.ins C [] :: rs.map (·.1)))) (makeK rs)
theorem make_ok {C : Addr} {g : List O → Option (O × Env)} {fa : M (List (O × Option Nat))} {σ : L2.St} {H : Hp} {Q : VK} {E : XK} (h : tOf X (cMake C g fa) σ H Q) : tMakeR' C (spG X.K g) E (tLOf X fa) σ H Q := by
  obtain ⟨env, F, rel, h⟩ := h
  refine tLO_bind rel h fun rs env1 vs H1 F1 F2 ro a g1 h => ?_
  intro x dx hx hdx ne
  obtain ⟨r, er, h⟩ := h.lift
  have hx' : upd H1 dx (.own x) x = none := by rw [upd_ne (Ne.symm ne)]; exact hx
  have st0 : ∀ {G : Fp}, Step G H1 (upd (upd H1 dx (.own x)) x (.ins C dx [])) := fun {G} => (Step.new (F := G) hdx).trans (Step.new (F := G) hx') fun _ p => .inl p
  have dx1 : ∀ z, F1 z → z ≠ x := fun z p e => by obtain ⟨o, q⟩ := a.d1 z p; rw [e, hx] at q; cases q
  refine ⟨.ins C [] :: rs.map (·.1), Or (· = x) F1, r.1, r.2, .cons (· = x) F1 (.ins upd_same rfl rfl .nil) (ro.step (st0 (G := nof)) fun _ _ p => p) (fun _ p => .inl p) (fun _ p => .inr p) (fun z p q => dx1 z q p), er, fun z H' F3 F4 rz rel' dj st' sub' => ?_⟩
  have S1 : Step F1 H1 H' := st0.trans st' fun z p => p.elim (fun e => .inr (by rw [e]; exact hx)) .inl
  have U1 : Sub (Or F3 F4) F1 H1 := fun z p => (sub' z p).elim (fun q => q.elim (fun e => .inr (by rw [e]; exact hx)) .inl) fun n => .inr ((st0 (G := nof)).free n)
  have d34 : Disj F2 (Or F3 F4) := disj_new (fun x p q => a.dj x q p) a.d2 U1
  obtain ⟨r1, r2⟩ := r
  unfold makeK at h
  split at h
  · rename_i o outs e1 e2
    dsimp only at e1 e2
    subst e1 e2
    cases rz with
    | d rz =>
      cases rz
      cases rel' with
      | so G1 G2 ho rel'' sa sb sd =>
        have rel2 := rstO_ok (rs := rs) (a.rel.step S1 fun x p q => a.dj x q p) rel'' (fun x p q => d34 x q (.inr (sb x p))) g1
        refine ⟨rfl, h (.ref x) H' G1 _ ho rel2 (fun z p q => q.elim (sd z p) fun q => d34 z q (.inr (sa z p))) (a.st.trans S1 fun x p => a.sub x (.inl p)) fun z p => ?_⟩
        have s2 : ∀ {x}, Or F3 F4 x → F x ∨ H x = none := fun {x} p => (U1 x p).elim (fun p => a.sub x (.inl p)) fun n => .inr (a.st.free n)
        rcases p with p | p | p
        · exact s2 (.inr (sa z p))
        · exact s2 (.inr (sb z p))
        · exact a.sub z (.inr p)
  · exact h.elim
theorem se_make {CX : CXT} {k : Nat} {f C : Addr} {fd : FuncData} {ps : List Str} {E : XK} {x : Str} {p pos : Pos} {e : Expr} {es : List Expr} {g : List O → Option (O × Env)} {fa : M (List (O × Option Nat))} (M : Mk X.K C f) (F : FnG X.prog X.w X.K X.mg X.base CX k f fd ps (spG X.K g)) (hr : Room (k + 1) X.A) (hgd : X.A.guards = some []) (hg : Gl X x) (hm : X.mg x = some (.ref C)) (hb : Binds X.K fd ps []) (hx : Passes CX X E)
    (ha : AO X (e :: es) fa) (hdb : (x == ("__debug__" : Str)) = false := by decide) (he : starEach (e :: es) X.env = (false, eval e X.env) :: starEach es X.env := by rfl) (hpl : (backTo pos (starEach es X.env)).any (·.1) = false := by rfl) :
    SE X (.Call (.Name x p) (e :: es) [] pos) (cMake C g fa) := PE.imp (pe_makeG M F hr hgd hg hm hb hx ha hdb he hpl) fun _ _ _ h => make_ok h
end
end TL

set_option maxHeartbeats 1000000
/-! Own classes: properties, isinstance. -/
namespace TL
open PySem L2 PySem.Spec PyProof.Rows

section
variable {X : Cx} {CX : CXT} {k : Nat} {C p g a dx : Addr} {fs : List (Str × V)} {f : Str} {fd : FuncData} {ps : List Str} {sp : Sp} {E : XK} {e : Expr} {pos : Pos} {ta : TE}
theorem guards_in1 {A : Around} (h : A.guards = some []) : A.in1.guards = some [] := by
  have : A.in1.guards = A.guards := by simp [Around.in1, Around.guards]
  first | exact h | (rw [this]; exact h)
theorem getprop_okG {pins : List (Addr × Obj)} {σ : L2.St} {H : Hp} {s : Shared} {Q : VK} {b : Bool} {E' : Value → Shared → Prop} (I : Inv X pins σ H s) (ea : Rd H a (.ins C dx fs)) (c : Cls X.K C) (hp : PropOf X.K C f p g)
    (F : FnG X.prog X.w X.K X.mg X.base CX k g fd ps sp) (hr : Room (k + 1) X.A) (hgd : X.A.guards = some []) (hb : Binds X.K fd ps []) (hx : Passes CX X.nox E) (h : sp [.ref a] H Q E) :
    wpAny (model X.prog X.w) X.A (getAttr (.ref a) f b) (EP X pins σ Q) E' s := by
  obtain ⟨mA, O, _⟩ := ins_getR I.hok ea
  obtain ⟨od, J, _⟩ := O.look
  obtain ⟨rest, hrec⟩ := hp.rec_
  have I1 := I.tok (s.toks + 1)
  have hl : ([Value.ref a] ++ []).length = ps.length := by
    rw [← F.len _ _ _ _ h]
    rfl
  have hc : (PySem.W.clsIn X.K C).isSome = true := by
    obtain ⟨cd, hc, _⟩ := PySem.W.any_some c.hd
    rw [hc]
    rfl
  refine PySem.W.get_bind I.kIn J (PySem.W.plainGet_of (c.get f)).1 (PySem.W.findObj_data hc hp.at_ hp.get hp.tak) (PySem.W.plainGet_of (c.get f)).2 (wpAny_call (PySem.W.prop_get (s := { s with toks := s.toks + 1 }) I.kIn hrec ?_))
  refine codeAny_mono (F.run X.A.in1 X.stack { s with toks := s.toks + 1 } H ⟨[.ref a], []⟩ [.ref a] [.ref a] Q E hr.in1 (guards_in1 hgd) I1.env0.in1 (hb _ [.ref a] I1.kIn hl) (.cons rfl .nil) h) fun r s' hq => ?_
  cases r with
  | error er => exact False.elim (hx pins σ H { s with toks := s.toks + 1 } er s' (I1.wish _) hq)
  | ok fl =>
    cases fl with
    | ret u =>
      obtain ⟨v, H', I3, rv, q3⟩ := I1.after hq
      show wpAny _ _ (handedOut u) _ _ _
      rw [PySem.W.handedOut_of (handed_of rv)]
      exact wpAny_pure ⟨v, H', I3, rv, q3⟩
    | next => exact False.elim hq
    | brk => exact False.elim hq
    | cont => exact False.elim hq
def tPropR (C : Addr) (f : Str) (sp : Sp) (E : XK) (ta : TE) : TE := fun σ H Q => ta σ H fun x H1 => ∃ a dx fs, x = .ref a ∧ Rd H1 a (.ins C dx fs) ∧ fs.lookup f = none ∧ sp [x] H1 Q E
theorem pe_propG (he : PE X e ta) (c : Cls X.K C) (hp : PropOf X.K C f p g) (F : FnG X.prog X.w X.K X.mg X.base CX k g fd ps sp) (hr : Room (k + 1) X.A) (hgd : X.A.guards = some []) (hb : Binds X.K fd ps []) (hx : Passes CX X.nox E)
    (hab : attributeBase e f X.env (eval e X.env) = eval e X.env := by rfl) : PE X (.Attribute e f pos) (tPropR C f sp E ta) := by
  refine ⟨fun pins s σ H Q I h => ?_⟩
  refine attr_of hab (thn (he.run pins s σ H _ I h) fun u s1 ⟨x, H1, I1, rx, a, dx, fs, ex, ea, _, q⟩ => ?_)
  subst ex
  obtain rfl : u = Value.ref a := rx
  exact getprop_okG I1 ea c hp F hr hgd hb hx q
end
section
variable {X : Cx}
def cProp (C : Addr) (f : Str) (g : List O → Option (O × Env)) (fo : M (O × Option Nat)) : M O :=
  bnd fo fun r => bnd (lift (insO C f r.1)) fun _ => bnd (lift (g [r.1])) fun q e => some (q.1, rstO [r] q.2 e)
theorem se_prop {CX : CXT} {k : Nat} {C p ga : Addr} {f : Str} {fd : FuncData} {ps : List Str} {E : XK} {e : Expr} {pos : Pos} {g : List O → Option (O × Env)} {fo : M (O × Option Nat)} (ho : OE X e fo) (c : Cls X.K C) (hp : PropOf X.K C f p ga)
    (F : FnG X.prog X.w X.K X.mg X.base CX k ga fd ps (spG X.K g)) (hr : Room (k + 1) X.A) (hgd : X.A.guards = some []) (hb : Binds X.K fd ps []) (hx : Passes CX X.nox E)
    (hab : attributeBase e f X.env (eval e X.env) = eval e X.env := by rfl) : SE X (.Attribute e f pos) (cProp C f g fo) := PE.imp (pe_propG ho c hp F hr hgd hb hx hab) fun σ H Q h => by
  obtain ⟨env, F, rel, h⟩ := h
  refine tOp_bind rel h fun r env1 v H1 F1 F2 ro a g1 h => ?_
  obtain ⟨u, eu, h⟩ := h.lift
  obtain ⟨p, dx, vfs, rfl, er, l⟩ := insO_ok ro eu
  refine ⟨p, dx, vfs, rfl, er, l, ?_⟩
  refine fn_end (E := E) (rs := [r]) (F1 := F1) (.cons F1 nof ro .nil (fun _ p => p) (fun _ p => p.elim) fun _ _ p => p) a (fun k r' i e1 e2 => ?_) h
  cases k with
  | zero => simp at e1; subst e1; exact ⟨_, rfl, g1 i e2⟩
  | succ k => simp at e1

/-! ### isinstance(x, C) -/
structure Own (K : PySem.W.Frag) (C : Addr) : Prop where
  cl : Cls K C
  ha : PySem.W.findIn K (.ref C) "__class__" = some (some (.builtin "object.__class__"))
  hn : PySem.W.specialIn K (.builtin "object.__class__") "__get__" = some (some (.builtin "getset_descriptor.__get__"))
  htk : PySem.W.takesIn K (.builtin "object.__class__") = some true
  hm : PySem.W.mroIn K C (.type "object") = some true
theorem isi_own {pins : List (Addr × Obj)} {σ : L2.St} {H : Hp} {s : Shared} {a C dx : Addr} {vfs : List (Str × V)} {c : Value} {b : Bool} {A : Around} {Q : Value → Shared → Prop} {E : Value → Shared → Prop} (I : Inv X pins σ H s) (ea : Rd H a (.ins C dx vfs)) (o : Own X.K C) (e : PySem.W.kitOne X.K (.ref C) c = some b)
    (h : ∀ tk, Q (.bool b) { s with toks := tk }) : wpAny (model X.prog X.w) A (call (.builtin "isinstance") [.ref a, c]) Q E s := by
  obtain ⟨mA, O, _⟩ := ins_getR I.hok ea
  obtain ⟨od, J, _⟩ := O.look
  exact PySem.W.kia_one (PySem.W.kitx_own (o.cl.get _) o.cl.hd o.ha o.hn o.htk o.hm) I.kIn J e (fun z => nomatch z) h
def clsO : O → Option Addr
  | .d (.ins C _) => some C
  | .ins C _ => some C
  | _ => none
theorem clsO_ok {H : Hp} {o : O} {v : V} {F : Fp} {C : Addr} (r : RO X.K H o v F) (e : clsO o = some C) : ∃ a dx vfs, v = .ref a ∧ Rd H a (.ins C dx vfs) := by
  unfold clsO at e
  split at e
  · cases e
    cases r with
    | d r => cases r with
      | ins h e1 r => exact ⟨_, _, _, rfl, .inr ⟨_, h⟩⟩
  · cases e
    cases r with
    | ins h f e1 r => exact ⟨_, _, _, rfl, .inl h⟩
  · cases e
/-- what is known of the classes of the program: none of them over another -/
structure Clss (K : PySem.W.Frag) (Cs : List Addr) : Prop where
  own : ∀ C ∈ Cs, Own K C
  ty : ∀ C ∈ Cs, ∀ n ∈ kTys, PySem.W.kitOne K (.type n) (.ref C) = some false
  tyI : ∀ C ∈ Cs, ∀ n ∈ ["int", "bool", "str", "tuple", "list", "dict"], PySem.W.kitOne K (.ref C) (.type n) = some false
  ins : ∀ C ∈ Cs, ∀ D ∈ Cs, PySem.W.kitOne K (.ref C) (.ref D) = some (decide (C = D))
def isiC (Cs : List Addr) (x c : O) : Option Bool := match c with
  | .d (.obj C) => if C ∈ Cs then (match clsO x with
      | some D => if D ∈ Cs then some (decide (D = C)) else none
      | none => match tyO x with
        | some n => if n ∈ kTys then some false else none
        | none => none) else none
  | .d (.ty n) => if n ∈ ["int", "bool", "str", "tuple", "list", "dict"] then (match clsO x with
      | some D => if D ∈ Cs then some false else none
      | none => none) else none
  | _ => none
def gIsiC (Cs : List Addr) : List O → Option O := g2 fun x c => match isiC Cs x c with
  | some b => some (.d (.bl b))
  | none => none
def rIsiC (X : Cx) (Cs : List Addr) : List V → Hp → VK → Prop := fun xs H Q => ∃ ox oc x c F G b, xs = [x, c] ∧ RO X.K H ox x F ∧ RO X.K H oc c G ∧ isiC Cs ox oc = some b ∧ Q (.bl b) H
theorem call_isiC {Cs : List Addr} (hC : Clss X.K Cs) : CallR X (.builtin "isinstance") (rIsiC X Cs) := by
  intro pins s σ H xs us Q I r h
  obtain ⟨ox, oc, x, c, F, G, b, rfl, r1, r2, e, q⟩ := h
  obtain ⟨u1, u2, rfl, v1, v2⟩ := vals2 r
  have fin : ∀ tk, EP X pins σ Q (.bool b) { s with toks := tk } := fun tk => ⟨.bl b, H, I.tok tk, rfl, q⟩
  unfold isiC at e
  split at e
  · rename_i C
    cases r2.od
    obtain rfl : u2 = Value.ref C := v2
    split at e
    · rename_i hc
      split at e
      · rename_i D hD
        split at e
        · rename_i hd
          cases e
          obtain ⟨a, dx, vfs, rfl, ea⟩ := clsO_ok r1 hD
          obtain rfl : u1 = Value.ref a := v1
          exact isi_own I ea (hC.own D hd) (hC.ins D hd C hc) fin
        · cases e
      · split at e
        · rename_i n hn
          split at e
          · rename_i hk
            cases e
            obtain ⟨P, Z, p, hx⟩ := kit_of I v1 (tyO_ok r1 hn)
            exact PySem.W.kia_one Z I.kIn p (hC.ty C hc n hk) hx fin
          · cases e
        · cases e
    · cases e
  · rename_i n
    cases r2.od
    obtain rfl : u2 = Value.type n := v2
    split at e
    · rename_i hk
      split at e
      · rename_i D hD
        split at e
        · rename_i hd
          cases e
          obtain ⟨a, dx, vfs, rfl, ea⟩ := clsO_ok r1 hD
          obtain rfl : u1 = Value.ref a := v1
          exact isi_own I ea (hC.own D hd) (hC.tyI D hd n hk) fin
        · cases e
      · cases e
    · cases e
  · cases e
theorem cs_isiC {Cs : List Addr} (hC : Clss X.K Cs) : CallS X (.builtin "isinstance") (gIsiC Cs) := .of (call_isiC hC) fun H xs os F o r e => by
  obtain ⟨x, y, v, w, G, G', rfl, rfl, h, h', q⟩ := g2_of r e
  split at q
  · rename_i b hb
    cases q
    exact ⟨x, y, v, w, G, G', b, rfl, h, h', hb, .d (.bl b)⟩
  · cases q
end
end TL

set_option maxHeartbeats 1000000
/-! name = {k: v for ..} on one line; defs of classes in short. -/
namespace TL
open PySem L2 PySem.Spec PyProof.Rows
section
variable {X : Cx}
theorem sw_trueD {kx vx : Expr} {gs : List Comprehension} {scope : Scope} {pos py : Pos} {y : Str} {l : Nat} {env : PySem.Env} (hk : env.scope.kind = .function) (hy : env.scope.names.lookup y = some .local) (hl : (py.line == pos.line) = true)
    (ha : (scope.names.any fun (n, k) => n == y && (k == .local || k == .cell)) = false) : swapsWith (.DictComp kx vx gs scope pos) (some (.Name y py)) l env = pure true := by
  have ky : env.kindOf y = some .local := hy
  have hb : env.blockKind = .function := by unfold Env.blockKind; rw [hk]; rfl
  unfold swapsWith
  simp only [hb, ky, ha, Expr.pos, hl]
  rfl
theorem ps_setDc {i : Nat} {y : Str} {py : Pos} {kx vx tg iter : Expr} {ifs : List Expr} {scope : Scope} {own : List (Str × Nat)} {pos spos : Pos} {wi : TI} {g : TG} {tt : TT} {tk tv : TE} (hc : X.calm = true) (hN : X.N.Nodup) (hy : X.N[i]? = some y) (hyl : X.env.scope.names.lookup y = some .local)
    (hsw : swapsWith (.DictComp kx vx [⟨tg, iter, ifs, 0⟩] scope pos) (some (.Name y py)) spos.line X.env = pure true) (hi : PI X tg iter wi) (ok : BlkOk X.N X.env.scope scope own)
    (hg : ∀ (s : Shared) (H : Hp) (C : Addr) (cl : List (Str × Addr)) (fp : List Addr), PG (X.blk s H scope (compEnvC scope cl C X.env) fp) tg g) (ht : ∀ (s : Shared) (H : Hp) (C : Addr) (cl : List (Str × Addr)) (fp : List Addr), PTs (X.blk s H scope (compEnvC scope cl C X.env) fp) ifs tt)
    (hk : ∀ (s : Shared) (H : Hp) (C : Addr) (cl : List (Str × Addr)) (fp : List Addr), PE (X.blk s H scope (compEnvC scope cl C X.env) fp) kx tk)
    (he : ∀ (s : Shared) (H : Hp) (C : Addr) (cl : List (Str × Addr)) (fp : List Addr), PE (X.blk s H scope (compEnvC scope cl C X.env) fp) vx tv) (hs : ∀ x, foldedSetIterable iter X.env x = pure x := by intro _; rfl) :
    PS X (.Assign [.Name y py] (.DictComp kx vx [⟨tg, iter, ifs, 0⟩] scope pos) spos) (tAsg (tDc wi g tt tk tv (own.map (·.2))) (gName i)) := by
  refine ⟨fun pins s σ H D I h => ?_⟩
  rw [exec_Assign_Name_used _ _ _ _ hsw]
  refine wpAny_bind (wpAny_standAt (wpAny_bind ?_))
  show wpAny _ X.A (do let _ ← comprehension (.DictComp kx vx [⟨tg, iter, ifs, 0⟩] scope pos) scope X.env (firstIterPos [⟨tg, iter, ifs, 0⟩] pos) newDict false (eval iter X.env) (some (assign (.Name y py) X.env))) _ _ s
  have h : tDc wi g tt tk tv (own.map (·.2)) σ H (fun x H1 => gName i x σ H1 D.nx) := h
  refine wpAny_bind (thn (dc_core (Qf := fun _ s' => SP X pins D .next s') hc hN I hi ok hg ht hk he hs h fun L C s' m H' I' q hn f => ?_) fun _ s' hq => wpAny_pure (wpAny_pure hq))
  show wpAny _ _ (assign (.Name y py) X.env (.ref L)) _ _ _
  refine wpAny_assign_Name (store_ok2 (v := V.ref L) I' hN hy (.inl hyl) rfl (fun s2 I2 ⟨a, sb, ha⟩ => ?_) (.inr hyl))
  obtain ⟨f0, f1, f2, f3, f4, f5⟩ := f
  have haC : C ≠ a := by
    rcases ha with z | z
    · rw [z]; exact f1
    · exact fun e => f4 y a z e.symm
  refine ⟨m, hn.sameBut sb haC, fun h3 sb3 => ?_⟩
  exact ⟨_, H', I2.turned (t' := s2.toks) (fun b o hb e => (sb3.2 b hb).trans e) f0 f1 f3 f4 f5, q⟩
theorem ss_setDc {fx : Nat → Bool} (i : Nat) {y : Str} {py : Pos} {kx vx tg iter : Expr} {ifs : List Expr} {scope : Scope} {own : List (Str × Nat)} {pos spos : Pos} {src : M (List D × (O × Option Nat))} {g : G} {t : M Bool} {fk fv : M O} (hc : X.calm = true) (hN : X.N.Nodup) (ok : BlkOk X.N X.env.scope scope own) (hi : IE X tg iter src)
    (hg : ∀ (s : Shared) (H : Hp) (C : Addr) (cl : List (Str × Addr)) (fp : List Addr), TG' (X.blk s H scope (compEnvC scope cl C X.env) fp) (fxOf (own.map (·.2))) tg g) (ht : ∀ (s : Shared) (H : Hp) (C : Addr) (cl : List (Str × Addr)) (fp : List Addr), TsE (X.blk s H scope (compEnvC scope cl C X.env) fp) ifs t)
    (hk : ∀ (s : Shared) (H : Hp) (C : Addr) (cl : List (Str × Addr)) (fp : List Addr), SE (X.blk s H scope (compEnvC scope cl C X.env) fp) kx fk)
    (he : ∀ (s : Shared) (H : Hp) (C : Addr) (cl : List (Str × Addr)) (fp : List Addr), SE (X.blk s H scope (compEnvC scope cl C X.env) fp) vx fv) (hsw : swapsWith (.DictComp kx vx [⟨tg, iter, ifs, 0⟩] scope pos) (some (.Name y py)) spos.line X.env = pure true) (hy : X.N[i]? = some y := by rfl) (hyl : X.env.scope.names.lookup y = some .local := by rfl) (hfx : fx i = false := by rfl)
    (hs : ∀ x, foldedSetIterable iter X.env x = pure x := by intro _; rfl) : SS X fx (.Assign [.Name y py] (.DictComp kx vx [⟨tg, iter, ifs, 0⟩] scope pos) spos) (bndS (dcM src g t fk fv (own.map (·.2))) (asgS (setV i))) :=
  PS.imp (ps_setDc (wi := tIf X src) (g := tGf X (fxOf (own.map Prod.snd)) g) (tt := tBf X t) (tk := tOf X fk) (tv := tOf X fv) hc hN hy hyl hsw hi ok hg ht hk he hs) fun D σ H ⟨env, F, rel, h⟩ => dc_ok (Post.tof rel (bndS_ok h) fun o env1 v H1 F1 F2 ro a h => by
    obtain ⟨o', env', G1, G2, ro', rel', d', env2, e, k⟩ := asg_end ro a h
    exact k _ _ (Or G1 G2) (setV_ok e ro' rel' d') (.set hfx) .refl .refl)
end
/-! ### defs of classes -/
/-- the method m of C is the def st of the text -/
def MeAt (K : PySem.W.Frag) (C : Addr) (m qual : Str) (st : Stmt) : Prop := ∃ f fd, PySem.W.findIn K (.ref C) m = some (some (.ref f)) ∧ PySem.W.isFn K (.ref f) = true ∧ L2.Fun K m qual st f fd
/-- the property m of C reads by the def st -/
def PrAt (K : PySem.W.Frag) (C : Addr) (m qual : Str) (st : Stmt) : Prop := ∃ p f fd, PropOf K C m p f ∧ L2.Fun K m qual st f fd
/-- .. and does what g tells -/
def OkM (P : Program) (w : World) (K : PySem.W.Frag) (mg : Str → Option Value) (base : Heap) (k : Nat) (C : Addr) (m : Str) (ps : List Str) (g : List O → Option (O × Env)) : Prop :=
  ∃ f fd, Meth K C m f ∧ Binds K fd ps [] ∧ FnG P w K mg base NoX k f fd ps (spG K g)
def OkP (P : Program) (w : World) (K : PySem.W.Frag) (mg : Str → Option Value) (base : Heap) (k : Nat) (C : Addr) (m : Str) (ps : List Str) (g : List O → Option (O × Env)) : Prop :=
  ∃ p f fd, PropOf K C m p f ∧ Binds K fd ps [] ∧ FnG P w K mg base NoX k f fd ps (spG K g)
section
variable {P : Program} {w : World} {K : PySem.W.Frag} {mg : Str → Option Value} {base : Heap}
theorem okm_mk {C : Addr} {k : Nat} {x qual : Str} {st : Stmt} {N ps : List Str} {fx : Nat → Bool} {g : S} (n m : Nat) (F : MeAt K C x qual st) (sc : FnScope N ps (defScope st)) (hn : ps.length = n) (hm : N.length = m)
    (hb : ∀ (kV doc pm : Value) (an : Option Addr) (cdv ct : Value) (us : List Value), us.length = ps.length → bindArgs (PySem.W.fnOf x qual (defArgs st) (defBody st) (defScope st) .none kV doc pm an cdv ct) ⟨us, []⟩ = pure (ps.zip us))
    (hbody : ∀ (f : Addr) (cdv : Value) (A : Around) (outer : List PySem.Env) (s : Shared) (H : Hp) (E : XK), Room k (A.deeper (envOfC qual (defScope st) s.heap.objs.size f cdv)) → (A.deeper (envOfC qual (defScope st) s.heap.objs.size f cdv)).guards = some [] →
      SB (cxOf NoX P w K mg base N qual (defScope st) f cdv A outer s H E) fx (defBody st) g) : OkM P w K mg base (k + 1) C x ps (fnG n m fx g) := by
  obtain ⟨f, fd, hf, hi, ⟨oc, od, kV, doc, pm, an, cdv, ct, osl, rfl, lk, hcd⟩, kp⟩ := F
  exact ⟨f, _, ⟨hf, hi, kp⟩, Binds.all (hb kV doc pm an cdv ct), fng_body n m lk hcd sc hn hm fun A outer s H E hr hgd => hbody f cdv A outer s H E hr hgd⟩
theorem okp_mk {C : Addr} {k : Nat} {x qual : Str} {st : Stmt} {N ps : List Str} {fx : Nat → Bool} {g : S} (n m : Nat) (F : PrAt K C x qual st) (sc : FnScope N ps (defScope st)) (hn : ps.length = n) (hm : N.length = m)
    (hb : ∀ (kV doc pm : Value) (an : Option Addr) (cdv ct : Value) (us : List Value), us.length = ps.length → bindArgs (PySem.W.fnOf x qual (defArgs st) (defBody st) (defScope st) .none kV doc pm an cdv ct) ⟨us, []⟩ = pure (ps.zip us))
    (hbody : ∀ (f : Addr) (cdv : Value) (A : Around) (outer : List PySem.Env) (s : Shared) (H : Hp) (E : XK), Room k (A.deeper (envOfC qual (defScope st) s.heap.objs.size f cdv)) → (A.deeper (envOfC qual (defScope st) s.heap.objs.size f cdv)).guards = some [] →
      SB (cxOf NoX P w K mg base N qual (defScope st) f cdv A outer s H E) fx (defBody st) g) : OkP P w K mg base (k + 1) C x ps (fnG n m fx g) := by
  obtain ⟨p, f, fd, hp, ⟨oc, od, kV, doc, pm, an, cdv, ct, osl, rfl, lk, hcd⟩, kp⟩ := F
  exact ⟨p, f, _, hp, Binds.all (hb kV doc pm an cdv ct), fng_body n m lk hcd sc hn hm fun A outer s H E hr hgd => hbody f cdv A outer s H E hr hgd⟩
end
/-- the class x of the text stands at C and can be called -/
structure ClAt (K : PySem.W.Frag) (mg : Str → Option Value) (x : Str) (C : Addr) : Prop where
  mgC : mg x = some (.ref C)
  cl : Cls K C
  makes : PySem.W.makesIn K C = true
  kp : PySem.W.keepIn K (.ref C) = true
section
variable {X : Cx}
theorem se_cls {x : Str} {C : Addr} {pos : Pos} (h : ClAt X.K X.mg x C) (hg : Gl X x := by rfl) (hb : (x == ("__debug__" : Str)) = false := by decide) : SE X (.Name x pos) (con (.obj C)) :=
  se_glob (v := .ref C) hg h.mgC rfl (fun _ => .obj C) hb
theorem se_mk {j : Nat} {C : Addr} {x : Str} {ps : List Str} {p pos : Pos} {e : Expr} {es : List Expr} {g : List O → Option (O × Env)} {fa : M (List (O × Option Nat))} (c : ClAt X.K X.mg x C) (h : OkM X.prog X.w X.K X.mg X.base j C "__init__" ps g) (hr : Room (j + 1) X.A) (hgd : X.A.guards = some [])
    (ha : AO X (e :: es) fa) (hg : Gl X x := by rfl) (hdb : (x == ("__debug__" : Str)) = false := by decide) (he : starEach (e :: es) X.env = (false, eval e X.env) :: starEach es X.env := by rfl) (hpl : (backTo pos (starEach es X.env)).any (·.1) = false := by rfl) :
    SE X (.Call (.Name x p) (e :: es) [] pos) (cMake C g fa) := by
  obtain ⟨f, fd, hm, hb, F⟩ := h
  exact se_make (E := fun _ _ _ => False) ⟨c.makes, hm.at_, hm.fn, c.kp⟩ F hr hgd hg c.mgC hb noX_passes ha hdb he hpl
theorem se_me {pl : Sem Bool} {j : Nat} {C : Addr} {m : Str} {ps : List Str} {apos pos : Pos} {o e : Expr} {es : List Expr} {g : List O → Option (O × Env)} {fo : M (O × Option Nat)} {fa : M (List (O × Option Nat))} (c : Cls X.K C) (h : OkM X.prog X.w X.K X.mg X.base j C m ps g) (hr : Room j X.A) (hgd : X.A.guards = some []) (ho : OE X o fo)
    (ha : AO X (e :: es) fa) (hst : starEach (e :: es) X.env = (false, eval e X.env) :: starEach es X.env := by rfl) (hpl : (backTo pos (starEach es X.env)).any (·.1) = false := by rfl)
    (ht : eval (.Call (.Attribute o m apos) (e :: es) [] pos) X.env = (do
      let ov ← eval o X.env
      standAt apos.atName
      let (f, first) ← holding [ov] (getMethod ov m pl)
      callWith pos f first (backTo pos (starEach (e :: es) X.env)) (backToKw pos (keywordEach [] X.env))) := by rfl) :
    SE X (.Call (.Attribute o m apos) (e :: es) [] pos) (cMeth C m g fo fa) := by
  obtain ⟨f, fd, hm, hb, F⟩ := h
  exact se_meth (E := fun _ _ _ => False) ho c hm F hr hgd hb noX_passes ha hst hpl ht
theorem se_me0 {pl : Sem Bool} {j : Nat} {C : Addr} {m : Str} {ps : List Str} {apos pos : Pos} {o : Expr} {g : List O → Option (O × Env)} {fo : M (O × Option Nat)} (c : Cls X.K C) (h : OkM X.prog X.w X.K X.mg X.base j C m ps g) (hr : Room j X.A) (hgd : X.A.guards = some []) (ho : OE X o fo)
    (ht : eval (.Call (.Attribute o m apos) [] [] pos) X.env = (do
      let ov ← eval o X.env
      standAt apos.atName
      let (f, first) ← holding [ov] (getMethod ov m pl)
      callWith pos f first (backTo pos (starEach [] X.env)) (backToKw pos (keywordEach [] X.env))) := by rfl) :
    SE X (.Call (.Attribute o m apos) [] [] pos) (cMeth C m g fo nilO) := by
  obtain ⟨f, fd, hm, hb, F⟩ := h
  exact se_meth0 (E := fun _ _ _ => False) ho c hm F hr hgd hb noX_passes ht
theorem se_pr {j : Nat} {C : Addr} {m : Str} {ps : List Str} {pos : Pos} {o : Expr} {g : List O → Option (O × Env)} {fo : M (O × Option Nat)} (c : Cls X.K C) (h : OkP X.prog X.w X.K X.mg X.base j C m ps g) (hr : Room (j + 1) X.A) (hgd : X.A.guards = some []) (ho : OE X o fo)
    (hab : attributeBase o m X.env (eval o X.env) = eval o X.env := by rfl) : SE X (.Attribute o m pos) (cProp C m g fo) := by
  obtain ⟨p, f, fd, hp, hb, F⟩ := h
  exact se_prop (E := fun _ _ _ => False) ho c hp F hr hgd hb noX_passes hab
end
end TL

set_option maxHeartbeats 1000000
/-! Stars in displays, name op= int, list[::-1]. -/
namespace TL
open PySem L2 PySem.Spec PyProof.Rows
section
variable {X : Cx} {fx : Nat → Bool}
/-! ### (*xs, ..) -/
def starM (fe : M (O × Option Nat)) (g : M (List O)) : M (List O) := bnd fe fun r => bnd (lift (asQ r.1)) fun xs => bnd (rst r.2 r.1) fun _ => bnd g fun os => ret (xs.map O.d ++ os)
theorem ROs.data {K : PySem.W.Frag} {H : Hp} : ∀ {xs : List D} {us : List V} {os : List O} {vs : List V} {F : Fp}, RDs K H xs us → ROs K H os vs F → ROs K H (xs.map O.d ++ os) (us ++ vs) F
  | _, _, _, _, _, .nil, r => r
  | _, _, _, _, F, .cons h t, r => .cons nof F (.d h) (ROs.data t r) (fun _ p => p.elim) (fun _ p => p) fun _ p _ => p
theorem ae_star {e : Expr} {p : Pos} {es : List Expr} {fe : M (O × Option Nat)} {g : M (List O)} (he : OE X e fe) (hr : AE X es g) (hs : starEach (.Starred e p :: es) X.env = (true, eval e X.env) :: starEach es X.env := by rfl) : AE X (.Starred e p :: es) (starM fe g) := by
  refine PA.imp (StX.pa_star he hr hs) fun σ H Q ⟨env, F, rel, h⟩ => ?_
  refine tOp_bind rel h fun r env1 v H1 F1 F2 ro a g1 h => ?_
  obtain ⟨xs, ex, h⟩ := h.lift
  obtain ⟨p, us, rfl, hq, rd⟩ := asQ_ok ro ex
  refine ⟨p, us, rfl, hq.symm, ?_⟩
  obtain ⟨env2, rel2, h⟩ := rst_ok a.rel ro a.dj g1 h
  refine tLf_bind rel2 h fun os env3 vs H2 F3 F4 ro2 b h => ?_
  refine h (us ++ vs) H2 F3 F4 (ROs.data (rd.keep b.st.pers) ro2) b.rel b.dj (a.st.trans b.st fun x q => a.sub x q) fun x q => (b.sub x q).elim (a.sub x) fun n => .inr (a.st.free n)

/-! ### name op= int -/
def augK (u : Int → Int → Int) (i : Nat) (n : Int) : O → S := fun o e => match o with
  | .d (.int m) => if i < e.length then some (.nx, e.set i (some (.d (.int (u n m))))) else none
  | _ => none
def augS (u : Int → Int → Int) (i : Nat) (f : M O) : S := fun e => match e[i]? with
  | some (some (.d (.int n))) => bndS f (augK u i n) e
  | _ => none
theorem ss_augI {u : Int → Int → Int} {op : Operator} (ho : PIp X op (ipI u)) (i : Nat) {x : Str} {e : Expr} {f : M O} {pos pos' : Pos} (hN : X.N.Nodup) (he : SE X e f) (hi : X.N[i]? = some x := by rfl) (hx : Loc X.env.scope x := by first | exact .inl rfl | exact .inr rfl) (hfx : fx i = false := by rfl)
    (hf : X.fn x = true ∨ X.env.scope.names.lookup x = some .local := by first | exact .inl rfl | exact .inr rfl | assumption) : SS X fx (.AugAssign (.Name x pos') op e pos) (augS u i f) := by
  refine PS.imp (ps_aug hN hi hx he ho hf) fun D σ H ⟨env, F, rel, h⟩ => ?_
  unfold augS at h
  split at h
  · rename_i n en
    obtain ⟨v, ev, rv⟩ := rel.getD en
    cases rv
    refine ⟨_, ev, Post.tof rel (bndS_ok h) fun o env1 w H1 F1 F2 ro a h => ?_⟩
    have h' : PSo X fx D σ H F (augK u i n o env1) := h
    unfold augK at h'
    split at h'
    · rename_i m
      split at h'
      · rename_i hl
        cases ro.od
        refine ⟨n, m, rfl, rfl, ?_⟩
        have hl' : i < σ.length := by rw [← a.rel.length]; exact hl
        have rel2 := RelE.put (F1 := nof) (v := .int (u n m)) a.rel hl' (.d (.int _)) fun _ p _ => p
        exact h' _ H1 _ rel2 (.set hfx) a.st fun x q => a.sub x (.inr (q.elim False.elim id))
      · exact h'.elim
    · exact h'.elim
  · exact h.elim

/-! ### xs[::-1] of a list -/
def cRev (fa : M (O × Option Nat)) : M O := bnd fa fun r => bnd (lift (asL r.1)) fun xs => bnd (rst r.2 r.1) fun _ => ret (.lst (xs.reverse.map O.d))
theorem RDs.rev {K : PySem.W.Frag} {H : Hp} : ∀ {xs : List D} {us : List V}, RDs K H xs us → RDs K H xs.reverse us.reverse
  | _, _, .nil => .nil
  | _, _, .cons h t => by rw [List.reverse_cons, List.reverse_cons]; exact (RDs.rev t).append (.cons h .nil)
theorem se_revL {e : Expr} {fa : M (O × Option Nat)} {k : Nat} {p1 p2 p3 pos : Pos} (ha : OE X e fa) : SE X (.Subscript e (.Slice none none (some (.UnaryOp .USub (.Constant (.int 1) k p1) p2)) p3) pos) (cRev fa) := by
  refine PE.imp (pe_revL ha) fun σ H Q ⟨env, F, rel, h⟩ => ?_
  refine tOp_bind rel h fun r env1 v H1 F1 F2 ro a g1 h => ?_
  obtain ⟨xs, ex, h⟩ := h.lift
  obtain ⟨p, us, rfl, hq, rd⟩ := asL_ok ro ex
  obtain ⟨env2, rel2, h⟩ := rst_ok a.rel ro a.dj g1 h
  refine ⟨p, us, rfl, hq, fun q hp => ?_⟩
  obtain ⟨F', r', st, sub⟩ := New.lst (p := q) hp rd.rev
  have dm : Dom (Or F1 F2) H1 := fun z p => p.elim (a.d1 z) (a.d2 z)
  refine h (.ref q) _ F' _ r' (rel2.step st fun _ _ z => z) (fun z p1 p2 => ?_) (a.st.trans st fun _ z => z.elim) fun z p => ?_
  · obtain ⟨o, e⟩ := dm z p2
    rcases sub z p1 with w | w
    · exact w.elim
    · rw [w] at e; cases e
  · rcases p with p | p
    · exact (sub z p).elim False.elim fun n => .inr (a.st.free n)
    · exact a.sub z p
end
end TL

set_option maxHeartbeats 1000000
/-! Defs with defaults. -/
namespace TL
open PySem L2 PySem.Spec PyProof.Rows
section
variable {X : Cx}
def cFnD (g : List O → Option (O × Env)) (dos : List D) (fa : M (List (O × Option Nat))) : M O :=
  bnd fa fun rs => bnd (lift (g (rs.map (·.1) ++ dos.map O.d))) fun r e => some (r.1, rstO rs (r.2.take rs.length) e)
theorem fn_endD {g : List O → Option (O × Env)} {rs : List (O × Option Nat)} {dos : List D} {dvs : List V} {σ : L2.St} {H H1 : Hp} {Q : VK} {E : XK} {env1 : Env} {vs : List V} {F F1 F2 : Fp} (hd : RDs X.K H1 dos dvs) (ro : ROs X.K H1 (rs.map (·.1)) vs F1) (a : Aft X F H H1 σ env1 F1 F2)
    (g1 : ∀ (k : Nat) (r : O × Option Nat) (i : Nat), rs[k]? = some r → r.2 = some i → ∃ v, vs[k]? = some v ∧ σ[i]? = some (some v))
    (h : Post (PV X F σ H Q) (bnd (lift (g (rs.map (·.1) ++ dos.map O.d))) (fun r e => some (r.1, rstO rs (r.2.take rs.length) e)) env1)) : spG X.K g (vs ++ dvs) H1 Q E := by
  obtain ⟨r, e, h⟩ := h.lift
  refine ⟨_, F1, r.1, r.2, (ROs.append ro (RDs.os (F := nof) hd) fun _ _ p => p).mono (fun _ p => p.elim id False.elim), e, fun z H' F3 F4 rz rel' dj st' sub' => ?_⟩
  have hl : rs.length = vs.length := by have := ro.length; rwa [List.length_map] at this
  have rel' := rel'.pre rs.length
  have et : ((vs ++ dvs).map some).take rs.length = vs.map some := by rw [hl, List.map_append, List.take_left' (by rw [List.length_map])]
  rw [et] at rel'
  have d34 : Disj F2 (Or F3 F4) := disj_new (fun x p q => a.dj x q p) a.d2 sub'
  have rel2 := rstO_ok (rs := rs) (a.rel.step st' fun x p q => a.dj x q p) rel' (fun x p q => d34 x q (.inr p)) g1
  refine h z H' F3 _ rz rel2 (fun x p q => q.elim (dj x p) fun q => d34 x q (.inl p)) (a.st.trans st' fun x p => a.sub x (.inl p)) fun x p => ?_
  have s2 : ∀ {x}, Or F3 F4 x → F x ∨ H x = none := fun {x} p => (sub' x p).elim (fun p => a.sub x (.inl p)) fun n => .inr (a.st.free n)
  rcases p with p | p | p
  · exact s2 (.inl p)
  · exact s2 (.inr p)
  · exact a.sub x (.inr p)
end
/-- the def x of the text, its defaults dvs -/
def FdAt (K : PySem.W.Frag) (mg : Str → Option Value) (x : Str) (st : Stmt) (dvs : List V) : Prop := ∃ f fd, mg x = some (.ref f) ∧ FunD K x x (defArgs st) (defBody st) (defScope st) dvs [] f fd
/-- .. does what g tells, where the last parameters are dos -/
def OkD (P : Program) (w : World) (K : PySem.W.Frag) (mg : Str → Option Value) (base : Heap) (k : Nat) (x : Str) (ps : List Str) (dos : List D) (g : List O → Option (O × Env)) : Prop :=
  ∃ f fd ds dvs, mg x = some (.ref f) ∧ PySem.W.keepIn K (.ref f) = true ∧ Binds K fd ps ds ∧ Vals dvs ds ∧ (∀ H, RDs K H dos dvs) ∧ FnG P w K mg base NoX k f fd ps (spG K g)
section
variable {P : Program} {w : World} {K : PySem.W.Frag} {mg : Str → Option Value} {base : Heap}
theorem okd_mk {k : Nat} {x : Str} {st : Stmt} {N ps : List Str} {fx : Nat → Bool} {g : S} {dvs : List V} (n m : Nat) (F : FdAt K mg x st dvs) (sc : FnScope N ps (defScope st)) (hn : ps.length = n) (hm : N.length = m)
    (hbody : ∀ (f : Addr) (cdv : Value) (A : Around) (outer : List PySem.Env) (s : Shared) (H : Hp) (E : XK), Room k (A.deeper (envOfC x (defScope st) s.heap.objs.size f cdv)) → (A.deeper (envOfC x (defScope st) s.heap.objs.size f cdv)).guards = some [] →
      SB (cxOf NoX P w K mg base N x (defScope st) f cdv A outer s H E) fx (defBody st) g)
    (j l : Nat) (dos : List D) (hd : dvs ≠ []) (hl : l + (dvs.length - j) = ps.length) (hos : ∀ H, RDs K H dos (dvs.drop j))
    (h : ∀ (T : Addr) (kV doc pm : Value) (an : Option Addr) (cdv ct : Value) (us its : List Value), us.length = l → its.length = dvs.length →
      ∃ k, bindArgs (PySem.W.fnOf x x (defArgs st) (defBody st) (defScope st) (.ref T) kV doc pm an cdv ct) ⟨us, []⟩ = seqItems? (.ref T) >>= k ∧ k (some its.toArray) = pure (ps.zip (us ++ its.drop j))) : OkD P w K mg base (k + 1) x ps dos (fnG n m fx g) := by
  obtain ⟨f, fd, hf, F⟩ := F
  obtain ⟨ds, hv, hb⟩ := F.binds1 l j hd hl h
  have kp := F.kp
  obtain ⟨oc, od, dV, kV, doc, pm, an, cdv, ct, osl, rfl, lk, hcd, _, _⟩ := F.ex
  exact ⟨f, _, ds, _, hf, kp, hb, hv, hos, fng_body n m lk hcd sc hn hm fun A outer s H E hr hgd => hbody f cdv A outer s H E hr hgd⟩
end
section
variable {X : Cx}
theorem se_okD {j : Nat} {x : Str} {ps : List Str} {p pos : Pos} {e : Expr} {es : List Expr} {dos : List D} {g : List O → Option (O × Env)} {fa : M (List (O × Option Nat))} (h : OkD X.prog X.w X.K X.mg X.base j x ps dos g) (hr : Room j X.A) (hgd : X.A.guards = some [])
    (ha : AO X (e :: es) fa) (hg : Gl X x := by rfl) (hdb : (x == ("__debug__" : Str)) = false := by decide) (he : starEach (e :: es) X.env = (false, eval e X.env) :: starEach es X.env := by rfl) (hpl : (backTo pos (starEach es X.env)).any (·.1) = false := by rfl) :
    SE X (.Call (.Name x p) (e :: es) [] pos) (cFnD g dos fa) := by
  obtain ⟨f, fd, ds, dvs, hm, hk, hb, hv, hos, F⟩ := h
  refine PE.imp (pe_callG (E := fun _ _ _ => False) F hr hgd hg hm hk hb hv noX_passes ha hdb he hpl) fun σ H Q ⟨env, F0, rel, h⟩ => ?_
  exact tLO_bind rel h fun rs env1 vs H1 F1 F2 ro a g1 h => fn_endD (hos H1) ro a g1 h
end
end TL

set_option maxHeartbeats 1000000
/-! d.get(k), d.get(k, x). -/
namespace TL
open PySem L2 PySem.Spec PyProof.Rows
section
variable {X : Cx}
/-- d.get: what the dict holds -/
def rGet (X : Cx) : V → List V → Hp → VK → Prop := fun x xs H Q => ∃ a y o, x = .ref a ∧ DGet H a y o ∧ ((xs = [y] ∧ Q (o.getD .non) H) ∨ ∃ z, xs = [y, z] ∧ Q (o.getD z) H)
theorem mt_get (hu : X.A.units + 1 < cLine) : MtR X "dict.get" (rGet X) := by
  intro pins s σ H x xs v us Q I rx rs ⟨a, y, o, ex, g, h⟩
  subst ex
  obtain rfl : v = Value.ref a := rx
  rcases h with ⟨rfl, q⟩ | ⟨z, rfl, q⟩
  · cases rs with
    | cons ry rs =>
      cases rs
      exact d_get1 hu I g ry fun w' s3 I3 rw' => ⟨_, H, I3, rw', q⟩
  · obtain ⟨u1, u2, rfl, r1, r2⟩ := vals2 rs
    exact d_get2 hu I g r1 r2 fun w' s3 I3 rw' => ⟨_, H, I3, rw', q⟩
/-- what a dict holds at a key: data -/
def getO : O → O → Option (Option D)
  | .dct m, y => match keyO y with
    | some k => match getK m k with
      | some (.d x) => some (some x)
      | some _ => none
      | none => some none
    | none => none
  | .d (.dct m), y => match keyO y with
    | some k => some (getK m k)
    | none => none
  | _, _ => none
def OptR (X : Cx) (H : Hp) : Option D → Option V → Prop
  | some d, o => ∃ v, o = some v ∧ RD X.K H d v
  | none, o => o = none
theorem getO_ok {H : Hp} {ox oy : O} {x y : V} {F G : Fp} {r : Option D} (r1 : RO X.K H ox x F) (r2 : RO X.K H oy y G) (e : getO ox oy = some r) : ∃ a o, x = .ref a ∧ DGet H a y o ∧ OptR X H r o := by
  cases ox with
  | dct m =>
    unfold getO at e
    dsimp only at e
    cases hk : keyO oy with
    | none => rw [hk] at e; cases e
    | some k =>
      rw [hk] at e
      dsimp only at e
      have ey := keyO_ok r2 hk
      subst ey
      cases r1 with
      | dct h f e2 rr =>
        cases q : getK m k with
        | none =>
          rw [q] at e; cases e
          exact ⟨_, none, rfl, by rw [← getK_none e2 q]; exact .k h, rfl⟩
        | some o =>
          rw [q] at e
          cases o with
          | d x =>
            cases e
            obtain ⟨v, G', a, b⟩ := getK_ro e2 rr q
            exact ⟨_, some v, rfl, by rw [← a]; exact .k h, v, rfl, b.od⟩
          | _ => cases e
  | d x =>
    cases x with
    | dct m =>
      unfold getO at e
      dsimp only at e
      cases hk : keyO oy with
      | none => rw [hk] at e; cases e
      | some k =>
        rw [hk] at e
        dsimp only at e
        have ey := keyO_ok r2 hk
        subst ey
        cases e
        cases r1.od with
        | dct h e2 rr =>
          cases q : getK m k with
          | some d =>
            obtain ⟨v, a, b⟩ := getK_rd e2 rr q
            exact ⟨_, some v, rfl, by rw [← a]; exact .inl ⟨_, k, .inr ⟨_, h⟩, rfl, rfl⟩, v, rfl, b⟩
          | none => exact ⟨_, none, rfl, by rw [← getK_none e2 q]; exact .inl ⟨_, k, .inr ⟨_, h⟩, rfl, rfl⟩, rfl⟩
    | _ => cases e
  | _ => cases e
def gGet : O → List O → Option O := fun x os => match os with
  | [y] => match getO x y with
    | some r => some (.d (r.getD .non))
    | none => none
  | [y, .d z] => match getO x y with
    | some r => some (.d (r.getD z))
    | none => none
  | _ => none
theorem ms_get (hu : X.A.units + 1 < cLine) : MtS X "dict.get" gGet := .of (mt_get hu) fun H x xs ox os F G o r1 r2 e => by
  unfold gGet at e
  split at e
  · rename_i y
    cases r2 with
    | cons F1 F2 h r _ _ _ =>
      cases r
      cases q : getO ox y with
      | none => rw [q] at e; cases e
      | some d =>
        rw [q] at e; cases e
        obtain ⟨a, o', ea, g, k⟩ := getO_ok r1 h q
        refine ⟨a, _, o', ea, g, .inl ⟨rfl, ?_⟩⟩
        cases d with
        | some d => obtain ⟨v, rfl, rd⟩ := k; exact .d rd
        | none => obtain rfl : o' = none := k; exact .d .non
  · rename_i y z
    cases r2 with
    | cons F1 F2 h r _ _ _ =>
      cases r with
      | cons F3 F4 h2 r _ _ _ =>
        cases r
        cases q : getO ox y with
        | none => rw [q] at e; cases e
        | some d =>
          rw [q] at e; cases e
          obtain ⟨a, o', ea, g, k⟩ := getO_ok r1 h q
          refine ⟨a, _, o', ea, g, .inr ⟨_, rfl, ?_⟩⟩
          cases d with
          | some d => obtain ⟨v, rfl, rd⟩ := k; exact .d rd
          | none => obtain rfl : o' = none := k; exact .d h2.od
  · cases e
theorem se_get {o e : Expr} {es : List Expr} {apos cpos : Pos} {fr : M (O × Option Nat)} {fa : M (List (O × Option Nat))} (hu : X.A.units + 64 < cLine) (ho : OE X o fr) (ha : AO X (e :: es) fa)
    (hbase : attributeBase o "get" X.env (eval o X.env) = eval o X.env := by rfl)
    (hfew : ((backTo cpos (starEach (e :: es) X.env)).all (fun x => !x.1) && (backToKw cpos (keywordEach [] X.env)).all (fun x => x.1.isSome) && decide ((e :: es).length + ([] : List Keyword).length + (if ([] : List Keyword).isEmpty then 0 else 1) < 30)) = true := by rfl)
    (hline : (apos.endLine == cpos.line) = true := by rfl) (hs : starEach (e :: es) X.env = (false, eval e X.env) :: starEach es X.env := by rfl) (hpl : (backTo cpos (starEach es X.env)).any (·.1) = false := by rfl) : SE X (.Call (.Attribute o "get" apos) (e :: es) [] cpos) (cMt "dict" gGet fr fa) :=
  se_mt (by decide) PySem.F.plainAttrs_dict PySem.F.slot_dict_get PySem.F.type_dict_get (ms_get (by omega)) ho ha hbase hfew hline hs hpl
end
end TL

set_option maxHeartbeats 1000000
/-! list(d), sorted(d) of a dict by its keys. -/
namespace TL
open PySem L2 PySem.Spec PyProof.Rows
section
variable {X : Cx}
def dkO : O → Option (List Key)
  | .dct m => some (m.map (·.1))
  | .d (.dct m) => some (m.map (·.1))
  | _ => none
theorem dkO_ok {H : Hp} {o : O} {v : V} {F : Fp} {ks : List Key} (r : RO X.K H o v F) (e : dkO o = some ks) : ∃ a kvs, v = .ref a ∧ Rd H a (.dK kvs) ∧ kvs.map (·.1) = ks := by
  cases o with
  | dct m =>
    cases e
    cases r with
    | dct h f e2 rr => exact ⟨_, _, rfl, .inl h, e2⟩
  | d x =>
    cases x with
    | dct m =>
      cases e
      cases r.od with
      | dct h e2 rr => exact ⟨_, _, rfl, .inr ⟨_, h⟩, e2⟩
    | _ => cases e
  | _ => cases e
theorem kD_rds {H : Hp} : ∀ ks : List Key, RDs X.K H (ks.map kD) (ks.map kV)
  | [] => .nil
  | k :: ks => .cons (kD_ok k) (kD_rds ks)
def gListD : List O → Option O := g1 fun x => match dkO x with
  | some ks => some (.lst ((ks.map kD).map O.d))
  | none => none
theorem cs_listD (hc : X.calm = true) : CallS X (.type "list") gListD := .of (call_listD hc) fun H xs os F o r e => by
  obtain ⟨x, v, G, rfl, rfl, h, q⟩ := g1_of r e
  split at q
  · rename_i ks hk
    cases q
    obtain ⟨a, kvs, rfl, hd, rfl⟩ := dkO_ok h hk
    refine ⟨a, kvs, rfl, hd, fun p hp => New.lst hp ?_⟩
    have z := kD_rds (X := X) (H := H) (kvs.map (·.1))
    rwa [List.map_map (g := kV)] at z
  · cases q
theorem keyLe_str (a b : Str) : keyLe (.inr a) (.inr b) = !ltCps b.cps.toList a.cps.toList := by
  show (!PySem.W.dataLt (.str b) (.str a)) = _
  rw [PySem.W.dataLt_str, lt_meets]
theorem rising_pw : ∀ (l : List Str) (p : Str), risingS p l = true → ((p :: l).map (Sum.inr : Str → Key)).Pairwise fun a b => keyLe a b = true
  | [], p, _ => by simp
  | x :: r, p, h => by
    unfold risingS at h
    rw [Bool.and_eq_true] at h
    have ih := rising_pw r x h.2
    have h1 : keyLe (.inr p) (.inr x) = true := by rw [keyLe_str]; exact h.1
    rw [List.map_cons, List.pairwise_cons]
    refine ⟨fun b hb => ?_, ih⟩
    rw [List.map_cons, List.mem_cons] at hb
    rcases hb with rfl | hb
    · exact h1
    · rw [List.map_cons, List.pairwise_cons] at ih
      exact keyLe_total.trans _ _ _ h1 (ih.1 b hb)
theorem sortedS_pw : ∀ (l : List Str), sortedS l = true → (l.map (Sum.inr : Str → Key)).Pairwise fun a b => keyLe a b = true
  | [], _ => by simp
  | x :: r, h => rising_pw r x h
theorem oneK_inr : ∀ l : List Str, oneK (l.map (Sum.inr : Str → Key)) = true
  | [] => rfl
  | x :: r => by
    unfold oneK
    simp
theorem sorted_is {ks ys : List Str} (p : ys.Perm ks) (h : sortedS ys = true) : ys.map (Sum.inr : Str → Key) = sortK (ks.map Sum.inr) := by
  rw [sortK_ms]
  have p2 : (ys.map (Sum.inr : Str → Key)).Perm ((ks.map Sum.inr).mergeSort keyLe) := (p.map _).trans (List.mergeSort_perm _ _).symm
  refine List.Perm.eq_of_pairwise (le := fun a b => keyLe a b = true) (fun a b ha hb h1 h2 => ?_) (sortedS_pw ys h) (PySem.W.sort_pairwise keyLe_total _) p2
  have hb' := p2.mem_iff.mpr hb
  obtain ⟨m1, m2⟩ := oneK_mem (oneK_inr ys) ha hb'
  exact keyLe_antisymm m1 m2 h1 h2
def strK : List Key → Option (List Str)
  | [] => some []
  | .inr x :: r => (strK r).map (x :: ·)
  | _ :: _ => none
theorem strK_ok : ∀ {ks : List Key} {ss : List Str}, strK ks = some ss → ks = ss.map Sum.inr
  | [], _, e => by cases e; rfl
  | .inr x :: r, ss, e => by
    unfold strK at e
    cases q : strK r with
    | none => rw [q] at e; cases e
    | some t => rw [q] at e; cases e; rw [strK_ok q]; rfl
  | .inl _ :: _, _, e => by cases e
def gSortedD : List O → Option O := g1 fun x => match dkO x with
  | some ks => match strK ks with
    | some ss => if ss.length < 64 then some (.lst (((sortK ks).map kD).map O.d)) else none
    | none => none
  | none => none
theorem cs_sortedD (hc : X.calm = true) : CallS X (.builtin "sorted") gSortedD := .of (call_sortedD hc) fun H xs os F o r e => by
  obtain ⟨x, v, G, rfl, rfl, h, q⟩ := g1_of r e
  split at q
  · rename_i ks hk
    split at q
    · rename_i ss hs
      split at q
      · rename_i hl
        cases q
        obtain ⟨a, kvs, rfl, hd, rfl⟩ := dkO_ok h hk
        have es := strK_ok hs
        refine ⟨a, kvs, ss, rfl, hd, es, hl, fun ys p hp hso hn => ?_⟩
        have e2 := sorted_is hp hso
        rw [es, ← e2]
        have z := kD_rds (X := X) (H := H) (ys.map Sum.inr)
        rw [List.map_map (g := kV)] at z
        exact New.lst hn z
      · cases q
    · cases q
  · cases q
end
end TL

set_option maxHeartbeats 1000000
/-! Dicts whose keys are tuples: read. -/
namespace TL
open PySem L2 PySem.Spec PyProof.Rows
section
variable {X : Cx}
/-- a tuple of ints and texts, as a key -/
def keyT : O → Option (List Key)
  | .d (.tup xs) => keysO xs
  | _ => none
theorem keyT_ok {H : Hp} {o : O} {v : V} {F : Fp} {ks : List Key} (r : RO X.K H o v F) (e : keyT o = some ks) : ∃ b, v = .ref b ∧ H b = some (.tup (ks.map kV)) := by
  cases o with
  | d x =>
    cases x with
    | tup xs =>
      have e : keysO xs = some ks := e
      cases r.od with
      | tup h rd =>
        have z := keysO_ok rd e
        rw [z] at h
        exact ⟨_, rfl, h⟩
    | _ => cases e
  | _ => cases e
def gIxDT : O → O → Option O
  | .dcT m, y => match keyT y with
    | some k => (getK m k).bind dO
    | none => none
  | .d (.dcT m), y => match keyT y with
    | some k => (getK m k).map O.d
    | none => none
  | _, _ => none
theorem is_ixDT (hu : X.A.units + 1 < cLine) : IxS X gIxDT := .of (ix_dict hu) fun H x y ox oy F G o r1 r2 e => by
  cases ox with
  | dcT m =>
    unfold gIxDT at e
    dsimp only at e
    cases hk : keyT oy with
    | none => rw [hk] at e; cases e
    | some k =>
      rw [hk] at e
      dsimp only at e
      obtain ⟨b, rfl, eb⟩ := keyT_ok r2 hk
      cases q : getK m k with
      | none => rw [q] at e; cases e
      | some o' =>
        rw [q] at e
        obtain ⟨z, rfl, rfl⟩ := dO_of e
        cases r1 with
        | dcT h f e2 r =>
          obtain ⟨v, G', a, c⟩ := getK_ro e2 r q
          exact ⟨_, v, rfl, by rw [← a]; exact .t h eb, .d c.od⟩
  | d x =>
    cases x with
    | dcT m =>
      unfold gIxDT at e
      dsimp only at e
      cases hk : keyT oy with
      | none => rw [hk] at e; cases e
      | some k =>
        rw [hk] at e
        dsimp only at e
        obtain ⟨b, rfl, eb⟩ := keyT_ok r2 hk
        cases q : getK m k with
        | none => rw [q] at e; cases e
        | some d =>
          rw [q] at e; cases e
          cases r1.od with
          | dcT h e2 r =>
            obtain ⟨v, a, c⟩ := getK_rd e2 r q
            exact ⟨_, v, rfl, by rw [← a]; exact .inr ⟨_, k, b, .inr ⟨_, h⟩, rfl, eb, rfl⟩, .d c⟩
    | _ => cases e
  | _ => cases e
theorem valV_isSomeT {α : Type} {m : List (List Key × α)} {kvs : List (List Key × V)} {k : List Key} (e : kvs.map (·.1) = m.map (·.1)) : (valV kvs k).isSome = hasK m k := by
  rw [← valV_any]
  unfold hasK
  have h : ∀ {β : Type} (l : List (List Key × β)), (l.any fun p => decide (p.1 = k)) = (l.map (·.1)).any fun x => decide (x = k) := fun l => by rw [List.any_map]; rfl
  rw [h kvs, h m, e]
def gInDT (neg : Bool) : O → O → Option O := fun x y => match keyT x with
  | some k => match y with
    | .dcT m => some (.d (.bl (if neg then !hasK m k else hasK m k)))
    | .d (.dcT m) => some (.d (.bl (if neg then !hasK m k else hasK m k)))
    | _ => none
  | none => none
theorem os_inDT (hu : X.A.units + 1 < cLine) (neg : Bool) : OpS X (compareOp (if neg then .NotIn else .In)) (gInDT neg) := .of (or_din hu neg) fun H x y ox oy F G o r1 r2 e => by
  unfold gInDT at e
  cases hk : keyT ox with
  | none => rw [hk] at e; cases e
  | some k =>
    rw [hk] at e
    dsimp only at e
    obtain ⟨b, rfl, eb⟩ := keyT_ok r1 hk
    cases oy with
    | dcT m =>
      cases e
      cases r2 with
      | dcT h f e2 r => exact ⟨_, _, rfl, .t h eb, by rw [valV_isSomeT e2]; exact .d (.bl _)⟩
    | d x =>
      cases x with
      | dcT m =>
        cases e
        cases r2.od with
        | dcT h e2 r => exact ⟨_, _, rfl, .inr ⟨_, k, b, .inr ⟨_, h⟩, rfl, eb, rfl⟩, by rw [valV_isSomeT e2]; exact .d (.bl _)⟩
      | _ => cases e
    | _ => cases e
end
end TL

set_option maxHeartbeats 1000000
/-! d[t] = v, the key a tuple. -/
namespace TL
open PySem L2 PySem.Spec PyProof.Rows
section
variable {X : Cx} {fx : Nat → Bool}
theorem setK_roT {K : PySem.W.Frag} {H : Hp} {k : List Key} {o : O} {v : V} {G : Fp} : ∀ {m : List (List Key × O)} {kvs : List (List Key × V)} {F : Fp}, kvs.map (·.1) = m.map (·.1) → (kvs.map (·.1)).Nodup → ROs K H (m.map (·.2)) (kvs.map (·.2)) F → RO K H o v G → Disj F G →
    (m.map fun p => if p.1 = k then (p.1, o) else p).map (·.1) = m.map (·.1) ∧ ROs K H ((m.map fun p => if p.1 = k then (p.1, o) else p).map (·.2)) ((kvs.map fun p => if p.1 = k then (p.1, v) else p).map (·.2)) (Or F G)
  | [], [], F, _, _, r, _, _ => ⟨rfl, .nil⟩
  | [], _ :: _, F, h, _, _, _, _ => by cases h
  | (k1, y) :: m, [], F, h, _, _, _, _ => by cases h
  | (k1, y) :: m, (k2, w) :: kvs, F, h, nd, r, ro, dj => by
    simp only [List.map_cons, List.cons.injEq] at h
    obtain ⟨h1, h2⟩ := h
    subst h1
    simp only [List.map_cons, List.nodup_cons] at nd
    cases r with
    | cons F1 F2 r1 r2 a b d =>
      by_cases c : k2 = k
      · subst c
        have same : ∀ {β : Type} {l : List (List Key × β)} (z : β), k2 ∉ l.map (·.1) → (l.map fun p => if p.1 = k2 then (p.1, z) else p) = l := fun {β l} z hn => by
          induction l with
          | nil => rfl
          | cons p l ih =>
            simp only [List.map_cons, List.mem_cons, not_or] at hn
            rw [List.map_cons, if_neg (fun e => hn.1 e.symm), ih hn.2]
        have n1 : k2 ∉ kvs.map (·.1) := nd.1
        have n2 : k2 ∉ m.map (·.1) := by rw [← h2]; exact n1
        simp only [List.map_cons, if_pos]
        rw [same o n2, same v n1]
        exact ⟨trivial |> fun _ => rfl, .cons G F2 ro r2 (fun _ p => .inr p) (fun x p => .inl (b x p)) fun x p q => dj x (b x q) p⟩
      · obtain ⟨e1, e2⟩ := setK_roT h2 nd.2 r2 ro fun x p q => dj x (b x p) q
        simp only [List.map_cons, if_neg c]
        refine ⟨?_, .cons F1 (Or F2 G) r1 ?_ (fun x p => .inl (a x p)) (fun x p => p.elim (fun p => .inl (b x p)) .inr) fun x p q => q.elim (d x p) fun q => dj x (a x p) q⟩
        · have := e1; simp only [List.map_map] at this ⊢; rw [this]
        · exact e2
theorem KT.keys {H : Hp} : ∀ {kvs : List (List Key × V)} {xs : List (List Key × Addr × Value)}, KT H kvs xs → kvs.map (·.1) = xs.map (·.1)
  | _, _, .nil => rfl
  | _, _, .cons h t => by rw [List.map_cons, List.map_cons, h.1, KT.keys t]
theorem dt_nodup {pins : List (Addr × Obj)} {σ : L2.St} {H : Hp} {s : Shared} {a : Addr} {kvs : List (List Key × V)} (I : Inv X pins σ H s) (h : Rd H a (.dT kvs)) : (kvs.map (·.1)).Nodup := by
  obtain ⟨_, _, xs, r, o, es, ep, _, _, _, _, _, nd⟩ := dt_rd I.hok h
  rw [KT.keys r]
  exact nd
theorem hasK_keysT {α β : Type} {m : List (List Key × α)} {n : List (List Key × β)} (k : List Key) (e : m.map (·.1) = n.map (·.1)) : hasK m k = hasK n k := by
  have h : ∀ {γ : Type} (l : List (List Key × γ)), hasK l k = (l.map (·.1)).any fun x => decide (x = k) := fun l => by unfold hasK; rw [List.any_map]; rfl
  rw [h m, h n, e]
theorem put_roT {K : PySem.W.Frag} {H : Hp} {k : List Key} {o : O} {v : V} {G F : Fp} {m : List (List Key × O)} {kvs : List (List Key × V)} (e : kvs.map (·.1) = m.map (·.1)) (nd : (kvs.map (·.1)).Nodup) (r : ROs K H (m.map (·.2)) (kvs.map (·.2)) F) (ro : RO K H o v G) (d : Disj F G) :
    (putK kvs k v).map (·.1) = (setK m k o).map (·.1) ∧ ROs K H ((setK m k o).map (·.2)) ((putK kvs k v).map (·.2)) (Or F G) := by
  have eh := hasK_keysT k e
  have hp : putK kvs k v = if hasK kvs k then kvs.map fun p => if p.1 = k then (p.1, v) else p else kvs ++ [(k, v)] := rfl
  rw [hp]
  unfold setK
  rw [eh]
  have ks : ∀ {γ : Type} (l : List (List Key × γ)) (z : γ), (l.map fun p => if p.1 = k then (p.1, z) else p).map (·.1) = l.map (·.1) := fun l z => by
    rw [List.map_map]; apply List.map_congr_left; intro p _; dsimp only [Function.comp]; split <;> rfl
  cases q : hasK m k with
  | true =>
    simp only [if_true]
    exact ⟨by rw [ks kvs v, ks m o, e], (setK_roT e nd r ro d).2⟩
  | false =>
    simp only [Bool.false_eq_true, if_false, List.map_append, List.map_cons, List.map_nil]
    exact ⟨by rw [e], ROs.append r (.cons G nof ro .nil (fun _ p => p) (fun _ p => p.elim) fun _ _ p => p) d⟩
def uSetT : O → O → O → Option O := fun x i o => match x with
  | .dcT m => match keyT i with
    | some k => if m.length < sizeLine then some (.dcT (setK m k o)) else none
    | none => none
  | _ => none
theorem ss_uSetT (hu : X.A.units + 1 < cLine) : SetS X uSetT := by
  intro pins s σ H o i v ov iv uv ox oi oo o' F1 F2 F3 I ro' ri rv r1 r2 r3 d e
  unfold uSetT at e
  cases ox with
  | dcT m =>
    dsimp only at e
    cases q : keyT oi with
    | none => rw [q] at e; cases e
    | some k =>
      rw [q] at e
      dsimp only at e
      split at e
      · rename_i hz
        cases e
        obtain ⟨b, rfl, eb⟩ := keyT_ok r2 q
        cases r1 with
        | dcT h f e2 r =>
          rename_i a kvs
          have hl : kvs.length = m.length := by have := congrArg List.length e2; simpa using this
          refine thn (set_dict hu pins s σ H _ _ v ov iv uv (fun H' => ∃ F', RO X.K H' (.dcT (setK m k oo)) (.ref a) F' ∧ Step (Or F1 F3) H H' ∧ Sub F' (Or F1 F3) H) I ro' ri rv ⟨a, _, rfl, .t h eb (by omega), ?_⟩) fun _ s' ⟨H', I', F', z⟩ => ⟨H', F', I', z⟩
          have w : ∀ u, Step (fun z => z = a) H (upd H a u) := fun u => Step.wr (o := u) h trivial rfl
          obtain ⟨p1, p2⟩ := put_roT e2 (dt_nodup I (.inl h)) (r.step (w (.dT (putK kvs k v))) fun z m n => m.2 n) (r3.step (w (.dT (putK kvs k v))) fun z m n => d z (n ▸ f) m) (k := k) fun z m n => d z m.1 n
          exact ⟨Or F1 F3, .dcT upd_same (.inl f) p1 (p2.mono fun z m => m.elim (fun m => ⟨.inl m.1, m.2⟩) fun m => ⟨.inr m, fun n => d z (n ▸ f) m⟩), Step.wr h trivial (.inl f), fun _ m => .inl m⟩
      · cases e
  | _ => cases e
def orU (u u' : O → O → O → Option O) : O → O → O → Option O := fun x i o => match u x i o with
  | some r => some r
  | none => u' x i o
theorem SetS.or {u u' : O → O → O → Option O} (h : SetS X u) (h' : SetS X u') : SetS X (orU u u') := by
  intro pins s σ H o i v ov iv uv ox oi oo o' F1 F2 F3 I ro' ri rv r1 r2 r3 d e
  unfold orU at e
  cases q : u ox oi oo with
  | some r => rw [q] at e; cases e; exact h pins s σ H o i v ov iv uv ox oi oo _ F1 F2 F3 I ro' ri rv r1 r2 r3 d q
  | none => rw [q] at e; exact h' pins s σ H o i v ov iv uv ox oi oo _ F1 F2 F3 I ro' ri rv r1 r2 r3 d e
/-- {} of tuple keys -/
def cNewDT : M O := ret (.dcT [])
theorem se_newDT {pos : Pos} : SE X (.Dict [] [] pos) cNewDT := PE.imp pe_dnewT fun σ H Q ⟨env, F, rel, h⟩ => by
  intro p hp
  have rel := rel.dom
  have st := Step.new (F := nof) (o := .dT []) hp
  refine h (.ref p) _ (fun x => x = p) (fun a => F a ∧ ∃ o, H a = some o) (.dcT upd_same rfl rfl .nil) (rel.step st fun _ _ z => z) (fun x q q' => ?_) (st.mono fun _ z => z.elim) fun x q => ?_
  · subst q; obtain ⟨_, o, e⟩ := q'; rw [hp] at e; cases e
  · rcases q with q | q
    · subst q; exact .inr hp
    · exact .inl q.1
end
end TL

set_option maxHeartbeats 1000000
/-! sum of a list of ints, bool of an int, a bool, a list. -/
namespace TL
open PySem L2 PySem.Spec PyProof.Rows
section
variable {X : Cx}
def intsD : List D → Option (List Int)
  | [] => some []
  | .int x :: r => (intsD r).map (x :: ·)
  | _ :: _ => none
theorem intsD_ok {H : Hp} : ∀ {xs : List D} {vs : List V} {bs : List Int}, RDs X.K H xs vs → intsD xs = some bs → vs = bs.map V.int
  | [], _, _, r, e => by cases r; cases e; rfl
  | x :: xs, _, _, .cons h r, e => by
    cases x with
    | int b =>
      unfold intsD at e
      cases q : intsD xs with
      | none => rw [q] at e; cases e
      | some bs => rw [q] at e; cases e; cases h; rw [intsD_ok r q]; rfl
    | _ => cases e
def gSum : List O → Option O := g1 fun x => match asL x with
  | some xs => match intsD xs with
    | some ns => some (.d (.int ns.sum))
    | none => none
  | none => none
theorem cs_sum (hc : X.calm = true) : CallS X (.builtin "sum") gSum := .of (cr_sum hc) fun H xs os F o r e => by
  obtain ⟨x, v, G, rfl, rfl, h, q⟩ := g1_of r e
  cases e1 : asL x with
  | none => rw [e1] at q; cases q
  | some ys =>
    rw [e1] at q
    dsimp only at q
    cases e2 : intsD ys with
    | none => rw [e2] at q; cases q
    | some ns =>
      rw [e2] at q
      cases q
      obtain ⟨a, vs, rfl, hs, rd⟩ := asL_ok h e1
      have z := intsD_ok rd e2
      subst z
      exact ⟨a, ns, rfl, hs, .d (.int _)⟩
def gBoolL : List O → Option O := g1 fun x => match asL x with
  | some xs => some (.d (.bl (!xs.isEmpty)))
  | none => none
theorem cs_boolL : CallS X (.type "bool") gBoolL := .of call_boolL fun H xs os F o r e => by
  obtain ⟨x, v, G, rfl, rfl, h, q⟩ := g1_of r e
  cases e1 : asL x with
  | none => rw [e1] at q; cases q
  | some ys =>
    rw [e1] at q
    cases q
    obtain ⟨a, vs, rfl, hs, rd⟩ := asL_ok h e1
    refine ⟨a, vs, rfl, hs, ?_⟩
    have : vs.isEmpty = ys.isEmpty := by have l := rd.length; cases ys <;> cases vs <;> first | rfl | simp at l
    rw [this]
    exact .d (.bl _)
end
end TL

set_option maxHeartbeats 1000000
/-! d[k].m(..): what a place of a dict owns is changed there. -/
namespace TL
open PySem L2 PySem.Spec PyProof.Rows
section
variable {K : PySem.W.Frag} {H : Hp}
def repK {κ α : Type} [DecidableEq κ] (k : κ) (x : α) : List (κ × α) → List (κ × α)
  | [] => []
  | (k1, y) :: r => if k1 = k then (k1, x) :: r else (k1, y) :: repK k x r
theorem repK_keys {κ α : Type} [DecidableEq κ] (k : κ) (x : α) : ∀ m : List (κ × α), (repK k x m).map (·.1) = m.map (·.1)
  | [] => rfl
  | (k1, y) :: r => by
    unfold repK
    by_cases c : k1 = k
    · rw [if_pos c]; rfl
    · rw [if_neg c, List.map_cons, List.map_cons, repK_keys k x r]
theorem getK_focus {κ : Type} [DecidableEq κ] {k : κ} : ∀ {m : List (κ × O)} {kvs : List (κ × V)} {x : O} {F : Fp}, kvs.map (·.1) = m.map (·.1) → ROs K H (m.map (·.2)) (kvs.map (·.2)) F → getK m k = some x →
    ∃ v G R, valV kvs k = some v ∧ RO K H x v G ∧ (∀ b, G b → F b) ∧ (∀ b, R b → F b) ∧ Disj G R ∧ ∀ (H' : Hp) (x' : O) (G' Q : Fp), Step Q H H' → Disj R Q → RO K H' x' v G' → Disj G' R → ROs K H' ((repK k x' m).map (·.2)) (kvs.map (·.2)) (Or G' R)
  | [], kvs, x, _, _, _, e => by cases e
  | (k', y) :: m, [], x, _, h, _, _ => by cases h
  | (k', y) :: m, (k2, v) :: kvs, x, F, h, r, e => by
    simp only [List.map_cons, List.cons.injEq] at h
    obtain ⟨h1, h2⟩ := h
    subst h1
    cases r with
    | cons F1 F2 r1 r2 a b d =>
      by_cases c : k2 = k
      · unfold getK at e
        rw [List.find?_cons, show decide (k2 = k) = true from decide_eq_true c] at e
        cases e
        refine ⟨v, F1, F2, valV_pos c, r1, a, b, d, fun H' x' G' Q st dq ro dj => ?_⟩
        unfold repK
        rw [if_pos c]
        exact .cons G' F2 ro (r2.step st dq) (fun _ p => .inl p) (fun _ p => .inr p) dj
      · unfold getK at e
        rw [List.find?_cons, show decide (k2 = k) = false from decide_eq_false c] at e
        obtain ⟨w, G, R, e1, ro, sa, sb, dd, kk⟩ := getK_focus h2 r2 e
        refine ⟨w, G, Or F1 R, by rw [valV_neg c]; exact e1, ro, fun x p => b x (sa x p), fun x p => p.elim (a x) fun p => b x (sb x p), fun x p q => q.elim (fun q => d x q (sa x p)) (dd x p), fun H' x' G' Q st dq ro dj => ?_⟩
        unfold repK
        rw [if_neg c]
        exact .cons F1 (Or G' R) (r1.step st fun x p q => dq x (.inl p) q) (kk H' x' G' Q st (fun x p q => dq x (.inr p) q) ro fun x p q => dj x p (.inr q)) (fun _ p => .inr (.inl p)) (fun _ p => p.elim .inl fun p => .inr (.inr p))
          fun x p q => q.elim (fun q => dj x q (.inl p)) fun q => d x p (sb x q)
end
section
variable {X : Cx}
/-- what the place i owns at the key oy -/
def focO (ox oy : O) : Option O := match ox with
  | .dct m => match keyO oy with
    | some k => getK m k
    | none => none
  | _ => none
def updO (ox oy : O) (o : O) : O := match ox with
  | .dct m => match keyO oy with
    | some k => .dct (repK k o m)
    | none => .dct m
  | x => x
theorem foc_ok {H : Hp} {ox oy o : O} {x y : V} {F G : Fp} (r1 : RO X.K H ox x F) (r2 : RO X.K H oy y G) (e : focO ox oy = some o) : ∃ a w P R, x = .ref a ∧ DGet H a y (some w) ∧ RO X.K H o w P ∧ (∀ b, P b → F b) ∧ (∀ b, R b → F b) ∧ Disj P R ∧
    ∀ (H' : Hp) (o' : O) (P' Q : Fp), Step Q H H' → Disj R Q → RO X.K H' o' w P' → Disj P' R → RO X.K H' (updO ox oy o') x (Or P' R) := by
  cases ox with
  | dct m =>
    unfold focO at e
    dsimp only at e
    cases hk : keyO oy with
    | none => rw [hk] at e; cases e
    | some k =>
      rw [hk] at e
      dsimp only at e
      have ey := keyO_ok r2 hk
      subst ey
      cases r1 with
      | dct h f e2 r =>
        rename_i a kvs
        obtain ⟨w, P, R, a1, ro, sa, sb, dd, kk⟩ := getK_focus e2 r e
        refine ⟨a, w, P, fun b => R b ∨ b = a, rfl, by rw [← a1]; exact .k h, ro, fun b p => (sa b p).1, fun b p => p.elim (fun p => (sb b p).1) fun p => p ▸ f, fun b p q => q.elim (dd b p) (sa b p).2, fun H' o' P' Q st dq ro' dj => ?_⟩
        unfold updO
        rw [hk]
        have q := kk H' o' P' Q st (fun b p q => dq b (.inl p) q) ro' fun b p q => dj b p (.inl q)
        exact .dct (st.keep _ _ h fun z => dq a (.inr rfl) z) (.inr (.inr rfl)) (by rw [repK_keys]; exact e2) (q.mono fun b p => p.elim (fun p => ⟨.inl p, fun z => dj b p (.inr z)⟩) fun p => ⟨.inr (.inl p), (sb b p).2⟩)
  | _ => cases e
end
end TL

set_option maxHeartbeats 1000000
/-! d[k].m(..): the rule. -/
namespace TL
open PySem L2 PySem.Spec PyProof.Rows
section
variable {X : Cx}
def cMuK (T : String) (g : O → List O → Option (O × O)) (i : Nat) (fk : M O) (fa : M (List O)) : M O := fun e => match e[i]? with
  | some (some ox) => bnd fk (fun oy => bnd (lift (focO ox oy)) fun o => bnd (lift (chk T o)) fun _ => bnd fa fun os => bnd (lift (g o os)) fun r => bnd (rst (some i) (updO ox oy r.2)) fun _ => ret r.1) (e.set i none)
  | _ => none
theorem se_muK {x : Str} {px sp : Pos} {kx e : Expr} {es : List Expr} {name : Str} {apos cpos : Pos} {T id : String} {g : O → List O → Option (O × O)} {fk : M O} {fa : M (List O)} (i : Nat) (hu : X.A.units + 1 < cLine) (hT : T ∈ ["str", "list", "dict"]) (pa : PlainAttrs T) (slot : Slot T name id) (hty : typeOf (.builtin id) = pure (.type "method_descriptor")) (hm : MuS X id g)
    (hk : SE X kx fk) (ha : AE X (e :: es) fa) (hN : X.N[i]? = some x) (hv : Vis X.env.scope x) (hd : (x == ("__debug__" : Str)) = false) (hcd : (x == ("__classdict__" : Str)) = false) (hix : PlainIx kx)
    (hbase : attributeBase (.Subscript (.Name x px) kx sp) name X.env (eval (.Subscript (.Name x px) kx sp) X.env) = eval (.Subscript (.Name x px) kx sp) X.env)
    (hfew : ((backTo cpos (starEach (e :: es) X.env)).all (fun x => !x.1) && (backToKw cpos (keywordEach [] X.env)).all (fun x => x.1.isSome)
      && decide ((e :: es).length + ([] : List Keyword).length + (if ([] : List Keyword).isEmpty then 0 else 1) < 30)) = true)
    (hline : (apos.endLine == cpos.line) = true) (hs : starEach (e :: es) X.env = (false, eval e X.env) :: starEach es X.env) (hplain : (backTo cpos (starEach es X.env)).any (·.1) = false) :
    SE X (.Call (.Attribute (.Subscript (.Name x px) kx sp) name apos) (e :: es) [] cpos) (cMuK T g i fk fa) :=
  PE.imp (pe_bmG pa slot hty hm.rule (pe_ix (ix_dict hu) (pe_var hN hv hd hcd) hk hix) ha hbase hfew hline hs hplain) fun σ H Q ⟨env, F, rel, h⟩ => by
    unfold cMuK at h
    split at h
    · rename_i ox e0
      obtain ⟨v, G1, G2, ev, rx, rel', sa, sb, d⟩ := rel.dom.take e0
      refine ⟨v, ev, ?_⟩
      refine tOf_bind rel' h fun oy env1 y H1 F1 F2 ro a h => ?_
      obtain ⟨o, eo, h⟩ := h.lift
      obtain ⟨u, eu, h⟩ := h.lift
      have mG : Dom G1 H := fun z p => (sa z p).2
      have n1 : Disj G1 (Or F1 F2) := disj_new d mG a.sub
      have mG1 := mG.step a.st
      obtain ⟨p, w, P, R, rfl, dg, rw, sP, sR, dPR, kk⟩ := foc_ok (rx.step a.st d) ro eo
      refine ⟨p, w, rfl, dg, tyB_of rw (chk_of eu) hT, ?_⟩
      refine tLf_bind a.rel h fun os env2 us H2 F3 F4 ro2 b h => ?_
      obtain ⟨⟨r, o'⟩, eg, h⟩ := h.lift
      have n2 : Disj G1 (Or F3 F4) := disj_new (fun z p q => n1 z p (.inr q)) mG1 b.sub
      have mG2 := mG1.step b.st
      refine ⟨o, os, r, o', P, F3, rw.step b.st fun z p q => n1 z (sP z p) (.inr q), ro2, fun z p q => n2 z (sP z p) (.inl q), eg, fun z H' ⟨Q1, Q2, rz, ro', dq, st', sub'⟩ => ?_⟩
      have st2 : Step G2 H H2 := a.st.trans b.st fun x q => a.sub x (.inr q)
      have st12 : Step (Or F2 P) H1 H' := (b.st.mono fun _ q => .inl (.inl q)).trans st' fun z q => q.elim (fun q => .inl (.inr q)) fun q => (b.sub z (.inl q)).imp .inl fun n => n
      have dR : Disj R (Or P F3) := fun z p q => q.elim (fun q => dPR z q p) fun q => n2 z (sR z p) (.inl q)
      have mR : Dom R H2 := fun z p => mG2 z (sR z p)
      have dRQ : Disj R (Or Q1 Q2) := disj_new dR mR sub'
      have nx := kk H' o' Q2 _ st12 (fun z p q => q.elim (fun q => n1 z (sR z p) (.inr q)) fun q => dPR z q p) ro' fun z p q => dRQ z q (.inr p)
      have d4 : Disj F4 (Or P F3) := fun z p q => q.elim (fun q => n2 z (sP z q) (.inr p)) fun q => b.dj z q p
      have d4Q : Disj F4 (Or Q1 Q2) := disj_new d4 b.d2 sub'
      obtain ⟨env3, rel3, h⟩ := rst_ok (ri := some i) (b.rel.step st' d4) nx (fun z p q => p.elim (fun p => d4Q z q (.inr p)) fun p => n2 z (sR z p) (.inr q)) (fun j ej => by cases ej; exact ev) h
      have c2 : ∀ z, F2 z → F z ∨ H z = none := fun z q => (a.sub z (.inr q)).imp (fun q => (sb z q).1) fun n => n
      have c34 : ∀ z, Or F3 F4 z → F z ∨ H z = none := fun z q => (b.sub z q).elim (c2 z) fun n => .inr (a.st.free n)
      have cP : ∀ z, Or P F3 z → F z ∨ H z = none := fun z q => q.elim (fun q => .inl (sa z (sP z q)).1) fun q => c34 z (.inl q)
      have cQ : ∀ z, Or Q1 Q2 z → F z ∨ H z = none := fun z q => (sub' z q).elim (cP z) fun n => .inr (st2.free n)
      refine h z H' Q1 _ rz rel3 (fun z p q => ?_) ((st2.mono fun z q => .inl (sb z q).1).trans st' cP) fun z q => ?_
      · rcases q with (q | q) | q
        · exact dq z p q
        · exact dRQ z q (.inl p)
        · exact d4Q z q (.inl p)
      · rcases q with q | (q | q) | q
        · exact cQ z (.inl q)
        · exact cQ z (.inr q)
        · exact .inl (sa z (sR z q)).1
        · exact c34 z (.inr q)
    · exact h.elim
/-- d[k].append(e) -/
theorem se_appendK {x : Str} {px sp : Pos} {kx e : Expr} {apos cpos : Pos} {fk : M O} {fa : M (List O)} (i : Nat) (hu : X.A.units + 64 < cLine) (hk : SE X kx fk) (ha : AE X [e] fa)
    (hN : X.N[i]? = some x := by rfl) (hv : Vis X.env.scope x := by first | exact Or.inl rfl | exact Or.inr (Or.inl rfl) | exact Or.inr (Or.inr rfl)) (hd : (x == ("__debug__" : Str)) = false := by decide) (hcd : (x == ("__classdict__" : Str)) = false := by decide) (hix : PlainIx kx := by intro _ _; rfl)
    (hbase : attributeBase (.Subscript (.Name x px) kx sp) "append" X.env (eval (.Subscript (.Name x px) kx sp) X.env) = eval (.Subscript (.Name x px) kx sp) X.env := by rfl)
    (hfew : ((backTo cpos (starEach [e] X.env)).all (fun x => !x.1) && (backToKw cpos (keywordEach [] X.env)).all (fun x => x.1.isSome) && decide ([e].length + ([] : List Keyword).length + (if ([] : List Keyword).isEmpty then 0 else 1) < 30)) = true := by rfl)
    (hline : (apos.endLine == cpos.line) = true := by rfl) (hs : starEach [e] X.env = (false, eval e X.env) :: starEach [] X.env := by rfl) : SE X (.Call (.Attribute (.Subscript (.Name x px) kx sp) "append" apos) [e] [] cpos) (cMuK "list" uAppend i fk fa) :=
  se_muK i (by omega) (by decide) PySem.F.plainAttrs_list PySem.F.slot_list_append PySem.F.type_list_append mu_append hk ha hN hv hd hcd hix hbase hfew hline hs rfl
end
end TL

set_option maxHeartbeats 1000000
/-! {t: v for ..}, the keys tuples. The core follows HandS' dc_core, for .dT. -/
namespace TL
open PySem L2 PySem.Spec PyProof.Rows
theorem d_dictSetT {X : Cx} {pins : List (Addr × Obj)} {σ : L2.St} {H : Hp} {s : Shared} {E : Value → Shared → Prop} {D b : Addr} {kvs : List (List Key × V)} {k : List Key} {v : V} {u r : Value} {Q : Unit → Shared → Prop} (hu : X.A.units + 1 < cLine) (I : Inv X pins σ H s) (hD : H D = some (.dT kvs)) (eb : H b = some (.tup (k.map kV))) (hz : kvs.length < sizeLine)
    (ry : RelV (.ref b) u) (rv : RelV v r) (h : ∀ s', Inv X pins σ (upd H D (.dT (putK kvs k v))) s' → Q () s') : wpAny (model X.prog X.w) X.A (dictSet D u r) Q E s := by
  cases (show u = Value.ref b from ry)
  obtain ⟨z, hd, xs, rel, dd⟩ := dt_of I.hok hD
  have hzx : xs.length ≤ sizeLine := by rw [← Paired.length rel]; exact z
  have hl : (putK kvs k v).length ≤ sizeLine := by have := length_putK kvs k v; omega
  refine wpAny_dictSet_heap (hsz := hzx) (Nat.lt_of_succ_lt hu) (key_of I.hok eb) dd fun h' dd' hs => h _ ?_
  obtain ⟨q, es, ep, hq, h2, h3, h4, _, h5⟩ := dd'
  refine d_write I (by rw [hD]; exact True.intro) hs ⟨q, hq⟩ ⟨hl, hd, _, (rel.put k eb rv).keeps fun c ys ec => ?_, q, es, ep, hq, h2, h3, h4, h5⟩
  rw [upd_ne (ne_of ec hD (fun z => nomatch z))]
  exact ec
section
variable {X : Cx}
def tDcT (wi : TI) (g : TG) (tt : TT) (tk tv : TE) (vs : List Nat) : TE := fun σ H Q => wi σ H fun J H1 => ∀ D, H1 D = none → ∃ W : Nat → Nat → Hp → Prop, (∃ m, W 0 m (upd H1 D (.dT []))) ∧ ∀ i m H, W i m H →
  (J.stop i H ∧ Q (.ref D) H) ∨ (J.go i H ∧ ∃ Nx : Hp → Prop, (∀ H', Nx H' → ∃ m', m' < m ∧ W (i + 1) m' H') ∧ ∀ x H', J.yld i H x H' → g x (wipe σ vs) H' fun σ2 H2 => wipe σ2 vs = wipe σ vs ∧ tt σ2 H2 fun b H3 =>
    if b = true then tk σ2 H3 fun y H4 => tv σ2 H4 fun z H5 => ∃ kvs k kb, y = .ref kb ∧ H5 kb = some (.tup (k.map kV)) ∧ H5 D = some (.dT kvs) ∧ kvs.length < sizeLine ∧ Nx (upd H5 D (.dT (putK kvs k z))) else Nx H3)
theorem dcT_core {pins : List (Addr × Obj)} {s : Shared} {σ : L2.St} {H : Hp} {Q : VK} {kx vx tg iter : Expr} {ifs : List Expr} {scope : Scope} {own : List (Str × Nat)} {pos pos' : Pos} {wi : TI} {g : TG} {tt : TT} {tk tv : TE} {use : Option (Value → Sem Unit)} {Qf : Value → Shared → Prop}
    (hu : X.A.units + 1 < cLine) (hc : X.calm = true) (hN : X.N.Nodup) (I : Inv X pins σ H s) (hi : PI X tg iter wi) (ok : BlkOk X.N X.env.scope scope own)
    (hg : ∀ (s : Shared) (H : Hp) (C : Addr) (cl : List (Str × Addr)) (fp : List Addr), PG (X.blk s H scope (compEnvC scope cl C X.env) fp) tg g) (ht : ∀ (s : Shared) (H : Hp) (C : Addr) (cl : List (Str × Addr)) (fp : List Addr), PTs (X.blk s H scope (compEnvC scope cl C X.env) fp) ifs tt)
    (hk : ∀ (s : Shared) (H : Hp) (C : Addr) (cl : List (Str × Addr)) (fp : List Addr), PE (X.blk s H scope (compEnvC scope cl C X.env) fp) kx tk)
    (he : ∀ (s : Shared) (H : Hp) (C : Addr) (cl : List (Str × Addr)) (fp : List Addr), PE (X.blk s H scope (compEnvC scope cl C X.env) fp) vx tv) (hs : ∀ x, foldedSetIterable iter X.env x = pure x)
    (h : tDcT wi g tt tk tv (own.map (·.2)) σ H Q)
    (hRR : ∀ D C s' m H', Inv X pins σ H' s' → Q (.ref D) H' → s'.heap.Ns C m → FpOk X pins H' C → compPost (model X.prog X.w) X.A X.xe use Qf (.ref D) C (.ok .next) s') :
    wpAny (model X.prog X.w) X.A (comprehension (.DictComp kx vx [⟨tg, iter, ifs, 0⟩] scope pos) scope X.env pos' newDict false (eval iter X.env) use) Qf X.xe s := by
  have hfree : ∀ y ∈ scope.names, y.2 = .free → ∃ c, X.env.cells.lookup y.1 = some c := fun y hy e => by
    rcases ok.free y hy e with k | k
    · exact I.ok.has _ (.inl k)
    · exact I.ok.has _ (.inr k)
  refine wpAny_comprehension_free (use := use) rfl hs (closure_ok hfree) ok.kind (fun y hy e => by rw [ok.uniq y hy, e])
    (thn (hi.run pins s σ H _ I h) fun xv s1 hx => thn hx fun itv s2 h2 => ?_)
  obtain ⟨it, fp, tn, J, H2, e, I2, T, st2, f2, q⟩ := h2
  subst e
  refine wpAny_newObj_type (newEnv_comp ?_)
  generalize hD : s2.heap.objs.size = D
  have hDn : H2 D = none := I2.hok.fresh (Nat.le_of_eq hD)
  obtain ⟨W, ⟨m0, w0⟩, turn⟩ := q D hDn
  -- the new list
  generalize hs3 : ({ s2 with heap := s2.heap.push { cls := .type "dict", data := .dict #[] } } : Shared) = s3
  have I3 : Inv X pins σ (upd H2 D (.dT [])) s3 := by
    rw [← hs3]
    refine I2.laid (t' := s2.toks) (fun b o e => Heap.get?_push_of_some _ e) (Nat.le_of_eq hD) ?_
    rw [← hD]
    exact dt_empty s2.heap I2.big
  have h3 : s3.heap = s2.heap.push { cls := .type "dict", data := .dict #[] } := by rw [← hs3]
  have sz : ∀ b ∈ fp, b < s2.heap.objs.size := fun b hb => by
    obtain ⟨o, e, _⟩ := T.obj _ _ st2 b hb
    exact Heap.lt_size e
  have f3 : ∀ b ∈ fp, FpOk X pins (upd H2 D (.dT [])) b ∧ b < s3.heap.objs.size := fun b hb => by
    have hlt := sz b hb
    refine ⟨⟨?_, (f2 b hb).2⟩, by rw [h3, Heap.size_push]; exact Nat.lt_succ_of_lt hlt⟩
    rw [upd_ne (by rw [← hD]; exact Nat.ne_of_lt hlt)]
    exact (f2 b hb).1
  have st3 : tn 0 s3.heap := T.keep _ _ _ st2 fun b _ o e => by rw [h3]; exact Heap.get?_push_of_some _ e
  have I4 := block_start I3 ok hN f3
  have pg := hg s3 (upd H2 D (.dT [])) s3.heap.objs.size (cellsFrom (s3.heap.objs.size + 1) scope.names (cloFrom X.env.cells scope.names [])) fp
  have pt := ht s3 (upd H2 D (.dT [])) s3.heap.objs.size (cellsFrom (s3.heap.objs.size + 1) scope.names (cloFrom X.env.cells scope.names [])) fp
  have pk := hk s3 (upd H2 D (.dT [])) s3.heap.objs.size (cellsFrom (s3.heap.objs.size + 1) scope.names (cloFrom X.env.cells scope.names [])) fp
  have pe := he s3 (upd H2 D (.dT [])) s3.heap.objs.size (cellsFrom (s3.heap.objs.size + 1) scope.names (cloFrom X.env.cells scope.names [])) fp
  show codeAny _ _ (.compStart (.DictComp kx vx [⟨tg, iter, ifs, 0⟩] scope pos) 0 (.ref it) (.ref D) (compEnvC scope (cellsFrom (s3.heap.objs.size + 1) scope.names (cloFrom X.env.cells scope.names [])) s3.heap.objs.size X.env)) (compPost (model X.prog X.w) X.A X.xe use Qf (.ref D) s3.heap.objs.size) { s3 with heap := pushCells (s3.heap.push { cls := .type "dict", data := .dict #[] }) scope.names }
  have nfp : ∀ b ∈ fp, (upd H2 D (.dT [])) b = none := fun b hb => (f3 b hb).1.1
  generalize hce : compEnvC scope (cellsFrom (s3.heap.objs.size + 1) scope.names (cloFrom X.env.cells scope.names [])) s3.heap.objs.size X.env = ce at I4 pg pt pk pe ⊢
  have cL : ce.locals = s3.heap.objs.size := by subst hce; rfl
  generalize hH3 : upd H2 D (.dT []) = H3 at I3 I4 pg pt pk pe w0 nfp f3
  generalize hs4 : ({ s3 with heap := pushCells (s3.heap.push { cls := .type "dict", data := .dict #[] }) scope.names } : Shared) = s4 at I4 ⊢
  have st4 : tn 0 s4.heap := T.keep _ _ _ st3 fun b _ o e => by rw [← hs4]; exact pushCells_keeps _ _ _ _ (Heap.get?_push_of_some _ e)
  have stat : ∀ {σ' : L2.St} {H' : Hp} {s' : Shared}, Inv (X.blk s3 H3 scope ce fp) [] σ' H' s' → (∀ b ∈ fp, H' b = none) → ∀ b ∈ fp, FpOk (X.blk s3 H3 scope ce fp) [] H' b := fun {σ' H' s'} I' hn b hb =>
    ⟨hn b hb, (I'.ok.exf b hb).1, I'.ok.exfs b hb, .inl hb, fun x c e => (I'.ok.exf b hb).2 x c e, fun p hp => absurd (show p ∈ ([] : List (Addr × Obj)) ++ [] from hp) (by simp)⟩
  have loop : codeAny (model X.prog X.w) X.A (.compLoop (.DictComp kx vx [⟨tg, iter, ifs, 0⟩] scope pos) 0 (.ref it) (.ref D) ce) (compPost (model X.prog X.w) X.A X.xe use Qf (.ref D) s3.heap.objs.size) s4 := by
    refine compLoop_anyD (fun n s' => ∃ i H', Inv (X.blk s3 H3 scope ce fp) [] (wipe σ (own.map (·.2))) H' s' ∧ tn i s'.heap ∧ (∀ b ∈ fp, H' b = none) ∧ W i n H') ?_ m0 ⟨0, H3, I4, st4, nfp, w0⟩
    rintro n s5 ⟨i, H5, I5, st5, n5, w5⟩
    rcases turn i n H5 w5 with ⟨stop, qq⟩ | ⟨go, Nx, hNx, step⟩
    · have td := T.done (X.blk s3 H3 scope ce fp) rfl rfl rfl hc i [] s5 _ H5 (fun _ _ => False) I5 (stat I5 n5) st5 stop
      refine thnF td fun r s6 ⟨hr, I6⟩ => ?_
      subst hr
      -- back in the def's context
      have I7 : Inv X pins σ H5 s6 := I3.call' (ch := fp) I6.os I6.base I6.hok I6.bare fun b hb => ⟨(f3 b hb).1.2.2.2.1, (f3 b hb).1.2.1, (f3 b hb).1.2.2.2.2.1, (f3 b hb).1.2.2.2.2.2⟩
      have nC : H5 s3.heap.objs.size = none := by
        have z : H5 ce.locals = none := I6.free
        rw [cL] at z
        exact z
      obtain ⟨m, hn, _⟩ := I6.loc
      have hn : s6.heap.Ns ce.locals m := hn
      rw [cL] at hn
      exact hRR D s3.heap.objs.size s6 m H5 I7 qq hn (I3.fpOk (Nat.le_refl _) nC)
    · have ti := T.item (X.blk s3 H3 scope ce fp) rfl rfl rfl hc i [] s5 _ H5 (fun _ _ => False) I5 (stat I5 n5) st5 go
      refine thnF ti fun r s6 ⟨u, hr, h6⟩ => ?_
      subst hr
      refine thnF h6 fun _ s7 ⟨x, H7, I7, r7, y7, st7, n7⟩ => ?_
      have I7' := I7.pinned (stat I7 n7) (T.obj _ _ st7)
      refine thnF (pg.run _ s7 _ H7 x u _ I7' r7 (step x H7 y7)) fun _ s8 ⟨σ8, H8, I8, hw8, q8⟩ => ?_
      refine thnF (pt.run _ s8 σ8 H8 _ I8 q8) fun b s9 ⟨H9, I9, q9⟩ => ?_
      -- the turn's end
      have fin : ∀ {s' : Shared} {H' : Hp}, Inv (X.blk s3 H3 scope ce fp) ([] ++ pinsAt fp s7.heap) σ8 H' s' → Nx H' → ∃ m, m < n ∧ ∃ i H', Inv (X.blk s3 H3 scope ce fp) [] (wipe σ (own.map (·.2))) H' s' ∧ tn i s'.heap ∧ (∀ b ∈ fp, H' b = none) ∧ W i m H' := fun {s' H'} I' nx => by
        obtain ⟨m', hm, w'⟩ := hNx H' nx
        have pin' : ∀ b ∈ fp, ∀ o, s7.heap.get? b = some o → s'.heap.get? b = some o ∧ H' b = none := fun b hb o e =>
          let z := I'.pin (b, o) (List.mem_append_right _ (List.mem_append_right _ (mem_pinsAt hb e)))
          ⟨z.1, z.2.1⟩
        have hl : (wipe σ (own.map (·.2))).length = σ8.length := by rw [← hw8, wipe_length]
        refine ⟨m', hm, i + 1, H', (I'.unpinned (pins := [])).weak hl (fun j v e => ?_), T.keep _ _ _ st7 fun b hb o e => (pin' b hb o e).1, fun b hb => ?_, w'⟩
        · rw [← hw8] at e
          exact (wipe_some e).1
        · obtain ⟨o, e, _⟩ := T.obj _ _ st7 b hb
          exact (pin' b hb o e).2
      cases b with
      | false =>
        simp only [Bool.false_eq_true, if_false] at q9 ⊢
        exact fin I9 q9
      | true =>
        simp only [if_true] at q9 ⊢
        refine thnF (pk.run _ s9 σ8 H9 _ I9 q9) fun z s10 ⟨yk, H10, I10, r10, q10⟩ => ?_
        refine thnF (pe.run _ s10 σ8 H10 _ I10 q10) fun z2 s11 ⟨yv, H11, I11, r11, kvs, k, kb, ek, ekb, hD11, hz11, nx⟩ => ?_
        subst ek
        exact d_dictSetT (X := X.blk s3 H3 scope ce fp) hu I11 hD11 ekb hz11 r10 r11 fun s12 I12 => fin I12 nx
  exact codeAny_compStart_dict loop (T.self X.A 0 _ _ _ st4 loop)
end
end TL

set_option maxHeartbeats 1000000
/-! {t: v for ..}, the keys tuples: the rules. -/
namespace TL
open PySem L2 PySem.Spec PyProof.Rows
section
variable {X : Cx}
theorem pe_dcT {kx vx tg iter : Expr} {ifs : List Expr} {scope : Scope} {own : List (Str × Nat)} {pos : Pos} {wi : TI} {g : TG} {tt : TT} {tk tv : TE} (hu : X.A.units + 1 < cLine) (hc : X.calm = true) (hN : X.N.Nodup) (hi : PI X tg iter wi) (ok : BlkOk X.N X.env.scope scope own)
    (hg : ∀ (s : Shared) (H : Hp) (C : Addr) (cl : List (Str × Addr)) (fp : List Addr), PG (X.blk s H scope (compEnvC scope cl C X.env) fp) tg g) (ht : ∀ (s : Shared) (H : Hp) (C : Addr) (cl : List (Str × Addr)) (fp : List Addr), PTs (X.blk s H scope (compEnvC scope cl C X.env) fp) ifs tt)
    (hk : ∀ (s : Shared) (H : Hp) (C : Addr) (cl : List (Str × Addr)) (fp : List Addr), PE (X.blk s H scope (compEnvC scope cl C X.env) fp) kx tk)
    (he : ∀ (s : Shared) (H : Hp) (C : Addr) (cl : List (Str × Addr)) (fp : List Addr), PE (X.blk s H scope (compEnvC scope cl C X.env) fp) vx tv) (hs : ∀ x, foldedSetIterable iter X.env x = pure x := by intro _; rfl) :
    PE X (.DictComp kx vx [⟨tg, iter, ifs, 0⟩] scope pos) (tDcT wi g tt tk tv (own.map (·.2))) := by
  refine ⟨fun pins s σ H Q I h => ?_⟩
  rw [arm_eval_DictComp]
  refine dcT_core hu hc hN I hi ok hg ht hk he hs h fun D C s' m H' I' q hn f => ⟨m, hn, fun h'' sb => ?_⟩
  obtain ⟨f0, f1, f2, f3, f4, f5⟩ := f
  exact ⟨.ref D, H', I'.turned (t' := s'.toks) (fun b o hb e => (sb.2 b hb).trans e) f0 f1 f3 f4 f5, rfl, q⟩
theorem nodup_putT {kvs : List (List Key × V)} {k : List Key} {v : V} (nd : (kvs.map (·.1)).Nodup) : ((putK kvs k v).map (·.1)).Nodup := by
  have hp : putK kvs k v = if hasK kvs k then kvs.map fun p => if p.1 = k then (p.1, v) else p else kvs ++ [(k, v)] := rfl
  rw [hp]
  cases q : hasK kvs k with
  | true =>
    have : (kvs.map fun p => if p.1 = k then (p.1, v) else p).map (·.1) = kvs.map (·.1) := by
      rw [List.map_map]; apply List.map_congr_left; intro p _; dsimp only [Function.comp]; split <;> rfl
    simp only [if_true]; rw [this]; exact nd
  | false =>
    simp only [Bool.false_eq_true, if_false, List.map_append, List.map_cons, List.map_nil]
    refine List.nodup_append.mpr ⟨nd, by simp, fun x hx y hy e => ?_⟩
    have hy : y = k := by simpa using hy
    subst hy; subst e
    obtain ⟨p, hpm, rfl⟩ := List.mem_map.mp hx
    have : hasK kvs p.1 = true := List.any_eq_true.mpr ⟨p, hpm, decide_eq_true rfl⟩
    rw [q] at this; cases this
def dcLT (g : G) (t : M Bool) (fk fv : M O) (vs : List Nat) : List D → List (List Key × O) → M (List (List Key × O))
  | [], m => ret m
  | d :: ds, m => fun e => match g (.d d) e with
    | none => none
    | some e1 => match t e1 with
      | none => none
      | some (false, e2) => dcLT g t fk fv vs ds m (wipeE e2 vs)
      | some (true, e2) => match fk e2 with
        | none => none
        | some (k, e3) => match fv e3 with
          | none => none
          | some (v, e4) => match keyT k with
            | none => none
            | some k => if m.length < sizeLine then dcLT g t fk fv vs ds (setK m k v) (wipeE e4 vs) else none
def dcMT (src : M (List D × (O × Option Nat))) (g : G) (t : M Bool) (fk fv : M O) (vs : List Nat) : M O := fun e => match src e with
  | none => none
  | some ((ds, x), e1) => if ownOk e1 vs then match dcLT g t fk fv vs ds [] (wipeE e1 vs) with
      | none => none
      | some (m, e2) => bnd (rst x.2 x.1) (fun _ => ret (.dcT m)) (backE e1 e2 vs)
    else none
/-- the state of a dict comprehension ahead of a turn -/
structure DcT (X : Cx) (F0 : Fp) (H0 : Hp) (Da : Addr) (Fh : Fp) (m : List (List Key × O)) (kvs : List (List Key × V)) (Fa F' : Fp) (H : Hp) : Prop where
  hD : H Da = some (.dT kvs)
  ek : kvs.map (·.1) = m.map (·.1)
  nd : (kvs.map (·.1)).Nodup
  ra : ROs X.K H (m.map (·.2)) (kvs.map (·.2)) Fa
  dA : Disj Fa F'
  dH : Disj Fh (Or Fa F')
  nA : ¬ Fa Da
  nE : ¬ F' Da
  nH : ¬ Fh Da
  st : Step F0 H0 H
  sb : Sub (Or Fa F') F0 H0
  mH : Dom Fh H
  mA : Dom Fa H
  h0 : H0 Da = none
theorem DcT.adv {F0 : Fp} {H0 : Hp} {Da : Addr} {Fh : Fp} {m : List (List Key × O)} {kvs : List (List Key × V)} {Fa F' F2 : Fp} {H H' : Hp} (c : DcT X F0 H0 Da Fh m kvs Fa F' H) (st : Step F' H H') (sub : Sub F2 F' H) : DcT X F0 H0 Da Fh m kvs Fa F2 H' where
  hD := st.keep _ _ c.hD c.nE
  ek := c.ek
  nd := c.nd
  ra := c.ra.step st c.dA
  dA := disj_new c.dA c.mA sub
  dH := fun x p q => q.elim (fun q => c.dH x p (.inl q)) fun q => disj_new (fun x p q => c.dH x p (.inr q)) c.mH sub x p q
  nA := c.nA
  nE := fun z => (sub _ z).elim c.nE fun e => by rw [c.hD] at e; cases e
  nH := c.nH
  st := c.st.trans st fun x p => c.sb x (.inr p)
  sb := fun x p => p.elim (fun p => c.sb x (.inl p)) fun p => (sub x p).elim (fun p => c.sb x (.inr p)) fun n => .inr (c.st.free n)
  mH := c.mH.step st
  mA := c.mA.step st
  h0 := c.h0
theorem DcT.push {F0 : Fp} {H0 : Hp} {Da : Addr} {Fh : Fp} {m : List (List Key × O)} {kvs : List (List Key × V)} {Fa F6 F7 : Fp} {H : Hp} {o : O} {v : V} {k : List Key} (c : DcT X F0 H0 Da Fh m kvs Fa (Or F6 F7) H) (ro : RO X.K H o v F6) (d : Disj F6 F7) (m6 : Dom F6 H) :
    DcT X F0 H0 Da Fh (setK m k o) (putK kvs k v) (Or Fa F6) F7 (upd H Da (.dT (putK kvs k v))) ∧ Step (fun z => z = Da) H (upd H Da (.dT (putK kvs k v))) := by
  have w : Step (fun z => z = Da) H (upd H Da (.dT (putK kvs k v))) := Step.wr c.hD trivial rfl
  obtain ⟨e1, r1⟩ := put_roT (k := k) c.ek c.nd (c.ra.step w fun z m n => c.nA (n ▸ m)) (ro.step w fun z m n => c.nE (.inl (n ▸ m))) fun x p q => c.dA x p (.inl q)
  refine ⟨⟨upd_same, e1, nodup_putT c.nd, r1, fun x p q => p.elim (fun p => c.dA x p (.inr q)) fun p => d x p q, fun x p q => c.dH x p (q.elim (fun q => q.elim .inl fun q => .inr (.inl q)) fun q => .inr (.inr q)), fun z => z.elim c.nA fun z => c.nE (.inl z), fun z => c.nE (.inr z), c.nH, ?_, fun x p => c.sb x (p.elim (fun p => p.elim .inl fun p => .inr (.inl p)) fun p => .inr (.inr p)), c.mH.step w, fun x p => p.elim (fun p => c.mA.step w x p) fun p => m6.step w x p, c.h0⟩, w⟩
  exact ⟨fun a o e n => by rw [upd_ne (fun z => by subst z; rw [c.h0] at e; cases e)]; exact c.st.keep a o e n, fun a o e n => by rw [upd_ne (fun z => by subst z; rw [c.h0] at e; cases e)]; exact c.st.pers a o e n, fun a o e => by rw [upd_ne (fun z => by subst z; rw [c.h0] at e; cases e)]; exact c.st.there a o e⟩
theorem dcT_it {J : It} {n : Nat} {G : Hp → Prop} {Y : Nat → Hp → V → Hp → Prop} (w : Walk J n G Y) {g : TG} {tt : TT} {tk tv : TE} {vs : List Nat} {σ : L2.St} {H1 : Hp} {D : Addr} {Qd : Hp → Prop} (Pv : Nat → Hp → Prop) (h0 : Pv 0 (upd H1 D (.dT []))) (hl : ∀ i H, i ≤ n → Pv i H → G H)
    (hs : ∀ i x H H', i < n → Pv i H → Y i H x H' → g x (L2.wipe σ vs) H' fun σ2 H2 => L2.wipe σ2 vs = L2.wipe σ vs ∧ tt σ2 H2 fun b H3 =>
      if b = true then tk σ2 H3 fun y H4 => tv σ2 H4 fun z H5 => ∃ kvs k kb, y = .ref kb ∧ H5 kb = some (.tup (k.map kV)) ∧ H5 D = some (.dT kvs) ∧ kvs.length < sizeLine ∧ Pv (i + 1) (upd H5 D (.dT (putK kvs k z))) else Pv (i + 1) H3) (hd : ∀ H, Pv n H → Qd H) :
    ∃ W : Nat → Nat → Hp → Prop, (∃ m, W 0 m (upd H1 D (.dT []))) ∧ ∀ i m H, W i m H →
      (J.stop i H ∧ Qd H) ∨ (J.go i H ∧ ∃ Nx : Hp → Prop, (∀ H', Nx H' → ∃ m', m' < m ∧ W (i + 1) m' H') ∧ ∀ x H', J.yld i H x H' → g x (L2.wipe σ vs) H' fun σ2 H2 => L2.wipe σ2 vs = L2.wipe σ vs ∧ tt σ2 H2 fun b H3 =>
        if b = true then tk σ2 H3 fun y H4 => tv σ2 H4 fun z H5 => ∃ kvs k kb, y = .ref kb ∧ H5 kb = some (.tup (k.map kV)) ∧ H5 D = some (.dT kvs) ∧ kvs.length < sizeLine ∧ Nx (upd H5 D (.dT (putK kvs k z))) else Nx H3) := by
  obtain ⟨go, stop, yld⟩ := w
  refine ⟨fun i m H => m = n - i ∧ i ≤ n ∧ Pv i H, ⟨n, by simp, Nat.zero_le _, h0⟩, ?_⟩
  rintro i m H ⟨rfl, hi, p⟩
  have q := hl i H hi p
  by_cases hlt : i < n
  · exact .inr ⟨go i _ hlt q, Pv (i + 1), fun H' p' => ⟨n - (i + 1), by omega, rfl, hlt, p'⟩, fun x H' y => hs i x H H' hlt p (yld i H x H' hlt q y)⟩
  · have e : i = n := by omega
    subst e
    exact .inl ⟨stop _ q, hd H p⟩
theorem dcT_ok {src : M (List D × (O × Option Nat))} {g : G} {t : M Bool} {fk fv : M O} {vs : List Nat} {σ : L2.St} {H : Hp} {Q : VK} (h : tOf X (dcMT src g t fk fv vs) σ H Q) :
    tDcT (tIf X src) (tGf X (fxOf vs) g) (tBf X t) (tOf X fk) (tOf X fv) vs σ H Q := by
  obtain ⟨env, F0, rel0, h⟩ := h
  refine ⟨env, fun a => F0 a ∧ ∃ o, H a = some o, rel0.dom, ?_⟩
  unfold dcMT at h
  cases q0 : src env with
  | none => rw [q0] at h; exact h
  | some r =>
    obtain ⟨⟨ds, x⟩, e1⟩ := r
    rw [q0] at h
    dsimp only at h
    intro J H1 vh Fh F2 Gd ro gi it gs stb rel1 dj st sub dm Da hDa
    obtain ⟨Y, w, hY⟩ := it
    dsimp only at ro gi w hY
    split at h
    · rename_i ok
      cases q1 : dcLT g t fk fv vs ds [] (wipeE e1 vs) with
      | none => rw [q1] at h; exact h.elim
      | some r =>
        obtain ⟨mf, ef⟩ := r
        rw [q1] at h
        dsimp only at h
        have hDn : H Da = none := st.free hDa
        refine dcT_it w (Pv := fun i H' => Gd H' ∧ ∃ m kvs env' Fa F', DcT X (fun a => F0 a ∧ ∃ o, H a = some o) H Da Fh m kvs Fa F' H' ∧ RelE X.K H' env' (L2.wipe σ vs) F' ∧ RO X.K H' x.1 vh Fh ∧ (∀ a o, H1 a = some o → ¬ MutO o → H' a = some o) ∧ dcLT g t fk fv vs (ds.drop i) m env' = some (mf, ef)) ?_ (fun i H' _ p => p.1) ?_ ?_
        · have s1 : Step nof H1 (upd H1 Da (.dT [])) := .new hDa
          refine ⟨stb _ _ nof gs s1 fun _ _ z => z, [], [], wipeE e1 vs, nof, _, ⟨upd_same, rfl, List.nodup_nil, .nil, fun _ p _ => p, fun a p q => q.elim False.elim fun q => dj a p q.1, fun z => z, fun z => ?_, fun z => ?_, st.trans s1 fun _ z => z.elim, fun a p => p.elim False.elim fun p => (sub a (.inr p.1)), dm.step s1, fun _ p => p.elim, hDn⟩, (rel1.dom.wipe vs).step s1 fun _ _ z => z, ro.step s1 fun _ _ z => z, s1.pers, by rw [List.drop_zero]; exact q1⟩
          · obtain ⟨_, o, e⟩ := z; rw [hDa] at e; cases e
          · obtain ⟨o, e⟩ := dm _ z; rw [hDa] at e; cases e
        · rintro i xv H2 H3 hi ⟨gd, m, kvs, env', Fa, F', c, rel', rh, pp, hc⟩ y
          obtain ⟨d, hd, rd, st23⟩ := hY i H2 xv H3 hi gd y
          have ed : ds.drop i = d :: ds.drop (i + 1) := by
            rw [List.drop_eq_getElem_cons hi]
            have : ds[i]? = some ds[i] := by simp [hi]
            rw [this] at hd; cases hd; rfl
          rw [ed] at hc
          unfold dcLT at hc
          cases p1 : g (.d d) env' with
          | none => rw [p1] at hc; cases hc
          | some ea =>
            rw [p1] at hc
            dsimp only at hc
            have mf : ∀ {G1 : Fp} {Hx Hy : Hp}, Step nof Hx Hy → Step G1 Hx Hy := fun s => s.mono fun _ z => z.elim
            have c3 := c.adv (mf st23) .refl
            refine ⟨.d d, env', nof, F', .d rd, rel'.step st23 fun _ _ z => z, fun _ p _ => p, ea, p1, fun σ4 H4 F4 rel4 fi4 st4 sub4 => ?_⟩
            have st4' : Step F' H3 H4 := st4.mono fun x p => .inl (p.elim False.elim id)
            have sub4' : Sub F4 F' H3 := fun x p => (sub4 x p).imp (fun p => p.elim False.elim id) id
            have c4 := c3.adv st4' sub4'
            have hwp := wipe_fix fi4
            have g4 := stb _ _ _ (stb _ _ nof gd st23 fun _ _ z => z) st4' fun x p q => c3.dH x p (.inr q)
            have r4 := (rh.step st23 fun _ _ z => z).step st4' fun x p q => c3.dH x p (.inr q)
            refine ⟨hwp, ea, F4, rel4, ?_⟩
            cases p2 : t ea with
            | none => rw [p2] at hc; cases hc
            | some r =>
              obtain ⟨b, e2⟩ := r
              rw [p2] at hc
              intro H5 F5 rel5 st5 sub5
              have c5 := c4.adv st5 sub5
              have g5 := stb _ _ _ g4 st5 fun x p q => c4.dH x p (.inr q)
              have r5 := r4.step st5 fun x p q => c4.dH x p (.inr q)
              have pp5 : ∀ a o, H1 a = some o → ¬ MutO o → H5 a = some o := fun a o e n => st5.pers _ _ (st4.pers _ _ (st23.pers _ _ (pp a o e n) n) n) n
              cases b with
              | false =>
                dsimp only at hc
                exact iteF ⟨g5, m, kvs, wipeE e2 vs, Fa, F5, c5, wipe_wipe hwp X.K rel5, r5, pp5, hc⟩
              | true =>
                dsimp only at hc
                refine iteT ⟨e2, F5, rel5, ?_⟩
                cases p3 : fk e2 with
                | none => rw [p3] at hc; cases hc
                | some r =>
                  obtain ⟨ko, e3⟩ := r
                  rw [p3] at hc
                  dsimp only at hc
                  intro vk H6 Fk F7 rok rel7 dk7 st6 sub6
                  have sub6' : Sub F7 F5 H5 := fun x p => sub6 x (.inr p)
                  have c6 := c5.adv st6 sub6'
                  have g6 := stb _ _ _ g5 st6 fun x p q => c5.dH x p (.inr q)
                  have r6 := r5.step st6 fun x p q => c5.dH x p (.inr q)
                  have pp6 : ∀ a o, H1 a = some o → ¬ MutO o → H6 a = some o := fun a o e n => st6.pers _ _ (pp5 a o e n) n
                  refine ⟨e3, F7, rel7, ?_⟩
                  cases p4 : fv e3 with
                  | none => rw [p4] at hc; cases hc
                  | some r =>
                    obtain ⟨vo, e4⟩ := r
                    rw [p4] at hc
                    dsimp only at hc
                    cases p5 : keyT ko with
                    | none => rw [p5] at hc; cases hc
                    | some k =>
                      rw [p5] at hc
                      dsimp only at hc
                      split at hc
                      · rename_i hz
                        intro v H7 F8 F9 ro8 rel9 d89 st7 sub7
                        have c7 := c6.adv st7 (F2 := Or (fun a => F8 a ∧ ∃ o, H7 a = some o) F9) fun x p => sub7 x (p.imp And.left id)
                        obtain ⟨c8, w8⟩ := c7.push (k := k) ro8.dom (fun x p q => d89 x p.1 q) (fun x p => p.2)
                        have g7 := stb _ _ _ g6 st7 fun x p q => c6.dH x p (.inr q)
                        have r7 := r6.step st7 fun x p q => c6.dH x p (.inr q)
                        obtain ⟨kb, rfl, eb⟩ := keyT_ok rok p5
                        refine ⟨kvs, k, kb, rfl, st7.pers _ _ eb (fun z => z), c7.hD, ?_, stb _ _ _ g7 w8 fun x p q => c7.nH (q ▸ p), setK m k vo, _, wipeE e4 vs, _, F9, c8, (wipe_wipe hwp X.K rel9).step w8 fun x p q => c7.nE (.inr (q ▸ p)), r7.step w8 fun x p q => c7.nH (q ▸ p), fun a u e n => w8.pers _ _ (st7.pers _ _ (pp6 a u e n) n) n, hc⟩
                        have := congrArg List.length c7.ek
                        rw [List.length_map, List.length_map] at this
                        omega
                      · cases hc
        · rintro H2 ⟨gd, m, kvs, env', Fa, F', c, rel', rh, pp, hc⟩
          rw [List.drop_length] at hc
          cases hc
          have fin := RelE.recover (vs := vs) rel1 ok pp rel'
          obtain ⟨ee, rele, hh⟩ := rst_ok fin rh (fun a p q => c.dH a p (.inr q)) gi h
          have stF : Step F0 H H2 := c.st.mono fun a p => .inl p.1
          refine hh (.ref Da) H2 (Or (fun z => z = Da) Fa) _ (.dcT c.hD (.inl rfl) c.ek (c.ra.mono fun a p => ⟨.inr p, fun z => c.nA (z ▸ p)⟩)) rele (fun a p q => ?_) stF fun a p => ?_
          · rcases p with p | p
            · subst p; exact q.elim c.nH c.nE
            · exact q.elim (fun q => c.dH a q (.inl p)) fun q => c.dA a p q
          · rcases p with (p | p) | (p | p)
            · subst p; exact .inr hDn
            · exact (c.sb a (.inl p)).imp And.left id
            · exact (sub a (.inl p)).imp And.left id
            · exact (c.sb a (.inr p)).imp And.left id
    · exact h.elim
theorem se_dcT {kx vx tg iter : Expr} {ifs : List Expr} {scope : Scope} {own : List (Str × Nat)} {pos : Pos} {src : M (List D × (O × Option Nat))} {g : G} {t : M Bool} {fk fv : M O} (hu : X.A.units + 64 < cLine) (hc : X.calm = true) (hN : X.N.Nodup) (ok : BlkOk X.N X.env.scope scope own) (hi : IE X tg iter src)
    (hg : ∀ (s : Shared) (H : Hp) (C : Addr) (cl : List (Str × Addr)) (fp : List Addr), TG' (X.blk s H scope (compEnvC scope cl C X.env) fp) (fxOf (own.map (·.2))) tg g) (ht : ∀ (s : Shared) (H : Hp) (C : Addr) (cl : List (Str × Addr)) (fp : List Addr), TsE (X.blk s H scope (compEnvC scope cl C X.env) fp) ifs t)
    (hk : ∀ (s : Shared) (H : Hp) (C : Addr) (cl : List (Str × Addr)) (fp : List Addr), SE (X.blk s H scope (compEnvC scope cl C X.env) fp) kx fk)
    (he : ∀ (s : Shared) (H : Hp) (C : Addr) (cl : List (Str × Addr)) (fp : List Addr), SE (X.blk s H scope (compEnvC scope cl C X.env) fp) vx fv) (hs : ∀ x, foldedSetIterable iter X.env x = pure x := by intro _; rfl) :
    SE X (.DictComp kx vx [⟨tg, iter, ifs, 0⟩] scope pos) (dcMT src g t fk fv (own.map (·.2))) := PE.imp (pe_dcT (by omega) (wi := tIf X src) (g := tGf X (fxOf (own.map Prod.snd)) g) (tt := tBf X t) (tk := tOf X fk) (tv := tOf X fv) hc hN hi ok hg ht hk he hs) fun _ _ _ h => dcT_ok h
theorem ps_setDcT {i : Nat} {y : Str} {py : Pos} {kx vx tg iter : Expr} {ifs : List Expr} {scope : Scope} {own : List (Str × Nat)} {pos spos : Pos} {wi : TI} {g : TG} {tt : TT} {tk tv : TE} (hu : X.A.units + 1 < cLine) (hc : X.calm = true) (hN : X.N.Nodup) (hy : X.N[i]? = some y) (hyl : X.env.scope.names.lookup y = some .local)
    (hsw : swapsWith (.DictComp kx vx [⟨tg, iter, ifs, 0⟩] scope pos) (some (.Name y py)) spos.line X.env = pure true) (hi : PI X tg iter wi) (ok : BlkOk X.N X.env.scope scope own)
    (hg : ∀ (s : Shared) (H : Hp) (C : Addr) (cl : List (Str × Addr)) (fp : List Addr), PG (X.blk s H scope (compEnvC scope cl C X.env) fp) tg g) (ht : ∀ (s : Shared) (H : Hp) (C : Addr) (cl : List (Str × Addr)) (fp : List Addr), PTs (X.blk s H scope (compEnvC scope cl C X.env) fp) ifs tt)
    (hk : ∀ (s : Shared) (H : Hp) (C : Addr) (cl : List (Str × Addr)) (fp : List Addr), PE (X.blk s H scope (compEnvC scope cl C X.env) fp) kx tk)
    (he : ∀ (s : Shared) (H : Hp) (C : Addr) (cl : List (Str × Addr)) (fp : List Addr), PE (X.blk s H scope (compEnvC scope cl C X.env) fp) vx tv) (hs : ∀ x, foldedSetIterable iter X.env x = pure x := by intro _; rfl) :
    PS X (.Assign [.Name y py] (.DictComp kx vx [⟨tg, iter, ifs, 0⟩] scope pos) spos) (tAsg (tDcT wi g tt tk tv (own.map (·.2))) (gName i)) := by
  refine ⟨fun pins s σ H D I h => ?_⟩
  rw [exec_Assign_Name_used _ _ _ _ hsw]
  refine wpAny_bind (wpAny_standAt (wpAny_bind ?_))
  show wpAny _ X.A (do let _ ← comprehension (.DictComp kx vx [⟨tg, iter, ifs, 0⟩] scope pos) scope X.env (firstIterPos [⟨tg, iter, ifs, 0⟩] pos) newDict false (eval iter X.env) (some (assign (.Name y py) X.env))) _ _ s
  have h : tDcT wi g tt tk tv (own.map (·.2)) σ H (fun x H1 => gName i x σ H1 D.nx) := h
  refine wpAny_bind (thn (dcT_core (Qf := fun _ s' => SP X pins D .next s') hu hc hN I hi ok hg ht hk he hs h fun L C s' m H' I' q hn f => ?_) fun _ s' hq => wpAny_pure (wpAny_pure hq))
  show wpAny _ _ (assign (.Name y py) X.env (.ref L)) _ _ _
  refine wpAny_assign_Name (store_ok2 (v := V.ref L) I' hN hy (.inl hyl) rfl (fun s2 I2 ⟨a, sb, ha⟩ => ?_) (.inr hyl))
  obtain ⟨f0, f1, f2, f3, f4, f5⟩ := f
  have haC : C ≠ a := by
    rcases ha with z | z
    · rw [z]; exact f1
    · exact fun e => f4 y a z e.symm
  refine ⟨m, hn.sameBut sb haC, fun h3 sb3 => ?_⟩
  exact ⟨_, H', I2.turned (t' := s2.toks) (fun b o hb e => (sb3.2 b hb).trans e) f0 f1 f3 f4 f5, q⟩
theorem ss_setDcT {fx : Nat → Bool} (i : Nat) {y : Str} {py : Pos} {kx vx tg iter : Expr} {ifs : List Expr} {scope : Scope} {own : List (Str × Nat)} {pos spos : Pos} {src : M (List D × (O × Option Nat))} {g : G} {t : M Bool} {fk fv : M O} (hu : X.A.units + 1 < cLine) (hc : X.calm = true) (hN : X.N.Nodup) (ok : BlkOk X.N X.env.scope scope own) (hi : IE X tg iter src)
    (hg : ∀ (s : Shared) (H : Hp) (C : Addr) (cl : List (Str × Addr)) (fp : List Addr), TG' (X.blk s H scope (compEnvC scope cl C X.env) fp) (fxOf (own.map (·.2))) tg g) (ht : ∀ (s : Shared) (H : Hp) (C : Addr) (cl : List (Str × Addr)) (fp : List Addr), TsE (X.blk s H scope (compEnvC scope cl C X.env) fp) ifs t)
    (hk : ∀ (s : Shared) (H : Hp) (C : Addr) (cl : List (Str × Addr)) (fp : List Addr), SE (X.blk s H scope (compEnvC scope cl C X.env) fp) kx fk)
    (he : ∀ (s : Shared) (H : Hp) (C : Addr) (cl : List (Str × Addr)) (fp : List Addr), SE (X.blk s H scope (compEnvC scope cl C X.env) fp) vx fv) (hsw : swapsWith (.DictComp kx vx [⟨tg, iter, ifs, 0⟩] scope pos) (some (.Name y py)) spos.line X.env = pure true) (hy : X.N[i]? = some y := by rfl) (hyl : X.env.scope.names.lookup y = some .local := by rfl) (hfx : fx i = false := by rfl)
    (hs : ∀ x, foldedSetIterable iter X.env x = pure x := by intro _; rfl) : SS X fx (.Assign [.Name y py] (.DictComp kx vx [⟨tg, iter, ifs, 0⟩] scope pos) spos) (bndS (dcMT src g t fk fv (own.map (·.2))) (asgS (setV i))) :=
  PS.imp (ps_setDcT (wi := tIf X src) (g := tGf X (fxOf (own.map Prod.snd)) g) (tt := tBf X t) (tk := tOf X fk) (tv := tOf X fv) hu hc hN hy hyl hsw hi ok hg ht hk he hs) fun D σ H ⟨env, F, rel, h⟩ => dcT_ok (Post.tof rel (bndS_ok h) fun o env1 v H1 F1 F2 ro a h => by
    obtain ⟨o', env', G1, G2, ro', rel', d', env2, e, k⟩ := asg_end ro a h
    exact k _ _ (Or G1 G2) (setV_ok e ro' rel' d') (.set hfx) .refl .refl)
end
end TL

set_option maxHeartbeats 1000000
/-! tuple(d) of a dict. The first lemma follows call_tuple_gen, over kdu_collect. -/
namespace TL
open PySem L2 PySem.Spec PyProof.Rows PySem.W
open AutoSeq1 (wpAny_loadPart')
section
variable {prog : Program} {w : World} {A : Around} {E : Value → Shared → Prop} {s : Shared} {r d : Addr} {n : Nat} {P : Nat → Value → Prop} {OK : Heap → Prop}
theorem code_tuple_src {Q₁ : Value → Shared → Prop} (K : KdlSrc prog w "dict" r d n P OK) (hh : A.handled = none) (hok : OK s.heap) (hn : n ≤ sizeLine)
    (h : ∀ (h' : Heap) (tk : Nat) (acc : Array Value), (∀ b o, s.heap.get? b = some o → h'.get? b = some o) → ItemsOf P acc n → Q₁ (.ref h'.objs.size) { s with heap := h'.push { cls := .type "tuple", data := .seq acc }, toks := tk }) :
    codeAny (model prog w) A (.call (.builtin "tuple.__new__") ⟨[.type "tuple", .ref r], []⟩) (wants Q₁ E) s := by
  refine codeAny_of_tree ?_
  show wpAny _ A.in1 (do checkBuiltinCall "tuple.__new__" ⟨[.type "tuple", .ref r], []⟩; again (.builtin "tuple.__new__" ⟨[.type "tuple", .ref r], []⟩)) _ _ s
  refine wpAny_bind (wpAny_of_eq (F.newCall_tuple_1 _) (wpAny_pure ⟨plainId_quiet F.plain_tuple_new _, codeAny_builtin F.entry_tuple_new ?_⟩))
  rw [Around.under_plainId F.plain_tuple_new _]
  have hsub := sub_tuple_self
  have hinit := init_tuple_lookup
  have hmh := madeHere_tuple
  have hTI : s.TypeIs (.ref r) "dict" := K.type s hok
  have hh1 : A.in1.handled = none := hh
  wp_walk using wpAny_typeOf hTI, kdu_collect (A := A.in1) K hh1 hok hn
  intro h' tk acc hk hacc
  show wpAny _ _ (Builtin.Tuple.tupleExact acc.toList.toArray >>= fun v => PySem.ret v) _ _ _
  unfold Builtin.Tuple.tupleExact
  refine wpAny_bind (wpAny_newObj_type ?_ (by show acc.toList.toArray.size ≤ sizeLine; simp only [Array.toArray_toList]; rw [hacc.1]; exact hn))
  refine wpAny_pure ?_
  have e : acc.toList.toArray = acc := by simp
  rw [e]
  exact h h' tk acc hk hacc
theorem call_tuple_src {Q : Value → Shared → Prop} (K : KdlSrc prog w "dict" r d n P OK) (hh : A.handled = none) (hok : OK s.heap) (hn : n ≤ sizeLine)
    (h : ∀ (h' : Heap) (tk : Nat) (acc : Array Value), (∀ b o, s.heap.get? b = some o → h'.get? b = some o) → ItemsOf P acc n → Q (.ref h'.objs.size) { s with heap := h'.push { cls := .type "tuple", data := .seq acc }, toks := tk }) :
    wpAny (model prog w) A (call (.type "tuple") [.ref r]) Q E s := by
  refine callType_codes (Q₁ := fun obj s₁ => s₁.TypeIs obj "tuple" ∧ Q obj s₁) F.called_tuple (F.typeCall_tuple_1 _) F.entry_object_init
    (code_tuple_src K hh hok hn fun h' tk acc hm hacc => ⟨⟨_, Heap.get?_push_size _ rfl, rfl⟩, h h' tk acc hm hacc⟩) fun obj s₁ h₁ => ?_
  exact ⟨h₁.1, F.args_object_init_2 obj _, object_init_meets F.called_tuple.init.lookup F.called_tuple.made (by decide) prog w A.in1 _ s₁ ⟨h₁.1, rfl, h₁.2⟩⟩
end
end TL

set_option maxHeartbeats 1000000
/-! tuple(d) of a dict: the rule. -/
namespace TL
open PySem L2 PySem.Spec PyProof.Rows
section
variable {X : Cx}
theorem call_tupleD (hcalm : X.calm = true) : CallR X (.type "tuple") (fun xs H Q => ∃ (a : Addr) (kvs : List (Key × V)), xs = [.ref a] ∧ Rd H a (.dK kvs) ∧ ∀ p, H p = none → Q (.ref p) (upd H p (.tup (kvs.map fun kv => kV kv.1)))) := by
  intro pins s σ H xs us Q I r q
  obtain ⟨a, kvs, ex, hd, q⟩ := q
  subst ex
  obtain ⟨u, eu, rx⟩ := vals1 r
  subst eu
  cases rx
  obtain ⟨z, lo, vs, rel, dd⟩ := dk_rd I.hok hd
  obtain ⟨ep, hat⟩ := dd.dictAt
  have ek : (kvs.map fun kv => kV kv.1) = vs.map fun p => kV p.1 := by
    have e := congrArg (List.map kV) rel.keys
    rw [List.map_map, List.map_map] at e
    exact e
  refine call_tuple_src (PySem.W.kdl_dict (knd := mixKind X.prog X.w) (kvs := vs) (ep := ep) lo) (I.ok.hd hcalm) hat (by rw [← rel.length]; exact z) fun h' tk acc hk hacc => ?_
  have hv : Vals (vs.map fun p => kV p.1) acc.toList := keys_at (by rw [Array.length_toList]; exact hacc.1) fun j v e => hacc.2 j v (by rw [← Array.getElem?_toList]; exact e)
  have I1 : Inv X pins σ H { s with heap := h', toks := tk } := I.kept hk
  refine ⟨.ref h'.objs.size, upd H h'.objs.size (.tup (kvs.map fun kv => kV kv.1)), I1.laid (t' := tk) (fun b u e => Heap.get?_push_of_some _ e) (Nat.le_refl _)
    (show ObjOk X.prog X.w _ _ _ (.tup (kvs.map fun kv => kV kv.1)) from ⟨by rw [List.length_map]; exact z, acc.toList, by rw [ek]; exact hv, _, Heap.get?_push_size _ rfl, rfl, 0, by rw [Array.toArray_toList]⟩), rfl, q _ (I1.hok.fresh (Nat.le_refl _))⟩
def gTupleD : List O → Option O := g1 fun x => match dkO x with
  | some ks => some (.d (.tup (ks.map kD)))
  | none => none
theorem cs_tupleD (hc : X.calm = true) : CallS X (.type "tuple") gTupleD := .of (call_tupleD hc) fun H xs os F o r e => by
  obtain ⟨x, v, G, rfl, rfl, h, q⟩ := g1_of r e
  split at q
  · rename_i ks hk
    cases q
    obtain ⟨a, kvs, rfl, hd, rfl⟩ := dkO_ok h hk
    refine ⟨a, kvs, rfl, hd, fun p hp => New.tup hp ?_⟩
    have z := kD_rds (X := X) (H := H) (kvs.map (·.1))
    rwa [List.map_map (g := kV)] at z
  · cases q
end
end TL

set_option maxHeartbeats 2000000
/-! zip of two or three, enumerate of one: each a list or a tuple. -/
namespace TL
open PySem L2 PySem.Spec PyProof.Rows
/-- a list or a tuple -/
inductive Kd where | l | t
def SeqK (k : Kd) (h : Heap) (a : Addr) (xs : Array Value) : Prop := match k with | .l => h.IsList a xs | .t => h.IsTuple a xs
def ItK (k : Kd) (h : Heap) (it a : Addr) (i : Nat) : Prop := match k with | .l => h.IsListIter it a i | .t => h.IsTupleIter it a i
def SqK (k : Kd) (K : PySem.W.Frag) (H : Hp) (a : Addr) (xs : List V) : Prop := match k with | .l => SqL K H a xs | .t => SqT K H a xs
theorem ItK.get {k : Kd} {h : Heap} {it a : Addr} {i : Nat} (x : ItK k h it a i) : ∃ o, h.get? it = some o ∧ o.data = .fields #[.ref a, .int i 0] := by
  cases k <;> (obtain ⟨o, e, _, d⟩ := x; exact ⟨o, e, d⟩)
theorem ItK.at {k : Kd} {h h' : Heap} {it a : Addr} {i : Nat} (x : ItK k h it a i) (e : ∀ o, h.get? it = some o → h'.get? it = some o) : ItK k h' it a i := by
  cases k <;> (obtain ⟨o, q, r⟩ := x; exact ⟨o, e o q, r⟩)
theorem SeqK.lt {k : Kd} {h : Heap} {a xs} (x : SeqK k h a xs) : a < h.objs.size := by
  cases k <;> (obtain ⟨o, e, _⟩ := x; exact Heap.lt_size e)
def itObj (k : Kd) (a : Addr) : Obj := match k with
  | .l => { cls := .type "list_iterator", data := .fields #[.ref a, .int 0 0] }
  | .t => { cls := .type "tuple_iterator", data := .fields #[.ref a, .int 0 0] }
theorem ItK.of {k : Kd} {h : Heap} {it a : Addr} (e : h.get? it = some (itObj k a)) : ItK k h it a 0 := by cases k <;> exact ⟨_, e, rfl, rfl⟩
theorem begK (k : Kd) (a : Addr) (its : Array Value) : Begins (.ref a) (itObj k a) (fun h => SeqK k h a its) := by
  cases k
  · exact begins_list a its
  · exact begins_tuple a its
theorem drK {prog : Program} {w : World} {A : Around} (hh : A.handled = none) (k : Kd) (it a : Addr) (ne : a ≠ it) (its : Array Value) : Draws prog w A it [it, a] its.size (fun i v => its[i]? = some v) (fun i h => ItK k h it a i ∧ SeqK k h a its) := by
  cases k
  · exact Draws.list hh it a ne its
  · exact Draws.tuple hh it a ne its
section
variable {X : Cx} {pins : List (Addr × Obj)} {σ : L2.St} {H : Hp} {s : Shared} {k : Kd} {a : Addr} {xs ys : List V}
theorem seqK (I : Inv X pins σ H s) (h : SqK k X.K H a xs) : ∃ its : List Value, Vals xs its ∧ SeqK k s.heap a its.toArray := by
  cases k
  · obtain ⟨its, r, p, _⟩ := I.list h; exact ⟨its, r, p.isList⟩
  · obtain ⟨its, r, p, _⟩ := I.tuple h; exact ⟨its, r, p⟩
theorem seqK_inj (I : Inv X pins σ H s) (h : SqK k X.K H a xs) (h' : SqK k X.K H a ys) : xs = ys := by
  cases k
  · exact I.list_inj h h'
  · exact I.tuple_inj h h'
theorem hd1 (hc : X.calm = true) (I : Inv X pins σ H s) : X.A.in1.handled = none := I.ok.hd hc
theorem of_val {us : List Value} {i : Nat} {u : Value} (r : Vals xs us) (e : us.toArray[i]? = some u) : ∃ x, xs[i]? = some x ∧ RelV x u := by
  have e' : us[i]? = some u := by simpa using e
  have hi : i < us.length := by
    rcases Nat.lt_or_ge i us.length with h | h
    · exact h
    · rw [List.getElem?_eq_none h] at e'; cases e'
  have hx : i < xs.length := by rw [r.length]; exact hi
  obtain ⟨u', e2, rx⟩ := r.get (List.getElem?_eq_getElem hx)
  rw [e'] at e2; cases e2
  exact ⟨_, List.getElem?_eq_getElem hx, rx⟩
end
abbrev enumH (h : Heap) (o : Obj) : Heap := (h.push o).push { cls := .type "enumerate", data := .fields #[.none, .bool false, .ref h.objs.size, rawInt 0, .none, .none] }
theorem meets_enum1 {v : Value} {o : Obj} {G : Heap → Prop} (B : Begins v o G) :
    Meets (Builtin.«enumerate.__new__» ⟨[.type "enumerate", v], []⟩) (fun _ R s => G s.heap ∧ R (.ok (.ret (.ref (s.heap.push o).objs.size))) { s with heap := enumH s.heap o }) :=
  .of_wp fun prog w A R s h => by
    obtain ⟨hp, gs, dr, tk, os⟩ := s
    obtain ⟨h1, h⟩ := h
    have sub := sub_enumerate
    have it1 : ∀ {A' : Around} {E Q : Value → Shared → Prop}, Q (.ref hp.objs.size) ⟨hp.push o, gs, dr, tk, os⟩ → wpAny (model prog w) A' (pyIter v) Q E ⟨hp, gs, dr, tk, os⟩ := fun q => B.iter prog w _ _ ⟨hp, gs, dr, tk, os⟩ _ h1 q
    wp_walk using it1
    refine wpAny_stack_any fun st => wpAny_pure ?_
    split
    · rename_i c _ _ _ _ _
      cases (c == Value.type "enumerate") <;> (wp_walk using it1; exact ⟨_, rfl, h⟩)
    · wp_walk using it1
      exact ⟨_, rfl, h⟩
theorem enum_begins1 {prog : Program} {w : World} {A : Around} {E : Value → Shared → Prop} {s : Shared} {v : Value} {o : Obj} {G : Heap → Prop} {Q : Value → Shared → Prop} (B : Begins v o G) (h1 : G s.heap)
    (h : ∀ h', IsEnum h' (s.heap.objs.size + 1) s.heap.objs.size 0 .none → h'.get? s.heap.objs.size = some o → h'.objs.size = s.heap.objs.size + 2 → (∀ b u, s.heap.get? b = some u → h'.get? b = some u) → Q (.ref (s.heap.objs.size + 1)) { s with heap := h' }) :
    wpAny (model prog w) A (call (.type "enumerate") [v]) Q E s := by
  refine callType_new F.called_enumerate (by decide) (F.typeCall_enumerate_1 _) (F.newCall_enumerate_1 _) (fun obj => F.args_object_init_2 obj _) F.entry_enumerate_new (meets_enum1 B) ⟨h1, ?_⟩
  have sz : (s.heap.push o).objs.size = s.heap.objs.size + 1 := Heap.size_push ..
  have he : (enumH s.heap o).get? (s.heap.push o).objs.size = some _ := Heap.get?_push_size _ rfl
  show _ ∧ _
  rw [sz] at he ⊢
  exact ⟨⟨_, he, rfl⟩, h _ he (Heap.get?_push_of_some _ (Heap.get?_push_size _ B.free)) (by rw [Heap.size_push, sz]) fun b u x => Heap.get?_push_of_some _ (Heap.get?_push_of_some _ x)⟩
theorem vals_cons {x : V} {xs : List V} {us : List Value} (r : Vals (x :: xs) us) : ∃ u vs, us = u :: vs ∧ RelV x u ∧ Vals xs vs := by
  cases r with
  | cons a b => exact ⟨_, _, rfl, a, b⟩
def Itzip2 (K : PySem.W.Frag) (k1 : Kd) (k2 : Kd) (a1 : Addr) (a2 : Addr) : It :=
  ⟨fun i H => ∃ (xs1 xs2 : List V) (x1 x2 : V), SqK k1 K H a1 xs1 ∧ xs1[i]? = some x1 ∧ SqK k2 K H a2 xs2 ∧ xs2[i]? = some x2,
    fun i H v H' => ∃ T x1 x2, v = .ref T ∧ H T = none ∧ H' = upd H T (.tup [x1, x2]) ∧ (∀ xs, SqK k1 K H a1 xs → xs[i]? = some x1) ∧ (∀ xs, SqK k2 K H a2 xs → xs[i]? = some x2),
    fun i H => ∃ xs1 xs2 : List V, SqK k1 K H a1 xs1 ∧ SqK k2 K H a2 xs2 ∧ i = min xs1.length xs2.length⟩
theorem turn_zip2 {P : Program} {w : World} {K : PySem.W.Frag} {elts : List Expr} {kk : Nat} {tpos : Pos} {k1 k2 : Kd} {a1 a2 z TI TO i1 i2 : Addr} (S : ZipSep2 z TI TO i1 i2 [i1, a1] [i2, a2]) (n1 : a1 ≠ i1) (n2 : a2 ≠ i2) :
    Turn P w K (.Tuple elts kk tpos) (Itzip2 K k1 k2 a1 a2) [z, TI, TO, i1, i2] z (fun i h => IsZip h z TI TO .none ∧ IsTupOf2 h TI (.ref i1) (.ref i2) ∧ (∃ c1 c2, IsTupOf2 h TO c1 c2) ∧ ItK k1 h i1 a1 i ∧ ItK k2 h i2 a2 i) where
  mem := by simp
  obj := fun i h st b hb => by
    obtain ⟨hz, hTI, ⟨c1, c2, hTO⟩, h1, h2⟩ := st
    have hb : b = z ∨ b = TI ∨ b = TO ∨ b = i1 ∨ b = i2 := by simpa using hb
    rcases hb with rfl | rfl | rfl | rfl | rfl
    · exact ⟨_, hz, fun v q => nomatch q⟩
    · exact ⟨_, hTI, fun v q => nomatch q⟩
    · exact ⟨_, hTO, fun v q => nomatch q⟩
    · obtain ⟨o, q, d⟩ := h1.get; exact ⟨o, q, fun v z => by rw [d] at z; cases z⟩
    · obtain ⟨o, q, d⟩ := h2.get; exact ⟨o, q, fun v z => by rw [d] at z; cases z⟩
  keep := fun i h h' st k => by
    obtain ⟨hz, hTI, ⟨c1, c2, hTO⟩, h1, h2⟩ := st
    exact ⟨k z (by simp) _ hz, k TI (by simp) _ hTI, ⟨c1, c2, k TO (by simp) _ hTO⟩, h1.at fun o q => k i1 (by simp) o q, h2.at fun o q => k i2 (by simp) o q⟩
  item := by
    intro X hP hw hK hc i pins s σ H E I hf st hg
    subst hP hw hK
    obtain ⟨xs1, xs2, x1, x2, q1, e1, q2, e2⟩ := hg
    obtain ⟨us1, r1, p1⟩ := seqK I q1
    obtain ⟨us2, r2, p2⟩ := seqK I q2
    have l1 : i < xs1.length := by
      rcases Nat.lt_or_ge i xs1.length with h | h
      · exact h
      · rw [List.getElem?_eq_none h] at e1; cases e1
    have m1 := r1.length
    have l2 : i < xs2.length := by
      rcases Nat.lt_or_ge i xs2.length with h | h
      · exact h
      · rw [List.getElem?_eq_none h] at e2; cases e2
    have m2 := r2.length
    have W := GoesN.zip2 (prog := X.prog) (w := X.w) (A := X.A) (elts := elts) (x1 := kk) (pos := tpos) S (drK (hd1 hc I) k1 i1 a1 n1 us1.toArray) (drK (hd1 hc I) k2 i2 a2 n2 us2.toArray)
    obtain ⟨hz, hTI, ⟨c1, c2, hTO⟩, h1, h2⟩ := st
    have cell_ : ∀ b ∈ [z, TI, TO, i1, i2], ∃ o, s.heap.get? b = some o ∧ True := fun b hb => by
      have hb : b = z ∨ b = TI ∨ b = TO ∨ b = i1 ∨ b = i2 := by simpa using hb
      rcases hb with rfl | rfl | rfl | rfl | rfl
      · exact ⟨_, hz, trivial⟩
      · exact ⟨_, hTI, trivial⟩
      · exact ⟨_, hTO, trivial⟩
      · obtain ⟨o, q, d⟩ := h1.get; exact ⟨o, q, trivial⟩
      · obtain ⟨o, q, d⟩ := h2.get; exact ⟨o, q, trivial⟩
    refine thn (W.goes i s (fun v s2 => ∃ x H', Inv X pins σ H' s2 ∧ RelV x v ∧ (Itzip2 X.K k1 k2 a1 a2).yld i H x H' ∧ (fun i h => IsZip h z TI TO .none ∧ IsTupOf2 h TI (.ref i1) (.ref i2) ∧ (∃ c1 c2, IsTupOf2 h TO c1 c2) ∧ ItK k1 h i1 a1 i ∧ ItK k2 h i2 a2 i) (i + 1) s2.heap ∧ ∀ b ∈ [z, TI, TO, i1, i2], H' b = none) E (by simp only [List.size_toArray]; omega) ⟨hz, hTI, ⟨c1, c2, hTO⟩, ⟨h1, p1⟩, ⟨h2, p2⟩⟩ fun v h' tk y st2 kp _ => ?_) fun r s1 h => h
    obtain ⟨T, u1, u2, rfl, hT, g1, g2, tu⟩ := y
    obtain ⟨y1, d1, v1⟩ := of_val r1 g1
    rw [e1] at d1; cases d1
    obtain ⟨y2, d2, v2⟩ := of_val r2 g2
    rw [e2] at d2; cases d2
    have hr : Vals [x1, x2] [u1, u2] := .cons v1 (.cons v2 .nil)
    have new : ObjOk X.prog X.w (upd H T (.tup [x1, x2])) h' T (.tup [x1, x2]) := ⟨by show 2 ≤ sizeLine; decide, _, hr, tu⟩
    have I1 : Inv X pins σ (upd H T (.tup [x1, x2])) { s with heap := h', toks := tk } := I.turnedNew (ch := [z, TI, TO, i1, i2]) (fun b o hb q => kp b o (fun zq => hb (by
        have zm : b = z ∨ b = TO ∨ b = i1 ∨ b = i2 := by simpa using zq
        rcases zm with zm | zm | zm | zm <;> simp [zm])) q) hf hT new
    refine ⟨.ref T, _, I1, rfl, ⟨T, x1, x2, rfl, I.hok.fresh hT, rfl, fun zs hz => by rw [seqK_inj I hz q1]; exact e1, fun zs hz => by rw [seqK_inj I hz q2]; exact e2⟩, ?_, fun b hb => ?_⟩
    · obtain ⟨b1, b2, b3, b4, b5⟩ := st2
      exact ⟨b1, b2, b3, b4.1, b5.1⟩
    · have hne : b ≠ T := fun z => by
        obtain ⟨o, q, _⟩ := cell_ b hb
        rw [z] at q
        exact absurd (Heap.lt_size q) (Nat.not_lt.mpr hT)
      rw [upd_ne hne]
      exact (hf b hb).1
  done := by
    intro X hP hw hK hc i pins s σ H E I hf st hg
    subst hP hw hK
    obtain ⟨xs1, xs2, q1, q2, hi⟩ := hg
    obtain ⟨us1, r1, p1⟩ := seqK I q1
    have m1 := r1.length
    obtain ⟨us2, r2, p2⟩ := seqK I q2
    have m2 := r2.length
    have W := GoesN.zip2 (prog := X.prog) (w := X.w) (A := X.A) (elts := elts) (x1 := kk) (pos := tpos) S (drK (hd1 hc I) k1 i1 a1 n1 us1.toArray) (drK (hd1 hc I) k2 i2 a2 n2 us2.toArray)
    obtain ⟨hz, hTI, ⟨c1, c2, hTO⟩, h1, h2⟩ := st
    have hi2 : i = min us1.toArray.size us2.toArray.size := by simp only [List.size_toArray]; omega
    subst hi2
    exact W.stops s (fun s1 => Inv X pins σ H s1) E ⟨hz, hTI, ⟨c1, c2, hTO⟩, ⟨h1, p1⟩, ⟨h2, p2⟩⟩ fun h' tk kp _ => I.turnedL (t' := tk) (ch := [z, TI, TO, i1, i2]) (fun b o hb q => kp b o (fun zq => hb (by
        have zm : b = z ∨ b = TO ∨ b = i1 ∨ b = i2 := by simpa using zq
        rcases zm with zm | zm | zm | zm <;> simp [zm])) q) hf
  self := fun A i s Q E st h => wpAny_pyIter_zip st.1 h
def iZip2 (K : PySem.W.Frag) (ta : TA) : TI := fun σ H R => ta σ H fun vs H1 => ∃ k1 k2 a1 a2 xs1 xs2, vs = [.ref a1, .ref a2] ∧ SqK k1 K H1 a1 xs1 ∧ SqK k2 K H1 a2 xs2 ∧ R (Itzip2 K k1 k2 a1 a2) H1
theorem pi_zip2K {X : Cx} {x1 x2 : Expr} {ta : TA} {p pos tpos : Pos} {elts : List Expr} {kk : Nat} (hg : Gl X "zip") (hm : X.mg "zip" = none) (ha : PA X [x1, x2] ta)
    (hs : starEach [x1, x2] X.env = (false, eval x1 X.env) :: starEach [x2] X.env := by rfl) (hpl : (backTo pos (starEach [x2] X.env)).any (·.1) = false := by rfl) :
    PI X (.Tuple elts kk tpos) (.Call (.Name "zip" p) [x1, x2] [] pos) (iZip2 X.K ta) := by
  refine ⟨fun pins s σ H R I h => ?_⟩
  refine Call_ (ld_blt I hg hm PyProof.Rows.boot_zip (PyProof.Rows.callWith_type1 (thn (ha.run pos pins s σ H _ I h) fun us s1 ⟨vs, H1, I1, rr, q⟩ => ?_) hs hpl))
  obtain ⟨k1, k2, a1, a2, xs1, xs2, rfl, g1, g2, q⟩ := q
  obtain ⟨u1, w1, rfl, f1, t1⟩ := vals_cons rr
  obtain ⟨u2, w2, rfl, f2, t2⟩ := vals_cons t1
  cases t2
  cases f1
  cases f2
  obtain ⟨us1, r1, p1⟩ := seqK I1 g1
  obtain ⟨us2, r2, p2⟩ := seqK I1 g2
  have fr : ∀ c, s1.heap.objs.size ≤ c → FpOk X pins H1 c := fun c hle => I1.fpOk hle (I1.hok.fresh hle)
  have b1 : a1 < s1.heap.objs.size := p1.lt
  have b2 : a2 < s1.heap.objs.size := p2.lt
  refine zip_begins2 (begK k1 a1 us1.toArray) (begK k2 a2 us2.toArray) p1 p2 fun h' hz hTI hTO hi1 hi2 hsz hk => wpAny_pyIter_zip hz ?_
  have I2 : Inv X pins σ H1 { s1 with heap := h' } := I1.kept (t' := s1.toks) hk
  refine ⟨s1.heap.objs.size + 4, [s1.heap.objs.size + 4, s1.heap.objs.size + 2, s1.heap.objs.size + 3, s1.heap.objs.size, s1.heap.objs.size + 1], _, _, H1, rfl, I2, turn_zip2 (zip_sep2 (fun b hb => by rw [List.mem_singleton.mp hb]; exact b1) (fun b hb => by rw [List.mem_singleton.mp hb]; exact b2)) (Nat.ne_of_lt b1) (Nat.ne_of_lt (Nat.lt_add_right _ b2)), ⟨hz, hTI, ⟨_, _, hTO⟩, .of hi1, .of hi2⟩, fun c hc => fr c ?_, q⟩
  have hc : c = s1.heap.objs.size + 4 ∨ c = s1.heap.objs.size + 2 ∨ c = s1.heap.objs.size + 3 ∨ c = s1.heap.objs.size ∨ c = s1.heap.objs.size + 1 := by simpa using hc
  rcases hc with z | z | z | z | z <;> (rw [z]; first | exact Nat.le_refl _ | exact Nat.le_add_right _ _)
def Itzip3 (K : PySem.W.Frag) (k1 : Kd) (k2 : Kd) (k3 : Kd) (a1 : Addr) (a2 : Addr) (a3 : Addr) : It :=
  ⟨fun i H => ∃ (xs1 xs2 xs3 : List V) (x1 x2 x3 : V), SqK k1 K H a1 xs1 ∧ xs1[i]? = some x1 ∧ SqK k2 K H a2 xs2 ∧ xs2[i]? = some x2 ∧ SqK k3 K H a3 xs3 ∧ xs3[i]? = some x3,
    fun i H v H' => ∃ T x1 x2 x3, v = .ref T ∧ H T = none ∧ H' = upd H T (.tup [x1, x2, x3]) ∧ (∀ xs, SqK k1 K H a1 xs → xs[i]? = some x1) ∧ (∀ xs, SqK k2 K H a2 xs → xs[i]? = some x2) ∧ (∀ xs, SqK k3 K H a3 xs → xs[i]? = some x3),
    fun i H => ∃ xs1 xs2 xs3 : List V, SqK k1 K H a1 xs1 ∧ SqK k2 K H a2 xs2 ∧ SqK k3 K H a3 xs3 ∧ i = min (min xs1.length xs2.length) xs3.length⟩
theorem turn_zip3 {P : Program} {w : World} {K : PySem.W.Frag} {elts : List Expr} {kk : Nat} {tpos : Pos} {k1 k2 k3 : Kd} {a1 a2 a3 z TI TO i1 i2 i3 : Addr} (S : ZipSep3 z TI TO i1 i2 i3 [i1, a1] [i2, a2] [i3, a3]) (n1 : a1 ≠ i1) (n2 : a2 ≠ i2) (n3 : a3 ≠ i3) :
    Turn P w K (.Tuple elts kk tpos) (Itzip3 K k1 k2 k3 a1 a2 a3) [z, TI, TO, i1, i2, i3] z (fun i h => IsZip h z TI TO .none ∧ IsTupOf3 h TI (.ref i1) (.ref i2) (.ref i3) ∧ (∃ c1 c2 c3, IsTupOf3 h TO c1 c2 c3) ∧ ItK k1 h i1 a1 i ∧ ItK k2 h i2 a2 i ∧ ItK k3 h i3 a3 i) where
  mem := by simp
  obj := fun i h st b hb => by
    obtain ⟨hz, hTI, ⟨c1, c2, c3, hTO⟩, h1, h2, h3⟩ := st
    have hb : b = z ∨ b = TI ∨ b = TO ∨ b = i1 ∨ b = i2 ∨ b = i3 := by simpa using hb
    rcases hb with rfl | rfl | rfl | rfl | rfl | rfl
    · exact ⟨_, hz, fun v q => nomatch q⟩
    · exact ⟨_, hTI, fun v q => nomatch q⟩
    · exact ⟨_, hTO, fun v q => nomatch q⟩
    · obtain ⟨o, q, d⟩ := h1.get; exact ⟨o, q, fun v z => by rw [d] at z; cases z⟩
    · obtain ⟨o, q, d⟩ := h2.get; exact ⟨o, q, fun v z => by rw [d] at z; cases z⟩
    · obtain ⟨o, q, d⟩ := h3.get; exact ⟨o, q, fun v z => by rw [d] at z; cases z⟩
  keep := fun i h h' st k => by
    obtain ⟨hz, hTI, ⟨c1, c2, c3, hTO⟩, h1, h2, h3⟩ := st
    exact ⟨k z (by simp) _ hz, k TI (by simp) _ hTI, ⟨c1, c2, c3, k TO (by simp) _ hTO⟩, h1.at fun o q => k i1 (by simp) o q, h2.at fun o q => k i2 (by simp) o q, h3.at fun o q => k i3 (by simp) o q⟩
  item := by
    intro X hP hw hK hc i pins s σ H E I hf st hg
    subst hP hw hK
    obtain ⟨xs1, xs2, xs3, x1, x2, x3, q1, e1, q2, e2, q3, e3⟩ := hg
    obtain ⟨us1, r1, p1⟩ := seqK I q1
    obtain ⟨us2, r2, p2⟩ := seqK I q2
    obtain ⟨us3, r3, p3⟩ := seqK I q3
    have l1 : i < xs1.length := by
      rcases Nat.lt_or_ge i xs1.length with h | h
      · exact h
      · rw [List.getElem?_eq_none h] at e1; cases e1
    have m1 := r1.length
    have l2 : i < xs2.length := by
      rcases Nat.lt_or_ge i xs2.length with h | h
      · exact h
      · rw [List.getElem?_eq_none h] at e2; cases e2
    have m2 := r2.length
    have l3 : i < xs3.length := by
      rcases Nat.lt_or_ge i xs3.length with h | h
      · exact h
      · rw [List.getElem?_eq_none h] at e3; cases e3
    have m3 := r3.length
    have W := GoesN.zip3 (prog := X.prog) (w := X.w) (A := X.A) (elts := elts) (x1 := kk) (pos := tpos) S (drK (hd1 hc I) k1 i1 a1 n1 us1.toArray) (drK (hd1 hc I) k2 i2 a2 n2 us2.toArray) (drK (hd1 hc I) k3 i3 a3 n3 us3.toArray)
    obtain ⟨hz, hTI, ⟨c1, c2, c3, hTO⟩, h1, h2, h3⟩ := st
    have cell_ : ∀ b ∈ [z, TI, TO, i1, i2, i3], ∃ o, s.heap.get? b = some o ∧ True := fun b hb => by
      have hb : b = z ∨ b = TI ∨ b = TO ∨ b = i1 ∨ b = i2 ∨ b = i3 := by simpa using hb
      rcases hb with rfl | rfl | rfl | rfl | rfl | rfl
      · exact ⟨_, hz, trivial⟩
      · exact ⟨_, hTI, trivial⟩
      · exact ⟨_, hTO, trivial⟩
      · obtain ⟨o, q, d⟩ := h1.get; exact ⟨o, q, trivial⟩
      · obtain ⟨o, q, d⟩ := h2.get; exact ⟨o, q, trivial⟩
      · obtain ⟨o, q, d⟩ := h3.get; exact ⟨o, q, trivial⟩
    refine thn (W.goes i s (fun v s2 => ∃ x H', Inv X pins σ H' s2 ∧ RelV x v ∧ (Itzip3 X.K k1 k2 k3 a1 a2 a3).yld i H x H' ∧ (fun i h => IsZip h z TI TO .none ∧ IsTupOf3 h TI (.ref i1) (.ref i2) (.ref i3) ∧ (∃ c1 c2 c3, IsTupOf3 h TO c1 c2 c3) ∧ ItK k1 h i1 a1 i ∧ ItK k2 h i2 a2 i ∧ ItK k3 h i3 a3 i) (i + 1) s2.heap ∧ ∀ b ∈ [z, TI, TO, i1, i2, i3], H' b = none) E (by simp only [List.size_toArray]; omega) ⟨hz, hTI, ⟨c1, c2, c3, hTO⟩, ⟨h1, p1⟩, ⟨h2, p2⟩, ⟨h3, p3⟩⟩ fun v h' tk y st2 kp _ => ?_) fun r s1 h => h
    obtain ⟨T, u1, u2, u3, rfl, hT, g1, g2, g3, tu⟩ := y
    obtain ⟨y1, d1, v1⟩ := of_val r1 g1
    rw [e1] at d1; cases d1
    obtain ⟨y2, d2, v2⟩ := of_val r2 g2
    rw [e2] at d2; cases d2
    obtain ⟨y3, d3, v3⟩ := of_val r3 g3
    rw [e3] at d3; cases d3
    have hr : Vals [x1, x2, x3] [u1, u2, u3] := .cons v1 (.cons v2 (.cons v3 .nil))
    have new : ObjOk X.prog X.w (upd H T (.tup [x1, x2, x3])) h' T (.tup [x1, x2, x3]) := ⟨by show 3 ≤ sizeLine; decide, _, hr, tu⟩
    have I1 : Inv X pins σ (upd H T (.tup [x1, x2, x3])) { s with heap := h', toks := tk } := I.turnedNew (ch := [z, TI, TO, i1, i2, i3]) (fun b o hb q => kp b o (fun zq => hb (by
        have zm : b = z ∨ b = TO ∨ b = i1 ∨ b = i2 ∨ b = i3 := by simpa using zq
        rcases zm with zm | zm | zm | zm | zm <;> simp [zm])) q) hf hT new
    refine ⟨.ref T, _, I1, rfl, ⟨T, x1, x2, x3, rfl, I.hok.fresh hT, rfl, fun zs hz => by rw [seqK_inj I hz q1]; exact e1, fun zs hz => by rw [seqK_inj I hz q2]; exact e2, fun zs hz => by rw [seqK_inj I hz q3]; exact e3⟩, ?_, fun b hb => ?_⟩
    · obtain ⟨b1, b2, b3, b4, b5, b6⟩ := st2
      exact ⟨b1, b2, b3, b4.1, b5.1, b6.1⟩
    · have hne : b ≠ T := fun z => by
        obtain ⟨o, q, _⟩ := cell_ b hb
        rw [z] at q
        exact absurd (Heap.lt_size q) (Nat.not_lt.mpr hT)
      rw [upd_ne hne]
      exact (hf b hb).1
  done := by
    intro X hP hw hK hc i pins s σ H E I hf st hg
    subst hP hw hK
    obtain ⟨xs1, xs2, xs3, q1, q2, q3, hi⟩ := hg
    obtain ⟨us1, r1, p1⟩ := seqK I q1
    have m1 := r1.length
    obtain ⟨us2, r2, p2⟩ := seqK I q2
    have m2 := r2.length
    obtain ⟨us3, r3, p3⟩ := seqK I q3
    have m3 := r3.length
    have W := GoesN.zip3 (prog := X.prog) (w := X.w) (A := X.A) (elts := elts) (x1 := kk) (pos := tpos) S (drK (hd1 hc I) k1 i1 a1 n1 us1.toArray) (drK (hd1 hc I) k2 i2 a2 n2 us2.toArray) (drK (hd1 hc I) k3 i3 a3 n3 us3.toArray)
    obtain ⟨hz, hTI, ⟨c1, c2, c3, hTO⟩, h1, h2, h3⟩ := st
    have hi2 : i = min (min us1.toArray.size us2.toArray.size) us3.toArray.size := by simp only [List.size_toArray]; omega
    subst hi2
    exact W.stops s (fun s1 => Inv X pins σ H s1) E ⟨hz, hTI, ⟨c1, c2, c3, hTO⟩, ⟨h1, p1⟩, ⟨h2, p2⟩, ⟨h3, p3⟩⟩ fun h' tk kp _ => I.turnedL (t' := tk) (ch := [z, TI, TO, i1, i2, i3]) (fun b o hb q => kp b o (fun zq => hb (by
        have zm : b = z ∨ b = TO ∨ b = i1 ∨ b = i2 ∨ b = i3 := by simpa using zq
        rcases zm with zm | zm | zm | zm | zm <;> simp [zm])) q) hf
  self := fun A i s Q E st h => wpAny_pyIter_zip st.1 h
def iZip3 (K : PySem.W.Frag) (ta : TA) : TI := fun σ H R => ta σ H fun vs H1 => ∃ k1 k2 k3 a1 a2 a3 xs1 xs2 xs3, vs = [.ref a1, .ref a2, .ref a3] ∧ SqK k1 K H1 a1 xs1 ∧ SqK k2 K H1 a2 xs2 ∧ SqK k3 K H1 a3 xs3 ∧ R (Itzip3 K k1 k2 k3 a1 a2 a3) H1
theorem pi_zip3K {X : Cx} {x1 x2 x3 : Expr} {ta : TA} {p pos tpos : Pos} {elts : List Expr} {kk : Nat} (hg : Gl X "zip") (hm : X.mg "zip" = none) (ha : PA X [x1, x2, x3] ta)
    (hs : starEach [x1, x2, x3] X.env = (false, eval x1 X.env) :: starEach [x2, x3] X.env := by rfl) (hpl : (backTo pos (starEach [x2, x3] X.env)).any (·.1) = false := by rfl) :
    PI X (.Tuple elts kk tpos) (.Call (.Name "zip" p) [x1, x2, x3] [] pos) (iZip3 X.K ta) := by
  refine ⟨fun pins s σ H R I h => ?_⟩
  refine Call_ (ld_blt I hg hm PyProof.Rows.boot_zip (PyProof.Rows.callWith_type1 (thn (ha.run pos pins s σ H _ I h) fun us s1 ⟨vs, H1, I1, rr, q⟩ => ?_) hs hpl))
  obtain ⟨k1, k2, k3, a1, a2, a3, xs1, xs2, xs3, rfl, g1, g2, g3, q⟩ := q
  obtain ⟨u1, w1, rfl, f1, t1⟩ := vals_cons rr
  obtain ⟨u2, w2, rfl, f2, t2⟩ := vals_cons t1
  obtain ⟨u3, w3, rfl, f3, t3⟩ := vals_cons t2
  cases t3
  cases f1
  cases f2
  cases f3
  obtain ⟨us1, r1, p1⟩ := seqK I1 g1
  obtain ⟨us2, r2, p2⟩ := seqK I1 g2
  obtain ⟨us3, r3, p3⟩ := seqK I1 g3
  have fr : ∀ c, s1.heap.objs.size ≤ c → FpOk X pins H1 c := fun c hle => I1.fpOk hle (I1.hok.fresh hle)
  have b1 : a1 < s1.heap.objs.size := p1.lt
  have b2 : a2 < s1.heap.objs.size := p2.lt
  have b3 : a3 < s1.heap.objs.size := p3.lt
  refine zip_begins3 (begK k1 a1 us1.toArray) (begK k2 a2 us2.toArray) (begK k3 a3 us3.toArray) p1 p2 p3 fun h' hz hTI hTO hi1 hi2 hi3 hsz hk => wpAny_pyIter_zip hz ?_
  have I2 : Inv X pins σ H1 { s1 with heap := h' } := I1.kept (t' := s1.toks) hk
  refine ⟨s1.heap.objs.size + 5, [s1.heap.objs.size + 5, s1.heap.objs.size + 3, s1.heap.objs.size + 4, s1.heap.objs.size, s1.heap.objs.size + 1, s1.heap.objs.size + 2], _, _, H1, rfl, I2, turn_zip3 (zip_sep3 (fun b hb => by rw [List.mem_singleton.mp hb]; exact b1) (fun b hb => by rw [List.mem_singleton.mp hb]; exact b2) (fun b hb => by rw [List.mem_singleton.mp hb]; exact b3)) (Nat.ne_of_lt b1) (Nat.ne_of_lt (Nat.lt_add_right _ b2)) (Nat.ne_of_lt (Nat.lt_add_right _ b3)), ⟨hz, hTI, ⟨_, _, _, hTO⟩, .of hi1, .of hi2, .of hi3⟩, fun c hc => fr c ?_, q⟩
  have hc : c = s1.heap.objs.size + 5 ∨ c = s1.heap.objs.size + 3 ∨ c = s1.heap.objs.size + 4 ∨ c = s1.heap.objs.size ∨ c = s1.heap.objs.size + 1 ∨ c = s1.heap.objs.size + 2 := by simpa using hc
  rcases hc with z | z | z | z | z | z <;> (rw [z]; first | exact Nat.le_refl _ | exact Nat.le_add_right _ _)
def Itenum (K : PySem.W.Frag) (k1 : Kd) (a1 : Addr) : It :=
  ⟨fun i H => ∃ (xs1 : List V) (x1 : V), SqK k1 K H a1 xs1 ∧ xs1[i]? = some x1,
    fun i H v H' => ∃ T x1, v = .ref T ∧ H T = none ∧ H' = upd H T (.tup [.int (i : Nat), x1]) ∧ (∀ xs, SqK k1 K H a1 xs → xs[i]? = some x1),
    fun i H => ∃ xs1 : List V, SqK k1 K H a1 xs1 ∧ i = xs1.length⟩
theorem turn_enum {P : Program} {w : World} {K : PySem.W.Frag} {elts : List Expr} {kk : Nat} {tpos : Pos} {k1 : Kd} {a1 e i1 : Addr} (ne : e ≠ i1) (nea : a1 ≠ i1) (nee : a1 ≠ e) :
    Turn P w K (.Tuple elts kk tpos) (Itenum K k1 a1) [e, i1] e (fun (i : Nat) h => (∃ old, IsEnum h e i1 ((0 : Int) + (i : Int)) old) ∧ ItK k1 h i1 a1 i) where
  mem := by simp
  obj := fun i h st b hb => by
    obtain ⟨⟨old, he⟩, h1⟩ := st
    have hb : b = e ∨ b = i1 := by simpa using hb
    rcases hb with rfl | rfl
    · exact ⟨_, he, fun v q => nomatch q⟩
    · obtain ⟨o, q, d⟩ := h1.get; exact ⟨o, q, fun v z => by rw [d] at z; cases z⟩
  keep := fun i h h' st k => by
    obtain ⟨⟨old, he⟩, h1⟩ := st
    exact ⟨⟨old, k e (by simp) _ he⟩, h1.at fun o q => k i1 (by simp) o q⟩
  item := by
    intro X hP hw hK hc i pins s σ H E I hf st hg
    subst hP hw hK
    obtain ⟨xs1, x1, q1, e1⟩ := hg
    obtain ⟨us1, r1, p1⟩ := seqK I q1
    have l1 : i < xs1.length := by
      rcases Nat.lt_or_ge i xs1.length with h | h
      · exact h
      · rw [List.getElem?_eq_none h] at e1; cases e1
    have m1 := r1.length
    have W := GoesN.enumFrom (prog := X.prog) (w := X.w) (A := X.A) (elts := elts) (x1 := kk) (pos := tpos) 0 (drK (hd1 hc I) k1 i1 a1 nea us1.toArray) e ne (by simp [ne, nee.symm]) (by simp)
    obtain ⟨⟨old, he⟩, h1⟩ := st
    have cell_ : ∀ b ∈ [e, i1], ∃ o, s.heap.get? b = some o ∧ True := fun b hb => by
      have hb : b = e ∨ b = i1 := by simpa using hb
      rcases hb with rfl | rfl
      · exact ⟨_, he, trivial⟩
      · obtain ⟨o, q, d⟩ := h1.get; exact ⟨o, q, trivial⟩
    refine thn (W.goes i s (fun v s2 => ∃ x H', Inv X pins σ H' s2 ∧ RelV x v ∧ (Itenum X.K k1 a1).yld i H x H' ∧ (fun (i : Nat) h => (∃ old, IsEnum h e i1 ((0 : Int) + (i : Int)) old) ∧ ItK k1 h i1 a1 i) (i + 1) s2.heap ∧ ∀ b ∈ [e, i1], H' b = none) E (by simp only [List.size_toArray]; omega) ⟨⟨old, he⟩, h1, p1⟩ fun v h' tk y st2 kp _ => ?_) fun r s1 h => h
    obtain ⟨T, t, u1, rfl, hT, g1, tu⟩ := y
    obtain ⟨y1, d1, v1⟩ := of_val r1 g1
    rw [e1] at d1; cases d1
    have hr : Vals [.int (i : Nat), x1] [.int ((0 : Int) + (i : Int)) t, u1] := .cons ⟨t, by rw [Int.zero_add]⟩ (.cons v1 .nil)
    have new : ObjOk X.prog X.w (upd H T (.tup [.int (i : Nat), x1])) h' T (.tup [.int (i : Nat), x1]) := ⟨by show 2 ≤ sizeLine; decide, _, hr, tu⟩
    have I1 : Inv X pins σ (upd H T (.tup [.int (i : Nat), x1])) { s with heap := h', toks := tk } := I.turnedNew (ch := [e, i1]) (fun b o hb q => kp b o (fun zq => hb (by
        have zm : b = e ∨ b = i1 := by simpa using zq
        rcases zm with zm | zm <;> simp [zm])) q) hf hT new
    refine ⟨.ref T, _, I1, rfl, ⟨T, x1, rfl, I.hok.fresh hT, rfl, fun zs hz => by rw [seqK_inj I hz q1]; exact e1⟩, ?_, fun b hb => ?_⟩
    · exact ⟨st2.1, st2.2.1⟩
    · have hne : b ≠ T := fun z => by
        obtain ⟨o, q, _⟩ := cell_ b hb
        rw [z] at q
        exact absurd (Heap.lt_size q) (Nat.not_lt.mpr hT)
      rw [upd_ne hne]
      exact (hf b hb).1
  done := by
    intro X hP hw hK hc i pins s σ H E I hf st hg
    subst hP hw hK
    obtain ⟨xs1, q1, hi⟩ := hg
    obtain ⟨us1, r1, p1⟩ := seqK I q1
    have m1 := r1.length
    have W := GoesN.enumFrom (prog := X.prog) (w := X.w) (A := X.A) (elts := elts) (x1 := kk) (pos := tpos) 0 (drK (hd1 hc I) k1 i1 a1 nea us1.toArray) e ne (by simp [ne, nee.symm]) (by simp)
    obtain ⟨⟨old, he⟩, h1⟩ := st
    have hi2 : i = us1.toArray.size := by simp only [List.size_toArray]; omega
    subst hi2
    exact W.stops s (fun s1 => Inv X pins σ H s1) E ⟨⟨old, he⟩, h1, p1⟩ fun h' tk kp _ => I.turnedL (t' := tk) (ch := [e, i1]) (fun b o hb q => kp b o (fun zq => hb (by
        have zm : b = e ∨ b = i1 := by simpa using zq
        rcases zm with zm | zm <;> simp [zm])) q) hf
  self := fun A i s Q E st h => let ⟨⟨_, he⟩, _⟩ := st; wpAny_pyIter_enum he h
def iEnum (K : PySem.W.Frag) (ta : TA) : TI := fun σ H R => ta σ H fun vs H1 => ∃ k1 a1 xs1, vs = [.ref a1] ∧ SqK k1 K H1 a1 xs1 ∧ R (Itenum K k1 a1) H1
theorem pi_enumK {X : Cx} {x1 : Expr} {ta : TA} {p pos tpos : Pos} {elts : List Expr} {kk : Nat} (hg : Gl X "enumerate") (hm : X.mg "enumerate" = none) (ha : PA X [x1] ta)
    (hs : starEach [x1] X.env = [(false, eval x1 X.env)] := by rfl) :
    PI X (.Tuple elts kk tpos) (.Call (.Name "enumerate" p) [x1] [] pos) (iEnum X.K ta) := by
  refine ⟨fun pins s σ H R I h => ?_⟩
  refine Call_ (ld_blt I hg hm boot_enumerate (PyProof.Rows.callWith_type1 (thn (ha.run pos pins s σ H _ I h) fun us s1 ⟨vs, H1, I1, rr, q⟩ => ?_) hs rfl))
  obtain ⟨k1, a1, xs1, rfl, g1, q⟩ := q
  obtain ⟨u1, w1, rfl, f1, t1⟩ := vals_cons rr
  cases t1
  cases f1
  obtain ⟨us1, r1, p1⟩ := seqK I1 g1
  have fr : ∀ c, s1.heap.objs.size ≤ c → FpOk X pins H1 c := fun c hle => I1.fpOk hle (I1.hok.fresh hle)
  have b1 : a1 < s1.heap.objs.size := p1.lt
  refine enum_begins1 (begK k1 a1 us1.toArray) p1 fun h' he hit hsz hk => wpAny_pyIter_enum he ?_
  have I2 : Inv X pins σ H1 { s1 with heap := h' } := I1.kept (t' := s1.toks) hk
  refine ⟨s1.heap.objs.size + 1, [s1.heap.objs.size + 1, s1.heap.objs.size], _, _, H1, rfl, I2, turn_enum (e := s1.heap.objs.size + 1) (i1 := s1.heap.objs.size) (Nat.succ_ne_self _) (Nat.ne_of_lt b1) (Nat.ne_of_lt (Nat.lt_succ_of_lt b1)), ⟨⟨.none, by simpa using he⟩, .of hit⟩, fun c hc => fr c ?_, q⟩
  have hc : c = s1.heap.objs.size + 1 ∨ c = s1.heap.objs.size := by simpa using hc
  rcases hc with z | z <;> (rw [z]; first | exact Nat.le_refl _ | exact Nat.le_add_right _ _)
end TL

set_option maxHeartbeats 1000000
/-! The head by facts: what a text's top leaves, told by names. -/
namespace TL
open PySem L2 PySem.Spec PyProof.Rows
/-- a def: where it stands (a path), its name, qualified name, parameters, body, scope, defaults -/
structure DfX where
  at_ : PySem.W.Frag → Addr
  name : Str
  qual : Str
  params : Arguments
  body : List Stmt
  scope : Scope
  dfl : List He.Dv := []
  kwd : List (Str × He.Dv) := []
abbrev FnW := He.FnW
def fnX (K : PySem.W.Frag) (p : Addr) : FnW := match K.lookup p with
  | some ⟨_, _, .func fd, _⟩ => some (fd.name, fd.qualname, fd.params, fd.body, fd.scope, fd.globals, fd.closure, fd.builtins)
  | _ => none
def DfX.val (d : DfX) : FnW := some (d.name, d.qual, d.params, .stmts d.body, d.scope, mainGlobals, [], builtinsNs)
def DfX.dvs (K : PySem.W.Frag) (d : DfX) : List V := d.dfl.map (He.Dv.v K)
def DfX.kws (K : PySem.W.Frag) (d : DfX) : List (Str × V) := d.kwd.map fun q => (q.1, q.2.v K)
def DfX.ok (K : PySem.W.Frag) (d : DfX) : Bool := PySem.W.keepIn K (.ref (d.at_ K)) && (match K.lookup (d.at_ K) with
  | some ⟨_, _, .func fd, _⟩ => PySem.W.codeIn K fd.code d.qual && (He.dflB K fd.defaults (d.dvs K) && He.kwdB K fd.kwdefaults (d.kws K))
  | _ => false)
theorem DfX.funD {K : PySem.W.Frag} {d : DfX} (e : fnX K (d.at_ K) = d.val) (c : d.ok K = true) : ∃ fd, FunD K d.name d.qual d.params d.body d.scope (d.dvs K) (d.kws K) (d.at_ K) fd := by
  obtain ⟨kp, c2⟩ := He.ba c
  unfold fnX at e
  cases q : K.lookup (d.at_ K) with
  | none => rw [q] at c2; cases c2
  | some o =>
    obtain ⟨oc, od, dt, osl⟩ := o
    rw [q] at c2 e
    cases dt with
    | func fd =>
      obtain ⟨n1, n2, n3, n4, n5, n6, n7, n8, n9, n10, n11, n12, n13, n14, n15⟩ := fd
      have e2 : (some (n1, n2, n3, n4, n5, n6, n7, n15) : FnW) = some (d.name, d.qual, d.params, .stmts d.body, d.scope, mainGlobals, [], builtinsNs) := e
      simp only [Option.some.injEq, Prod.mk.injEq] at e2
      obtain ⟨h1, h2, h3, h4, h5, h6, h7, h8⟩ := e2
      subst h1 h2 h3 h4 h5 h6 h7 h8
      have c3 : (PySem.W.codeIn K n13 d.qual && (He.dflB K n8 (d.dvs K) && He.kwdB K n9 (d.kws K))) = true := c2
      obtain ⟨k1, k2⟩ := He.ba c3
      obtain ⟨k3, k4⟩ := He.ba k2
      exact ⟨_, ⟨oc, od, n8, n9, n10, n11, n12, n13, n14, osl, rfl, q, k1, He.dflB_ok k3, He.kwdB_ok k4⟩, kp⟩
    | _ => cases c2
/-- what is looked at: defs, and Bools -/
abbrev Exs : Type := List (PySem.W.Frag → Bool)
abbrev AlM : Type := Bool × List FnW
def obsMK (fn : List DfX) (ex : Exs) (K : PySem.W.Frag) : AlM := ((fn.all fun d => d.ok K) && ex.all fun f => f K, fn.map fun d => fnX K (d.at_ K))
def valM (fn : List DfX) : AlM := (true, fn.map DfX.val)
def SaysM (fn : List DfX) (ex : Exs) (K : PySem.W.Frag) : Prop := obsMK fn ex K = valM fn
def obsMG (n : Nat) (fn : List DfX) (ex : Exs) (g : Addr → Option Obj) : AlM := obsMK fn ex (He.frG g (He.asD g n))
def hookM (n : Nat) (fn : List DfX) (ex : Exs) : PySem.W.Hook where
  α := AlM
  obs := fun s => obsMG n fn ex s.heap.get?
  val := fun _ => valM fn
  says := fun _ h => ∃ K : PySem.W.Frag, K.In h ∧ SaysM fn ex K
  of := fun _ _ e => ⟨_, He.frG_in, e⟩
  keeps := fun _ _ _ ⟨K, hK, c⟩ k => ⟨K, PySem.W.Frag.In.keeps hK k, c⟩
theorem obsMG_eq {n : Nat} {fn : List DfX} {ex : Exs} {g : Addr → Option Obj} {s : Shared} (h : ∀ a, g a = s.heap.get? a) : obsMG n fn ex g = (hookM n fn ex).obs s := by
  have e : g = s.heap.get? := funext h
  rw [e] <;> rfl
section
variable {fn : List DfX} {exs : Exs} {K : PySem.W.Frag}
theorem SaysM.ex (c : SaysM fn exs K) (i : Nat) {f : PySem.W.Frag → Bool} (h : exs[i]? = some f := by rfl) : f K = true := by
  have c1 := (He.ba (show ((fn.all fun d => d.ok K) && exs.all fun f => f K) = true from congrArg (fun z : AlM => z.1) c)).2
  exact List.all_eq_true.mp c1 f (List.mem_of_getElem? h)
theorem SaysM.def_ (c : SaysM fn exs K) (i : Nat) {d : DfX} (h : fn[i]? = some d := by rfl) : ∃ fd, FunD K d.name d.qual d.params d.body d.scope (d.dvs K) (d.kws K) (d.at_ K) fd := by
  have c2 := (He.ba (show ((fn.all fun d => d.ok K) && exs.all fun f => f K) = true from congrArg (fun z : AlM => z.1) c)).1
  have e : fn.map (fun d => fnX K (d.at_ K)) = fn.map DfX.val := congrArg (fun z : AlM => z.2) c
  have e2 : (fn.map fun d => fnX K (d.at_ K))[i]? = (fn.map DfX.val)[i]? := by rw [e]
  rw [List.getElem?_map, List.getElem?_map, h] at e2
  exact DfX.funD (Option.some.inj e2) (List.all_eq_true.mp c2 d (List.mem_of_getElem? h))
end
/-- paths -/
def pG (x : Str) (K : PySem.W.Frag) : Addr := He.ga K x
def pM (x m : Str) (K : PySem.W.Frag) : Addr := He.ma K (He.ga K x) m
def pP (x m : Str) (K : PySem.W.Frag) : Addr := match PySem.W.recIn K (He.ma K (He.ga K x) m) "property" with
  | some (.ref g :: _) => g
  | _ => 0
/-! ### facts -/
section
variable {K : PySem.W.Frag} {h : Heap} {mg : Str → Option Value} {C : Addr}
theorem funD_fun {x qual : Str} {st : Stmt} {f : Addr} {fd : FuncData} (F : FunD K x qual (defArgs st) (defBody st) (defScope st) [] [] f fd) : L2.Fun K x qual st f fd := by
  obtain ⟨⟨oc, od, dV, kV, doc, pm, an, cdv, ct, osl, rfl, lk, hcd, hD, hK⟩, kp⟩ := F
  rcases hD with ⟨_, rfl⟩ | ⟨e, _⟩
  · exact ⟨⟨oc, od, kV, doc, pm, an, cdv, ct, osl, rfl, lk, hcd⟩, kp⟩
  · exact absurd rfl e
/-- the global x is an object -/
def xGlo (x : Str) (K : PySem.W.Frag) : Bool := He.eqO (PySem.W.nsIn K mainGlobals x) (some (some (.ref (He.ga K x))))
def xFree (x : Str) (K : PySem.W.Frag) : Bool := He.eqO (PySem.W.nsIn K mainGlobals x) (some none)
theorem xGlo_ok (X : K.In h) (G : h.Ns mainGlobals mg) {x : Str} (c : xGlo x K = true) : mg x = some (.ref (He.ga K x)) := PySem.W.mg_of X G (He.eqO_ok c)
theorem xFree_ok (X : K.In h) (G : h.Ns mainGlobals mg) {x : Str} (c : xFree x K = true) : mg x = none := PySem.W.mg_none_of X G (He.eqO_ok c)
theorem fnAt_of (X : K.In h) (G : h.Ns mainGlobals mg) {x : Str} {st : Stmt} (c : xGlo x K = true) (F : ∃ fd, FunD K x x (defArgs st) (defBody st) (defScope st) [] [] (pG x K) fd) : FnAt K mg x st := by
  obtain ⟨fd, F⟩ := F
  exact ⟨_, fd, xGlo_ok X G c, funD_fun F⟩
/-- a method of a class -/
def xMeth (x m : Str) (K : PySem.W.Frag) : Bool := He.eqO (PySem.W.findIn K (.ref (He.ga K x)) m) (some (some (.ref (He.ma K (He.ga K x) m)))) && PySem.W.isFn K (.ref (He.ma K (He.ga K x) m))
theorem meAt_of {x m qual : Str} {st : Stmt} (c : xMeth x m K = true) (F : ∃ fd, FunD K m qual (defArgs st) (defBody st) (defScope st) [] [] (pM x m K) fd) : MeAt K (He.ga K x) m qual st := by
  obtain ⟨fd, F⟩ := F
  obtain ⟨c1, c2⟩ := He.ba c
  exact ⟨_, fd, He.eqO_ok c1, c2, funD_fun F⟩
/-- a class -/
def xCls (x : Str) (K : PySem.W.Frag) : Bool := PySem.W.plainGet K (He.ga K x) Str.empty && (PySem.W.hasDictIn K (He.ga K x) && (PySem.W.plainOver K (He.ga K x) && (He.eqO (PySem.W.findIn K (.ref (He.ga K x)) "__setattr__") (some (some (.builtin "object.__setattr__"))) && (PySem.W.makesIn K (He.ga K x) && (PySem.W.keepIn K (.ref (He.ga K x)) && xGlo x K)))))
theorem xCls_ok (X : K.In h) (G : h.Ns mainGlobals mg) {x : Str} (c : xCls x K = true) : ClAt K mg x (He.ga K x) := by
  obtain ⟨c1, c⟩ := He.ba c
  obtain ⟨c2, c⟩ := He.ba c
  obtain ⟨c3, c⟩ := He.ba c
  obtain ⟨c4, c⟩ := He.ba c
  obtain ⟨c5, c⟩ := He.ba c
  obtain ⟨c6, c7⟩ := He.ba c
  exact ⟨xGlo_ok X G c7, ⟨c1, c2, c3, He.eqO_ok c4⟩, c5, c6⟩
def xNo (x f : Str) (K : PySem.W.Frag) : Bool := He.eqO (PySem.W.findIn K (.ref (He.ga K x)) f) (some none)
theorem xNo_ok {x f : Str} (c : xNo x f K = true) : NoAttr K (He.ga K x) f := He.eqO_ok c
/-- a property -/
def xProp (x m : Str) (K : PySem.W.Frag) : Bool := He.eqO (PySem.W.findIn K (.ref (He.ga K x)) m) (some (some (.ref (He.ma K (He.ga K x) m)))) && (He.eqO (PySem.W.specialIn K (.ref (He.ma K (He.ga K x) m)) "__get__") (some (some (.builtin "property.__get__"))) &&
  (decide (PySem.W.takesIn K (.ref (He.ma K (He.ga K x) m)) = some true) && (match PySem.W.recIn K (He.ma K (He.ga K x) m) "property" with
    | some (.ref _ :: _) => true
    | _ => false)))
theorem prAt_of {x m qual : Str} {st : Stmt} (c : xProp x m K = true) (F : ∃ fd, FunD K m qual (defArgs st) (defBody st) (defScope st) [] [] (pP x m K) fd) : PrAt K (He.ga K x) m qual st := by
  obtain ⟨fd, F⟩ := F
  obtain ⟨c1, c⟩ := He.ba c
  obtain ⟨c2, c⟩ := He.ba c
  obtain ⟨c3, c4⟩ := He.ba c
  refine ⟨_, pP x m K, fd, ⟨He.eqO_ok c1, He.eqO_ok c2, of_decide_eq_true c3, ?_⟩, funD_fun F⟩
  unfold pP
  split at c4
  · rename_i g rest e
    exact ⟨rest, e⟩
  · cases c4
/-- an int, a text, a bool of the module -/
def xInt (x : Str) (i : Int) (K : PySem.W.Frag) : Bool := match PySem.W.nsIn K mainGlobals x with
  | some (some (.int j _)) => decide (j = i)
  | _ => false
theorem xInt_ok (X : K.In h) (G : h.Ns mainGlobals mg) {x : Str} {i : Int} (c : xInt x i K = true) : ConAt K mg x (.int i) := by
  obtain ⟨t, e⟩ := He.int_ok X G (x := x) (i := i) c
  exact ⟨_, .int i, e, ⟨t, rfl⟩, fun _ => .int i⟩
def xStr (x z : Str) (K : PySem.W.Frag) : Bool := match PySem.W.nsIn K mainGlobals x with
  | some (some (.str y _)) => decide (y = z)
  | _ => false
theorem xStr_ok (X : K.In h) (G : h.Ns mainGlobals mg) {x z : Str} (c : xStr x z K = true) : ConAt K mg x (.str z) := by
  obtain ⟨t, e⟩ := He.str_ok X G (x := x) (z := z) c
  exact ⟨_, .str z, e, ⟨t, rfl⟩, fun _ => .str z⟩
/-- own classes, asked by isinstance -/
def xOwn (x : Str) (K : PySem.W.Frag) : Bool := He.eqO (PySem.W.findIn K (.ref (He.ga K x)) "__class__") (some (some (.builtin "object.__class__"))) && (He.eqO (PySem.W.specialIn K (.builtin "object.__class__") "__get__") (some (some (.builtin "getset_descriptor.__get__"))) &&
  (decide (PySem.W.takesIn K (.builtin "object.__class__") = some true) && decide (PySem.W.mroIn K (He.ga K x) (.type "object") = some true)))
theorem xOwn_ok {x : Str} (cl : Cls K (He.ga K x)) (c : xOwn x K = true) : Own K (He.ga K x) := by
  obtain ⟨c1, c⟩ := He.ba c
  obtain ⟨c2, c⟩ := He.ba c
  obtain ⟨c3, c4⟩ := He.ba c
  exact ⟨cl, He.eqO_ok c1, He.eqO_ok c2, of_decide_eq_true c3, of_decide_eq_true c4⟩
def xIsi (xs : List Str) (K : PySem.W.Frag) : Bool := (xs.all fun x => kTys.all fun n => decide (PySem.W.kitOne K (.type n) (.ref (He.ga K x)) = some false)) &&
  ((xs.all fun x => ["int", "bool", "str", "tuple", "list", "dict"].all fun n => decide (PySem.W.kitOne K (.ref (He.ga K x)) (.type n) = some false)) &&
  (xs.all fun x => xs.all fun y => decide (PySem.W.kitOne K (.ref (He.ga K x)) (.ref (He.ga K y)) = some (decide (He.ga K x = He.ga K y)))))
theorem clss_of {xs : List Str} (own : ∀ x ∈ xs, Own K (He.ga K x)) (c : xIsi xs K = true) : Clss K (xs.map (He.ga K)) := by
  obtain ⟨c1, c⟩ := He.ba c
  obtain ⟨c2, c3⟩ := He.ba c
  refine ⟨fun C hC => ?_, fun C hC n hn => ?_, fun C hC n hn => ?_, fun C hC D hD => ?_⟩
  · obtain ⟨x, hx, rfl⟩ := List.mem_map.mp hC; exact own x hx
  · obtain ⟨x, hx, rfl⟩ := List.mem_map.mp hC; exact of_decide_eq_true (List.all_eq_true.mp (List.all_eq_true.mp c1 x hx) n hn)
  · obtain ⟨x, hx, rfl⟩ := List.mem_map.mp hC; exact of_decide_eq_true (List.all_eq_true.mp (List.all_eq_true.mp c2 x hx) n hn)
  · obtain ⟨x, hx, rfl⟩ := List.mem_map.mp hC
    obtain ⟨y, hy, rfl⟩ := List.mem_map.mp hD
    exact of_decide_eq_true (List.all_eq_true.mp (List.all_eq_true.mp c3 x hx) y hy)
end
end TL

set_option maxHeartbeats 1000000
/-! Joined rules: walks by zip and enumerate of anything, a walrus in a while, operators for all kinds of keys. -/
namespace TL
open PySem L2 PySem.Spec PyProof.Rows
section
variable {X : Cx}
/-! ### zip, enumerate -/
def seqD (o : O) : Option (List D) := match asT o with
  | some xs => some xs
  | none => asLd o
theorem seqD_st {o : O} {v : V} {H : Hp} {Fh : Fp} {xs : List D} (r : RO X.K H o v Fh) (e : seqD o = some xs) : ∃ k a vs, ∃ G : Hp → Prop, v = .ref a ∧ G H ∧ (∀ H, G H → SqK k X.K H a vs ∧ RDs X.K H xs vs) ∧ Stable nof G := by
  unfold seqD at e
  split at e
  · rename_i ys q
    cases e
    obtain ⟨a, vs, G, e1, g, h, st⟩ := asT_st r q
    exact ⟨.t, a, vs, G, e1, g, h, st⟩
  · obtain ⟨a, vs, G, e1, g, h, st⟩ := asLd_st r e
    exact ⟨.l, a, vs, G, e1, g, h, st⟩
theorem walk_zip2 {K : PySem.W.Frag} {k1 k2 : Kd} {a b : Addr} {xs ys : List V} : Walk (Itzip2 K k1 k2 a b) (min xs.length ys.length) (fun H => SqK k1 K H a xs ∧ SqK k2 K H b ys) (YPair (fun i => xs[i]?) (fun i => ys[i]?)) := by
  refine ⟨fun i _ hi q => ?_, fun _ q => ⟨xs, ys, q.1, q.2, rfl⟩, fun i H v H' _ q y => ?_⟩
  · have h1 : i < xs.length := by omega
    have h2 : i < ys.length := by omega
    exact ⟨xs, ys, xs[i], ys[i], q.1, by simp [h1], q.2, by simp [h2]⟩
  · obtain ⟨T, x, z, h1, h2, h3, h4, h5⟩ := y
    exact ⟨T, x, z, h1, h2, h3, h4 xs q.1, h5 ys q.2⟩
theorem walk_enumK {K : PySem.W.Frag} {k1 : Kd} {a : Addr} {xs : List V} : Walk (Itenum K k1 a) xs.length (fun H => SqK k1 K H a xs) (YPair (fun i => some (.int (i : Nat))) (fun i => xs[i]?)) := by
  refine ⟨fun i _ hi q => ?_, fun _ q => ⟨xs, q, rfl⟩, fun i H v H' _ q y => ?_⟩
  · exact ⟨xs, xs[i], q, by simp [hi]⟩
  · obtain ⟨T, x, h1, h2, h3, h4⟩ := y
    exact ⟨T, _, x, h1, h2, h3, rfl, h4 xs q⟩
def trips : List D → List D → List D → List D
  | x :: xs, y :: ys, z :: zs => .tup [x, y, z] :: trips xs ys zs
  | _, _, _ => []
theorem trips_len : ∀ xs ys zs : List D, (trips xs ys zs).length = min (min xs.length ys.length) zs.length
  | [], _, _ => by simp [trips]
  | _ :: _, [], _ => by simp [trips]
  | _ :: _, _ :: _, [] => by simp [trips]
  | x :: xs, y :: ys, z :: zs => by
    simp only [trips, List.length_cons, trips_len xs ys zs]
    omega
theorem trips_get : ∀ {xs ys zs : List D} {i : Nat} {x y z : D}, xs[i]? = some x → ys[i]? = some y → zs[i]? = some z → (trips xs ys zs)[i]? = some (.tup [x, y, z])
  | [], _, _, i, _, _, _, e, _, _ => by cases e
  | _ :: _, [], _, i, _, _, _, _, e, _ => by cases e
  | _ :: _, _ :: _, [], i, _, _, _, _, _, e => by cases e
  | a :: xs, b :: ys, c :: zs, 0, x, y, z, e1, e2, e3 => by
    cases e1; cases e2; cases e3; rfl
  | a :: xs, b :: ys, c :: zs, i + 1, x, y, z, e1, e2, e3 => by
    simp only [trips, List.getElem?_cons_succ] at *
    exact trips_get e1 e2 e3
theorem itd_trip {k1 k2 k3 : Kd} {a b c : Addr} {xs ys zs : List D} {vs ws us : List V} {G : Hp → Prop} (h : ∀ H, G H → (SqK k1 X.K H a vs ∧ RDs X.K H xs vs) ∧ (SqK k2 X.K H b ws ∧ RDs X.K H ys ws) ∧ (SqK k3 X.K H c us ∧ RDs X.K H zs us)) {H0 : Hp} (g0 : G H0) :
    ItD X (Itzip3 X.K k1 k2 k3 a b c) (trips xs ys zs) G := by
  have l1 := (h _ g0).1.2.length
  have l2 := (h _ g0).2.1.2.length
  have l3 := (h _ g0).2.2.2.length
  refine ⟨fun i H v H' => ∃ T x y z, v = .ref T ∧ H T = none ∧ H' = upd H T (.tup [x, y, z]) ∧ vs[i]? = some x ∧ ws[i]? = some y ∧ us[i]? = some z, ⟨fun i H hi g => ?_, fun H g => ?_, fun i H v H' hi g y => ?_⟩, fun i H v H' hi g y => ?_⟩
  · rw [trips_len] at hi
    obtain ⟨⟨q1, _⟩, ⟨q2, _⟩, q3, _⟩ := h _ g
    have h1 : i < vs.length := by omega
    have h2 : i < ws.length := by omega
    have h3 : i < us.length := by omega
    exact ⟨vs, ws, us, vs[i], ws[i], us[i], q1, by simp [h1], q2, by simp [h2], q3, by simp [h3]⟩
  · obtain ⟨⟨q1, _⟩, ⟨q2, _⟩, q3, _⟩ := h _ g
    exact ⟨vs, ws, us, q1, q2, q3, by rw [trips_len, l1, l2, l3]⟩
  · obtain ⟨⟨q1, _⟩, ⟨q2, _⟩, q3, _⟩ := h _ g
    obtain ⟨T, x, y, z, e1, e2, e3, f1, f2, f3⟩ := y
    exact ⟨T, x, y, z, e1, e2, e3, f1 _ q1, f2 _ q2, f3 _ q3⟩
  · obtain ⟨T, x, y, z, rfl, hT, rfl, e1, e2, e3⟩ := y
    rw [trips_len] at hi
    obtain ⟨⟨_, r1⟩, ⟨_, r2⟩, _, r3⟩ := h _ g
    have h1 : i < xs.length := by omega
    have h2 : i < ys.length := by omega
    have h3 : i < zs.length := by omega
    obtain ⟨x', q1, p1⟩ := r1.get (i := i) (x := xs[i]) (by simp [h1])
    obtain ⟨y', q2, p2⟩ := r2.get (i := i) (x := ys[i]) (by simp [h2])
    obtain ⟨z', q3, p3⟩ := r3.get (i := i) (x := zs[i]) (by simp [h3])
    obtain rfl : x = x' := Option.some.inj (e1.symm.trans q1)
    obtain rfl : y = y' := Option.some.inj (e2.symm.trans q2)
    obtain rfl : z = z' := Option.some.inj (e3.symm.trans q3)
    have st : Step nof H (upd H T (.tup [x, y, z])) := .new hT
    exact ⟨.tup [xs[i], ys[i], zs[i]], trips_get (by simp [h1]) (by simp [h2]) (by simp [h3]), .tup upd_same (.cons (p1.keep st.pers) (.cons (p2.keep st.pers) (.cons (p3.keep st.pers) .nil))), st⟩
def cZip2 (f : M (List O)) : M (List D × (O × Option Nat)) := bnd f fun os => lift (match os with
  | [x, y] => (match seqD x, seqD y with
    | some a, some b => some (pairs a b, noneO)
    | _, _ => none)
  | _ => none)
def cZip3 (f : M (List O)) : M (List D × (O × Option Nat)) := bnd f fun os => lift (match os with
  | [x, y, z] => (match seqD x, seqD y, seqD z with
    | some a, some b, some c => some (trips a b c, noneO)
    | _, _, _ => none)
  | _ => none)
def enumA (f : M (List O)) : M (List D × (O × Option Nat)) := bnd f fun os => lift (match os with
  | [x] => (match seqD x with
    | some xs => some (pairs (numsD xs.length) xs, noneO)
    | none => none)
  | _ => none)
theorem ie_zip2 {e e2 : Expr} {f : M (List O)} {p pos tpos : Pos} {elts : List Expr} {kk : Nat} (hg : Gl X "zip") (hm : X.mg "zip" = none) (ha : AE X [e, e2] f)
    (hs : starEach [e, e2] X.env = (false, eval e X.env) :: starEach [e2] X.env := by rfl) (hpl : (backTo pos (starEach [e2] X.env)).any (·.1) = false := by rfl) : IE X (.Tuple elts kk tpos) (.Call (.Name "zip" p) [e, e2] [] pos) (cZip2 f) :=
  PI.imp (pi_zip2K hg hm ha hs hpl) fun σ H R ⟨env, F, rel, h⟩ => by
    refine tLf_bind rel h fun os env1 vs H1 F1 F2 ro a h => ?_
    split at h
    · rename_i x y
      cases ro with
      | cons G1 G2 r1 r2 _ _ _ =>
        cases r2 with
        | cons G3 G4 r3 r4 _ _ _ =>
          cases r4
          split at h
          · rename_i xs ys q1 q2
            obtain ⟨k1, a1, vs1, Ga, rfl, g1, hg1, st1⟩ := seqD_st r1 q1
            obtain ⟨k2, a2, vs2, Gb, rfl, g2, hg2, st2⟩ := seqD_st r3 q2
            refine ⟨k1, k2, a1, a2, vs1, vs2, rfl, (hg1 _ g1).1, (hg2 _ g2).1, h _ H1 .non nof F2 (fun H => Ga H ∧ Gb H) (.d .non) (fun _ e => nomatch e) (itd_pair (walk_zip2.mono (fun H h => ⟨(hg1 H h.1).1, (hg2 H h.2).1⟩) fun _ _ _ _ _ _ h => h) (fun H h => ⟨(hg1 H h.1).2, (hg2 H h.2).2⟩) (hg1 _ g1).2.length (hg2 _ g2).2.length) ⟨g1, g2⟩
              (fun H1 H2 F' g s d => ⟨st1 H1 H2 F' g.1 s d, st2 H1 H2 F' g.2 s d⟩) a.rel (fun _ p _ => p) a.st (fun x p => p.elim False.elim fun p => a.sub x (.inr p)) fun _ p => p.elim⟩
          · exact h.elim
    · exact h.elim
theorem ie_zip3 {e e2 e3 : Expr} {f : M (List O)} {p pos tpos : Pos} {elts : List Expr} {kk : Nat} (hg : Gl X "zip") (hm : X.mg "zip" = none) (ha : AE X [e, e2, e3] f)
    (hs : starEach [e, e2, e3] X.env = (false, eval e X.env) :: starEach [e2, e3] X.env := by rfl) (hpl : (backTo pos (starEach [e2, e3] X.env)).any (·.1) = false := by rfl) : IE X (.Tuple elts kk tpos) (.Call (.Name "zip" p) [e, e2, e3] [] pos) (cZip3 f) :=
  PI.imp (pi_zip3K hg hm ha hs hpl) fun σ H R ⟨env, F, rel, h⟩ => by
    refine tLf_bind rel h fun os env1 vs H1 F1 F2 ro a h => ?_
    split at h
    · rename_i x y z
      cases ro with
      | cons G1 G2 r1 r2 _ _ _ =>
        cases r2 with
        | cons G3 G4 r3 r4 _ _ _ =>
          cases r4 with
          | cons G5 G6 r5 r6 _ _ _ =>
            cases r6
            split at h
            · rename_i xs ys zs q1 q2 q3
              obtain ⟨k1, a1, vs1, Ga, rfl, g1, hg1, st1⟩ := seqD_st r1 q1
              obtain ⟨k2, a2, vs2, Gb, rfl, g2, hg2, st2⟩ := seqD_st r3 q2
              obtain ⟨k3, a3, vs3, Gc, rfl, g3, hg3, st3⟩ := seqD_st r5 q3
              refine ⟨k1, k2, k3, a1, a2, a3, vs1, vs2, vs3, rfl, (hg1 _ g1).1, (hg2 _ g2).1, (hg3 _ g3).1, h _ H1 .non nof F2 (fun H => Ga H ∧ Gb H ∧ Gc H) (.d .non) (fun _ e => nomatch e) (itd_trip (fun H h => ⟨hg1 H h.1, hg2 H h.2.1, hg3 H h.2.2⟩) (H0 := H1) ⟨g1, g2, g3⟩) ⟨g1, g2, g3⟩
                (fun H1 H2 F' g s d => ⟨st1 H1 H2 F' g.1 s d, st2 H1 H2 F' g.2.1 s d, st3 H1 H2 F' g.2.2 s d⟩) a.rel (fun _ p _ => p) a.st (fun x p => p.elim False.elim fun p => a.sub x (.inr p)) fun _ p => p.elim⟩
            · exact h.elim
    · exact h.elim
theorem ie_enumA {e : Expr} {f : M (List O)} {p pos tpos : Pos} {elts : List Expr} {kk : Nat} (hg : Gl X "enumerate") (hm : X.mg "enumerate" = none) (ha : AE X [e] f) (hs : starEach [e] X.env = [(false, eval e X.env)] := by rfl) :
    IE X (.Tuple elts kk tpos) (.Call (.Name "enumerate" p) [e] [] pos) (enumA f) :=
  PI.imp (pi_enumK hg hm ha hs) fun σ H R ⟨env, F, rel, h⟩ => by
    refine tLf_bind rel h fun os env1 vs H1 F1 F2 ro a h => ?_
    split at h
    · rename_i x
      cases ro with
      | cons G1 G2 r1 r2 _ _ _ =>
        cases r2
        cases q : seqD x with
        | none => rw [q] at h; exact h.elim
        | some xs =>
          rw [q] at h
          obtain ⟨k, b, vs, G, rfl, g, hg1, st⟩ := seqD_st r1 q
          refine ⟨k, b, vs, rfl, (hg1 _ g).1, h _ H1 .non nof F2 G (.d .non) (fun _ e => nomatch e) (itd_pair (vs := (List.range xs.length).map fun i => V.int (i : Nat)) (ws := vs) ?_ (fun H g => ⟨nums_rd _, (hg1 H g).2⟩) (by simp [numsD]) (hg1 _ g).2.length) g st a.rel (fun _ p _ => p) a.st (fun x p => p.elim False.elim fun p => a.sub x (.inr p)) fun _ p => p.elim⟩
          have hl := (hg1 _ g).2.length
          have hm : min ((List.range xs.length).map fun i => V.int (i : Nat)).length vs.length = vs.length := by rw [List.length_map, List.length_range, hl, Nat.min_self]
          rw [hm]
          refine Walk.mono walk_enumK (fun _ h => (hg1 _ h).1) fun i H v H' hi _ y => ?_
          obtain ⟨T, x, u, e1, e2, e3, e4, e5⟩ := y
          refine ⟨T, x, u, e1, e2, e3, ?_, e5⟩
          show ((List.range xs.length).map fun i => V.int (i : Nat))[i]? = some x
          rw [List.getElem?_map, List.getElem?_range (by omega)]
          exact e4
    · exact h.elim
/-! ### joined operators -/
def gMulA : O → O → Option O := gMul
theorem os_mulA : OpS X (binaryOp .Mult) gMulA := os_mul
def gInA (neg : Bool) : O → O → Option O := orO (gInS neg) (orO (gInD neg) (orO (gInDT neg) (gInQ neg)))
theorem units65 {k : Nat} {A : Around} (r : Room k A) : A.units + 65 < cLine := by have := r.un; omega
theorem os_inA (hu : X.A.units + 65 < cLine) : OpS X (compareOp .In) (gInA false) := os_inS.or ((os_inD' (by omega) false).or ((os_inDT (by omega) false).or (os_inQ hu)))
theorem os_notInA (hu : X.A.units + 65 < cLine) : OpS X (compareOp .NotIn) (gInA true) := os_notInS.or ((os_inD' (by omega) true).or ((os_inDT (by omega) true).or (os_notInQ hu)))
def gIxA : O → O → Option O := orO gIx gIxDT
theorem is_ixA (hu : X.A.units + 64 < cLine) : IxS X gIxA := (is_ix (by omega)).or (is_ixDT (by omega))
def uSetA : O → O → O → Option O := orU uSet uSetT
theorem ss_uSetA (hu : X.A.units + 64 < cLine) : SetS X uSetA := (ss_uSet (by omega)).or (ss_uSetT (by omega))
def gTupleA : List O → Option O := orC gTuple gTupleD
theorem cs_tupleA (hc : X.calm = true) : CallS X (.type "tuple") gTupleA := cs_tuple.or (cs_tupleD hc)
def gSortedA : List O → Option O := orC gSorted gSortedD
theorem cs_sortedA (hc : X.calm = true) (hu : X.A.units + 64 < cLine) : CallS X (.builtin "sorted") gSortedA := (cs_sorted hu).or (cs_sortedD hc)
/-! ### what is never reached -/
def cNever : M O := fun _ => none
theorem se_never {e : Expr} : SE X e cNever := ⟨fun pins s σ H Q I ⟨env, F, rel, h⟩ => h.elim⟩
end
section
variable {X : Cx} {fx : Nat → Bool}
/-! ### while (x := e) op f -/
def PBw (X : Cx) (fx : Nat → Bool) (F : Fp) (σ : L2.St) (H : Hp) (Q : Bool → L2.St → Hp → Prop) (b : Bool) (env : Env) : Prop :=
  ∀ σ' H' F2, RelE X.K H' env σ' F2 → Fix fx σ σ' → Step F H H' → Sub F2 F H → Q b σ' H'
def tBw (X : Cx) (fx : Nat → Bool) (f : M Bool) : TTw := fun σ H Q => ∃ env F, RelE X.K H env σ F ∧ Post (PBw X fx F σ H Q) (f env)
variable (X fx) in
def BEw (e : Expr) (f : M Bool) : Prop := PTw X e (tBw X fx f)
theorem PTw.imp {e : Expr} {t t' : TTw} (h : PTw X e t) (k : ∀ σ H Q, t' σ H Q → t σ H Q) : PTw X e t' := ⟨fun pins s σ H Q I q => h.run pins s σ H Q I (k _ _ _ q)⟩
def wNmC (fv : M O) (i : Nat) (g : O → O → Option O) (fb : M (O × Option Nat)) : M Bool := fun e => match fv e with
  | some (o, e1) => if i < e1.length then (match fb (e1.set i (some o)) with
    | some (y, e2) => (match e2[i]? with
      | some (some x) => (match g x y.1 with
        | some (.d (.bl b)) => bnd (rst y.2 y.1) (fun _ => ret b) e2
        | _ => none)
      | _ => none)
    | none => none) else none
  | none => none
theorem wn_cmp {op : CmpOp} {g : O → O → Option O} {e b : Expr} {fv : M O} {fb : M (O × Option Nat)} {x : Str} {p pos pos' : Pos} (ho : OpS X (compareOp op) g) (he : SE X e fv) (i : Nat) (hN : X.N.Nodup) (hb : OE X b fb) (hm : behindInMarks op b = false)
    (hi : X.N[i]? = some x := by rfl) (hx : Loc X.env.scope x := by first | exact .inl rfl | exact .inr rfl) (hfx : fx i = false := by rfl) (hf : X.fn x = true ∨ X.env.scope.names.lookup x = some .local := by first | exact .inl rfl | exact .inr rfl | assumption) :
    BEw X fx (.Compare (.NamedExpr (.Name x p) e pos) [op] [b] pos') (wNmC fv i g fb) := by
  refine PTw.imp (ptw_cmp ho.rule (pew_named hN hi hx (pew_of he) hf) hb hm) fun σ H Q ⟨env, F, rel, h⟩ => ?_
  have h' : Post (PBw X fx F σ H Q) (wNmC fv i g fb env) := h
  unfold wNmC at h'
  cases q1 : fv env with
  | none => rw [q1] at h'; exact h'.elim
  | some r =>
    obtain ⟨o, e1⟩ := r
    rw [q1] at h'
    dsimp only at h'
    split at h'
    · rename_i hi1
      cases q2 : fb (e1.set i (some o)) with
      | none => rw [q2] at h'; exact h'.elim
      | some r2 =>
        obtain ⟨y, e2⟩ := r2
        rw [q2] at h'
        dsimp only at h'
        refine ⟨env, F, rel, ?_⟩
        rw [q1]
        intro v H1 F1 F2 ro rel1 dj st1 sub1
        have hl : i < σ.length := by rw [← rel1.length]; exact hi1
        have relp := rel1.put hl ro dj
        refine ⟨e1.set i (some o), _, relp, ?_⟩
        rw [q2]
        intro u H2 F3 F4 ro2 rel2 dj2 st2 sub2 gy
        split at h'
        · rename_i x0 ex
          obtain ⟨v2, G1, G2, ev, rx, rel3, sa, sb, d12⟩ := rel2.take ex
          have ev' : v2 = v := by
            have : (σ.set i (some v))[i]? = some (some v) := by simp [hl]
            rw [this] at ev; cases ev; rfl
          subst ev'
          split at h'
          · rename_i bb eg
            refine ⟨x0, y.1, .d (.bl bb), G1, F3, rx, ro2, eg, fun z H3 ⟨F', rz, st3, sub3⟩ => ?_⟩
            refine ⟨bb, by cases rz.od; rfl, ?_⟩
            obtain ⟨env4, rel4, h4⟩ := rst_ok (rel2.step st3 fun _ _ z => z) (ro2.step st3 fun _ _ z => z) dj2 gy h'
            have S13 : Step F H H3 := (st1.trans st2 fun x p => p.elim (fun p => sub1 x (.inl p)) fun p => sub1 x (.inr p)).trans st3 fun _ z => z.elim
            refine h4 _ H3 _ rel4 (.set hfx) S13 fun x p => ?_
            have s2 := sub2 x (p.elim .inl .inr)
            exact s2.elim (fun p => sub1 x (p.elim .inl .inr)) fun n => .inr (st1.free n)
          · exact h'.elim
        · exact h'.elim
    · exact h'.elim
theorem ss_whileW {c : Expr} {body : List Stmt} {k : M Bool} {fb : S} {pos : Pos} (n : Nat) (hp : PassesOwn (model X.prog X.w) X.A X.env X.xe) (hc : BEw X fx c k) (hb : SB X fx body fb) : SS X fx (.While c body [] pos) (whileS k fb n) := by
  refine PS.imp (ps_whileW hp hc hb pss_nil) fun D σ H ⟨env, F, rel, h⟩ => ?_
  refine ⟨fun m σ' H' => ∃ env' F', RelE X.K H' env' σ' F' ∧ Fix fx σ σ' ∧ Step F H H' ∧ Sub F' F H ∧ PSo X fx D σ H F (whileS k fb m env'), ⟨n, env, F, rel, .refl, .refl, .refl, h⟩, ?_⟩
  rintro m σ1 H1 ⟨env1, F1, rel1, fi1, st1, sub1, h⟩
  cases m with
  | zero => exact h.elim
  | succ m =>
    refine ⟨env1, F1, rel1, ?_⟩
    unfold whileS at h
    cases q : k env1 with
    | none => rw [q] at h; exact h
    | some r =>
      obtain ⟨b, e1⟩ := r
      rw [q] at h
      intro σ2 H2 F2 rel2 fi2 st2 sub2
      have st02 : Step F H H2 := st1.trans st2 sub1
      have sub02 : Sub F2 F H := fun x p => (sub2 x p).elim (sub1 x) fun n => .inr (st1.free n)
      have fi02 := fi1.trans fi2
      cases b with
      | false => exact iteF (h σ2 H2 F2 rel2 fi02 st02 sub02)
      | true =>
        refine iteT ⟨fun σ' H' => ∃ env' F', RelE X.K H' env' σ' F' ∧ Fix fx σ σ' ∧ Step F H H' ∧ Sub F' F H ∧ PSo X fx D σ H F (whileS k fb m env'), fun σ' H' q => ⟨m, Nat.lt_succ_self _, q⟩, e1, F2, rel2, ?_⟩
        dsimp only at h
        have go : ∀ {e2 : Env} {σ4 : L2.St} {H4 : Hp} {F4 : Fp}, PSo X fx D σ H F (whileS k fb m e2) → RelE X.K H4 e2 σ4 F4 → Fix fx σ2 σ4 → Step F2 H2 H4 → Sub F4 F2 H2 →
            ∃ env' F', RelE X.K H4 env' σ4 F' ∧ Fix fx σ σ4 ∧ Step F H H4 ∧ Sub F' F H ∧ PSo X fx D σ H F (whileS k fb m env') :=
          fun {e2 σ4 H4 F4} hh r4 f4 s4 b4 => ⟨e2, F4, r4, fi02.trans f4, st02.trans s4 sub02, fun x p => (b4 x p).elim (sub02 x) fun n => .inr (st02.free n), hh⟩
        cases q2 : fb e1 with
        | none => rw [q2] at h; exact h.elim
        | some r =>
          obtain ⟨o, e2⟩ := r
          rw [q2] at h
          cases o with
          | nx => exact fun σ4 H4 F4 r4 f4 s4 b4 => go h r4 f4 s4 b4
          | ct => exact fun σ4 H4 F4 r4 f4 s4 b4 => go h r4 f4 s4 b4
          | bk => exact fun σ4 H4 F4 r4 f4 s4 b4 => h σ4 H4 F4 r4 (fi02.trans f4) (st02.trans s4 sub02) fun x p => (b4 x p).elim (sub02 x) fun n => .inr (st02.free n)
          | rt o => exact fun v σ4 H4 G1 G2 ro4 r4 d4 f4 s4 b4 => h v σ4 H4 G1 G2 ro4 r4 d4 (fi02.trans f4) (st02.trans s4 sub02) fun x p => (b4 x p).elim (sub02 x) fun n => .inr (st02.free n)
end
/-! ### a law's end, its function chosen with the written part -/
theorem walk_GA {l : PySem.W.OpenLaw} {n k : Nat} {q : Program} {loose : List Str} {XP : (Str → Option Value) → Heap → Prop} {YP : World → Heap → Prop} {d : DefRec} {x : Str}
    (hn : l.most = some n) (hn2 : n ≤ sizeLine) (hdf : d.params.defaults = []) (hr : Room k callerA)
    (F : ∀ (w : World) (mg : Str → Option Value) (h : Heap), YP w h → h.Ns mainGlobals mg → ∃ (K : PySem.W.Frag) (g : List O → Option (O × Env)), K.In h ∧ (∀ base : Heap, K.In base → base.Ns mainGlobals mg → OkF l.prog w K mg base k d.name [x] g) ∧
      ∀ ns : List Int, ns.length ≤ n → (∀ z ∈ ns, Builtin.Int.intBits z ≤ 1048576) → ∃ e, g [.d (.scr (ns.map D.int))] = some (.d (.bl true), e)) :
    PySem.W.WalkO q loose XP YP l.row.toRowW d [] (fun f vs => PySem.call f vs) := by
  refine Att.attach_callB hn hdf fun w s₀ s₁ mg mb fa o pm cd doc a vs ns G Y ho hd hcd hmg hobj hints hlen hbits hg => ?_
  obtain ⟨K, g, KX, hF, law⟩ := F w mg _ Y G.T.g
  obtain ⟨e, hlaw⟩ := law ns hlen hbits
  refine law_callG (x := x) (sp := spG K g) KX G.T.g G.T.b G.T.builtins G.T.nolimit hg hobj hints (Nat.le_trans hlen hn2) hr (fun base h1 h2 => ?_) fun H hO hS => ?_
  · obtain ⟨f, fd, hf, _, hb, F2⟩ := hF base h1 h2
    obtain rfl : fa = f := by rw [hmg] at hf; cases hf; rfl
    exact ⟨fd, hb, F2⟩
  · exact ⟨[.d (.scr (ns.map D.int))], nof, _, e, .cons nof nof (.d (scr_of hO hS)) .nil (fun _ z => z) (fun _ z => z) (fun _ z _ => z), hlaw, fun z H' F1 F2 rz _ _ _ _ => by cases rz.od; rfl⟩
end TL

set_option maxHeartbeats 1000000
/-! list(d) of a dict with tuple keys. -/
namespace TL
open PySem L2 PySem.Spec PyProof.Rows PySem.W
section
variable {X : Cx}
theorem kt_vals {H : Hp} : ∀ {kvs : List (List Key × V)} {xs : List (List Key × Addr × Value)} {us : List Value}, KT H kvs xs → us = xs.map (fun x => Value.ref x.2.1) → ∃ vs, Vals vs us ∧ RDs X.K H (kvs.map fun p => D.tup (p.1.map kD)) vs
  | [], [], _, _, e => by subst e; exact ⟨[], .nil, .nil⟩
  | _ :: _, x :: xs, _, .cons r t, e => by
    subst e
    obtain ⟨vs, h1, h2⟩ := kt_vals (us := xs.map fun x => Value.ref x.2.1) t rfl
    exact ⟨.ref x.2.1 :: vs, .cons rfl h1, .cons (.tup r.2.1 (kD_rds _)) h2⟩
theorem items_vals {es : Array DictEntry} {acc : Array Value} (h : ItemsOf (fun i v => ∃ hi : i < es.size, v = es[i].key) acc es.size) : acc.toList = es.toList.map (·.key) := by
  refine List.ext_getElem (by rw [List.length_map, Array.length_toList, Array.length_toList]; exact h.1) fun i h1 h2 => ?_
  obtain ⟨hi, e⟩ := h.2 i acc.toList[i] (by rw [← Array.getElem?_toList]; exact List.getElem?_eq_getElem h1)
  rw [List.getElem_map, e, Array.getElem_toList]
theorem call_listDT (hcalm : X.calm = true) : CallR X (.type "list") (fun xs H Q => ∃ (a : Addr) (kvs : List (List Key × V)), xs = [.ref a] ∧ Rd H a (.dT kvs) ∧ ∀ vs p, RDs X.K H (kvs.map fun q => D.tup (q.1.map kD)) vs → H p = none → Q (.ref p) (upd H p (.lst vs))) := by
  intro pins s σ H xs us Q I r q
  obtain ⟨a, kvs, rfl, hd, q⟩ := q
  obtain ⟨u, rfl, rx⟩ := vals1 r
  cases rx
  obtain ⟨z, lo, ys, kt, o, es, ep, h1, h2, h3, h4, _, _⟩ := dt_rd I.hok hd
  have hl : ys.length = kvs.length := (Paired.length kt).symm
  have esl : es.size = kvs.length := by rw [← Array.length_toList, h4, List.length_map, hl]
  refine PySem.W.kdl_call (KdlSrc.rawDict (es := es) (ep := ep) lo) (I.ok.hd hcalm) ⟨o, h1, h2, h3⟩ (by rw [esl]; exact z) fun h' tk acc c' hk hD hacc => ?_
  have ea : acc.toList = ys.map fun x => Value.ref x.2.1 := by
    rw [items_vals hacc, h4, List.map_map]
    rfl
  obtain ⟨vs, hv, rd⟩ := kt_vals (X := X) kt ea
  have hvl : vs.length ≤ sizeLine := by rw [hv.length, ea, List.length_map, hl]; exact z
  exact ⟨.ref s.heap.objs.size, upd H s.heap.objs.size (.lst vs), I.laid (t' := tk) hk (Nat.le_refl _) (show ObjOk X.prog X.w _ _ _ (.lst vs) from ⟨hvl, acc.toList, c', hv, by rw [Array.toArray_toList]; exact hD⟩), rfl, q vs _ rd (I.hok.fresh (Nat.le_refl _))⟩
def dtO : O → Option (List (List Key))
  | .d (.dcT m) => some (m.map (·.1))
  | .dcT m => some (m.map (·.1))
  | _ => none
theorem dtO_ok {H : Hp} {o : O} {v : V} {F : Fp} {ks : List (List Key)} (r : RO X.K H o v F) (e : dtO o = some ks) : ∃ a kvs, v = .ref a ∧ Rd H a (.dT kvs) ∧ kvs.map (·.1) = ks := by
  unfold dtO at e
  split at e
  · cases e
    cases r.od with
    | dcT h e1 r2 => exact ⟨_, _, rfl, .inr ⟨_, h⟩, e1⟩
  · cases e
    cases r with
    | dcT h f e1 r2 => exact ⟨_, _, rfl, .inl h, e1⟩
  · cases e
def gListDT : List O → Option O := g1 fun x => match dtO x with
  | some ks => some (.lst (ks.map fun k => .d (.tup (k.map kD))))
  | none => none
theorem cs_listDT (hc : X.calm = true) : CallS X (.type "list") gListDT := .of (call_listDT hc) fun H xs os F o r e => by
  obtain ⟨x, v, G, rfl, rfl, h, q⟩ := g1_of r e
  split at q
  · rename_i ks hk
    cases q
    obtain ⟨a, kvs, rfl, hd, ek⟩ := dtO_ok h hk
    refine ⟨a, kvs, rfl, hd, fun vs p rd hp => ?_⟩
    have e2 : ks.map (fun k => O.d (.tup (k.map kD))) = (kvs.map fun q => D.tup (q.1.map kD)).map O.d := by
      rw [← ek, List.map_map, List.map_map]
      rfl
    rw [e2]
    exact New.lst hp rd
  · cases q
def gListB : List O → Option O := orC gListA (orC gListD gListDT)
theorem cs_listB (hc : X.calm = true) : CallS X (.type "list") gListB := (cs_listA hc).or ((cs_listD hc).or (cs_listDT hc))
end
end TL

set_option maxHeartbeats 1000000
/-! List comprehensions of two clauses. -/
namespace TL
open PySem L2
section
variable {X : Cx}
def compL2 (g : G) (t : M Bool) (src1 : M (List D × (O × Option Nat))) (g1 : G) (t1 : M Bool) (f : M O) (vs vs1 : List Nat) : List D → M (List O)
  | [] => ret []
  | d :: ds => fun e => match g (.d d) e with
    | none => none
    | some e1 => match t e1 with
      | none => none
      | some (false, e2) => compL2 g t src1 g1 t1 f vs vs1 ds (wipeE e2 vs)
      | some (true, e2) => match src1 e2 with
        | some ((ds1, x1, none), e3) => match compL g1 t1 f vs1 ds1 (wipeE e3 vs1) with
          | none => none
          | some (os, e4) => match compL2 g t src1 g1 t1 f vs vs1 ds (wipeE e4 vs) with
            | none => none
            | some (os2, e5) => some (os ++ os2, e5)
        | _ => none
def compM2 (src : M (List D × (O × Option Nat))) (g : G) (t : M Bool) (src1 : M (List D × (O × Option Nat))) (g1 : G) (t1 : M Bool) (f : M O) (vs vs1 : List Nat) : M O := fun e => match src e with
  | none => none
  | some ((ds, x), e1) => if ownOk e1 vs then match compL2 g t src1 g1 t1 f vs vs1 ds (wipeE e1 vs) with
      | none => none
      | some (os, e2) => if os.length ≤ sizeLine then bnd (rst x.2 x.1) (fun _ => ret (.lst os)) (backE e1 e2 vs) else none
    else none
theorem wipe_sub {σ : L2.St} {vs vs1 : List Nat} (h : ∀ i ∈ vs1, i ∈ vs) : L2.wipe (L2.wipe σ vs1) vs = L2.wipe σ vs := by
  apply List.ext_getElem?
  intro i
  by_cases hi : i < σ.length
  · rw [wipe_get (by rw [wipe_length]; exact hi), wipe_get (vs := vs) hi]
    by_cases c : i ∈ vs
    · simp only [c, if_true]
    · have c1 : i ∉ vs1 := fun z => c (h i z)
      simp only [c, c1, if_false]
      rw [wipe_get hi, if_neg c1]
  · rw [List.getElem?_eq_none (by rw [wipe_length, wipe_length]; omega), List.getElem?_eq_none (by rw [wipe_length]; omega)]
theorem walk_it {J : It} {n : Nat} {G : Hp → Prop} {Y : Nat → Hp → V → Hp → Prop} (w : Walk J n G Y) (T : (Hp → Prop) → V → Hp → Prop) {H1 : Hp} {Qd : Hp → Prop} (Pv : Nat → Hp → Prop) (h0 : Pv 0 H1) (hG : ∀ i H, i ≤ n → Pv i H → G H)
    (hs : ∀ i x H H', i < n → Pv i H → Y i H x H' → T (Pv (i + 1)) x H') (hd : ∀ H, Pv n H → Qd H) :
    ∃ W : Nat → Nat → Hp → Prop, (∃ m, W 0 m H1) ∧ ∀ i m H, W i m H →
      (J.stop i H ∧ Qd H) ∨ (J.go i H ∧ ∃ Nx : Hp → Prop, (∀ H', Nx H' → ∃ m', m' < m ∧ W (i + 1) m' H') ∧ ∀ x H', J.yld i H x H' → T Nx x H') := by
  refine ⟨fun i m H => m = n - i ∧ i ≤ n ∧ Pv i H, ⟨n, by simp, Nat.zero_le _, h0⟩, ?_⟩
  rintro i m H ⟨rfl, hi, p⟩
  have q := hG i H hi p
  by_cases hlt : i < n
  · refine .inr ⟨w.goes i H hlt q, Pv (i + 1), fun H' p' => ⟨n - (i + 1), by omega, rfl, hlt, p'⟩, fun x H' y => hs i x H H' hlt p (w.yields i H x H' hlt q y)⟩
  · have e : i = n := by omega
    subst e
    exact .inl ⟨w.stops H q, hd H p⟩
variable (X) in
def Turn1 (g1 : G) (t1 : M Bool) (f : M O) (vs1 : List Nat) (σ2 : L2.St) (Da : Addr) (Nx1 : Hp → Prop) (x : V) (H' : Hp) : Prop := tGf X (fxOf vs1) g1 x (L2.wipe σ2 vs1) H' fun σ3 H5 => L2.wipe σ3 vs1 = L2.wipe σ2 vs1 ∧ tBf X t1 σ3 H5 fun b H6 =>
  if b = true then tOf X f σ3 H6 fun y H7 => ∃ acc, H7 Da = some (.lst acc) ∧ acc.length < sizeLine ∧ Nx1 (upd H7 Da (.lst (acc ++ [y]))) else Nx1 H6
variable (X) in
def Turn2 (g : G) (t : M Bool) (src1 : M (List D × (O × Option Nat))) (g1 : G) (t1 : M Bool) (f : M O) (vs vs1 : List Nat) (σ : L2.St) (Da : Addr) (Nx : Hp → Prop) (x : V) (H' : Hp) : Prop := tGf X (fxOf vs) g x (L2.wipe σ vs) H' fun σ2 H2 => L2.wipe σ2 vs = L2.wipe σ vs ∧ tBf X t σ2 H2 fun b H3 =>
  if b = true then tIf X src1 σ2 H3 fun J1 H4 => ∃ W1 : Nat → Nat → Hp → Prop, (∃ m, W1 0 m H4) ∧ ∀ j k H, W1 j k H →
    (J1.stop j H ∧ Nx H) ∨ (J1.go j H ∧ ∃ Nx1 : Hp → Prop, (∀ H', Nx1 H' → ∃ k', k' < k ∧ W1 (j + 1) k' H') ∧ ∀ x H', J1.yld j H x H' → Turn1 X g1 t1 f vs1 σ2 Da Nx1 x H')
  else Nx H3
theorem Lc.hold {F0 : Fp} {H0 : Hp} {Da : Addr} {Fh : Fp} {acc : List O} {av : List V} {Fa F1 F2 : Fp} {H : Hp} (c : Lc X F0 H0 Da Fh acc av Fa (Or F1 F2) H) (d : Disj F1 F2) (m : Dom F1 H) : Lc X F0 H0 Da (Or Fh F1) acc av Fa F2 H where
  hD := c.hD
  ra := c.ra
  dA := fun x p q => c.dA x p (.inr q)
  dH := fun x p q => p.elim (fun p => c.dH x p (q.elim .inl fun q => .inr (.inr q))) fun p => q.elim (fun q => c.dA x q (.inl p)) fun q => d x p q
  nA := c.nA
  nE := fun z => c.nE (.inr z)
  nH := fun z => z.elim c.nH fun z => c.nE (.inl z)
  st := c.st
  sb := fun x p => c.sb x (p.imp id .inr)
  mH := fun x p => p.elim (c.mH x) (m x)
  mA := c.mA
  h0 := c.h0
theorem Lc.less {F0 : Fp} {H0 : Hp} {Da : Addr} {Fh F1 : Fp} {acc : List O} {av : List V} {Fa F2 : Fp} {H : Hp} (c : Lc X F0 H0 Da (Or Fh F1) acc av Fa F2 H) : Lc X F0 H0 Da Fh acc av Fa F2 H where
  hD := c.hD
  ra := c.ra
  dA := c.dA
  dH := fun x p q => c.dH x (.inl p) q
  nA := c.nA
  nE := c.nE
  nH := fun z => c.nH (.inl z)
  st := c.st
  sb := c.sb
  mH := fun x p => c.mH x (.inl p)
  mA := c.mA
  h0 := c.h0
theorem lc2_ok {src src1 : M (List D × (O × Option Nat))} {g g1 : G} {t t1 : M Bool} {f : M O} {vs vs1 : List Nat} {σ : L2.St} {H : Hp} {Q : VK} (hv : ∀ i ∈ vs1, i ∈ vs) (h : tOf X (compM2 src g t src1 g1 t1 f vs vs1) σ H Q) :
    tLc2 (tIf X src) (tGf X (fxOf vs) g) (tBf X t) (tIf X src1) (tGf X (fxOf vs1) g1) (tBf X t1) (tOf X f) vs vs1 σ H Q := by
  obtain ⟨env, F0, rel0, h⟩ := h
  refine ⟨env, fun a => F0 a ∧ ∃ o, H a = some o, rel0.dom, ?_⟩
  unfold compM2 at h
  cases q0 : src env with
  | none => rw [q0] at h; exact h
  | some r =>
    obtain ⟨⟨ds, x⟩, e1⟩ := r
    rw [q0] at h
    dsimp only at h
    intro J H1 vh Fh F2 Gd ro gi it gs stb rel1 dj st sub dm Da hDa
    obtain ⟨Y, w, hY⟩ := it
    dsimp only at ro gi w hY
    split at h
    · rename_i ok
      cases q1 : compL2 g t src1 g1 t1 f vs vs1 ds (wipeE e1 vs) with
      | none => rw [q1] at h; exact h.elim
      | some r =>
        obtain ⟨os, ef⟩ := r
        rw [q1] at h
        dsimp only at h
        split at h
        · rename_i hz
          have hDn : H Da = none := st.free hDa
          have nF : ¬ (F0 Da ∧ ∃ o, H Da = some o) := fun z => by obtain ⟨_, o, e⟩ := z; rw [hDn] at e; cases e
          refine walk_it w (Turn2 X g t src1 g1 t1 f vs vs1 σ Da) (Pv := fun i H' => Gd H' ∧ ∃ acc env' os' av Fa F', Lc X (fun a => F0 a ∧ ∃ o, H a = some o) H Da Fh acc av Fa F' H' ∧ RelE X.K H' env' (L2.wipe σ vs) F' ∧ RO X.K H' x.1 vh Fh ∧ (∀ a o, H1 a = some o → ¬ MutO o → H' a = some o) ∧ compL2 g t src1 g1 t1 f vs vs1 (ds.drop i) env' = some (os', ef) ∧ acc ++ os' = os) ?_ (fun i H' _ p => p.1) ?_ ?_
          · -- start
            have s1 : Step nof H1 (upd H1 Da (.lst [])) := .new hDa
            refine ⟨stb _ _ nof gs s1 fun _ _ z => z, [], wipeE e1 vs, os, [], nof, _, ⟨upd_same, .nil, fun _ p _ => p, fun a p q => q.elim False.elim fun q => dj a p q.1, fun z => z, fun z => ?_, fun z => ?_, st.trans s1 fun _ z => z.elim, fun a p => p.elim False.elim fun p => (sub a (.inr p.1)), dm.step s1, fun _ p => p.elim, hDn⟩, (rel1.dom.wipe vs).step s1 fun _ _ z => z, ro.step s1 fun _ _ z => z, s1.pers, by rw [List.drop_zero]; exact q1, rfl⟩
            · obtain ⟨_, o, e⟩ := z; rw [hDa] at e; cases e
            · obtain ⟨o, e⟩ := dm _ z; rw [hDa] at e; cases e
          · -- a turn
            rintro i xv H2 H3 hi ⟨gd, acc, env', os', av, Fa, F', c, rel', rh, pp, hc, happ⟩ y
            obtain ⟨d, hd, rd, st23⟩ := hY i H2 xv H3 hi gd y
            have ed : ds.drop i = d :: ds.drop (i + 1) := by
              rw [List.drop_eq_getElem_cons hi]
              have : ds[i]? = some ds[i] := by simp [hi]
              rw [this] at hd; cases hd; rfl
            rw [ed] at hc
            unfold compL2 at hc
            cases p1 : g (.d d) env' with
            | none => rw [p1] at hc; cases hc
            | some ea =>
              rw [p1] at hc
              dsimp only at hc
              have mf : ∀ {G1 : Fp} {Hx Hy : Hp}, Step nof Hx Hy → Step G1 Hx Hy := fun s => s.mono fun _ z => z.elim
              have c3 := c.adv (mf st23) .refl
              refine ⟨.d d, env', nof, F', .d rd, rel'.step st23 fun _ _ z => z, fun _ p _ => p, ea, p1, fun σ4 H4 F4 rel4 fi4 st4 sub4 => ?_⟩
              have st4' : Step F' H3 H4 := st4.mono fun x p => .inl (p.elim False.elim id)
              have sub4' : Sub F4 F' H3 := fun x p => (sub4 x p).imp (fun p => p.elim False.elim id) id
              have c4 := c3.adv st4' sub4'
              have hwp := wipe_fix fi4
              have g4 := stb _ _ _ (stb _ _ nof gd st23 fun _ _ z => z) st4' fun x p q => c3.dH x p (.inr q)
              have r4 := (rh.step st23 fun _ _ z => z).step st4' fun x p q => c3.dH x p (.inr q)
              refine ⟨hwp, ea, F4, rel4, ?_⟩
              cases p2 : t ea with
              | none => rw [p2] at hc; cases hc
              | some r =>
                obtain ⟨b, e2⟩ := r
                rw [p2] at hc
                intro H5 F5 rel5 st5 sub5
                have c5 := c4.adv st5 sub5
                have g5 := stb _ _ _ g4 st5 fun x p q => c4.dH x p (.inr q)
                have r5 := r4.step st5 fun x p q => c4.dH x p (.inr q)
                have pp5 : ∀ a o, H1 a = some o → ¬ MutO o → H5 a = some o := fun a o e n => st5.pers _ _ (st4.pers _ _ (st23.pers _ _ (pp a o e n) n) n) n
                cases b with
                | false =>
                  dsimp only at hc
                  exact iteF ⟨g5, acc, wipeE e2 vs, os', av, Fa, F5, c5, wipe_wipe hwp X.K rel5, r5, pp5, hc, happ⟩
                | true =>
                  dsimp only at hc
                  refine iteT ⟨e2, F5, rel5, ?_⟩
                  cases p3 : src1 e2 with
                  | none => rw [p3] at hc; cases hc
                  | some r =>
                    obtain ⟨⟨ds1, x1, k1⟩, e3⟩ := r
                    rw [p3] at hc
                    cases k1 with
                    | some k => cases hc
                    | none =>
                      dsimp only at hc
                      cases p4 : compL g1 t1 f vs1 ds1 (wipeE e3 vs1) with
                      | none => rw [p4] at hc; cases hc
                      | some r =>
                        obtain ⟨o1, e4⟩ := r
                        rw [p4] at hc
                        dsimp only at hc
                        cases p5 : compL2 g t src1 g1 t1 f vs vs1 (ds.drop (i + 1)) (wipeE e4 vs) with
                        | none => rw [p5] at hc; cases hc
                        | some r =>
                          obtain ⟨o2, e5⟩ := r
                          rw [p5] at hc
                          cases hc
                          intro J1 H6 vh1 Fh1 F6 Gd1 ro1 gi1 it1 gs1 stb1 rel6 dj6 st6 sub6 dm6
                          obtain ⟨Y1, w1, hY1⟩ := it1
                          dsimp only at ro1 gi1 w1 hY1
                          have c6 := (c5.adv st6 (F2 := Or Fh1 (fun a => F6 a ∧ ∃ o, H6 a = some o)) fun x p => sub6 x (p.imp id And.left)).hold (fun x p q => dj6 x p q.1) dm6
                          have g6 := stb _ _ _ g5 st6 fun x p q => c5.dH x p (.inr q)
                          have r6 := r5.step st6 fun x p q => c5.dH x p (.inr q)
                          have pp6 : ∀ a o, H1 a = some o → ¬ MutO o → H6 a = some o := fun a o e n => st6.pers _ _ (pp5 a o e n) n
                          refine walk_it w1 (Turn1 X g1 t1 f vs1 σ4 Da) (Pv := fun j H' => Gd1 H' ∧ Gd H' ∧ ∃ acc env' os' av Fa F', Lc X (fun a => F0 a ∧ ∃ o, H a = some o) H Da (Or Fh Fh1) acc av Fa F' H' ∧ RelE X.K H' env' (L2.wipe σ4 vs1) F' ∧ RO X.K H' x.1 vh Fh ∧ (∀ a o, H1 a = some o → ¬ MutO o → H' a = some o) ∧ compL g1 t1 f vs1 (ds1.drop j) env' = some (os', e4) ∧ acc ++ os' ++ o2 = os) ⟨gs1, g6, acc, wipeE e3 vs1, o1, av, Fa, _, c6, rel6.dom.wipe vs1, r6, pp6, by rw [List.drop_zero]; exact p4, by rw [List.append_assoc]; exact happ⟩ (fun j H' _ p => p.1) ?_ ?_
                          · -- a turn of the second
                            rintro j yv K2 K3 hj ⟨gd1, gd, acc, env', os', av, Fa, F', c, rel', rh, pp, hc, happ⟩ y1
                            obtain ⟨d, hd, rd, st23⟩ := hY1 j K2 yv K3 hj gd1 y1
                            have ed : ds1.drop j = d :: ds1.drop (j + 1) := by
                              rw [List.drop_eq_getElem_cons hj]
                              have : ds1[j]? = some ds1[j] := by simp [hj]
                              rw [this] at hd; cases hd; rfl
                            rw [ed] at hc
                            unfold compL at hc
                            cases p1 : g1 (.d d) env' with
                            | none => rw [p1] at hc; cases hc
                            | some ea =>
                              rw [p1] at hc
                              dsimp only at hc
                              have c3 := c.adv (mf st23) .refl
                              refine ⟨.d d, env', nof, F', .d rd, rel'.step st23 fun _ _ z => z, fun _ p _ => p, ea, p1, fun σ7 K4 F4 rel4 fi4 st4 sub4 => ?_⟩
                              have st4' : Step F' K3 K4 := st4.mono fun x p => .inl (p.elim False.elim id)
                              have sub4' : Sub F4 F' K3 := fun x p => (sub4 x p).imp (fun p => p.elim False.elim id) id
                              have c4 := c3.adv st4' sub4'
                              have hwp1 := wipe_fix fi4
                              have ga4 := stb1 _ _ _ (stb1 _ _ nof gd1 st23 fun _ _ z => z) st4' fun x p q => c3.dH x (.inr p) (.inr q)
                              have g4 := stb _ _ _ (stb _ _ nof gd st23 fun _ _ z => z) st4' fun x p q => c3.dH x (.inl p) (.inr q)
                              have r4 := (rh.step st23 fun _ _ z => z).step st4' fun x p q => c3.dH x (.inl p) (.inr q)
                              refine ⟨hwp1, ea, F4, rel4, ?_⟩
                              cases p2 : t1 ea with
                              | none => rw [p2] at hc; cases hc
                              | some r =>
                                obtain ⟨b, e2⟩ := r
                                rw [p2] at hc
                                intro K5 F5 rel5 st5 sub5
                                have c5 := c4.adv st5 sub5
                                have ga5 := stb1 _ _ _ ga4 st5 fun x p q => c4.dH x (.inr p) (.inr q)
                                have g5 := stb _ _ _ g4 st5 fun x p q => c4.dH x (.inl p) (.inr q)
                                have r5 := r4.step st5 fun x p q => c4.dH x (.inl p) (.inr q)
                                have pp5 : ∀ a o, H1 a = some o → ¬ MutO o → K5 a = some o := fun a o e n => st5.pers _ _ (st4.pers _ _ (st23.pers _ _ (pp a o e n) n) n) n
                                cases b with
                                | false =>
                                  dsimp only at hc
                                  exact iteF ⟨ga5, g5, acc, wipeE e2 vs1, os', av, Fa, F5, c5, wipe_wipe hwp1 X.K rel5, r5, pp5, hc, happ⟩
                                | true =>
                                  dsimp only at hc
                                  refine iteT ⟨e2, F5, rel5, ?_⟩
                                  cases p3 : f e2 with
                                  | none => rw [p3] at hc; cases hc
                                  | some r =>
                                    obtain ⟨o, e3⟩ := r
                                    rw [p3] at hc
                                    dsimp only at hc
                                    cases p4 : compL g1 t1 f vs1 (ds1.drop (j + 1)) (wipeE e3 vs1) with
                                    | none => rw [p4] at hc; cases hc
                                    | some r =>
                                      obtain ⟨ot, e4⟩ := r
                                      rw [p4] at hc
                                      cases hc
                                      intro v K6 F6 F7 ro6 rel7 d67 st6 sub6
                                      have c6 := c5.adv st6 (F2 := Or (fun a => F6 a ∧ ∃ o, K6 a = some o) F7) fun x p => sub6 x (p.imp And.left id)
                                      obtain ⟨c7, w7⟩ := c6.push ro6.dom (fun x p q => d67 x p.1 q) (fun x p => p.2) nF
                                      have la := c6.ra.length
                                      have ga6 := stb1 _ _ _ ga5 st6 fun x p q => c5.dH x (.inr p) (.inr q)
                                      have g6 := stb _ _ _ g5 st6 fun x p q => c5.dH x (.inl p) (.inr q)
                                      have r6 := r5.step st6 fun x p q => c5.dH x (.inl p) (.inr q)
                                      refine ⟨av, c6.hD, ?_, stb1 _ _ _ ga6 w7 fun x p q => c6.nH (.inr (q ▸ p)), stb _ _ _ g6 w7 fun x p q => c6.nH (.inl (q ▸ p)), acc ++ [o], wipeE e3 vs1, ot, _, _, F7, c7, (wipe_wipe hwp1 X.K rel7).step w7 fun x p q => c6.nE (.inr (q ▸ p)), r6.step w7 fun x p q => c6.nH (.inl (q ▸ p)), fun a u e n => w7.pers _ _ (st6.pers _ _ (pp5 a u e n) n) n, p4, by rw [List.append_assoc acc]; exact happ⟩
                                      have := congrArg List.length happ
                                      simp only [List.length_append, List.length_cons] at this
                                      omega
                          · -- the second's end
                            rintro K2 ⟨_, gd, acc, env', os', av, Fa, F', c, rel', rh, pp, hc, happ⟩
                            rw [List.drop_length] at hc
                            cases hc
                            rw [List.append_nil] at happ
                            refine ⟨gd, acc, wipeE e4 vs, o2, av, Fa, F', c.less, ?_, rh, pp, p5, happ⟩
                            have q := rel'.wipe vs
                            rw [wipe_sub hv, hwp] at q
                            exact q
          · -- the end
            rintro H2 ⟨gd, acc, env', os', av, Fa, F', c, rel', rh, pp, hc, happ⟩
            rw [List.drop_length] at hc
            cases hc
            rw [List.append_nil] at happ
            subst happ
            have fin := RelE.recover (vs := vs) rel1 ok pp rel'
            obtain ⟨ee, rele, hh⟩ := rst_ok fin rh (fun a p q => c.dH a p (.inr q)) gi h
            have stF : Step F0 H H2 := c.st.mono fun a p => .inl p.1
            refine hh (.ref Da) H2 (Or (fun z => z = Da) Fa) _ (.lst c.hD (.inl rfl) (c.ra.mono fun a p => ⟨.inr p, fun z => c.nA (z ▸ p)⟩)) rele (fun a p q => ?_) stF fun a p => ?_
            · rcases p with p | p
              · subst p; exact q.elim c.nH c.nE
              · exact q.elim (fun q => c.dH a q (.inl p)) fun q => c.dA a p q
            · rcases p with (p | p) | (p | p)
              · subst p; exact .inr hDn
              · exact (c.sb a (.inl p)).imp And.left id
              · exact (sub a (.inl p)).imp And.left id
              · exact (c.sb a (.inr p)).imp And.left id
        · exact h.elim
    · exact h.elim
theorem se_lc2 {elt tg iter tg1 iter1 : Expr} {ifs ifs1 : List Expr} {scope : Scope} {own : List (Str × Nat)} (vs1 : List Nat) {pos : Pos} {src src1 : M (List D × (O × Option Nat))} {g g1 : G} {t t1 : M Bool} {f : M O} (hc : X.calm = true) (hN : X.N.Nodup) (ok : BlkOk X.N X.env.scope scope own) (hv : ∀ i ∈ vs1, i ∈ own.map (·.2)) (hi : IE X tg iter src)
    (hg : ∀ (s : Shared) (H : Hp) (C : Addr) (cl : List (Str × Addr)) (fp : List Addr), TG' (X.blk s H scope (compEnvC scope cl C X.env) fp) (fxOf (own.map (·.2))) tg g) (ht : ∀ (s : Shared) (H : Hp) (C : Addr) (cl : List (Str × Addr)) (fp : List Addr), TsE (X.blk s H scope (compEnvC scope cl C X.env) fp) ifs t)
    (hi1 : ∀ (s : Shared) (H : Hp) (C : Addr) (cl : List (Str × Addr)) (fp : List Addr), IE (X.blk s H scope (compEnvC scope cl C X.env) fp) tg1 iter1 src1)
    (hg1 : ∀ (s : Shared) (H : Hp) (C : Addr) (cl : List (Str × Addr)) (fp : List Addr), TG' (X.blk s H scope (compEnvC scope cl C X.env) fp) (fxOf vs1) tg1 g1) (ht1 : ∀ (s : Shared) (H : Hp) (C : Addr) (cl : List (Str × Addr)) (fp : List Addr), TsE (X.blk s H scope (compEnvC scope cl C X.env) fp) ifs1 t1)
    (he : ∀ (s : Shared) (H : Hp) (C : Addr) (cl : List (Str × Addr)) (fp : List Addr), SE (X.blk s H scope (compEnvC scope cl C X.env) fp) elt f) (hs : ∀ x, foldedSetIterable iter X.env x = pure x := by intro _; rfl) (hs1 : ∀ env x, foldedSetIterable iter1 env x = pure x := by intro _ _; rfl) :
    SE X (.ListComp elt [⟨tg, iter, ifs, 0⟩, ⟨tg1, iter1, ifs1, 0⟩] scope pos) (compM2 src g t src1 g1 t1 f (own.map (·.2)) vs1) :=
  PE.imp (pe_lc2 (wi := tIf X src) (g := tGf X (fxOf (own.map Prod.snd)) g) (tt := tBf X t) (wi1 := tIf X src1) (g1 := tGf X (fxOf vs1) g1) (tt1 := tBf X t1) (te := tOf X f) hc hN hi ok hv hg ht hi1 hg1 ht1 he hs hs1) fun _ _ _ h => lc2_ok hv h
theorem ss_setLc2 {fx : Nat → Bool} (i : Nat) {y : Str} {py : Pos} {elt tg iter tg1 iter1 : Expr} {ifs ifs1 : List Expr} {scope : Scope} {own : List (Str × Nat)} (vs1 : List Nat) {pos spos : Pos} {src src1 : M (List D × (O × Option Nat))} {g g1 : G} {t t1 : M Bool} {f : M O} (hc : X.calm = true) (hN : X.N.Nodup) (ok : BlkOk X.N X.env.scope scope own) (hv : ∀ i ∈ vs1, i ∈ own.map (·.2)) (hi : IE X tg iter src)
    (hg : ∀ (s : Shared) (H : Hp) (C : Addr) (cl : List (Str × Addr)) (fp : List Addr), TG' (X.blk s H scope (compEnvC scope cl C X.env) fp) (fxOf (own.map (·.2))) tg g) (ht : ∀ (s : Shared) (H : Hp) (C : Addr) (cl : List (Str × Addr)) (fp : List Addr), TsE (X.blk s H scope (compEnvC scope cl C X.env) fp) ifs t)
    (hi1 : ∀ (s : Shared) (H : Hp) (C : Addr) (cl : List (Str × Addr)) (fp : List Addr), IE (X.blk s H scope (compEnvC scope cl C X.env) fp) tg1 iter1 src1)
    (hg1 : ∀ (s : Shared) (H : Hp) (C : Addr) (cl : List (Str × Addr)) (fp : List Addr), TG' (X.blk s H scope (compEnvC scope cl C X.env) fp) (fxOf vs1) tg1 g1) (ht1 : ∀ (s : Shared) (H : Hp) (C : Addr) (cl : List (Str × Addr)) (fp : List Addr), TsE (X.blk s H scope (compEnvC scope cl C X.env) fp) ifs1 t1)
    (he : ∀ (s : Shared) (H : Hp) (C : Addr) (cl : List (Str × Addr)) (fp : List Addr), SE (X.blk s H scope (compEnvC scope cl C X.env) fp) elt f) (hsw : swapsWith (.ListComp elt [⟨tg, iter, ifs, 0⟩, ⟨tg1, iter1, ifs1, 0⟩] scope pos) (some (.Name y py)) spos.line X.env = pure true) (hy : X.N[i]? = some y := by rfl) (hyl : X.env.scope.names.lookup y = some .local := by rfl) (hfx : fx i = false := by rfl)
    (hs : ∀ x, foldedSetIterable iter X.env x = pure x := by intro _; rfl) (hs1 : ∀ env x, foldedSetIterable iter1 env x = pure x := by intro _ _; rfl) : SS X fx (.Assign [.Name y py] (.ListComp elt [⟨tg, iter, ifs, 0⟩, ⟨tg1, iter1, ifs1, 0⟩] scope pos) spos) (bndS (compM2 src g t src1 g1 t1 f (own.map (·.2)) vs1) (asgS (setV i))) :=
  PS.imp (ps_setLc2 (wi := tIf X src) (g := tGf X (fxOf (own.map Prod.snd)) g) (tt := tBf X t) (wi1 := tIf X src1) (g1 := tGf X (fxOf vs1) g1) (tt1 := tBf X t1) (te := tOf X f) hc hN hy hyl hsw hi ok hv hg ht hi1 hg1 ht1 he hs hs1) fun D σ H ⟨env, F, rel, h⟩ => lc2_ok hv (Post.tof rel (bndS_ok h) fun o env1 v H1 F1 F2 ro a h => by
    obtain ⟨o', env', G1, G2, ro', rel', d', env2, e, k⟩ := asg_end ro a h
    exact k _ _ (Or G1 G2) (setV_ok e ro' rel' d') (.set hfx) .refl .refl)
end
end TL

set_option maxHeartbeats 1000000
/-! d |= e of dicts with plain keys. -/
namespace TL
open PySem L2 PySem.Spec PyProof.Rows PySem.F
theorem slot_dict_ior : Slot "dict" (dunderI "or") "dict.__ior__" :=
  .of (owner := "dict") (n := "__ior__") (by rw [typeLookup_type, builtinLookup_eq_fast]; kernel_rfl) (by decide +kernel) (by decide +kernel) (by decide +kernel)
    (by first | exact .inl (by decide +kernel) | exact .inr (by decide +kernel)) (by rw [isSubtype_type]; kernel_rfl)
theorem entry_dict_ior : entryFor table "dict.__ior__" = some Builtin.«dict.__ior__» := entryFor_of_tree (by kernel_rfl)
theorem args_dict_ior_2 (a b : Value) : argsOk "dict.__ior__" ⟨[a, b], []⟩ := by
  unfold argsOk; rw [signature?_of (id := "dict.__ior__") (n := ['_', '_', 'r', 'o', 'i', '_', '_']) (o := ['t', 'c', 'i', 'd']) (by kernel_rfl) owner_dict]; kernel_rfl
theorem ior_road {M : Model} {A : Around} {E : Value → Shared → Prop} {s : Shared} {a b : Value} {Q : Value → Shared → Prop} (ha : s.TypeIs a "dict") (hc : wpAny M A (call (.builtin "dict.__ior__") [a, b]) (fun v s' => v ≠ .notImplemented ∧ Q v s') E s) : wpAny M A (inplaceOp .BitOr a b) Q E s := by
  have hsl : typeLookup (.type "dict") (dunderI "or") = pure (some (.builtin "dict.__ior__")) := slot_dict_ior.lookup
  have hsq : isSeqSlot (some (.builtin "dict.__ior__")) = false := by decide +kernel
  have hfi : fillsInplaceSlot (.type "dict") "or" (Operator.BitOr == .Add) = pure true := by
    unfold fillsInplaceSlot
    show (typeLookup (.type "dict") (dunderI "or") >>= fun fi => pure (fi.isSome && !isSeqSlot fi)) = pure true
    rw [hsl]
    show (pure (true && !isSeqSlot (some (.builtin "dict.__ior__"))) : Sem Bool) = pure true
    rw [hsq] <;> rfl
  unfold inplaceOp
  refine wpAny_holding ?_
  refine wpAny_bind (wpAny_typeOf ha (wpAny_bind (wpAny_of_eq hfi ?_)))
  show wpAny M A (if true = true then _ else _) Q E s
  rw [if_pos rfl]
  refine wpAny_bind (wpAny_tryMethod_slot ha slot_dict_ior (wpAny_mono hc (fun v s' h' => ⟨h'.1, ?_⟩) fun _ _ h => h))
  exact wpAny_bind (wpAny_rule (wpAny_pure h'.2))
section
variable {X : Cx}
def ipOr : TIp := fun x y H Q => ∃ a b kvs more, x = .ref a ∧ y = .ref b ∧ a ≠ b ∧ H a = some (.dK kvs) ∧ Rd H b (.dK more) ∧ kvs.length + more.length ≤ sizeLine ∧ ((kvs.map (·.1)).Nodup → Q (.ref a) (upd H a (.dK (mergeK kvs more))))
theorem ip_or : PIp X .BitOr ipOr := by
  intro pins s σ H x y v u Q I rx ry ⟨a, b, kvs, more, ex, ey, ne, e1, e2, hz, q⟩
  subst ex ey
  cases rx
  cases ry
  have q := q (dk_nodup I (.inl e1))
  obtain ⟨z, hd, vs, rel, dd⟩ := dk_of I.hok e1
  obtain ⟨z2, hd2, ws, rel2, dd2⟩ := dk_rd I.hok e2
  have hz' : vs.length + ws.length ≤ sizeLine := by rw [← rel.length, ← rel2.length]; exact hz
  refine ior_road dd.typeIs (wpAny_call_entry slot_dict_ior dd.typeIs entry_dict_ior ?_ (args_dict_ior_2 _ _))
  show wpAny _ _ (Builtin.Dict.dictSlotArgs "__ior__" ⟨[.ref a, .ref b], []⟩ >>= _) _ _ s
  refine wpAny_bind ?_
  unfold Builtin.Dict.dictSlotArgs
  refine wpAny_bind (wpAny_notOrdered_dict dd.typeIs ?_)
  show wpAny _ _ (pure (Value.ref a, Value.ref b)) _ _ s
  refine wpAny_pure ?_
  show wpAny _ _ (Builtin.Dict.updateFrom "dict.__ior__" a (.ref b) [] (.ref a)) _ _ s
  unfold Builtin.Dict.updateFrom
  refine wpAny_bind (wpAny_typeOf dd2.typeIs ?_)
  rw [if_neg (by decide)]
  refine wpAny_bind ?_
  unfold Builtin.Dict.merge
  refine wpAny_bind ?_
  unfold Builtin.Dict.readDirectly
  refine wpAny_bind (wpAny_isInstance dd2.typeIs isSubtype_dict_dict ?_)
  simp only [Bool.not_true, Bool.false_eq_true, if_false]
  refine wpAny_bind (wpAny_specialOf dd2.typeIs F.slot_dict_iter.lookup (wpAny_pure ?_))
  simp only [beq_self_eq_true, if_true]
  refine wpAny_bind (wpAny_pure ?_)
  refine wpAny_mergeDict (hsz := hz') ne hd2 dd dd2 fun h' dd' _ hs => ?_
  show wpAny _ _ (Builtin.Dict.addKeywords a [] >>= _) _ _ _
  refine wpAny_bind (wpAny_pure (wpAny_pure ⟨.ref a, rfl, (fun x => nomatch x), ?_⟩))
  have he : ∃ q, h'.get? a = some q := let ⟨q, _, _, hq, _⟩ := dd'; ⟨q, hq⟩
  have hl : (mergeK kvs more).length ≤ sizeLine := Nat.le_trans (length_mergeK more kvs) hz
  exact ⟨.ref a, _, d_write I (by rw [e1]; exact True.intro) hs he (dk_new hl hd (KV.merge rel2 rel) dd'), rfl, q⟩
def mergeO (m : List (Key × O)) (m2 : List (Key × D)) : List (Key × O) := m2.foldl (fun acc p => setK acc p.1 (.d p.2)) m
theorem merge_ro {K : PySem.W.Frag} {H : Hp} {F : Fp} : ∀ {more : List (Key × V)} {m2 : List (Key × D)} {kvs : List (Key × V)} {m : List (Key × O)}, kvs.map (·.1) = m.map (·.1) → (kvs.map (·.1)).Nodup → ROs K H (m.map (·.2)) (kvs.map (·.2)) F → more.map (·.1) = m2.map (·.1) → RDs K H (m2.map (·.2)) (more.map (·.2)) →
    (mergeK kvs more).map (·.1) = (mergeO m m2).map (·.1) ∧ ROs K H ((mergeO m m2).map (·.2)) ((mergeK kvs more).map (·.2)) F
  | [], [], _, _, e, _, r, _, _ => ⟨e, r⟩
  | [], _ :: _, _, _, _, _, _, e2, _ => by cases e2
  | _ :: _, [], _, _, _, _, _, e2, _ => by cases e2
  | (k, v) :: more, (k', x) :: m2, kvs, m, e, nd, r, e2, r2 => by
    simp only [List.map_cons, List.cons.injEq] at e2
    obtain ⟨rfl, e3⟩ := e2
    cases r2 with
    | cons h t =>
      obtain ⟨p1, p2⟩ := put_ro (k := k) e nd r (RO.d (F := nof) h) fun _ _ z => z
      exact merge_ro (more := more) (m2 := m2) p1 (nodup_put nd) (p2.mono fun _ z => z.elim id False.elim) e3 t
def iorK (i : Nat) : O → S := fun o e => match o with
  | .d (.dct m2) => match e[i]? with
    | some (some (.dct m)) => if m.length + m2.length ≤ sizeLine then some (.nx, e.set i (some (.dct (mergeO m m2)))) else none
    | _ => none
  | _ => none
def iorS (i : Nat) (f : M O) : S := fun e => match e[i]? with
  | some (some (.dct _)) => bndS f (iorK i) e
  | _ => none
variable {fx : Nat → Bool}
theorem ss_ior (i : Nat) {x : Str} {e : Expr} {f : M O} {pos pos' : Pos} (hN : X.N.Nodup) (he : SE X e f) (hi : X.N[i]? = some x := by rfl) (hx : Loc X.env.scope x := by first | exact .inl rfl | exact .inr rfl) (hfx : fx i = false := by rfl)
    (hf : X.fn x = true ∨ X.env.scope.names.lookup x = some .local := by first | exact .inl rfl | exact .inr rfl | assumption) : SS X fx (.AugAssign (.Name x pos') .BitOr e pos) (iorS i f) := by
  refine PS.imp (ps_aug hN hi hx he ip_or hf) fun D σ H ⟨env, F, rel, h⟩ => ?_
  unfold iorS at h
  split at h
  · rename_i m0 en
    obtain ⟨v, F1, F2, ev, ro, rel', a, b, d⟩ := rel.take en
    refine ⟨v, ev, Post.tof rel (bndS_ok h) fun o env1 w H1 F1 F2 ro1 a h => ?_⟩
    have h' : PSo X fx D σ H F (iorK i o env1) := h
    unfold iorK at h'
    split at h'
    · rename_i m2
      split at h'
      · rename_i m en1
        split at h'
        · rename_i hl
          obtain ⟨v', G1, G2, ev', ro', rel2, a1, b1, d1⟩ := a.rel.take en1
          rw [ev] at ev'
          cases ev'
          cases ro' with
          | dct hA fA eA rA =>
            rename_i aa kvs
            cases ro1.od with
            | dct hB eB rB =>
              rename_i bb oo more
              have nab : aa ≠ bb := fun z => by subst z; rw [hA] at hB; cases hB
              have l1 : kvs.length = m.length := by have := congrArg List.length eA; simpa using this
              have l2 : more.length = m2.length := by have := congrArg List.length eB; simpa using this
              refine ⟨aa, bb, kvs, more, rfl, rfl, nab, hA, .inr ⟨_, hB⟩, by omega, fun nd => ?_⟩
              have w : Step (fun z => z = aa) H1 (upd H1 aa (.dK (mergeK kvs more))) := Step.wr hA trivial rfl
              obtain ⟨p1, p2⟩ := merge_ro eA nd (rA.step w fun z m n => m.2 n) eB (rB.keep w.pers)
              have ro2 : RO X.K (upd H1 aa (.dK (mergeK kvs more))) (.dct (mergeO m m2)) (.ref aa) G1 := .dct upd_same fA p1 p2
              have rel3 := (rel2.step w fun z m n => d1 z (n ▸ fA) m).back (i := i) (F1 := G1) (by rw [ev]) ro2 d1
              rw [List.set_set] at rel3
              have es : σ.set i (some (V.ref aa)) = σ := by
                have hil : i < σ.length := (List.getElem?_eq_some_iff.mp ev).1
                have hiv : σ[i] = some (V.ref aa) := (List.getElem?_eq_some_iff.mp ev).2
                rw [← hiv]
                exact List.set_getElem_self hil
              show D.nx (σ.set i (some (V.ref aa))) _
              rw [es]
              have ww : Step (Or F1 F2) H1 (upd H1 aa (.dK (mergeK kvs more))) := w.mono fun z m => .inl (.inr (a1 z (m ▸ fA)))
              exact h' _ _ _ rel3 .refl (a.st.trans ww a.sub) fun z p => a.sub z (.inr (p.elim (a1 z) (b1 z)))
        · exact h'.elim
      · exact h'.elim
    · exact h'.elim
  · exact h.elim
end
end TL

set_option maxHeartbeats 1000000
/-! xs[::-1] of a list or a tuple. -/
namespace TL
open PySem L2 PySem.Spec PyProof.Rows
section
variable {prog : Program} {w : World} {A : Around} {E : Value → Shared → Prop} {s : Shared}
theorem adjust_rev (n : Nat) : Builtin.Slice.sliceAdjust none none (-1) (n : Int) = ((n : Int) - 1, -1) := by
  simp [Builtin.Slice.sliceAdjust]
theorem places_rev (n : Nat) : Builtin.Slice.slicePlaces ((n : Int) - 1) (-1) (-1) = n := by
  unfold Builtin.Slice.slicePlaces
  have h1 : ¬ ((-1 : Int) > 0) := by omega
  simp only [h1, if_false, Int.neg_neg, Int.ediv_one]
  split <;> omega
theorem applied_rev {sl : Addr} {vl vu vs : Value} {n : Nat} {Q : Int × Int × Nat → Shared → Prop} (hs : s.heap.IsSliceOf sl vl vu vs) (pl : IsPart vl none) (pu : IsPart vu none) (ps : IsPart vs (some (-1)))
    (h : Q ((n : Int) - 1, -1, n) s) : wpAny (model prog w) A (Builtin.Slice.sliceApplied (.ref sl) (pure (n : Int))) Q E s := by
  obtain ⟨os, hos, hcs, hds⟩ := id hs
  unfold Builtin.Slice.sliceApplied Builtin.Slice.sliceFields
  refine wpAny_bind (wpAny_bind (wpAny_field hos hds (x := vl) rfl (wpAny_bind (wpAny_field hos hds (x := vu) rfl (wpAny_bind (wpAny_field hos hds (x := vs) rfl (wpAny_pure ?_)))))))
  refine wpAny_bind (HT.slicePart_ ps ?_)
  show wpAny _ _ (if ((-1 : Int) == 0) = true then _ else _) _ _ s
  rw [if_neg (by decide)]
  refine wpAny_bind (HT.slicePart_ pl (wpAny_bind (HT.slicePart_ pu (wpAny_bind (wpAny_pure ?_)))))
  show wpAny _ _ (match Builtin.Slice.sliceAdjust none none (-1) (n : Int) with | (lo, hi) => pure (lo, (-1 : Int), Builtin.Slice.slicePlaces lo hi (-1))) _ _ s
  rw [adjust_rev n]
  show wpAny _ _ (pure ((n : Int) - 1, (-1 : Int), Builtin.Slice.slicePlaces ((n : Int) - 1) (-1) (-1))) _ _ s
  rw [places_rev]
  exact wpAny_pure h
theorem pick_rev (xs : Array Value) : ((List.range xs.size).filterMap fun (m : Nat) => xs[((xs.size : Int) - 1 + (m : Int) * -1).toNat]?).toArray = xs.toList.reverse.toArray := by
  rw [← PySem.W.krv_pick]
  unfold slicePick
  rw [PySem.W.krv_bounds]
  show _ = ((sliceRange ((xs.size : Int) - 1) (-1) (-1)).filterMap (xs[·]?)).toArray
  rw [PySem.W.krv_sliceRange]
  have e : (fun (m : Nat) => xs[((xs.size : Int) - 1 + (m : Int) * -1).toNat]?) = (xs[·]?) ∘ fun m : Nat => ((xs.size : Int) - 1 + (m : Int) * -1).toNat := rfl
  rw [e, ← List.filterMap_map]
  congr 2
  apply List.map_congr_left
  intro m hm
  have := List.mem_range.mp hm
  omega
theorem getItem_tuple_rev {t sl : Addr} {items : Array Value} {vl vu vs : Value} {Q : Value → Shared → Prop} (ht : IsTup s.heap t items) (hs : s.heap.IsSliceOf sl vl vu vs) (pl : IsPart vl none) (pu : IsPart vu none) (ps : IsPart vs (some (-1)))
    (h : Q (.ref s.heap.objs.size) { s with heap := s.heap.push { cls := .type "tuple", data := .seq items.toList.reverse.toArray } })
    (hsz : items.size ≤ sizeLine) : wpAny (model prog w) A (getItem (.ref t) (.ref sl)) Q E s := by
  have htake : sizeOk (.seq items.toList.reverse.toArray) := by
    show items.toList.reverse.toArray.size ≤ sizeLine
    rw [List.size_toArray, List.length_reverse, Array.length_toList]
    exact hsz
  obtain ⟨os, hos, hcs, hds⟩ := id hs
  have hTs : s.TypeIs (.ref sl) "slice" := ⟨os, hos, hcs⟩
  unfold getItem
  try with_reducible refine wpAny_holding ?_
  first | refine wpAny_bind (wpAny_pure ?_) | skip
  refine wpAny_bind (wpAny_sequenceKey ht.typeIs (by decide) ?_)
  refine wpAny_bind (wpAny_callSpecial?_slot (name := Str.ofString "__getitem__") ht.typeIs PyProof.Rows.slot_tuple_getitem
    (wpAny_call_entry PyProof.Rows.slot_tuple_getitem ht.typeIs PyProof.Rows.entry_tuple_getitem ?_ (PyProof.Rows.args_tuple_getitem _ _)))
  show wpAny _ _ (Builtin.Tuple.tupleItemsOf (.ref t) >>= _) _ _ s
  refine wpAny_bind (tupleItemsOf_ ht ?_)
  refine wpAny_bind (wpAny_typeOf hTs ?_)
  rw [if_pos (by decide)]
  refine wpAny_bind (applied_rev hs pl pu ps ?_)
  have hno : ¬ ((((items.size : Int) - 1) == 0 && (-1 : Int) == 1 && items.size == items.size) = true) := by
    simp
  show wpAny _ _ (if (((items.size : Int) - 1) == 0 && (-1 : Int) == 1 && items.size == items.size) = true then _ else _) _ _ s
  rw [if_neg hno, pick_rev]
  first
    | exact wpAny_bind (m := Builtin.Tuple.tupleExact _) (wpAny_newObj_type (wpAny_pure ⟨_, rfl, wpAny_pure h⟩) htake)
    | exact wpAny_bind (m := Builtin.Tuple.tupleExact _) (wpAny_newObj_type (wpAny_bind (wpAny_pure (wpAny_pure ⟨_, rfl, wpAny_pure h⟩))) htake)
    | exact wpAny_bind (wpAny_bind (m := Builtin.Tuple.tupleExact _) (wpAny_newObj_type (wpAny_pure (wpAny_pure ⟨_, rfl, wpAny_pure h⟩)) htake))
end
section
variable {X : Cx}
def tRevA (K : PySem.W.Frag) (te : TE) : TE := fun σ H Q => te σ H fun x H1 => ∃ a xs, x = .ref a ∧ ((SqL K H1 a xs ∧ ∀ p, H1 p = none → Q (.ref p) (upd H1 p (.lst xs.reverse))) ∨ (SqT K H1 a xs ∧ ∀ p, H1 p = none → Q (.ref p) (upd H1 p (.tup xs.reverse))))
theorem pe_revA {e : Expr} {te : TE} {k : Nat} {p1 p2 p3 pos : Pos} (he : PE X e te) : PE X (.Subscript e (.Slice none none (some (.UnaryOp .USub (.Constant (.int 1) k p1) p2)) p3) pos) (tRevA X.K te) := by
  refine ⟨fun pins s σ H Q I h => ?_⟩
  refine Subscript_ (thn (he.run pins s σ H _ I h) fun v s1 ⟨x, H1, I1, r1, q1⟩ => ?_)
  obtain ⟨a, xs, ex, q1⟩ := q1
  subst ex
  cases r1
  have hst : PO X (some (.UnaryOp .USub (.Constant (.int 1) k p1) p2)) (tPart (tUn (rU fun i => .int (-i)) (tC (.int 1)))) := po_some (pe_un un_neg pe_int)
  refine wpAny_Slice (thn (po_none.run pins s1 σ H1 (fun o H2 => o = none ∧ H2 = H1) I1 ⟨rfl, rfl⟩) fun vl s2 ⟨l, H2, I2, pl, el, e2⟩ => ?_)
  subst el e2
  refine thn (po_none.run pins s2 σ H2 (fun o H3 => o = none ∧ H3 = H2) I2 ⟨rfl, rfl⟩) fun vu s3 ⟨u, H3, I3, pu, eu, e3⟩ => ?_
  subst eu e3
  refine thn (hst.run pins s3 σ H3 (fun o H4 => o = some (-1) ∧ H4 = H3) I3 ⟨1, rfl, -1, rfl, rfl, rfl⟩) fun vs s4 ⟨o, H4, I4, ps, eo, e4⟩ => ?_
  subst eo e4
  have I5 : Inv X pins σ H4 { s4 with heap := s4.heap.push { cls := .type "slice", data := .fields #[vl, vu, vs] } } := I4.kept (t' := s4.toks) fun b ob q => Heap.get?_push_of_some _ q
  show wpAny (model X.prog X.w) X.A (subscriptTail e (.Slice none none (some (.UnaryOp .USub (.Constant (.int 1) k p1) p2)) p3) (.ref a) (.ref s4.heap.objs.size)) (EP X pins σ Q) X.xe { s4 with heap := s4.heap.push { cls := .type "slice", data := .fields #[vl, vu, vs] } }
  rcases q1 with ⟨hx, q⟩ | ⟨hx, q⟩
  · obtain ⟨its, r, ht, hz⟩ := I5.list hx
    have hlen := r.length
    refine tail_any (ops := [.ref a, .ref s4.heap.objs.size]) ht.isList.typeIs (PySem.slot_list_getitem.lookup) ?_ (by with_unfolding_all rfl)
    refine wpAny_getItem_list_slice ht.isList (Heap.IsSliceOf.new _ vl vu vs) pl pu ps (by decide) ?_ (by rw [List.size_toArray]; omega)
    rw [PySem.W.krv_pick]
    refine ⟨.ref _, _, I5.laid (t' := s4.toks) (o := .lst xs.reverse) (fun b ob q => Heap.get?_push_of_some _ q) (Nat.le_refl _) ?_, rfl, q _ (I5.hok.fresh (Nat.le_refl _))⟩
    exact ⟨by rw [List.length_reverse]; exact hz, _, 0, r.reverse, Heap.get?_push_size _ rfl⟩
  · obtain ⟨its, r, ht, hz⟩ := I5.tuple hx
    have hlen := r.length
    refine tail_any (ops := [.ref a, .ref s4.heap.objs.size]) ht.typeIs PyProof.Rows.slot_tuple_getitem.lookup ?_ (by with_unfolding_all rfl)
    refine getItem_tuple_rev ht (Heap.IsSliceOf.new _ vl vu vs) pl pu ps ?_ (by rw [List.size_toArray]; omega)
    refine ⟨.ref _, _, I5.laid (t' := s4.toks) (o := .tup xs.reverse) (fun b ob q => Heap.get?_push_of_some _ q) (Nat.le_refl _) ?_, rfl, q _ (I5.hok.fresh (Nat.le_refl _))⟩
    exact ⟨by rw [List.length_reverse]; exact hz, _, r.reverse, IsTup.new _ _⟩
def revO (o : O) : Option O := match asT o with
  | some xs => some (.d (.tup xs.reverse))
  | none => match asL o with
    | some xs => some (.lst (xs.reverse.map O.d))
    | none => none
def cRevA (fa : M (O × Option Nat)) : M O := bnd fa fun r => bnd (lift (revO r.1)) fun x => bnd (rst r.2 r.1) fun _ => ret x
theorem se_revA {e : Expr} {fa : M (O × Option Nat)} {k : Nat} {p1 p2 p3 pos : Pos} (ha : OE X e fa) : SE X (.Subscript e (.Slice none none (some (.UnaryOp .USub (.Constant (.int 1) k p1) p2)) p3) pos) (cRevA fa) := by
  refine PE.imp (pe_revA ha) fun σ H Q ⟨env, F, rel, h⟩ => ?_
  refine tOp_bind rel h fun r env1 v H1 F1 F2 ro a g1 h => ?_
  obtain ⟨x, ex, h⟩ := h.lift
  obtain ⟨env2, rel2, h⟩ := rst_ok a.rel ro a.dj g1 h
  have dm : Dom (Or F1 F2) H1 := fun z p => p.elim (a.d1 z) (a.d2 z)
  unfold revO at ex
  cases e1 : asT r.1 with
  | some xs =>
    rw [e1] at ex
    cases ex
    obtain ⟨p, us, rfl, hq, rd⟩ := asT_ok ro e1
    refine ⟨p, us, rfl, .inr ⟨.inl (.inl hq), fun q hp => ?_⟩⟩
    have st : Step nof H1 (upd H1 q (.tup us.reverse)) := .new hp
    exact h (.ref q) _ nof _ (.d (.tup upd_same (rd.rev.keep st.pers))) (rel2.step st fun _ _ z => z) (fun _ p _ => p) (a.st.trans st fun _ z => z.elim) fun z p => p.elim False.elim (a.sub z)
  | none =>
    rw [e1] at ex
    dsimp only at ex
    cases e2 : asL r.1 with
    | none => rw [e2] at ex; cases ex
    | some xs =>
      rw [e2] at ex
      cases ex
      obtain ⟨p, us, rfl, hq, rd⟩ := asL_ok ro e2
      refine ⟨p, us, rfl, .inl ⟨hq, fun q hp => ?_⟩⟩
      obtain ⟨F', r', st, sub⟩ := New.lst (p := q) hp rd.rev
      refine h (.ref q) _ F' _ r' (rel2.step st fun _ _ z => z) (fun z p1 p2 => ?_) (a.st.trans st fun _ z => z.elim) fun z p => ?_
      · obtain ⟨o, e⟩ := dm z p2
        rcases sub z p1 with w | w
        · exact w.elim
        · rw [w] at e; cases e
      · rcases p with p | p
        · exact (sub z p).elim False.elim fun n => .inr (a.st.free n)
        · exact a.sub z p
end
end TL

set_option maxHeartbeats 1000000
/-! list(d.values()). -/
namespace TL
open PySem L2 PySem.Spec PyProof.Rows
section
variable {X : Cx}
def tVw (td : TE) : TE := fun σ H Q => td σ H fun x H1 => ∃ a kvs, x = .ref a ∧ Rd H1 a (.dK kvs) ∧ ∀ p, H1 p = none → Q (.ref p) (upd H1 p (viewO "dict_values" p a))
theorem pe_view {e : Expr} {td : TE} {apos cpos : Pos} (he : PE X e td) (hbase : attributeBase e "values" X.env (eval e X.env) = eval e X.env := by rfl) (hline : (apos.endLine == cpos.line) = true := by rfl) : PE X (.Call (.Attribute e "values" apos) [] [] cpos) (tVw td) := by
  refine ⟨fun pins s σ H Q I h => ?_⟩
  refine wpAny_Call_method (T := "dict") (id := "dict.values") hbase rfl hline F.plainAttrs_dict F.slot_dict_values F.type_dict_values (thn (he.run pins s σ H _ I h) fun u s1 ⟨x, H1, I1, rx, a, kvs, ex, hd, q⟩ => ?_)
  subst ex
  obtain rfl : u = Value.ref a := rx
  obtain ⟨z, lo, vs, rel, dd⟩ := dk_rd I1.hok hd
  refine ⟨dd.typeIs, dd.mapOf.noDict, ?_⟩
  have fin : EP X pins σ Q (.ref s1.heap.objs.size) { s1 with heap := s1.heap.push { cls := .type "dict_values", data := .fields #[.ref a] } } :=
    ⟨.ref s1.heap.objs.size, _, I1.laid (t' := s1.toks) (fun b o q => Heap.get?_push_of_some _ q) (Nat.le_refl _) (viewO_ok (Heap.get?_push_size _ rfl)), rfl, q _ (I1.hok.fresh (Nat.le_refl _))⟩
  show wpAny _ _ (callWith cpos (.builtin "dict.values") [.ref a] [] []) _ X.xe s1
  exact method_meetsIn F.slot_dict_values F.entry_dict_values rfl (PySem.evalArgs_none ⟨rfl, dd.typeIs, F.args_dict_values_1 _, _, meets_dict_values (mixKind X.prog X.w) a lo, ⟨vs, dd⟩, fin⟩)
theorem kv_vals : ∀ {kvs : List (Key × V)} {vs : List (Key × Value)}, KV kvs vs → Vals (kvs.map (·.2)) (vs.map (·.2))
  | _, _, .nil => .nil
  | _, _, .cons h t => .cons h.2 (kv_vals t)
theorem call_listV (hcalm : X.calm = true) : CallR X (.type "list") (fun xs H Q => ∃ (p a : Addr) (kvs : List (Key × V)), xs = [.ref p] ∧ H p = some (viewO "dict_values" p a) ∧ Rd H a (.dK kvs) ∧ ∀ q, H q = none → Q (.ref q) (upd H q (.lst (kvs.map (·.2))))) := by
  intro pins s σ H xs us Q I r q
  obtain ⟨p, a, kvs, ex, hp, hd, q⟩ := q
  subst ex
  obtain ⟨u, eu, rx⟩ := vals1 r
  subst eu
  cases rx
  obtain ⟨z, lo, vs, rel, dd⟩ := dk_rd I.hok hd
  obtain ⟨ep, hat⟩ := dd.dictAt
  have hv : s.heap.get? p = some (DSub.viewOb "dict_values" a) := (rd_of I.hok (.inl hp)).1
  refine PySem.W.kdl_call (PySem.W.kdl_values (knd := mixKind X.prog X.w) (r := p) (d := a) (kvs := vs) (ep := ep)) (I.ok.hd hcalm) ⟨⟨_, hv, rfl, rfl⟩, hat⟩ (by rw [← rel.length]; exact z) fun h' tk acc c' hk hD hacc => ?_
  have ea : acc.toList = vs.map (·.2) := by
    apply List.ext_getElem?
    intro j
    by_cases hj : j < vs.length
    · have hj' : j < acc.size := by rw [hacc.1]; exact hj
      have e1 : acc[j]? = some acc[j] := Array.getElem?_eq_getElem hj'
      obtain ⟨k, hk⟩ := hacc.2 j _ e1
      rw [Array.getElem?_toList, e1, List.getElem?_map, hk]
      rfl
    · rw [List.getElem?_eq_none (by rw [Array.length_toList, hacc.1]; omega), List.getElem?_eq_none (by rw [List.length_map]; omega)]
  have hw : Vals (kvs.map (·.2)) acc.toList := by rw [ea]; exact kv_vals rel
  refine ⟨.ref s.heap.objs.size, upd H s.heap.objs.size (.lst (kvs.map (·.2))), I.laid (t' := tk) hk (Nat.le_refl _)
    (show ObjOk X.prog X.w _ _ _ (.lst (kvs.map (·.2))) from ⟨by rw [List.length_map]; exact z, acc.toList, c', hw, by rw [Array.toArray_toList]; exact hD⟩), rfl, q _ (I.hok.fresh (Nat.le_refl _))⟩
def dvO : O → Option (List D)
  | .d (.dct m) => some (m.map (·.2))
  | _ => none
def cListV (fa : M (O × Option Nat)) : M O := bnd fa fun r => bnd (lift (dvO r.1)) fun ds => bnd (rst r.2 r.1) fun _ => ret (.lst (ds.map O.d))
theorem se_listV {x : Str} {p pos : Pos} {e : Expr} {apos cpos : Pos} {fa : M (O × Option Nat)} (hcalm : X.calm = true) (hg : Gl X x) (hm : X.mg x = none) (hv : bootBuiltins x = some (.type "list")) (ha : OE X e fa) (hbase : attributeBase e "values" X.env (eval e X.env) = eval e X.env := by rfl) (hline : (apos.endLine == cpos.line) = true := by rfl) (hn : x ≠ "__name__" := by decide) (hdb : (x == ("__debug__" : Str)) = false := by decide)
    (he : starEach [.Call (.Attribute e "values" apos) [] [] cpos] X.env = (false, eval (.Call (.Attribute e "values" apos) [] [] cpos) X.env) :: starEach [] X.env := by rfl) (hpl : (backTo pos (starEach [] X.env)).any (·.1) = false := by rfl) :
    SE X (.Call (.Name x p) [.Call (.Attribute e "values" apos) [] [] cpos] [] pos) (cListV fa) := by
  refine PE.imp (pe_callTy (call_listV hcalm) hg hm hv (pa_cons (pe_view ha hbase hline) pa_nil he) hn hdb he hpl) fun σ H Q ⟨env, F, rel, h⟩ => ?_
  refine tOp_bind rel h fun r env1 v H1 F1 F2 ro a g1 h => ?_
  obtain ⟨ds, ex, h⟩ := h.lift
  unfold dvO at ex
  split at ex
  · rename_i m er
    cases ex
    rw [er] at ro h
    obtain ⟨env2, rel2, h⟩ := rst_ok a.rel ro a.dj g1 h
    have dm : Dom (Or F1 F2) H1 := fun z p => p.elim (a.d1 z) (a.d2 z)
    cases ro.od with
    | dct hB eB rB =>
      rename_i b oo kvs
      refine ⟨b, kvs, rfl, .inr ⟨_, hB⟩, fun p hp => ?_⟩
      have s1 : Step nof H1 (upd H1 p (viewO "dict_values" p b)) := .new hp
      have nb : b ≠ p := fun z => by subst z; rw [hp] at hB; cases hB
      refine ⟨p, b, kvs, rfl, upd_same, .inr ⟨oo, by rw [upd_ne nb]; exact hB⟩, fun q hq => ?_⟩
      obtain ⟨F', r', st, sub⟩ := New.lst (p := q) hq (rB.keep s1.pers)
      have dm2 := dm.step s1
      refine h (.ref q) _ F' _ r' ((rel2.step s1 fun _ _ z => z).step st fun _ _ z => z) (fun z p1 p2 => ?_) ((a.st.trans s1 fun _ z => z.elim).trans st fun _ z => z.elim) fun z p => ?_
      · obtain ⟨o, e⟩ := dm2 z p2
        rcases sub z p1 with w | w
        · exact w.elim
        · rw [w] at e; cases e
      · rcases p with p | p
        · refine (sub z p).elim False.elim fun n => .inr ?_
          exact a.st.free (s1.free n)
        · exact a.sub z p
  · cases ex
end
end TL

set_option maxHeartbeats 1000000
/-! A def with defaults, by facts. -/
namespace TL
open PySem L2 PySem.Spec PyProof.Rows
section
variable {K : PySem.W.Frag} {h : Heap} {mg : Str → Option Value}
theorem fdAt_of (X : K.In h) (G : h.Ns mainGlobals mg) {x : Str} {st : Stmt} {dvs : List V} (c : xGlo x K = true) (F : ∃ fd, FunD K x x (defArgs st) (defBody st) (defScope st) dvs [] (pG x K) fd) : FdAt K mg x st dvs := by
  obtain ⟨fd, F⟩ := F
  exact ⟨_, fd, xGlo_ok X G c, F⟩
end
end TL

set_option maxHeartbeats 1000000
/-! a, b = x, y where a name stands in a cell: by a tuple. -/
namespace TL
open PySem L2 PySem.Spec PyProof.Rows
section
variable {X : Cx} {fx : Nat → Bool}
theorem ss_parC (i j : Nat) {x y : Str} {a b : Expr} {f : M (List O)} {px py pt : Pos} {kt k2 pt2} {pos : Pos} (hc : X.calm = true) (hN : X.N.Nodup) (ha : AE X [a, b] f) (hi : X.N[i]? = some x := by rfl) (hj : X.N[j]? = some y := by rfl) (hij : i ≠ j := by decide)
    (hx : Loc X.env.scope x := by first | exact .inl rfl | exact .inr rfl) (hy : Loc X.env.scope y := by first | exact .inl rfl | exact .inr rfl) (hfi : fx i = false := by rfl) (hfj : fx j = false := by rfl)
    (hf1 : X.fn x = true ∨ X.env.scope.names.lookup x = some .local := by first | exact .inl rfl | exact .inr rfl | assumption) (hf2 : X.fn y = true ∨ X.env.scope.names.lookup y = some .local := by first | exact .inl rfl | exact .inr rfl | assumption)
    (hs : swapsWithSole [.Tuple [.Name x px, .Name y py] kt pt] (.Tuple [a, b] k2 pt2) pos.line X.env = pure false := by rfl)
    (hw : swappedStores [.Tuple [.Name x px, .Name y py] kt pt] (.Tuple [a, b] k2 pt2) X.env = pure none := by rfl)
    (h1 : (assignEach [.Tuple [.Name x px, .Name y py] kt pt] X.env).map (·.2) = [assign (.Tuple [.Name x px, .Name y py] kt pt) X.env] := by rfl)
    (hn : (assignEach [.Name x px, .Name y py] X.env).length = 2 := by rfl) (hst : (assignEach [.Name x px, .Name y py] X.env).findIdx? (·.1) = none := by rfl)
    (ha1 : (assignEach (.Name x px :: [.Name y py]) X.env).map (·.2) = assign (.Name x px) X.env :: (assignEach [.Name y py] X.env).map (·.2) := by rfl)
    (ha2 : (assignEach (.Name y py :: []) X.env).map (·.2) = assign (.Name y py) X.env :: (assignEach [] X.env).map (·.2) := by rfl) :
    SS X fx (.Assign [.Tuple [.Name x px, .Name y py] kt pt] (.Tuple [a, b] k2 pt2) pos) (bndS f (parS i j)) :=
  PS.imp (ps_asg (pe_tup ha) (pg_tup hc (pgs_cons (pg_name hN hi hx hf1) (pgs_cons (pg_name hN hj hy hf2) pgs_nil ha2) ha1) hn hst) hs hw h1) fun D σ H ⟨env, F, rel, h⟩ => Post.tlf rel (bndS_ok h) fun os env1 vs H1 F1 F2 ro q h => by
    have h' : PSo X fx D σ H F (parS i j os env1) := h
    unfold parS at h'
    split at h'
    · rename_i o1 o2
      split at h'
      · rename_i hl
        cases ro with
        | cons G1 G2 r1 r2 s1 s2 d =>
          cases r2 with
          | cons G3 G4 r3 r4 s3 s4 d' =>
            cases r4
            rename_i v w
            refine ⟨by rw [sizeLine_eq]; show 2 ≤ 16777216; decide, fun p hp => ⟨p, [v, w], rfl, .inl (.inl upd_same), rfl, v, [w], rfl, w, [], rfl, rfl, ?_⟩⟩
            have st : Step nof H1 (upd H1 p (.tup [v, w])) := .new hp
            have e1 := q.rel.put (i := i) (by rw [← q.rel.length]; exact hl.1) r1 fun x m n => q.dj x (s1 x m) n
            have e2 := e1.put (i := j) (by rw [List.length_set, ← q.rel.length]; exact hl.2) r3 fun x m n => n.elim (fun n => d x n (s3 x m)) fun n => q.dj x (s2 x (s3 x m)) n
            exact h' _ _ _ (e2.step st fun _ _ z => z) ((Fix.set hfi).trans (Fix.set hfj)) (q.st.trans st fun _ z => z.elim) fun x m => m.elim (fun m => q.sub x (.inl (s2 x (s3 x m)))) fun m => m.elim (fun m => q.sub x (.inl (s1 x m))) fun m => q.sub x (.inr m)
      · exact h'.elim
    · exact h'.elim
end
end TL

set_option maxHeartbeats 1000000
/-! A head by facts in several runs. -/
namespace TL
open PySem L2 PySem.Spec PyProof.Rows PySem.W PySem.Calls
def obT (n : Nat) (fn : List DfX) (ex : Exs) (s : SharedT) : AlM := obsMG n fn ex (HandSHeadRun.getT s)
theorem obT_eq {n : Nat} {fn : List DfX} {ex : Exs} (s : SharedT) : obT n fn ex s = (hookM n fn ex).obs s.abs := obsMG_eq (HandSHeadRun.getT_eq s)
theorem obsMK_app {K : PySem.W.Frag} {f1 f2 : List DfX} {e1 e2 : Exs} (h1 : obsMK f1 e1 K = valM f1) (h2 : obsMK f2 e2 K = valM f2) : obsMK (f1 ++ f2) (e1 ++ e2) K = valM (f1 ++ f2) := by
  have a1 : ((f1.all fun d => d.ok K) && e1.all fun f => f K) = true := congrArg (fun z : AlM => z.1) h1
  have a2 : ((f2.all fun d => d.ok K) && e2.all fun f => f K) = true := congrArg (fun z : AlM => z.1) h2
  have b1 : f1.map (fun d => fnX K (d.at_ K)) = f1.map DfX.val := congrArg (fun z : AlM => z.2) h1
  have b2 : f2.map (fun d => fnX K (d.at_ K)) = f2.map DfX.val := congrArg (fun z : AlM => z.2) h2
  obtain ⟨c1, c2⟩ := Bool.and_eq_true_iff.mp a1
  obtain ⟨c3, c4⟩ := Bool.and_eq_true_iff.mp a2
  unfold obsMK valM
  rw [List.all_append, List.all_append, List.map_append, List.map_append, c1, c2, c3, c4, b1, b2]
  rfl
theorem opt_join {σ α β γ δ ε : Type} {r : Option σ} {A : σ → α} {B : σ → β} {o1 : σ → γ} {o2 : σ → δ} {o3 : σ → ε} {a : α} {b : β} {v1 : γ} {v2 : δ} {v3 : ε} (h1 : r.map (fun s => (A s, B s, o1 s)) = some (a, b, v1)) (h2 : r.map (fun s => (A s, B s, o2 s)) = some (a, b, v2)) (h : ∀ s, o1 s = v1 → o2 s = v2 → o3 s = v3) :
    r.map (fun s => (A s, B s, o3 s)) = some (a, b, v3) := by
  cases r with
  | none => cases h1
  | some s =>
    simp only [Option.map_some, Option.some.injEq, Prod.mk.injEq] at h1 h2 ⊢
    exact ⟨h1.1, h1.2.1, h s h1.2.2 h2.2.2⟩
theorem run_join {R : OpenRow} {q : Program} {n M : Nat} {f1 f2 : List DfX} {e1 e2 : Exs} {names : List Str} {w : World} (h1 : HandSHeadRun.RunEq R q (hookM n f1 e1) (obT n f1 e1) M names w) (h2 : HandSHeadRun.RunEq R q (hookM n f2 e2) (obT n f2 e2) M names w) :
    HandSHeadRun.RunEq R q (hookM n (f1 ++ f2) (e1 ++ e2)) (obT n (f1 ++ f2) (e1 ++ e2)) M names w := fun os =>
  opt_join (h1 os) (h2 os) fun _ a b => obsMK_app a b
def xAt (x : Str) (n : Nat) (K : PySem.W.Frag) : Bool := decide (He.ga K x = n)
theorem xAt_ok {K : PySem.W.Frag} {x : Str} {n : Nat} (c : xAt x n K = true) : He.ga K x = n := of_decide_eq_true c
end TL

set_option maxHeartbeats 1000000
/-! len(d) of a dict with tuple keys. -/
namespace TL
open PySem L2 PySem.Spec PyProof.Rows PySem.W
section
variable {prog : Program} {w : World} {A : Around} {E : Value → Shared → Prop} {s : Shared}
theorem len_raw {d : Addr} {es : Array DictEntry} {ep : Nat} {Q : Value → Shared → Prop} (hd : (d == sysModules) = false) (hm : s.heap.DictRaw d es ep) (hfit : (es.size : Int) < 2 ^ 63)
    (h : Q (.int es.size (s.toks + 1)) { s with toks := s.toks + 1 + 1 }) : wpAny (model prog w) A (call (.builtin "len") [.ref d]) Q E s := by
  refine Calls.call_function_entry kind_len plain_len entry_len (args_len1 _) ?_
  unfold Builtin.«len»
  refine wpAny_bind (m := oneArg "len" _) (wpAny_pure ?_)
  refine wpAny_bind (m := callSpecial? (.ref d) (Str.ofString "__len__")) (wpAny_callSpecial?_slot (name := Str.ofString "__len__") hm.typeIs F.slot_dict_len (call_len_raw hd hm ?_))
  show wpAny _ _ _ _ _ { s with toks := s.toks + 1 }
  refine wpAny_bind (wpAny_holding (wpAny_pure ?_))
  refine wpAny_bind (wpAny_letGo ?_)
  show wpAny _ _ (if ((es.size : Nat) : Int) < 0 then _ else _) _ _ _
  rw [if_neg (by omega)]
  show wpAny _ _ (if ((es.size : Nat) : Int) ≥ 2 ^ 63 then _ else _) _ _ _
  rw [if_neg (by omega)]
  exact wpAny_bind (wpAny_mkInt (wpAny_pure ⟨_, rfl, h⟩))
end
section
variable {X : Cx}
theorem call_lenDT : CallR X (.builtin "len") (fun xs H Q => ∃ (a : Addr) (kvs : List (List Key × V)), xs = [.ref a] ∧ Rd H a (.dT kvs) ∧ Q (.int kvs.length) H) := by
  intro pins s σ H xs us Q I r q
  obtain ⟨a, kvs, rfl, hd, q⟩ := q
  obtain ⟨u, rfl, rx⟩ := vals1 r
  cases rx
  obtain ⟨z, lo, ys, kt, o, es, ep, h1, h2, h3, h4, _, _⟩ := dt_rd I.hok hd
  have hl : ys.length = kvs.length := (Paired.length kt).symm
  have esl : es.size = kvs.length := by rw [← Array.length_toList, h4, List.length_map, hl]
  rw [sizeLine_eq] at z
  refine len_raw lo ⟨o, h1, h2, h3⟩ (by omega) ?_
  rw [esl]
  exact ⟨.int kvs.length, H, I.tok _, ⟨_, rfl⟩, q⟩
def gLenDT : List O → Option O := g1 fun x => match dtO x with
  | some ks => some (.d (.int ks.length))
  | none => none
theorem cs_lenDT : CallS X (.builtin "len") gLenDT := .of call_lenDT fun H xs os F o r e => by
  obtain ⟨x, v, G, rfl, rfl, h, q⟩ := g1_of r e
  split at q
  · rename_i ks hk
    cases q
    obtain ⟨a, kvs, rfl, hd, ek⟩ := dtO_ok h hk
    have el : ks.length = kvs.length := by rw [← ek, List.length_map]
    exact ⟨a, kvs, rfl, hd, by rw [el]; exact .d (.int _)⟩
  · cases q
def gLenA : List O → Option O := orC gLen gLenDT
theorem cs_lenA : CallS X (.builtin "len") gLenA := cs_len.or cs_lenDT
end
end TL

set_option maxHeartbeats 1000000
/-! A head by facts: the objects of a range of addresses. -/
namespace TL
open PySem L2 PySem.Spec PyProof.Rows PySem.W PySem.Calls
def asR (lo n : Nat) : List Addr := mainGlobals :: List.range' lo n
def obsRG (lo n : Nat) (fn : List DfX) (ex : Exs) (g : Addr → Option Obj) : AlM := obsMK fn ex (He.frG g (asR lo n))
def hookR (lo n : Nat) (fn : List DfX) (ex : Exs) : PySem.W.Hook where
  α := AlM
  obs := fun s => obsRG lo n fn ex s.heap.get?
  val := fun _ => valM fn
  says := fun _ h => ∃ K : PySem.W.Frag, K.In h ∧ SaysM fn ex K
  of := fun _ _ e => ⟨_, He.frG_in, e⟩
  keeps := fun _ _ _ ⟨K, hK, c⟩ k => ⟨K, PySem.W.Frag.In.keeps hK k, c⟩
def obR (lo n : Nat) (fn : List DfX) (ex : Exs) (s : SharedT) : AlM := obsRG lo n fn ex (HandSHeadRun.getT s)
theorem obR_eq {lo n : Nat} {fn : List DfX} {ex : Exs} (s : SharedT) : obR lo n fn ex s = (hookR lo n fn ex).obs s.abs := by
  have e : HandSHeadRun.getT s = s.abs.heap.get? := funext (HandSHeadRun.getT_eq s)
  show obsRG lo n fn ex (HandSHeadRun.getT s) = obsRG lo n fn ex s.abs.heap.get?
  rw [e]
theorem run_joinR {R : OpenRow} {q : Program} {lo n M : Nat} {f1 f2 : List DfX} {e1 e2 : Exs} {names : List Str} {w : World} (h1 : HandSHeadRun.RunEq R q (hookR lo n f1 e1) (obR lo n f1 e1) M names w) (h2 : HandSHeadRun.RunEq R q (hookR lo n f2 e2) (obR lo n f2 e2) M names w) :
    HandSHeadRun.RunEq R q (hookR lo n (f1 ++ f2) (e1 ++ e2)) (obR lo n (f1 ++ f2) (e1 ++ e2)) M names w := fun os =>
  opt_join (h1 os) (h2 os) fun _ a b => obsMK_app a b
end TL

set_option maxHeartbeats 1000000
/-! sorted(xs) of at most one item. -/
namespace TL
open PySem L2 PySem.Spec PyProof.Rows
section
variable {X : Cx}
def gSorted1 : List O → Option O := g1 fun x => match asL x with
  | some xs => if xs.length ≤ 1 then some (.lst (xs.map O.d)) else none
  | none => none
theorem perm_one {α : Type} {a b : List α} (p : a.Perm b) (h : b.length ≤ 1) : a = b := by
  match b, h with
  | [], _ => exact List.perm_nil.mp p
  | [x], _ => exact List.perm_singleton.mp p
theorem cs_sorted1 : CallS X (.builtin "sorted") gSorted1 := by
  intro pins s σ H xs us os o F I rv r e
  obtain ⟨x, v, G, rfl, rfl, h, q⟩ := g1_of r e
  obtain ⟨u, rfl, rx⟩ := vals1 rv
  split at q
  · rename_i ys hy
    split at q
    · rename_i c
      cases q
      obtain ⟨a, vs, rfl, hs, rd⟩ := asL_ok h hy
      obtain ⟨its, rvs, hl, hz⟩ := I.list hs
      obtain rfl : u = Value.ref a := rx
      have l1 : its.length ≤ 1 := by rw [← rvs.length, ← rd.length]; exact c
      refine Srt.sorted_any hl.isList (by rw [← rvs.length]; exact hz) (fun h2 => by omega) fun out hp => ?_
      obtain rfl := perm_one hp l1
      obtain ⟨ep, he'⟩ := PyProof.Rows.sortedAll_at s.heap out out.toArray
      have hf := I.hok.fresh (Nat.le_succ s.heap.objs.size)
      have J := I.laid (a := s.heap.objs.size + 1) (o := .lst vs) (h' := PyProof.Rows.sortedAll s.heap out out.toArray) (t' := s.toks) (fun _ _ => PyProof.Rows.sortedAll_old) (Nat.le_succ _) ⟨hz, out, ep, rvs, he'⟩
      refine ⟨.ref _, _, J, rfl, fun z => z = s.heap.objs.size + 1, .lst upd_same rfl ((rd.keep (Step.new (F := nof) hf).pers).os), .new hf, fun z e => .inr (e ▸ hf)⟩
    · cases q
  · cases q
def gSortedB : List O → Option O := orC gSortedA gSorted1
theorem cs_sortedB (hc : X.calm = true) (hu : X.A.units + 64 < cLine) : CallS X (.builtin "sorted") gSortedB := (cs_sortedA hc hu).or cs_sorted1
end
end TL

set_option maxHeartbeats 1000000
/-! xs.extend(a new list). -/
namespace TL
open PySem L2
section
variable {X : Cx}
def uExtend : O → List O → Option (O × O) := fun x os => match x, os with
  | .lst xs, [.lst ys] => if xs.length + ys.length ≤ sizeLine then some (.d .non, .lst (xs ++ ys)) else none
  | _, _ => none
theorem mu_extend : MuS X "list.extend" uExtend := by
  intro pins s σ H x xs v us ox os r o' F G I rv rvs r1 r2 d e
  unfold uExtend at e
  split at e
  · rename_i ys zs
    split at e
    · rename_i hz
      cases e
      cases r1 with
      | lst h f q =>
        cases r2 with
        | cons F1 F2 h2 r2 a b _ =>
          cases r2
          cases h2 with
          | lst h' f' q' =>
            have hl := q.length
            have hl' := q'.length
            refine mt_extend pins s σ H _ _ v us _ I rv rvs ⟨_, _, _, _, rfl, rfl, h, h', by omega, ?_⟩
            have st : ∀ o, Step (Or F G) H (upd H _ o) := fun o => Step.wr h trivial (.inl f)
            refine ⟨nof, Or F G, .d .non, ?_, fun _ p _ => p, st _, fun x p => .inl (p.elim False.elim fun z => z)⟩
            have w : ∀ u, Step (fun z => z = _) H (upd H _ u) := fun u => Step.wr (o := u) h trivial rfl
            refine .lst upd_same (.inl f) ((ROs.append (q.step (w _) fun z m n => m.2 n) (q'.step (w _) fun z m n => ?_) fun z m n => d z m.1 (a z n.1)).mono fun z m0 => m0.elim (fun m => ⟨.inl m.1, m.2⟩) fun m2 => ⟨.inr (a z m2.1), fun n => d z (n ▸ f) (a z m2.1)⟩)
            subst n; exact d _ f (a _ m.1)
    · cases e
  · cases e
theorem se_extendN {x : Str} {px : Pos} {e : Expr} {apos cpos : Pos} {fa : M (List O)} (i : Nat) (ha : AE X [e] fa)
    (hN : X.N[i]? = some x := by rfl) (hv : Vis X.env.scope x := by first | exact Or.inl rfl | exact Or.inr (Or.inl rfl) | exact Or.inr (Or.inr rfl)) (hd : (x == ("__debug__" : Str)) = false := by decide) (hcd : (x == ("__classdict__" : Str)) = false := by decide)
    (hbase : attributeBase (.Name x px) "extend" X.env (eval (.Name x px) X.env) = eval (.Name x px) X.env := by rfl)
    (hfew : ((backTo cpos (starEach [e] X.env)).all (fun x => !x.1) && (backToKw cpos (keywordEach [] X.env)).all (fun x => x.1.isSome) && decide ([e].length + ([] : List Keyword).length + (if ([] : List Keyword).isEmpty then 0 else 1) < 30)) = true := by rfl)
    (hline : (apos.endLine == cpos.line) = true := by rfl) (hs : starEach [e] X.env = (false, eval e X.env) :: starEach [] X.env := by rfl) : SE X (.Call (.Attribute (.Name x px) "extend" apos) [e] [] cpos) (cMuN "list" uExtend i fa) :=
  se_muN i (by decide) PySem.F.plainAttrs_list PySem.F.slot_list_extend PySem.F.type_list_extend mu_extend ha hN hv hd hcd hbase hfew hline hs rfl
end
end TL

set_option maxHeartbeats 4000000
namespace K56
open PySem L2 TL PySem.Spec PyProof.Rows
def topS (i : Nat) : Stmt := PySem.Challenge.pw_eachshare_k56_noticing_by_hand.main.body.getD i (.Pass ⟨0, 0, 0, 0⟩)
abbrev s_is_integer : Stmt := topS 4
abbrev s_is_integer_within : Stmt := topS 5
abbrev s_is_name : Stmt := topS 6
abbrev s_are_ascending : Stmt := topS 7
abbrev s_is_names : Stmt := topS 8
abbrev s_is_set : Stmt := topS 9
abbrev s_is_set_of : Stmt := topS 10
abbrev s_is_number_set : Stmt := topS 11
abbrev s_are_deeds : Stmt := topS 26
abbrev s_links_of : Stmt := topS 27
abbrev s_linked_to : Stmt := topS 28
abbrev s_above_of : Stmt := topS 29
abbrev s_sides_of : Stmt := topS 30
abbrev s_House___init__ : Stmt := inClass (topS 31) 0
abbrev s_House_have_none : Stmt := inClass (topS 31) 5
abbrev s_House_apart : Stmt := inClass (topS 31) 4
abbrev s_require_deed : Stmt := topS 34
abbrev s_House_are_apart : Stmt := inClass (topS 31) 7
abbrev s_require_house : Stmt := topS 32
abbrev s_is_row_of : Stmt := topS 36
abbrev s_require_row : Stmt := topS 37
abbrev s_met_states : Stmt := topS 39
abbrev s_state_classes : Stmt := topS 40
abbrev s_least_of : Stmt := topS 41
abbrev s_is_any_deeds : Stmt := topS 51
abbrev s_is_any_machine : Stmt := topS 52
abbrev s_require_few_states : Stmt := topS 53
abbrev s_Wish___init__ : Stmt := inClass (topS 54) 0
abbrev s_require_wish : Stmt := topS 56
abbrev s_require_states : Stmt := topS 58
abbrev s_require_fit : Stmt := topS 60
abbrev s_ends_of : Stmt := topS 62
abbrev s_clashes_of : Stmt := topS 63
abbrev s_breach_of : Stmt := topS 66
abbrev s_require_steady : Stmt := topS 61
abbrev s_joint_past : Stmt := topS 68
abbrev s_state_behind : Stmt := topS 69
abbrev s_view_of : Stmt := topS 70
abbrev s_shortest_rows : Stmt := topS 71
abbrev s_states_far : Stmt := topS 72
abbrev s_require_wished : Stmt := topS 73
abbrev s_is_lasting_of : Stmt := topS 74
abbrev s_require_lasting : Stmt := topS 79
abbrev s_is_missed_at : Stmt := topS 80
abbrev s_first_missed : Stmt := topS 81
abbrev s_knowers_of : Stmt := topS 82
abbrev s_is_within : Stmt := topS 83
abbrev s_noticed_around : Stmt := topS 84
abbrev s_is_noticed : Stmt := topS 85
abbrev s_knowers : Stmt := topS 86
abbrev s_first_notice : Stmt := topS 87
abbrev s_notice_paper : Stmt := topS 88
abbrev s_is_missed : Stmt := topS 89
abbrev s_is_notice_paper : Stmt := topS 90
abbrev s_least_noticed : Stmt := topS 91
abbrev s__law_things : Stmt := topS 93
abbrev s__law_sets_right : Stmt := topS 94
abbrev s__law_first_right : Stmt := topS 95
abbrev s__law_papers_right : Stmt := topS 96
abbrev s_law : Stmt := topS 97
def c_GREATEST : D := (.int 999999999999999999999999999999999999999999999999999999999999)
def c_MAX_LETTERS : D := (.int 8)
def c_MAX_DEEDS : D := (.int 8)
def c_MAX_HANDS : D := (.int 5)
def c_MOST_DEEDS : D := (.int 8)
def c_MAX_GIVEN : D := (.int 100)
def c_MAX_STATES : D := (.int 24)
def c_NOTICED : D := (.str "noticed")
def c_MISSED : D := (.str "missed")
def c_MAX_SETS : D := (.int 200)
/-- the classes' addresses -/
structure Ads where
  House : Addr
  Wish : Addr
/-- what the text has written -/
structure Txt (K : PySem.W.Frag) (mg : Str → Option Value) (A : Ads) : Prop where
  b_all : mg "all" = none
  b_any : mg "any" = none
  b_bool : mg "bool" = none
  b_dict : mg "dict" = none
  b_enumerate : mg "enumerate" = none
  b_int : mg "int" = none
  b_isinstance : mg "isinstance" = none
  b_len : mg "len" = none
  b_list : mg "list" = none
  b_range : mg "range" = none
  b_sorted : mg "sorted" = none
  b_str : mg "str" = none
  b_tuple : mg "tuple" = none
  b_zip : mg "zip" = none
  c_GREATEST : ConAt K mg "GREATEST" c_GREATEST
  c_MAX_LETTERS : ConAt K mg "MAX_LETTERS" c_MAX_LETTERS
  c_MAX_DEEDS : ConAt K mg "MAX_DEEDS" c_MAX_DEEDS
  c_MAX_HANDS : ConAt K mg "MAX_HANDS" c_MAX_HANDS
  c_MOST_DEEDS : ConAt K mg "MOST_DEEDS" c_MOST_DEEDS
  c_MAX_GIVEN : ConAt K mg "MAX_GIVEN" c_MAX_GIVEN
  c_MAX_STATES : ConAt K mg "MAX_STATES" c_MAX_STATES
  c_NOTICED : ConAt K mg "NOTICED" c_NOTICED
  c_MISSED : ConAt K mg "MISSED" c_MISSED
  c_MAX_SETS : ConAt K mg "MAX_SETS" c_MAX_SETS
  cl_House : ClAt K mg "House" A.House
  cl_Wish : ClAt K mg "Wish" A.Wish
  clss : Clss K [A.House, A.Wish]
  fld_House__own_above : ∀ C ∈ [A.House], Cls K C ∧ NoAttr K C "own_above"
  fld_House__own_deeds : ∀ C ∈ [A.House], Cls K C ∧ NoAttr K C "own_deeds"
  fld_House__own_hands : ∀ C ∈ [A.House], Cls K C ∧ NoAttr K C "own_hands"
  fld_House__own_sides : ∀ C ∈ [A.House], Cls K C ∧ NoAttr K C "own_sides"
  fld_Wish__own_deeds : ∀ C ∈ [A.Wish], Cls K C ∧ NoAttr K C "own_deeds"
  fld_Wish__own_kept : ∀ C ∈ [A.Wish], Cls K C ∧ NoAttr K C "own_kept"
  fld_Wish__own_numbers : ∀ C ∈ [A.Wish], Cls K C ∧ NoAttr K C "own_numbers"
  fld_Wish__own_targets : ∀ C ∈ [A.Wish], Cls K C ∧ NoAttr K C "own_targets"
  f_is_integer : FnAt K mg "is_integer" s_is_integer
  f_is_integer_within : FnAt K mg "is_integer_within" s_is_integer_within
  f_is_name : FnAt K mg "is_name" s_is_name
  f_are_ascending : FnAt K mg "are_ascending" s_are_ascending
  f_is_names : FnAt K mg "is_names" s_is_names
  f_is_set : FnAt K mg "is_set" s_is_set
  f_is_set_of : FnAt K mg "is_set_of" s_is_set_of
  f_is_number_set : FnAt K mg "is_number_set" s_is_number_set
  f_are_deeds : FnAt K mg "are_deeds" s_are_deeds
  f_links_of : FnAt K mg "links_of" s_links_of
  f_linked_to : FnAt K mg "linked_to" s_linked_to
  f_above_of : FnAt K mg "above_of" s_above_of
  f_sides_of : FnAt K mg "sides_of" s_sides_of
  f_House___init__ : MeAt K A.House "__init__" "House.__init__" s_House___init__
  f_House_have_none : MeAt K A.House "have_none" "House.have_none" s_House_have_none
  f_House_apart : PrAt K A.House "apart" "House.apart" s_House_apart
  f_require_deed : FnAt K mg "require_deed" s_require_deed
  f_House_are_apart : MeAt K A.House "are_apart" "House.are_apart" s_House_are_apart
  f_require_house : FnAt K mg "require_house" s_require_house
  f_is_row_of : FnAt K mg "is_row_of" s_is_row_of
  f_require_row : FnAt K mg "require_row" s_require_row
  f_met_states : FnAt K mg "met_states" s_met_states
  f_state_classes : FnAt K mg "state_classes" s_state_classes
  f_least_of : FdAt K mg "least_of" s_least_of [V.int (0)]
  f_is_any_deeds : FnAt K mg "is_any_deeds" s_is_any_deeds
  f_is_any_machine : FnAt K mg "is_any_machine" s_is_any_machine
  f_require_few_states : FnAt K mg "require_few_states" s_require_few_states
  f_Wish___init__ : MeAt K A.Wish "__init__" "Wish.__init__" s_Wish___init__
  f_require_wish : FnAt K mg "require_wish" s_require_wish
  f_require_states : FnAt K mg "require_states" s_require_states
  f_require_fit : FnAt K mg "require_fit" s_require_fit
  f_ends_of : FnAt K mg "ends_of" s_ends_of
  f_clashes_of : FnAt K mg "clashes_of" s_clashes_of
  f_breach_of : FnAt K mg "breach_of" s_breach_of
  f_require_steady : FnAt K mg "require_steady" s_require_steady
  f_joint_past : FnAt K mg "joint_past" s_joint_past
  f_state_behind : FdAt K mg "state_behind" s_state_behind [V.int (0)]
  f_view_of : FnAt K mg "view_of" s_view_of
  f_shortest_rows : FnAt K mg "shortest_rows" s_shortest_rows
  f_states_far : FnAt K mg "states_far" s_states_far
  f_require_wished : FnAt K mg "require_wished" s_require_wished
  f_is_lasting_of : FnAt K mg "is_lasting_of" s_is_lasting_of
  f_require_lasting : FnAt K mg "require_lasting" s_require_lasting
  f_is_missed_at : FnAt K mg "is_missed_at" s_is_missed_at
  f_first_missed : FnAt K mg "first_missed" s_first_missed
  f_knowers_of : FnAt K mg "knowers_of" s_knowers_of
  f_is_within : FnAt K mg "is_within" s_is_within
  f_noticed_around : FnAt K mg "noticed_around" s_noticed_around
  f_is_noticed : FnAt K mg "is_noticed" s_is_noticed
  f_knowers : FnAt K mg "knowers" s_knowers
  f_first_notice : FnAt K mg "first_notice" s_first_notice
  f_notice_paper : FnAt K mg "notice_paper" s_notice_paper
  f_is_missed : FnAt K mg "is_missed" s_is_missed
  f_is_notice_paper : FnAt K mg "is_notice_paper" s_is_notice_paper
  f_least_noticed : FnAt K mg "least_noticed" s_least_noticed
  f__law_things : FnAt K mg "_law_things" s__law_things
  f__law_sets_right : FnAt K mg "_law_sets_right" s__law_sets_right
  f__law_first_right : FnAt K mg "_law_first_right" s__law_first_right
  f__law_papers_right : FnAt K mg "_law_papers_right" s__law_papers_right
  f_law : FnAt K mg "law" s_law
variable {P : Program} {w : World} {K : PySem.W.Frag} {mg : Str → Option Value} {base : Heap} {A : Ads}
theorem sc_is_integer : FnScope ["value"] ["value"] (defScope s_is_integer) := ⟨rfl, rfl, rfl, by decide +kernel, rfl, by decide +kernel, by decide +kernel⟩
def b_is_integer : S :=
  (bndS (vAnd (cCall gIsi (consO (tmp (nf 0)) (consO (tmp (con (.ty "int"))) nilO))) (vAnd (vB (cNot (asB (cCall gIsi (consO (tmp (nf 0)) (consO (tmp (con (.ty "bool"))) nilO)))))) (cChain gLe gLe (cNeg (con c_GREATEST)) (nf 0) (con c_GREATEST)))) retS)
def g_is_integer : List O → Option (O × TL.Env) := fnG 1 1 (fxL []) (b_is_integer)
theorem ok_is_integer (T : Txt K mg A) : OkF P w K mg base 1 "is_integer" ["value"] (g_is_integer) := by
  refine okf_mk 1 1 T.f_is_integer sc_is_integer rfl rfl (fun _ _ _ _ _ _ us hl => match us, hl with | [_], _ => rfl) fun f cdv A outer s H E hr hgd => ?_
  exact (sb_one (ss_ret (se_and (se_callB cs_isi rfl T.b_isinstance rfl (ao_cons (oe_of (se_nf 0)) (ao_cons (oe_of (se_bltn rfl T.b_int rfl)) ao_nil))) (se_and (se_not (se_callB cs_isi rfl T.b_isinstance rfl (ao_cons (oe_of (se_nf 0)) (ao_cons (oe_of (se_bltn rfl T.b_bool rfl)) ao_nil)))) (se_one (se_chain os_le os_le (se_neg (se_gl T.c_GREATEST)) (se_nf 0) (se_gl T.c_GREATEST)))))))
theorem sc_is_integer_within : FnScope ["value", "low", "high"] ["value", "low", "high"] (defScope s_is_integer_within) := ⟨rfl, rfl, rfl, by decide +kernel, rfl, by decide +kernel, by decide +kernel⟩
def b_is_integer_within : S :=
  (bndS (vAnd (cFn (g_is_integer) (consO (tmp (nf 0)) nilO)) (cChain gLe gLe (nf 1) (nf 0) (nf 2))) retS)
def g_is_integer_within : List O → Option (O × TL.Env) := fnG 3 3 (fxL []) (b_is_integer_within)
theorem ok_is_integer_within (T : Txt K mg A) : OkF P w K mg base 2 "is_integer_within" ["value", "low", "high"] (g_is_integer_within) := by
  refine okf_mk 3 3 T.f_is_integer_within sc_is_integer_within rfl rfl (fun _ _ _ _ _ _ us hl => match us, hl with | [_, _, _], _ => rfl) fun f cdv A outer s H E hr hgd => ?_
  exact (sb_one (ss_ret (se_and (se_ok (ok_is_integer T) (hr.mono (by decide)) hgd (ao_cons (oe_of (se_nf 0)) ao_nil)) (se_one (se_chain os_le os_le (se_nf 1) (se_nf 0) (se_nf 2))))))
theorem sc_is_name : FnScope ["value", "letter"] ["value"] (defScope s_is_name) := ⟨rfl, rfl, rfl, by decide +kernel, rfl, by decide +kernel, by decide +kernel⟩
def q_is_name_0 : M O := (compM (cIt (tmp (nf 0))) (setV 1) (ret true) (cChain gLe gLe (con (.str "a")) (nf 1) (con (.str "z"))) [1])
def b_is_name : S :=
  (seqS (ifS (cOr (cNot (asB (cCall gIsi (consO (tmp (nf 0)) (consO (tmp (con (.ty "str"))) nilO))))) (cNot (asB (cChain gLe gLe (con (.int 1)) (cCall gLenA (consO (tmp (nf 0)) nilO)) (con c_MAX_LETTERS))))) (bndS (con (.bl false)) retS) nilS)
  (bndS (cCall gAll (consO (tmp (q_is_name_0)) nilO)) retS))
def g_is_name : List O → Option (O × TL.Env) := fnG 1 2 (fxL []) (b_is_name)
theorem ok_is_name (T : Txt K mg A) : OkF P w K mg base 1 "is_name" ["value"] (g_is_name) := by
  refine okf_mk 1 2 T.f_is_name sc_is_name rfl rfl (fun _ _ _ _ _ _ us hl => match us, hl with | [_], _ => rfl) fun f cdv A outer s H E hr hgd => ?_
  exact (sb_cons (ss_if (be_bw (bw_or (be_not (be_val (se_callB cs_isi rfl T.b_isinstance rfl (ao_cons (oe_of (se_nf 0)) (ao_cons (oe_of (se_bltn rfl T.b_str rfl)) ao_nil))))) (bw_or1 (be_not (be_chain os_le os_le se_int (se_callB cs_lenA rfl T.b_len rfl (ao_cons (oe_of (se_nf 0)) ao_nil)) (se_gl T.c_MAX_LETTERS)))))) (sb_one (ss_ret se_bl)) sb_nil)
  (sb_one (ss_ret (se_callB (cs_all rfl) rfl T.b_all rfl (ao_cons (oe_of (se_lc (own := [("letter", 1)]) rfl sc_is_name.nd (blkOk_by (by kernel_rfl)) (ie_val (oe_of (se_nf 0))) (fun _ _ _ _ _ => (tg_name 1 sc_is_name.nd)) (fun _ _ _ _ _ => ts_nil) (fun _ _ _ _ _ => (se_chain os_le os_le se_str (se_nf 1) se_str)))) ao_nil)))))
theorem sc_are_ascending : FnScope ["values", "one", "other"] ["values"] (defScope s_are_ascending) := ⟨rfl, rfl, rfl, by decide +kernel, rfl, by decide +kernel, by decide +kernel⟩
def q_are_ascending_0 : M O := (compM (cZip2 (consM (nf 0) (consM (fz (cSl (tmp (nf 0)) (asI (con (.int 1))) (ret none))) nilM))) (unpG (consG (setV 1) (consG (setV 2) nilG))) (ret true) (cBin gLt (tmp (nf 1)) (tmp (nf 2))) [1, 2])
def b_are_ascending : S :=
  (bndS (cCall gAll (consO (tmp (q_are_ascending_0)) nilO)) retS)
def g_are_ascending : List O → Option (O × TL.Env) := fnG 1 3 (fxL []) (b_are_ascending)
theorem ok_are_ascending (T : Txt K mg A) : OkF P w K mg base 1 "are_ascending" ["values"] (g_are_ascending) := by
  refine okf_mk 1 3 T.f_are_ascending sc_are_ascending rfl rfl (fun _ _ _ _ _ _ us hl => match us, hl with | [_], _ => rfl) fun f cdv A outer s H E hr hgd => ?_
  exact (sb_one (ss_ret (se_callB (cs_all rfl) rfl T.b_all rfl (ao_cons (oe_of (se_lc (own := [("one", 1), ("other", 2)]) rfl sc_are_ascending.nd (blkOk_by (by kernel_rfl)) (ie_zip2 rfl T.b_zip (ae_cons (se_nf 0) (ae_cons (se_fz (se_slice (oe_of (se_nf 0)) (pt_some se_int) pt_none')) ae_nil))) (fun _ _ _ _ _ => (tg_unp rfl (tgs_cons (tg_name 1 sc_are_ascending.nd) (tgs_cons (tg_name 2 sc_are_ascending.nd) tgs_nil)) (gs_lenS (gs_lenS gs_len0)))) (fun _ _ _ _ _ => ts_nil) (fun _ _ _ _ _ => (se_cmp os_lt (oe_of (se_nf 1)) (oe_of (se_nf 2)) (nomark _))))) ao_nil))))
theorem sc_is_names : FnScope ["value", "name"] ["value"] (defScope s_is_names) := ⟨rfl, rfl, rfl, by decide +kernel, rfl, by decide +kernel, by decide +kernel⟩
def q_is_names_0 : M O := (compM (cIt (tmp (nf 0))) (setV 1) (ret true) (fz (cFn (g_is_name) (consO (tmp (nf 1)) nilO))) [1])
def b_is_names : S :=
  (bndS (vAnd (cCall gIsi (consO (tmp (nf 0)) (consO (tmp (con (.ty "tuple"))) nilO))) (cCall gAll (consO (tmp (q_is_names_0)) nilO))) retS)
def g_is_names : List O → Option (O × TL.Env) := fnG 1 2 (fxL []) (b_is_names)
theorem ok_is_names (T : Txt K mg A) : OkF P w K mg base 2 "is_names" ["value"] (g_is_names) := by
  refine okf_mk 1 2 T.f_is_names sc_is_names rfl rfl (fun _ _ _ _ _ _ us hl => match us, hl with | [_], _ => rfl) fun f cdv A outer s H E hr hgd => ?_
  exact (sb_one (ss_ret (se_and (se_callB cs_isi rfl T.b_isinstance rfl (ao_cons (oe_of (se_nf 0)) (ao_cons (oe_of (se_bltn rfl T.b_tuple rfl)) ao_nil))) (se_one (se_callB (cs_all rfl) rfl T.b_all rfl (ao_cons (oe_of (se_lc (own := [("name", 1)]) rfl sc_is_names.nd (blkOk_by (by kernel_rfl)) (ie_val (oe_of (se_nf 0))) (fun _ _ _ _ _ => (tg_name 1 sc_is_names.nd)) (fun _ _ _ _ _ => ts_nil) (fun _ _ _ _ _ => (se_fz (se_ok (ok_is_name T) (hr.mono (by decide)) hgd (ao_cons (oe_of (se_nf 1)) ao_nil)))))) ao_nil))))))
theorem sc_is_set : FnScope ["value"] ["value"] (defScope s_is_set) := ⟨rfl, rfl, rfl, by decide +kernel, rfl, by decide +kernel, by decide +kernel⟩
def b_is_set : S :=
  (bndS (vAnd (cFn (g_is_names) (consO (tmp (nf 0)) nilO)) (cFn (g_are_ascending) (consO (tmp (nf 0)) nilO))) retS)
def g_is_set : List O → Option (O × TL.Env) := fnG 1 1 (fxL []) (b_is_set)
theorem ok_is_set (T : Txt K mg A) : OkF P w K mg base 3 "is_set" ["value"] (g_is_set) := by
  refine okf_mk 1 1 T.f_is_set sc_is_set rfl rfl (fun _ _ _ _ _ _ us hl => match us, hl with | [_], _ => rfl) fun f cdv A outer s H E hr hgd => ?_
  exact (sb_one (ss_ret (se_and (se_ok (ok_is_names T) (hr.mono (by decide)) hgd (ao_cons (oe_of (se_nf 0)) ao_nil)) (se_one (se_ok (ok_are_ascending T) (hr.mono (by decide)) hgd (ao_cons (oe_of (se_nf 0)) ao_nil))))))
theorem sc_is_set_of : FnScope ["value", "names", "name"] ["value", "names"] (defScope s_is_set_of) := ⟨rfl, rfl, rfl, by decide +kernel, rfl, by decide +kernel, by decide +kernel⟩
def q_is_set_of_0 : M O := (compM (cIt (tmp (nf 0))) (setV 2) (ret true) (cBin (gInA false) (tmp (nf 2)) (tmp (nf 1))) [2])
def b_is_set_of : S :=
  (bndS (vAnd (cFn (g_is_set) (consO (tmp (nf 0)) nilO)) (cCall gAll (consO (tmp (q_is_set_of_0)) nilO))) retS)
def g_is_set_of : List O → Option (O × TL.Env) := fnG 2 3 (fxL []) (b_is_set_of)
theorem ok_is_set_of (T : Txt K mg A) : OkF P w K mg base 4 "is_set_of" ["value", "names"] (g_is_set_of) := by
  refine okf_mk 2 3 T.f_is_set_of sc_is_set_of rfl rfl (fun _ _ _ _ _ _ us hl => match us, hl with | [_, _], _ => rfl) fun f cdv A outer s H E hr hgd => ?_
  exact (sb_one (ss_ret (se_and (se_ok (ok_is_set T) (hr.mono (by decide)) hgd (ao_cons (oe_of (se_nf 0)) ao_nil)) (se_one (se_callB (cs_all rfl) rfl T.b_all rfl (ao_cons (oe_of (se_lc (own := [("name", 2)]) rfl sc_is_set_of.nd (blkOk_by (by kernel_rfl)) (ie_val (oe_of (se_nf 0))) (fun _ _ _ _ _ => (tg_name 2 sc_is_set_of.nd)) (fun _ _ _ _ _ => ts_nil) (fun _ _ _ _ _ => (se_cmp (os_inA (units65 hr)) (oe_of (se_nf 2)) (oe_of (se_nf 1)) (by with_unfolding_all rfl))))) ao_nil))))))
theorem sc_is_number_set : FnScope ["value", "size", "number"] ["value", "size"] (defScope s_is_number_set) := ⟨rfl, rfl, rfl, by decide +kernel, rfl, by decide +kernel, by decide +kernel⟩
def q_is_number_set_0 : M O := (compM (cIt (tmp (nf 0))) (setV 2) (ret true) (fz (cFn (g_is_integer_within) (consO (tmp (nf 2)) (consO (tmp (con (.int 0))) (consO (tmp (cBin TL.gSub (tmp (nf 1)) (tmp (con (.int 1))))) nilO))))) [2])
def b_is_number_set : S :=
  (seqS (ifS (cOr (cNot (asB (cCall gIsi (consO (tmp (nf 0)) (consO (tmp (con (.ty "tuple"))) nilO))))) (cNot (asB (cCall gAll (consO (tmp (q_is_number_set_0)) nilO))))) (bndS (con (.bl false)) retS) nilS)
  (bndS (cFn (g_are_ascending) (consO (tmp (nf 0)) nilO)) retS))
def g_is_number_set : List O → Option (O × TL.Env) := fnG 2 3 (fxL []) (b_is_number_set)
theorem ok_is_number_set (T : Txt K mg A) : OkF P w K mg base 3 "is_number_set" ["value", "size"] (g_is_number_set) := by
  refine okf_mk 2 3 T.f_is_number_set sc_is_number_set rfl rfl (fun _ _ _ _ _ _ us hl => match us, hl with | [_, _], _ => rfl) fun f cdv A outer s H E hr hgd => ?_
  exact (sb_cons (ss_if (be_bw (bw_or (be_not (be_val (se_callB cs_isi rfl T.b_isinstance rfl (ao_cons (oe_of (se_nf 0)) (ao_cons (oe_of (se_bltn rfl T.b_tuple rfl)) ao_nil))))) (bw_or1 (be_not (be_val (se_callB (cs_all rfl) rfl T.b_all rfl (ao_cons (oe_of (se_lc (own := [("number", 2)]) rfl sc_is_number_set.nd (blkOk_by (by kernel_rfl)) (ie_val (oe_of (se_nf 0))) (fun _ _ _ _ _ => (tg_name 2 sc_is_number_set.nd)) (fun _ _ _ _ _ => ts_nil) (fun _ _ _ _ _ => (se_fz (se_ok (ok_is_integer_within T) (hr.mono (by decide)) hgd (ao_cons (oe_of (se_nf 2)) (ao_cons (oe_of se_int) (ao_cons (oe_of (se_bin os_sub (oe_of (se_nf 1)) (oe_of se_int))) ao_nil)))))))) ao_nil))))))) (sb_one (ss_ret se_bl)) sb_nil)
  (sb_one (ss_ret (se_ok (ok_are_ascending T) (hr.mono (by decide)) hgd (ao_cons (oe_of (se_nf 0)) ao_nil)))))
theorem sc_are_deeds : FnScope ["value", "hands", "some"] ["value", "hands"] (defScope s_are_deeds) := ⟨rfl, rfl, rfl, by decide +kernel, rfl, by decide +kernel, by decide +kernel⟩
def q_are_deeds_0 : M O := (compM (cItB valsD (tmp (nf 0))) (setV 2) (ret true) (fz (vAnd (cFn (g_is_set_of) (consO (tmp (nf 2)) (consO (tmp (nf 1)) nilO))) (cChain gLe gLe (con (.int 1)) (cCall gLenA (consO (tmp (nf 2)) nilO)) (con (.int 2))))) [2])
def b_are_deeds : S :=
  (seqS (ifS (cOr (cNot (asB (cCall gIsi (consO (tmp (nf 0)) (consO (tmp (con (.ty "dict"))) nilO))))) (cNot (asB (cChain gLe gLe (con (.int 1)) (cCall gLenA (consO (tmp (nf 0)) nilO)) (con c_MAX_DEEDS))))) (bndS (con (.bl false)) retS) nilS)
  (bndS (cCall gAll (consO (tmp (q_are_deeds_0)) nilO)) retS))
def g_are_deeds : List O → Option (O × TL.Env) := fnG 2 3 (fxL []) (b_are_deeds)
theorem ok_are_deeds (T : Txt K mg A) : OkF P w K mg base 5 "are_deeds" ["value", "hands"] (g_are_deeds) := by
  refine okf_mk 2 3 T.f_are_deeds sc_are_deeds rfl rfl (fun _ _ _ _ _ _ us hl => match us, hl with | [_, _], _ => rfl) fun f cdv A outer s H E hr hgd => ?_
  exact (sb_cons (ss_if (be_bw (bw_or (be_not (be_val (se_callB cs_isi rfl T.b_isinstance rfl (ao_cons (oe_of (se_nf 0)) (ao_cons (oe_of (se_bltn rfl T.b_dict rfl)) ao_nil))))) (bw_or1 (be_not (be_chain os_le os_le se_int (se_callB cs_lenA rfl T.b_len rfl (ao_cons (oe_of (se_nf 0)) ao_nil)) (se_gl T.c_MAX_DEEDS)))))) (sb_one (ss_ret se_bl)) sb_nil)
  (sb_one (ss_ret (se_callB (cs_all rfl) rfl T.b_all rfl (ao_cons (oe_of (se_lc (own := [("some", 2)]) rfl sc_are_deeds.nd (blkOk_by (by kernel_rfl)) (ie_values (oe_of (se_nf 0))) (fun _ _ _ _ _ => (tg_name 2 sc_are_deeds.nd)) (fun _ _ _ _ _ => ts_nil) (fun _ _ _ _ _ => (se_fz (se_and (se_ok (ok_is_set_of T) (hr.mono (by decide)) hgd (ao_cons (oe_of (se_nf 2)) (ao_cons (oe_of (se_nf 1)) ao_nil))) (se_one (se_chain os_le os_le se_int (se_callB cs_lenA rfl T.b_len rfl (ao_cons (oe_of (se_nf 2)) ao_nil)) se_int))))))) ao_nil)))))
theorem sc_links_of : FnScope ["deeds", "some"] ["deeds"] (defScope s_links_of) := ⟨rfl, rfl, rfl, by decide +kernel, rfl, by decide +kernel, by decide +kernel⟩
def q_links_of_0 : M O := (dcMT (cItB valsD (tmp (nf 0))) (setV 1) (asB (cBin (gEqD false) (tmp (cCall gLenA (consO (tmp (nf 1)) nilO))) (tmp (con (.int 2))))) (nf 1) (con (.bl true)) [1])
def b_links_of : S :=
  (bndS (cCall gTupleA (consO (tmp (cCall gSortedB (consO (tmp (cCall gListB (consO (tmp (q_links_of_0)) nilO))) nilO))) nilO)) retS)
def g_links_of : List O → Option (O × TL.Env) := fnG 1 2 (fxL []) (b_links_of)
theorem ok_links_of (T : Txt K mg A) : OkF P w K mg base 1 "links_of" ["deeds"] (g_links_of) := by
  refine okf_mk 1 2 T.f_links_of sc_links_of rfl rfl (fun _ _ _ _ _ _ us hl => match us, hl with | [_], _ => rfl) fun f cdv A outer s H E hr hgd => ?_
  exact (sb_one (ss_ret (se_callTy (cs_tupleA rfl) rfl T.b_tuple rfl (ao_cons (oe_of (se_callB (cs_sortedB rfl hr.units) rfl T.b_sorted rfl (ao_cons (oe_of (se_callTy (cs_listB rfl) rfl T.b_list rfl (ao_cons (oe_of (se_dcT (own := [("some", 1)]) hr.units rfl sc_links_of.nd (blkOk_by (by kernel_rfl)) (ie_values (oe_of (se_nf 0))) (fun _ _ _ _ _ => (tg_name 1 sc_links_of.nd)) (fun _ _ _ _ _ => (ts_one (be_cmp (os_eqD hr.units) (oe_of (se_callB cs_lenA rfl T.b_len rfl (ao_cons (oe_of (se_nf 1)) ao_nil))) (oe_of se_int) (nomark _)))) (fun _ _ _ _ _ => (se_nf 1)) (fun _ _ _ _ _ => se_bl))) ao_nil))) ao_nil))) ao_nil))))
theorem sc_linked_to : FnScope ["links", "hand", "one", "other"] ["links", "hand"] (defScope s_linked_to) := ⟨rfl, rfl, rfl, by decide +kernel, rfl, by decide +kernel, by decide +kernel⟩
def q_linked_to_0 : M O := (compM (cIt (tmp (nf 0))) (unpG (consG (setV 2) (consG (setV 3) nilG))) (asB (cBin (gInA false) (tmp (nf 1)) (tmp (cTup (consM (nf 2) (consM (nf 3) nilM)))))) (fz (cIf (asB (cBin (gEqD false) (tmp (nf 3)) (tmp (nf 1)))) (nf 2) (nf 3))) [2, 3])
def b_linked_to : S :=
  (bndS (cCall gSortedB (consO (tmp (q_linked_to_0)) nilO)) retS)
def g_linked_to : List O → Option (O × TL.Env) := fnG 2 4 (fxL []) (b_linked_to)
theorem ok_linked_to (T : Txt K mg A) : OkF P w K mg base 1 "linked_to" ["links", "hand"] (g_linked_to) := by
  refine okf_mk 2 4 T.f_linked_to sc_linked_to rfl rfl (fun _ _ _ _ _ _ us hl => match us, hl with | [_, _], _ => rfl) fun f cdv A outer s H E hr hgd => ?_
  exact (sb_one (ss_ret (se_callB (cs_sortedB rfl hr.units) rfl T.b_sorted rfl (ao_cons (oe_of (se_lc (own := [("one", 2), ("other", 3)]) rfl sc_linked_to.nd (blkOk_by (by kernel_rfl)) (ie_val (oe_of (se_nf 0))) (fun _ _ _ _ _ => (tg_unp rfl (tgs_cons (tg_name 2 sc_linked_to.nd) (tgs_cons (tg_name 3 sc_linked_to.nd) tgs_nil)) (gs_lenS (gs_lenS gs_len0)))) (fun _ _ _ _ _ => (ts_one (be_cmp (os_inA (units65 hr)) (oe_of (se_nf 1)) (oe_of (se_tup (ae_cons (se_nf 2) (ae_cons (se_nf 3) ae_nil)))) (by with_unfolding_all rfl)))) (fun _ _ _ _ _ => (se_fz (se_if (be_cmp (os_eqD hr.units) (oe_of (se_nf 3)) (oe_of (se_nf 1)) (nomark _)) (se_nf 2) (se_nf 3)))))) ao_nil))))
theorem sc_above_of : FnScope ["hands", "links", "found", "top", "waits", "hand", "other", "tops"] ["hands", "links"] (defScope s_above_of) := ⟨rfl, rfl, rfl, by decide +kernel, rfl, by decide +kernel, by decide +kernel⟩
def lb_above_of_0 : S := (ifS (asB (cBin (gInA true) (tmp (nf 6)) (op 2))) (seqS (bndS (nf 5) (setS uSetA (op 2) (nf 6)))
  (bndS (cMuN "list" uAppend 4 (consM (nf 6) nilM)) dropS)) nilS)
def l_above_of_1 : S := (forS (cIt (tmp (fz (cFn (g_linked_to) (consO (tmp (nf 1)) (consO (tmp (nf 5)) nilO)))))) (setV 6) (lb_above_of_0))
def lb_above_of_2 : S := (seqS (bndS (cMu "list" uPop (op 4) nilM) (asgS (setV 5)))
  (l_above_of_1))
def l_above_of_3 : S := (whileS (asB (cBin (gEqD true) (op 4) (tmp (cLst nilM)))) (lb_above_of_2) 100)
def lb_above_of_4 : S := (ifS (asB (cBin (gInA true) (tmp (nf 3)) (op 2))) (seqS (bndS (con .non) (setS uSetA (op 2) (nf 3)))
  (seqS (bndS (cLst (consM (nf 3) nilM)) (asgS (setV 4)))
  (l_above_of_3))) nilS)
def l_above_of_5 : S := (forS (cIt (tmp (nf 0))) (setV 3) (lb_above_of_4))
def q_above_of_6 : M O := (compM (cIt (tmp (nf 0))) (setV 5) (asB (cBin (gIsN false) (tmp (cBin gIxA (op 2) (tmp (nf 5)))) (tmp (con .non)))) (nf 5) [5])
def b_above_of : S :=
  (seqS (bndS cNewD (asgS (setV 2)))
  (seqS (l_above_of_5)
  (seqS (bndS (q_above_of_6) (asgS (setV 7)))
  (bndS (cIf (asB (cBin (gEqD false) (tmp (cCall gLenA (consO (tmp (nf 1)) nilO))) (tmp (cBin TL.gSub (tmp (cCall gLenA (consO (tmp (nf 0)) nilO))) (tmp (cCall gLenA (consO (tmp (nf 7)) nilO))))))) (mv 2) (con .non)) retS))))
def g_above_of : List O → Option (O × TL.Env) := fnG 2 8 (fxL []) (b_above_of)
theorem ok_above_of (T : Txt K mg A) : OkF P w K mg base 2 "above_of" ["hands", "links"] (g_above_of) := by
  refine okf_mk 2 8 T.f_above_of sc_above_of rfl rfl (fun _ _ _ _ _ _ us hl => match us, hl with | [_, _], _ => rfl) fun f cdv A outer s H E hr hgd => ?_
  exact (sb_cons (ss_set 2 sc_above_of.nd se_newD)
  (sb_cons (ss_for own_cx rfl (ie_val (oe_of (se_nf 0))) (tg_name 3 sc_above_of.nd) (sb_one (ss_if (be_cmp (os_notInA (units65 hr)) (oe_of (se_nf 3)) (oe_name 2) (by with_unfolding_all rfl)) (sb_cons (ss_setIx (ss_uSetA hr.units) se_non (oe_name 2) (se_nf 3))
  (sb_cons (ss_set 4 sc_above_of.nd (se_lst (ae_cons (se_nf 3) ae_nil)))
  (sb_one (ss_while 100 own_cx (be_cmp (os_neD hr.units) (oe_name 4) (oe_of (se_lst ae_nil)) (nomark _)) (sb_cons (ss_set 5 sc_above_of.nd (se_pop0 (oe_name 4)))
  (sb_one (ss_for own_cx rfl (ie_val (oe_of (se_fz (se_ok (ok_linked_to T) (hr.mono (by decide)) hgd (ao_cons (oe_of (se_nf 1)) (ao_cons (oe_of (se_nf 5)) ao_nil)))))) (tg_name 6 sc_above_of.nd) (sb_one (ss_if (be_cmp (os_notInA (units65 hr)) (oe_of (se_nf 6)) (oe_name 2) (by with_unfolding_all rfl)) (sb_cons (ss_setIx (ss_uSetA hr.units) (se_nf 5) (oe_name 2) (se_nf 6))
  (sb_one (ss_expr (se_appendN 4 (ae_cons (se_nf 6) ae_nil))))) sb_nil))))))))) sb_nil)))
  (sb_cons (ss_setLc 7 (own := [("hand", 5)]) rfl sc_above_of.nd (blkOk_by (by kernel_rfl)) (ie_val (oe_of (se_nf 0))) (fun _ _ _ _ _ => (tg_name 5 sc_above_of.nd)) (fun _ _ _ _ _ => (ts_one (be_cmp os_isN (oe_of (se_ix (is_ixA hr.units) (oe_name 2) (oe_of (se_nf 5)))) (oe_of se_non) (nomark _)))) (fun _ _ _ _ _ => (se_nf 5)) (sw_true rfl rfl rfl (by decide +kernel)))
  (sb_one (ss_ret (se_if (be_cmp (os_eqD hr.units) (oe_of (se_callB cs_lenA rfl T.b_len rfl (ao_cons (oe_of (se_nf 1)) ao_nil))) (oe_of (se_bin os_sub (oe_of (se_callB cs_lenA rfl T.b_len rfl (ao_cons (oe_of (se_nf 0)) ao_nil))) (oe_of (se_callB cs_lenA rfl T.b_len rfl (ao_cons (oe_of (se_nf 7)) ao_nil))))) (nomark _)) (se_name 2) se_non))))))
theorem sc_sides_of : FnScope ["above", "found", "hand", "here", "some"] ["above"] (defScope s_sides_of) := ⟨rfl, rfl, rfl, by decide +kernel, rfl, by decide +kernel, by decide +kernel⟩
def q_sides_of_0 : M O := (dcM (cIt (tmp (nf 0))) (setV 2) (ret true) (nf 2) (cLst nilM) [2])
def lb_sides_of_1 : S := (seqS (bndS (cMuK "list" uAppend 1 (nf 3) (consM (nf 2) nilM)) dropS)
  (bndS (cBin gIxA (tmp (nf 0)) (tmp (nf 3))) (asgS (setV 3))))
def l_sides_of_2 : S := (whileS (asB (cBin (gIsN true) (tmp (nf 3)) (tmp (con .non)))) (lb_sides_of_1) 100)
def lb_sides_of_3 : S := (seqS (bndS (nf 2) (asgS (setV 3)))
  (l_sides_of_2))
def l_sides_of_4 : S := (forS (cIt (tmp (nf 0))) (setV 2) (lb_sides_of_3))
def q_sides_of_5 : M O := (dcM (cItB itemsD (tmp (nf 1))) (unpG (consG (setV 2) (consG (setV 4) nilG))) (ret true) (nf 2) (fz (cCall gTupleA (consO (tmp (cCall gSortedB (consO (tmp (nf 4)) nilO))) nilO))) [2, 4])
def b_sides_of : S :=
  (seqS (bndS (q_sides_of_0) (asgS (setV 1)))
  (seqS (l_sides_of_4)
  (bndS (q_sides_of_5) retS)))
def g_sides_of : List O → Option (O × TL.Env) := fnG 1 5 (fxL []) (b_sides_of)
theorem ok_sides_of (T : Txt K mg A) : OkF P w K mg base 1 "sides_of" ["above"] (g_sides_of) := by
  refine okf_mk 1 5 T.f_sides_of sc_sides_of rfl rfl (fun _ _ _ _ _ _ us hl => match us, hl with | [_], _ => rfl) fun f cdv A outer s H E hr hgd => ?_
  exact (sb_cons (ss_setDc 1 (own := [("hand", 2)]) rfl sc_sides_of.nd (blkOk_by (by kernel_rfl)) (ie_val (oe_of (se_nf 0))) (fun _ _ _ _ _ => (tg_name 2 sc_sides_of.nd)) (fun _ _ _ _ _ => ts_nil) (fun _ _ _ _ _ => (se_nf 2)) (fun _ _ _ _ _ => (se_lst ae_nil)) (sw_trueD rfl rfl rfl (by decide +kernel)))
  (sb_cons (ss_for own_cx rfl (ie_val (oe_of (se_nf 0))) (tg_name 2 sc_sides_of.nd) (sb_cons (ss_set 3 sc_sides_of.nd (se_nf 2))
  (sb_one (ss_while 100 own_cx (be_cmp os_notN (oe_of (se_nf 3)) (oe_of se_non) (nomark _)) (sb_cons (ss_expr (se_appendK 1 hr.units (se_nf 3) (ae_cons (se_nf 2) ae_nil)))
  (sb_one (ss_set 3 sc_sides_of.nd (se_ix (is_ixA hr.units) (oe_of (se_nf 0)) (oe_of (se_nf 3))))))))))
  (sb_one (ss_ret (se_dc (own := [("hand", 2), ("some", 4)]) rfl sc_sides_of.nd (blkOk_by (by kernel_rfl)) (ie_items (oe_of (se_nf 1))) (fun _ _ _ _ _ => (tg_unp rfl (tgs_cons (tg_name 2 sc_sides_of.nd) (tgs_cons (tg_name 4 sc_sides_of.nd) tgs_nil)) (gs_lenS (gs_lenS gs_len0)))) (fun _ _ _ _ _ => ts_nil) (fun _ _ _ _ _ => (se_nf 2)) (fun _ _ _ _ _ => (se_fz (se_callTy (cs_tupleA rfl) rfl T.b_tuple rfl (ao_cons (oe_of (se_callB (cs_sortedB rfl hr.units) rfl T.b_sorted rfl (ao_cons (oe_of (se_nf 4)) ao_nil))) ao_nil)))))))))
theorem sc_House___init__ : FnScope ["self", "hands", "deeds", "deed", "above", "hand"] ["self", "hands", "deeds"] (defScope s_House___init__) := ⟨rfl, rfl, rfl, by decide +kernel, rfl, by decide +kernel, by decide +kernel⟩
def q_House___init___0 (A : Ads) : M O := (compM (cIt (tmp (nf 2))) (setV 3) (ret true) (fz (cFn (g_is_name) (consO (tmp (nf 3)) nilO))) [3])
def q_House___init___1 (A : Ads) : M O := (dcM (cIt (tmp (cCall gSortedB (consO (tmp (nf 2)) nilO)))) (setV 3) (ret true) (nf 3) (fz (cBin gIxA (tmp (nf 2)) (tmp (nf 3)))) [3])
def q_House___init___2 (A : Ads) : M O := (dcM (cIt (tmp (nf 1))) (setV 5) (ret true) (nf 5) (fz (cBin gIxA (tmp (nf 4)) (tmp (nf 5)))) [5])
def b_House___init__ (A : Ads) : S :=
  (seqS (ifS (cOr (cNot (asB (cFn (g_is_set) (consO (tmp (nf 1)) nilO)))) (cNot (asB (cChain gLe gLe (con (.int 1)) (cCall gLenA (consO (tmp (nf 1)) nilO)) (con c_MAX_HANDS))))) noS nilS)
  (seqS (ifS (cAnd (asB (cCall gIsi (consO (tmp (nf 2)) (consO (tmp (con (.ty "dict"))) nilO)))) (cNot (asB (cCall gAll (consO (tmp (q_House___init___0 A)) nilO))))) noS nilS)
  (seqS (ifS (cNot (asB (cFn (g_are_deeds) (consO (tmp (nf 2)) (consO (tmp (nf 1)) nilO))))) noS nilS)
  (seqS (bndS (cFn (g_above_of) (consO (tmp (nf 1)) (consO (tmp (cFn (g_links_of) (consO (tmp (nf 2)) nilO))) nilO))) (asgS (setV 4)))
  (seqS (ifS (asB (cBin (gIsN false) (tmp (nf 4)) (tmp (con .non)))) noS nilS)
  (seqS (bndS (fz (nf 1)) (setFS [A.House] "own_hands" 0))
  (seqS (bndS (fz (q_House___init___1 A)) (setFS [A.House] "own_deeds" 0))
  (seqS (bndS (fz (q_House___init___2 A)) (setFS [A.House] "own_above" 0))
  (bndS (fz (cFn (g_sides_of) (consO (tmp (cFld [A.House] "own_above" (op 0))) nilO))) (setFS [A.House] "own_sides" 0))))))))))
def g_House___init__ (A : Ads) : List O → Option (O × TL.Env) := fnG 3 6 (fxL [0]) (b_House___init__ A)
theorem ok_House___init__ (T : Txt K mg A) : OkM P w K mg base 6 A.House "__init__" ["self", "hands", "deeds"] (g_House___init__ A) := by
  refine okm_mk 3 6 T.f_House___init__ sc_House___init__ rfl rfl (fun _ _ _ _ _ _ us hl => match us, hl with | [_, _, _], _ => rfl) fun f cdv A outer s H E hr hgd => ?_
  exact (sb_cons (ss_if (be_bw (bw_or (be_not (be_val (se_ok (ok_is_set T) (hr.mono (by decide)) hgd (ao_cons (oe_of (se_nf 1)) ao_nil)))) (bw_or1 (be_not (be_chain os_le os_le se_int (se_callB cs_lenA rfl T.b_len rfl (ao_cons (oe_of (se_nf 1)) ao_nil)) (se_gl T.c_MAX_HANDS)))))) (sb_one ss_never) sb_nil)
  (sb_cons (ss_if (be_bw (bw_and (be_val (se_callB cs_isi rfl T.b_isinstance rfl (ao_cons (oe_of (se_nf 2)) (ao_cons (oe_of (se_bltn rfl T.b_dict rfl)) ao_nil)))) (bw_and1 (be_not (be_val (se_callB (cs_all rfl) rfl T.b_all rfl (ao_cons (oe_of (se_lc (own := [("deed", 3)]) rfl sc_House___init__.nd (blkOk_by (by kernel_rfl)) (ie_val (oe_of (se_nf 2))) (fun _ _ _ _ _ => (tg_name 3 sc_House___init__.nd)) (fun _ _ _ _ _ => ts_nil) (fun _ _ _ _ _ => (se_fz (se_ok (ok_is_name T) (hr.mono (by decide)) hgd (ao_cons (oe_of (se_nf 3)) ao_nil)))))) ao_nil))))))) (sb_one ss_never) sb_nil)
  (sb_cons (ss_if (be_not (be_val (se_ok (ok_are_deeds T) (hr.mono (by decide)) hgd (ao_cons (oe_of (se_nf 2)) (ao_cons (oe_of (se_nf 1)) ao_nil))))) (sb_one ss_never) sb_nil)
  (sb_cons (ss_set 4 sc_House___init__.nd (se_ok (ok_above_of T) (hr.mono (by decide)) hgd (ao_cons (oe_of (se_nf 1)) (ao_cons (oe_of (se_ok (ok_links_of T) (hr.mono (by decide)) hgd (ao_cons (oe_of (se_nf 2)) ao_nil))) ao_nil))))
  (sb_cons (ss_if (be_cmp os_isN (oe_of (se_nf 4)) (oe_of se_non) (nomark _)) (sb_one ss_never) sb_nil)
  (sb_cons (ss_setFld 0 (T.fld_House__own_hands) (se_nf 1))
  (sb_cons (ss_setFld 0 (T.fld_House__own_deeds) (se_dc (own := [("deed", 3)]) rfl sc_House___init__.nd (blkOk_by (by kernel_rfl)) (ie_val (oe_of (se_callB (cs_sortedB rfl hr.units) rfl T.b_sorted rfl (ao_cons (oe_of (se_nf 2)) ao_nil)))) (fun _ _ _ _ _ => (tg_name 3 sc_House___init__.nd)) (fun _ _ _ _ _ => ts_nil) (fun _ _ _ _ _ => (se_nf 3)) (fun _ _ _ _ _ => (se_fz (se_ix (is_ixA hr.units) (oe_of (se_nf 2)) (oe_of (se_nf 3)))))))
  (sb_cons (ss_setFld 0 (T.fld_House__own_above) (se_dc (own := [("hand", 5)]) rfl sc_House___init__.nd (blkOk_by (by kernel_rfl)) (ie_val (oe_of (se_nf 1))) (fun _ _ _ _ _ => (tg_name 5 sc_House___init__.nd)) (fun _ _ _ _ _ => ts_nil) (fun _ _ _ _ _ => (se_nf 5)) (fun _ _ _ _ _ => (se_fz (se_ix (is_ixA hr.units) (oe_of (se_nf 4)) (oe_of (se_nf 5)))))))
  (sb_one (ss_setFld 0 (T.fld_House__own_sides) (se_ok (ok_sides_of T) (hr.mono (by decide)) hgd (ao_cons (oe_of (se_fld (T.fld_House__own_above) (oe_name 0))) ao_nil))))))))))))
theorem sc_House_have_none : FnScope ["self", "one", "other", "hand"] ["self", "one", "other"] (defScope s_House_have_none) := ⟨rfl, rfl, rfl, by decide +kernel, rfl, by decide +kernel, by decide +kernel⟩
def q_House_have_none_0 (A : Ads) : M O := (compM (cIt (tmp (cBin gIxA (tmp (cFld [A.House] "own_deeds" (tmp (nf 0)))) (tmp (nf 1))))) (setV 3) (ret true) (cBin (gInA true) (tmp (nf 3)) (tmp (cBin gIxA (tmp (cFld [A.House] "own_deeds" (tmp (nf 0)))) (tmp (nf 2))))) [3])
def b_House_have_none (A : Ads) : S :=
  (bndS (cCall gAll (consO (tmp (q_House_have_none_0 A)) nilO)) retS)
def g_House_have_none (A : Ads) : List O → Option (O × TL.Env) := fnG 3 4 (fxL []) (b_House_have_none A)
theorem ok_House_have_none (T : Txt K mg A) : OkM P w K mg base 1 A.House "have_none" ["self", "one", "other"] (g_House_have_none A) := by
  refine okm_mk 3 4 T.f_House_have_none sc_House_have_none rfl rfl (fun _ _ _ _ _ _ us hl => match us, hl with | [_, _, _], _ => rfl) fun f cdv A outer s H E hr hgd => ?_
  exact (sb_one (ss_ret (se_callB (cs_all rfl) rfl T.b_all rfl (ao_cons (oe_of (se_lc (own := [("hand", 3)]) rfl sc_House_have_none.nd (blkOk_by (by kernel_rfl)) (ie_val (oe_of (se_ix (is_ixA hr.units) (oe_of (se_fld (T.fld_House__own_deeds) (oe_of (se_nf 0)))) (oe_of (se_nf 1))))) (fun _ _ _ _ _ => (tg_name 3 sc_House_have_none.nd)) (fun _ _ _ _ _ => ts_nil) (fun _ _ _ _ _ => (se_cmp (os_notInA (units65 hr)) (oe_of (se_nf 3)) (oe_of (se_ix (is_ixA hr.units) (oe_of (se_fld (T.fld_House__own_deeds) (oe_of (se_nf 0)))) (oe_of (se_nf 2)))) (by with_unfolding_all rfl))))) ao_nil))))
theorem sc_House_apart : FnScope ["self", "rows", "one", "other"] ["self"] (defScope s_House_apart) := ⟨rfl, rfl, rfl, by decide +kernel, rfl, by decide +kernel, by decide +kernel⟩
def q_House_apart_0 (A : Ads) : M O := (compM2 (cIt (tmp (cFld [A.House] "own_deeds" (tmp (nf 0))))) (setV 2) (ret true) (cIt (tmp (cFld [A.House] "own_deeds" (tmp (nf 0))))) (setV 3) (asB (cBin gLt (tmp (nf 2)) (tmp (nf 3)))) (fz (cTup (consM (nf 2) (consM (nf 3) nilM)))) [2, 3] [3])
def q_House_apart_1 (A : Ads) : M O := (compM (cIt (tmp (nf 1))) (unpG (consG (setV 2) (consG (setV 3) nilG))) (asB (cMeth A.House "have_none" (g_House_have_none A) (tmp (nf 0)) (consO (tmp (nf 2)) (consO (tmp (nf 3)) nilO)))) (fz (cTup (consM (nf 2) (consM (nf 3) nilM)))) [2, 3])
def b_House_apart (A : Ads) : S :=
  (seqS (bndS (q_House_apart_0 A) (asgS (setV 1)))
  (bndS (cCall gTupleA (consO (tmp (q_House_apart_1 A)) nilO)) retS))
def g_House_apart (A : Ads) : List O → Option (O × TL.Env) := fnG 1 4 (fxL []) (b_House_apart A)
theorem ok_House_apart (T : Txt K mg A) : OkP P w K mg base 3 A.House "apart" ["self"] (g_House_apart A) := by
  refine okp_mk 1 4 T.f_House_apart sc_House_apart rfl rfl (fun _ _ _ _ _ _ us hl => match us, hl with | [_], _ => rfl) fun f cdv A outer s H E hr hgd => ?_
  exact (sb_cons (ss_setLc2 1 (own := [("one", 2), ("other", 3)]) [3] rfl sc_House_apart.nd (blkOk_by (by kernel_rfl)) (by decide) (ie_val (oe_of (se_fld (T.fld_House__own_deeds) (oe_of (se_nf 0))))) (fun _ _ _ _ _ => (tg_name 2 sc_House_apart.nd)) (fun _ _ _ _ _ => ts_nil) (fun _ _ _ _ _ => (ie_val (oe_of (se_fld (T.fld_House__own_deeds) (oe_of (se_nf 0)))))) (fun _ _ _ _ _ => (tg_name 3 sc_House_apart.nd)) (fun _ _ _ _ _ => (ts_one (be_cmp os_lt (oe_of (se_nf 2)) (oe_of (se_nf 3)) (nomark _)))) (fun _ _ _ _ _ => (se_fz (se_tup (ae_cons (se_nf 2) (ae_cons (se_nf 3) ae_nil))))) (sw_true rfl rfl rfl (by decide +kernel)))
  (sb_one (ss_ret (se_callTy (cs_tupleA rfl) rfl T.b_tuple rfl (ao_cons (oe_of (se_lc (own := [("one", 2), ("other", 3)]) rfl sc_House_apart.nd (blkOk_by (by kernel_rfl)) (ie_val (oe_of (se_nf 1))) (fun _ _ _ _ _ => (tg_unp rfl (tgs_cons (tg_name 2 sc_House_apart.nd) (tgs_cons (tg_name 3 sc_House_apart.nd) tgs_nil)) (gs_lenS (gs_lenS gs_len0)))) (fun _ _ _ _ _ => (ts_one (be_val (se_me T.cl_House.cl (ok_House_have_none T) (hr.mono (by decide)) hgd (oe_of (se_nf 0)) (ao_cons (oe_of (se_nf 2)) (ao_cons (oe_of (se_nf 3)) ao_nil)))))) (fun _ _ _ _ _ => (se_fz (se_tup (ae_cons (se_nf 2) (ae_cons (se_nf 3) ae_nil))))))) ao_nil)))))
theorem sc_require_deed : FnScope ["house", "value"] ["house", "value"] (defScope s_require_deed) := ⟨rfl, rfl, rfl, by decide +kernel, rfl, by decide +kernel, by decide +kernel⟩
def b_require_deed (A : Ads) : S :=
  (ifS (cOr (cNot (asB (cCall gIsi (consO (tmp (nf 1)) (consO (tmp (con (.ty "str"))) nilO))))) (asB (cBin (gInA true) (tmp (nf 1)) (tmp (cFld [A.House] "own_deeds" (tmp (nf 0))))))) noS nilS)
def g_require_deed (A : Ads) : List O → Option (O × TL.Env) := fnG 2 2 (fxL []) (b_require_deed A)
theorem ok_require_deed (T : Txt K mg A) : OkF P w K mg base 1 "require_deed" ["house", "value"] (g_require_deed A) := by
  refine okf_mk 2 2 T.f_require_deed sc_require_deed rfl rfl (fun _ _ _ _ _ _ us hl => match us, hl with | [_, _], _ => rfl) fun f cdv A outer s H E hr hgd => ?_
  exact (sb_one (ss_if (be_bw (bw_or (be_not (be_val (se_callB cs_isi rfl T.b_isinstance rfl (ao_cons (oe_of (se_nf 1)) (ao_cons (oe_of (se_bltn rfl T.b_str rfl)) ao_nil))))) (bw_or1 (be_cmp (os_notInA (units65 hr)) (oe_of (se_nf 1)) (oe_of (se_fld (T.fld_House__own_deeds) (oe_of (se_nf 0)))) (by with_unfolding_all rfl))))) (sb_one ss_never) sb_nil))
theorem sc_House_are_apart : FnScope ["self", "one", "other"] ["self", "one", "other"] (defScope s_House_are_apart) := ⟨rfl, rfl, rfl, by decide +kernel, rfl, by decide +kernel, by decide +kernel⟩
def b_House_are_apart (A : Ads) : S :=
  (seqS (bndS (cFn (g_require_deed A) (consO (tmp (nf 0)) (consO (tmp (nf 1)) nilO))) dropS)
  (seqS (bndS (cFn (g_require_deed A) (consO (tmp (nf 0)) (consO (tmp (nf 2)) nilO))) dropS)
  (bndS (cMeth A.House "have_none" (g_House_have_none A) (tmp (nf 0)) (consO (tmp (nf 1)) (consO (tmp (nf 2)) nilO))) retS)))
def g_House_are_apart (A : Ads) : List O → Option (O × TL.Env) := fnG 3 3 (fxL []) (b_House_are_apart A)
theorem ok_House_are_apart (T : Txt K mg A) : OkM P w K mg base 3 A.House "are_apart" ["self", "one", "other"] (g_House_are_apart A) := by
  refine okm_mk 3 3 T.f_House_are_apart sc_House_are_apart rfl rfl (fun _ _ _ _ _ _ us hl => match us, hl with | [_, _, _], _ => rfl) fun f cdv A outer s H E hr hgd => ?_
  exact (sb_cons (ss_expr (se_ok (ok_require_deed T) (hr.mono (by decide)) hgd (ao_cons (oe_of (se_nf 0)) (ao_cons (oe_of (se_nf 1)) ao_nil))))
  (sb_cons (ss_expr (se_ok (ok_require_deed T) (hr.mono (by decide)) hgd (ao_cons (oe_of (se_nf 0)) (ao_cons (oe_of (se_nf 2)) ao_nil))))
  (sb_one (ss_ret (se_me T.cl_House.cl (ok_House_have_none T) (hr.mono (by decide)) hgd (oe_of (se_nf 0)) (ao_cons (oe_of (se_nf 1)) (ao_cons (oe_of (se_nf 2)) ao_nil)))))))
theorem sc_require_house : FnScope ["value"] ["value"] (defScope s_require_house) := ⟨rfl, rfl, rfl, by decide +kernel, rfl, by decide +kernel, by decide +kernel⟩
def b_require_house (A : Ads) : S :=
  (ifS (cNot (asB (cCall (gIsiC [A.House, A.Wish]) (consO (tmp (nf 0)) (consO (tmp (con (.obj A.House))) nilO))))) noS nilS)
def g_require_house (A : Ads) : List O → Option (O × TL.Env) := fnG 1 1 (fxL []) (b_require_house A)
theorem ok_require_house (T : Txt K mg A) : OkF P w K mg base 1 "require_house" ["value"] (g_require_house A) := by
  refine okf_mk 1 1 T.f_require_house sc_require_house rfl rfl (fun _ _ _ _ _ _ us hl => match us, hl with | [_], _ => rfl) fun f cdv A outer s H E hr hgd => ?_
  exact (sb_one (ss_if (be_not (be_val (se_callB (cs_isiC T.clss) rfl T.b_isinstance rfl (ao_cons (oe_of (se_nf 0)) (ao_cons (oe_of (se_cls T.cl_House)) ao_nil))))) (sb_one ss_never) sb_nil))
theorem sc_is_row_of : FnScope ["deeds", "value", "deed"] ["deeds", "value"] (defScope s_is_row_of) := ⟨rfl, rfl, rfl, by decide +kernel, rfl, by decide +kernel, by decide +kernel⟩
def q_is_row_of_0 : M O := (compM (cIt (tmp (nf 1))) (setV 2) (ret true) (fz (vAnd (cCall gIsi (consO (tmp (nf 2)) (consO (tmp (con (.ty "str"))) nilO))) (cBin (gInA false) (tmp (nf 2)) (tmp (nf 0))))) [2])
def b_is_row_of : S :=
  (bndS (vAnd (cCall gIsi (consO (tmp (nf 1)) (consO (tmp (con (.ty "tuple"))) nilO))) (cCall gAll (consO (tmp (q_is_row_of_0)) nilO))) retS)
def g_is_row_of : List O → Option (O × TL.Env) := fnG 2 3 (fxL []) (b_is_row_of)
theorem ok_is_row_of (T : Txt K mg A) : OkF P w K mg base 1 "is_row_of" ["deeds", "value"] (g_is_row_of) := by
  refine okf_mk 2 3 T.f_is_row_of sc_is_row_of rfl rfl (fun _ _ _ _ _ _ us hl => match us, hl with | [_, _], _ => rfl) fun f cdv A outer s H E hr hgd => ?_
  exact (sb_one (ss_ret (se_and (se_callB cs_isi rfl T.b_isinstance rfl (ao_cons (oe_of (se_nf 1)) (ao_cons (oe_of (se_bltn rfl T.b_tuple rfl)) ao_nil))) (se_one (se_callB (cs_all rfl) rfl T.b_all rfl (ao_cons (oe_of (se_lc (own := [("deed", 2)]) rfl sc_is_row_of.nd (blkOk_by (by kernel_rfl)) (ie_val (oe_of (se_nf 1))) (fun _ _ _ _ _ => (tg_name 2 sc_is_row_of.nd)) (fun _ _ _ _ _ => ts_nil) (fun _ _ _ _ _ => (se_fz (se_and (se_callB cs_isi rfl T.b_isinstance rfl (ao_cons (oe_of (se_nf 2)) (ao_cons (oe_of (se_bltn rfl T.b_str rfl)) ao_nil))) (se_one (se_cmp (os_inA (units65 hr)) (oe_of (se_nf 2)) (oe_of (se_nf 0)) (by with_unfolding_all rfl)))))))) ao_nil))))))
theorem sc_require_row : FnScope ["house", "value"] ["house", "value"] (defScope s_require_row) := ⟨rfl, rfl, rfl, by decide +kernel, rfl, by decide +kernel, by decide +kernel⟩
def b_require_row (A : Ads) : S :=
  (ifS (cNot (asB (cFn (g_is_row_of) (consO (tmp (cFld [A.House] "own_deeds" (tmp (nf 0)))) (consO (tmp (nf 1)) nilO))))) noS nilS)
def g_require_row (A : Ads) : List O → Option (O × TL.Env) := fnG 2 2 (fxL []) (b_require_row A)
theorem ok_require_row (T : Txt K mg A) : OkF P w K mg base 2 "require_row" ["house", "value"] (g_require_row A) := by
  refine okf_mk 2 2 T.f_require_row sc_require_row rfl rfl (fun _ _ _ _ _ _ us hl => match us, hl with | [_, _], _ => rfl) fun f cdv A outer s H E hr hgd => ?_
  exact (sb_one (ss_if (be_not (be_val (se_ok (ok_is_row_of T) (hr.mono (by decide)) hgd (ao_cons (oe_of (se_fld (T.fld_House__own_deeds) (oe_of (se_nf 0)))) (ao_cons (oe_of (se_nf 1)) ao_nil))))) (sb_one ss_never) sb_nil))
theorem sc_met_states : FnScope ["targets", "first", "found", "waits", "at", "target"] ["targets", "first"] (defScope s_met_states) := ⟨rfl, rfl, rfl, by decide +kernel, rfl, by decide +kernel, by decide +kernel⟩
def lb_met_states_0 : S := (ifS (asB (cBin (gInA true) (tmp (nf 5)) (op 2))) (seqS (bndS (con (.bl true)) (setS uSetA (op 2) (nf 5)))
  (bndS (cMuN "list" uAppend 3 (consM (nf 5) nilM)) dropS)) nilS)
def l_met_states_1 : S := (forS (cIt (tmp (cBin gIxA (tmp (nf 0)) (tmp (cBin gIxA (op 3) (tmp (nf 4))))))) (setV 5) (lb_met_states_0))
def lb_met_states_2 : S := (seqS (l_met_states_1)
  (augS (· + ·) 4 (con (.int 1))))
def l_met_states_3 : S := (whileS (asB (cBin gLt (tmp (nf 4)) (tmp (cCall gLenA (consO (op 3) nilO))))) (lb_met_states_2) 100)
def b_met_states : S :=
  (seqS (bndS (cDisp [((nf 1), (con (.bl true)))]) (asgS (setV 2)))
  (seqS (bndS (cLst (consM (nf 1) nilM)) (asgS (setV 3)))
  (seqS (bndS (con (.int 0)) (asgS (setV 4)))
  (seqS (l_met_states_3)
  (bndS (mv 3) retS)))))
def g_met_states : List O → Option (O × TL.Env) := fnG 2 6 (fxL []) (b_met_states)
theorem ok_met_states (T : Txt K mg A) : OkF P w K mg base 1 "met_states" ["targets", "first"] (g_met_states) := by
  refine okf_mk 2 6 T.f_met_states sc_met_states rfl rfl (fun _ _ _ _ _ _ us hl => match us, hl with | [_, _], _ => rfl) fun f cdv A outer s H E hr hgd => ?_
  exact (sb_cons (ss_set 2 sc_met_states.nd (se_disp (ds_cons (se_nf 1) se_bl ds_nil)))
  (sb_cons (ss_set 3 sc_met_states.nd (se_lst (ae_cons (se_nf 1) ae_nil)))
  (sb_cons (ss_set 4 sc_met_states.nd se_int)
  (sb_cons (ss_while 100 own_cx (be_cmp os_lt (oe_of (se_nf 4)) (oe_of (se_callB cs_lenA rfl T.b_len rfl (ao_cons (oe_name 3) ao_nil))) (nomark _)) (sb_cons (ss_for own_cx rfl (ie_val (oe_of (se_ix (is_ixA hr.units) (oe_of (se_nf 0)) (oe_of (se_ix (is_ixA hr.units) (oe_name 3) (oe_of (se_nf 4))))))) (tg_name 5 sc_met_states.nd) (sb_one (ss_if (be_cmp (os_notInA (units65 hr)) (oe_of (se_nf 5)) (oe_name 2) (by with_unfolding_all rfl)) (sb_cons (ss_setIx (ss_uSetA hr.units) se_bl (oe_name 2) (se_nf 5))
  (sb_one (ss_expr (se_appendN 3 (ae_cons (se_nf 5) ae_nil))))) sb_nil)))
  (sb_one (ss_augI ip_add 4 sc_met_states.nd se_int))))
  (sb_one (ss_ret (se_name 3)))))))
theorem sc_state_classes : FnScope ["targets", "kept", "states", "marks", "state", "size", "signs", "target", "numbers", "at", "sign"] ["targets", "kept", "states"] (defScope s_state_classes) := ⟨rfl, rfl, rfl, by decide +kernel, rfl, by decide +kernel, by decide +kernel⟩
def q_state_classes_0 : M O := (dcM (cIt (tmp (nf 2))) (setV 4) (ret true) (nf 4) (fz (cCall gToInt (consO (tmp (cBin (gInA false) (tmp (nf 4)) (tmp (nf 1)))) nilO))) [4])
def q_state_classes_1 : M O := (compM (cIt (tmp (cBin gIxA (tmp (nf 0)) (tmp (nf 4))))) (setV 7) (ret true) (fz (cBin gIxA (tmp (nf 3)) (tmp (nf 7)))) [7])
def q_state_classes_2 : M O := (dcM (cIt (tmp (nf 2))) (setV 4) (ret true) (nf 4) (fz (cTup (consM (fz (cBin gIxA (tmp (nf 3)) (tmp (nf 4)))) (starM (tmp (q_state_classes_1)) nilM)))) [4])
def q_state_classes_3 : M O := (dcMT (cIt (tmp (cListV (tmp (nf 6))))) (setV 10) (ret true) (nf 10) (con (.bl true)) [10])
def q_state_classes_4 : M O := (dcMT (enumA (consM (fz (cCall gSortedB (consO (tmp (cCall gListB (consO (tmp (q_state_classes_3)) nilO))) nilO))) nilM)) (unpG (consG (setV 9) (consG (setV 10) nilG))) (ret true) (nf 10) (nf 9) [9, 10])
def q_state_classes_5 : M O := (dcM (cIt (tmp (nf 2))) (setV 4) (ret true) (nf 4) (fz (cBin gIxA (tmp (nf 8)) (tmp (cBin gIxA (tmp (nf 6)) (tmp (nf 4)))))) [4])
def lb_state_classes_6 : S := (seqS (bndS (q_state_classes_2) (asgS (setV 6)))
  (seqS (bndS (q_state_classes_4) (asgS (setV 8)))
  (seqS (ifS (asB (cBin (gEqD false) (tmp (cCall gLenA (consO (tmp (nf 8)) nilO))) (tmp (nf 5)))) (bndS (nf 3) retS) nilS)
  (seqS (bndS (cCall gLenA (consO (tmp (nf 8)) nilO)) (asgS (setV 5)))
  (bndS (q_state_classes_5) (asgS (setV 3)))))))
def l_state_classes_7 : S := (whileS (asB (con (.bl true))) (lb_state_classes_6) 100)
def b_state_classes : S :=
  (seqS (bndS (q_state_classes_0) (asgS (setV 3)))
  (seqS (bndS (con (.int 0)) (asgS (setV 5)))
  (l_state_classes_7)))
def g_state_classes : List O → Option (O × TL.Env) := fnG 3 11 (fxL []) (b_state_classes)
theorem ok_state_classes (T : Txt K mg A) : OkF P w K mg base 1 "state_classes" ["targets", "kept", "states"] (g_state_classes) := by
  refine okf_mk 3 11 T.f_state_classes sc_state_classes rfl rfl (fun _ _ _ _ _ _ us hl => match us, hl with | [_, _, _], _ => rfl) fun f cdv A outer s H E hr hgd => ?_
  exact (sb_cons (ss_set 3 sc_state_classes.nd (se_dc (own := [("state", 4)]) rfl sc_state_classes.nd (blkOk_by (by kernel_rfl)) (ie_val (oe_of (se_nf 2))) (fun _ _ _ _ _ => (tg_name 4 sc_state_classes.nd)) (fun _ _ _ _ _ => ts_nil) (fun _ _ _ _ _ => (se_nf 4)) (fun _ _ _ _ _ => (se_fz (se_callTy cs_int rfl T.b_int rfl (ao_cons (oe_of (se_cmp (os_inA (units65 hr)) (oe_of (se_nf 4)) (oe_of (se_nf 1)) (by with_unfolding_all rfl))) ao_nil))))))
  (sb_cons (ss_set 5 sc_state_classes.nd se_int)
  (sb_one (ss_while 100 own_cx (be_val se_bl) (sb_cons (ss_set 6 sc_state_classes.nd (se_dc (own := [("state", 4)]) rfl sc_state_classes.nd (blkOk_by (by kernel_rfl)) (ie_val (oe_of (se_nf 2))) (fun _ _ _ _ _ => (tg_name 4 sc_state_classes.nd)) (fun _ _ _ _ _ => ts_nil) (fun _ _ _ _ _ => (se_nf 4)) (fun _ _ _ _ _ => (se_fz (se_tup (ae_cons (se_fz (se_ix (is_ixA hr.units) (oe_of (se_nf 3)) (oe_of (se_nf 4)))) (ae_star (oe_of (se_lc (own := [("target", 7)]) rfl sc_state_classes.nd (blkOk_by (by kernel_rfl)) (ie_val (oe_of (se_ix (is_ixA hr.units) (oe_of (se_nf 0)) (oe_of (se_nf 4))))) (fun _ _ _ _ _ => (tg_name 7 sc_state_classes.nd)) (fun _ _ _ _ _ => ts_nil) (fun _ _ _ _ _ => (se_fz (se_ix (is_ixA hr.units) (oe_of (se_nf 3)) (oe_of (se_nf 7))))))) ae_nil)))))))
  (sb_cons (ss_set 8 sc_state_classes.nd (se_dcT (own := [("at", 9), ("sign", 10)]) hr.units rfl sc_state_classes.nd (blkOk_by (by kernel_rfl)) (ie_enumA rfl T.b_enumerate (ae_cons (se_fz (se_callB (cs_sortedB rfl hr.units) rfl T.b_sorted rfl (ao_cons (oe_of (se_callTy (cs_listB rfl) rfl T.b_list rfl (ao_cons (oe_of (se_dcT (own := [("sign", 10)]) hr.units rfl sc_state_classes.nd (blkOk_by (by kernel_rfl)) (ie_val (oe_of (se_listV rfl rfl T.b_list rfl (oe_of (se_nf 6))))) (fun _ _ _ _ _ => (tg_name 10 sc_state_classes.nd)) (fun _ _ _ _ _ => ts_nil) (fun _ _ _ _ _ => (se_nf 10)) (fun _ _ _ _ _ => se_bl))) ao_nil))) ao_nil))) ae_nil)) (fun _ _ _ _ _ => (tg_unp rfl (tgs_cons (tg_name 9 sc_state_classes.nd) (tgs_cons (tg_name 10 sc_state_classes.nd) tgs_nil)) (gs_lenS (gs_lenS gs_len0)))) (fun _ _ _ _ _ => ts_nil) (fun _ _ _ _ _ => (se_nf 10)) (fun _ _ _ _ _ => (se_nf 9))))
  (sb_cons (ss_if (be_cmp (os_eqD hr.units) (oe_of (se_callB cs_lenA rfl T.b_len rfl (ao_cons (oe_of (se_nf 8)) ao_nil))) (oe_of (se_nf 5)) (nomark _)) (sb_one (ss_ret (se_nf 3))) sb_nil)
  (sb_cons (ss_set 5 sc_state_classes.nd (se_callB cs_lenA rfl T.b_len rfl (ao_cons (oe_of (se_nf 8)) ao_nil)))
  (sb_one (ss_set 3 sc_state_classes.nd (se_dc (own := [("state", 4)]) rfl sc_state_classes.nd (blkOk_by (by kernel_rfl)) (ie_val (oe_of (se_nf 2))) (fun _ _ _ _ _ => (tg_name 4 sc_state_classes.nd)) (fun _ _ _ _ _ => ts_nil) (fun _ _ _ _ _ => (se_nf 4)) (fun _ _ _ _ _ => (se_fz (se_ix (is_ixA hr.units) (oe_of (se_nf 8)) (oe_of (se_ix (is_ixA hr.units) (oe_of (se_nf 6)) (oe_of (se_nf 4))))))))))))))))))
theorem sc_least_of : FnScope ["targets", "kept", "first", "states", "marks", "behind", "target", "state", "are_kept", "numbers", "waits", "at", "mark", "rows", "one", "place"] ["targets", "kept", "first"] (defScope s_least_of) := ⟨rfl, rfl, rfl, by decide +kernel, rfl, by decide +kernel, by decide +kernel⟩
def q_least_of_0 : M O := (compM (cIt (tmp (cBin gIxA (tmp (nf 0)) (tmp (nf 7))))) (setV 6) (ret true) (fz (cBin gIxA (tmp (nf 4)) (tmp (nf 6)))) [6])
def q_least_of_1 : M O := (dcM (cIt (tmp (nf 3))) (setV 7) (ret true) (fz (cBin gIxA (tmp (nf 4)) (tmp (nf 7)))) (fz (cCall gTupleA (consO (tmp (q_least_of_0)) nilO))) [7])
def q_least_of_2 : M O := (dcM (cIt (tmp (nf 3))) (setV 7) (asB (cBin (gInA false) (tmp (nf 7)) (tmp (nf 1)))) (fz (cBin gIxA (tmp (nf 4)) (tmp (nf 7)))) (con (.bl true)) [7])
def lb_least_of_3 : S := (ifS (asB (cBin (gInA true) (tmp (nf 12)) (op 9))) (seqS (bndS (fz (cCall gLenA (consO (op 10) nilO))) (setS uSetA (op 9) (nf 12)))
  (bndS (cMuN "list" uAppend 10 (consM (nf 12) nilM)) dropS)) nilS)
def l_least_of_4 : S := (forS (cIt (tmp (cBin gIxA (tmp (nf 5)) (tmp (cBin gIxA (op 10) (tmp (nf 11))))))) (setV 12) (lb_least_of_3))
def lb_least_of_5 : S := (seqS (l_least_of_4)
  (augS (· + ·) 11 (con (.int 1))))
def l_least_of_6 : S := (whileS (asB (cBin gLt (tmp (nf 11)) (tmp (cCall gLenA (consO (op 10) nilO))))) (lb_least_of_5) 100)
def q_least_of_7 : M O := (compM (cIt (tmp (cBin gIxA (tmp (nf 5)) (tmp (nf 14))))) (setV 12) (ret true) (fz (cBin gIxA (op 9) (tmp (nf 12)))) [12])
def q_least_of_8 : M O := (compM (cIt (op 10)) (setV 14) (ret true) (fz (cCall gTupleA (consO (tmp (q_least_of_7)) nilO))) [14])
def q_least_of_9 : M O := (compM (enumA (consM (fz (mv 10)) nilM)) (unpG (consG (setV 15) (consG (setV 12) nilG))) (asB (cBin (gInA false) (tmp (nf 12)) (tmp (nf 8)))) (nf 15) [15, 12])
def b_least_of : S :=
  (seqS (bndS (cFn (g_met_states) (consO (tmp (nf 0)) (consO (tmp (nf 2)) nilO))) (asgS (setV 3)))
  (seqS (bndS (cFn (g_state_classes) (consO (tmp (nf 0)) (consO (tmp (nf 1)) (consO (tmp (nf 3)) nilO)))) (asgS (setV 4)))
  (seqS (bndS (q_least_of_1) (asgS (setV 5)))
  (seqS (bndS (q_least_of_2) (asgS (setV 8)))
  (seqS (bndS (cDisp [((fz (cBin gIxA (tmp (nf 4)) (tmp (nf 2)))), (con (.int 0)))]) (asgS (setV 9)))
  (seqS (bndS (cLst (consM (fz (cBin gIxA (tmp (nf 4)) (tmp (nf 2)))) nilM)) (asgS (setV 10)))
  (seqS (bndS (con (.int 0)) (asgS (setV 11)))
  (seqS (l_least_of_6)
  (seqS (bndS (cCall gTupleA (consO (tmp (q_least_of_8)) nilO)) (asgS (setV 13)))
  (bndS (cTup (consM (nf 13) (consM (fz (cCall gTupleA (consO (tmp (q_least_of_9)) nilO))) nilM))) retS))))))))))
def g_least_of : List O → Option (O × TL.Env) := fnG 3 16 (fxL []) (b_least_of)
theorem ok_least_of_1 (T : Txt K mg A) : OkD P w K mg base 2 "least_of" ["targets", "kept", "first"] [D.int (0)] (g_least_of) := by
  refine okd_mk 3 16 T.f_least_of sc_least_of rfl rfl (fun f cdv A outer s H E hr hgd => ?_) 0 2 [D.int (0)] (by simp) rfl (fun _ => .cons (.int _) (.nil)) (fun _ _ _ _ _ _ _ us its h1 h2 => match us, its, h1, h2 with | [_, _], [_], _, _ => ⟨_, rfl, rfl⟩)
  exact (sb_cons (ss_set 3 sc_least_of.nd (se_ok (ok_met_states T) (hr.mono (by decide)) hgd (ao_cons (oe_of (se_nf 0)) (ao_cons (oe_of (se_nf 2)) ao_nil))))
  (sb_cons (ss_set 4 sc_least_of.nd (se_ok (ok_state_classes T) (hr.mono (by decide)) hgd (ao_cons (oe_of (se_nf 0)) (ao_cons (oe_of (se_nf 1)) (ao_cons (oe_of (se_nf 3)) ao_nil)))))
  (sb_cons (ss_set 5 sc_least_of.nd (se_dc (own := [("state", 7)]) rfl sc_least_of.nd (blkOk_by (by kernel_rfl)) (ie_val (oe_of (se_nf 3))) (fun _ _ _ _ _ => (tg_name 7 sc_least_of.nd)) (fun _ _ _ _ _ => ts_nil) (fun _ _ _ _ _ => (se_fz (se_ix (is_ixA hr.units) (oe_of (se_nf 4)) (oe_of (se_nf 7))))) (fun _ _ _ _ _ => (se_fz (se_callTy (cs_tupleA rfl) rfl T.b_tuple rfl (ao_cons (oe_of (se_lc (own := [("target", 6)]) rfl sc_least_of.nd (blkOk_by (by kernel_rfl)) (ie_val (oe_of (se_ix (is_ixA hr.units) (oe_of (se_nf 0)) (oe_of (se_nf 7))))) (fun _ _ _ _ _ => (tg_name 6 sc_least_of.nd)) (fun _ _ _ _ _ => ts_nil) (fun _ _ _ _ _ => (se_fz (se_ix (is_ixA hr.units) (oe_of (se_nf 4)) (oe_of (se_nf 6))))))) ao_nil))))))
  (sb_cons (ss_set 8 sc_least_of.nd (se_dc (own := [("state", 7)]) rfl sc_least_of.nd (blkOk_by (by kernel_rfl)) (ie_val (oe_of (se_nf 3))) (fun _ _ _ _ _ => (tg_name 7 sc_least_of.nd)) (fun _ _ _ _ _ => (ts_one (be_cmp (os_inA (units65 hr)) (oe_of (se_nf 7)) (oe_of (se_nf 1)) (by with_unfolding_all rfl)))) (fun _ _ _ _ _ => (se_fz (se_ix (is_ixA hr.units) (oe_of (se_nf 4)) (oe_of (se_nf 7))))) (fun _ _ _ _ _ => se_bl)))
  (sb_cons (ss_set 9 sc_least_of.nd (se_disp (ds_cons (se_fz (se_ix (is_ixA hr.units) (oe_of (se_nf 4)) (oe_of (se_nf 2)))) se_int ds_nil)))
  (sb_cons (ss_set 10 sc_least_of.nd (se_lst (ae_cons (se_fz (se_ix (is_ixA hr.units) (oe_of (se_nf 4)) (oe_of (se_nf 2)))) ae_nil)))
  (sb_cons (ss_set 11 sc_least_of.nd se_int)
  (sb_cons (ss_while 100 own_cx (be_cmp os_lt (oe_of (se_nf 11)) (oe_of (se_callB cs_lenA rfl T.b_len rfl (ao_cons (oe_name 10) ao_nil))) (nomark _)) (sb_cons (ss_for own_cx rfl (ie_val (oe_of (se_ix (is_ixA hr.units) (oe_of (se_nf 5)) (oe_of (se_ix (is_ixA hr.units) (oe_name 10) (oe_of (se_nf 11))))))) (tg_name 12 sc_least_of.nd) (sb_one (ss_if (be_cmp (os_notInA (units65 hr)) (oe_of (se_nf 12)) (oe_name 9) (by with_unfolding_all rfl)) (sb_cons (ss_setIx (ss_uSetA hr.units) (se_fz (se_callB cs_lenA rfl T.b_len rfl (ao_cons (oe_name 10) ao_nil))) (oe_name 9) (se_nf 12))
  (sb_one (ss_expr (se_appendN 10 (ae_cons (se_nf 12) ae_nil))))) sb_nil)))
  (sb_one (ss_augI ip_add 11 sc_least_of.nd se_int))))
  (sb_cons (ss_set 13 sc_least_of.nd (se_callTy (cs_tupleA rfl) rfl T.b_tuple rfl (ao_cons (oe_of (se_lc (own := [("one", 14)]) rfl sc_least_of.nd (blkOk_by (by kernel_rfl)) (ie_val (oe_name 10)) (fun _ _ _ _ _ => (tg_name 14 sc_least_of.nd)) (fun _ _ _ _ _ => ts_nil) (fun _ _ _ _ _ => (se_fz (se_callTy (cs_tupleA rfl) rfl T.b_tuple rfl (ao_cons (oe_of (se_lc (own := [("mark", 12)]) rfl sc_least_of.nd (blkOk_by (by kernel_rfl)) (ie_val (oe_of (se_ix (is_ixA hr.units) (oe_of (se_nf 5)) (oe_of (se_nf 14))))) (fun _ _ _ _ _ => (tg_name 12 sc_least_of.nd)) (fun _ _ _ _ _ => ts_nil) (fun _ _ _ _ _ => (se_fz (se_ix (is_ixA hr.units) (oe_name 9) (oe_of (se_nf 12))))))) ao_nil)))))) ao_nil)))
  (sb_one (ss_ret (se_tup (ae_cons (se_nf 13) (ae_cons (se_fz (se_callTy (cs_tupleA rfl) rfl T.b_tuple rfl (ao_cons (oe_of (se_lc (own := [("place", 15), ("mark", 12)]) rfl sc_least_of.nd (blkOk_by (by kernel_rfl)) (ie_enumA rfl T.b_enumerate (ae_cons (se_fz (se_name 10)) ae_nil)) (fun _ _ _ _ _ => (tg_unp rfl (tgs_cons (tg_name 15 sc_least_of.nd) (tgs_cons (tg_name 12 sc_least_of.nd) tgs_nil)) (gs_lenS (gs_lenS gs_len0)))) (fun _ _ _ _ _ => (ts_one (be_cmp (os_inA (units65 hr)) (oe_of (se_nf 12)) (oe_of (se_nf 8)) (by with_unfolding_all rfl)))) (fun _ _ _ _ _ => (se_nf 15)))) ao_nil))) ae_nil))))))))))))))
theorem sc_is_any_deeds : FnScope ["value"] ["value"] (defScope s_is_any_deeds) := ⟨rfl, rfl, rfl, by decide +kernel, rfl, by decide +kernel, by decide +kernel⟩
def b_is_any_deeds : S :=
  (bndS (vAnd (cFn (g_is_set) (consO (tmp (nf 0)) nilO)) (cChain gLe gLe (con (.int 1)) (cCall gLenA (consO (tmp (nf 0)) nilO)) (con c_MOST_DEEDS))) retS)
def g_is_any_deeds : List O → Option (O × TL.Env) := fnG 1 1 (fxL []) (b_is_any_deeds)
theorem ok_is_any_deeds (T : Txt K mg A) : OkF P w K mg base 4 "is_any_deeds" ["value"] (g_is_any_deeds) := by
  refine okf_mk 1 1 T.f_is_any_deeds sc_is_any_deeds rfl rfl (fun _ _ _ _ _ _ us hl => match us, hl with | [_], _ => rfl) fun f cdv A outer s H E hr hgd => ?_
  exact (sb_one (ss_ret (se_and (se_ok (ok_is_set T) (hr.mono (by decide)) hgd (ao_cons (oe_of (se_nf 0)) ao_nil)) (se_one (se_chain os_le os_le se_int (se_callB cs_lenA rfl T.b_len rfl (ao_cons (oe_of (se_nf 0)) ao_nil)) (se_gl T.c_MOST_DEEDS))))))
theorem sc_is_any_machine : FnScope ["deeds", "targets", "kept", "row", "target"] ["deeds", "targets", "kept"] (defScope s_is_any_machine) := ⟨rfl, rfl, rfl, by decide +kernel, rfl, by decide +kernel, by decide +kernel⟩
def q_is_any_machine_0 : M O := (compM (cIt (tmp (nf 1))) (setV 3) (ret true) (fz (vAnd (cCall gIsi (consO (tmp (nf 3)) (consO (tmp (con (.ty "tuple"))) nilO))) (cBin (gEqD false) (tmp (cCall gLenA (consO (tmp (nf 3)) nilO))) (tmp (cCall gLenA (consO (tmp (nf 0)) nilO)))))) [3])
def q_is_any_machine_1 : M O := (compM2 (cIt (tmp (nf 1))) (setV 3) (ret true) (cIt (tmp (nf 3))) (setV 4) (ret true) (fz (cFn (g_is_integer_within) (consO (tmp (nf 4)) (consO (tmp (con (.int 0))) (consO (tmp (cBin TL.gSub (tmp (cCall gLenA (consO (tmp (nf 1)) nilO))) (tmp (con (.int 1))))) nilO))))) [3, 4] [4])
def b_is_any_machine : S :=
  (seqS (ifS (cOr (cNot (asB (cFn (g_is_any_deeds) (consO (tmp (nf 0)) nilO)))) (cOr (cNot (asB (cCall gIsi (consO (tmp (nf 1)) (consO (tmp (con (.ty "tuple"))) nilO))))) (cNot (asB (cChain gLe gLe (con (.int 1)) (cCall gLenA (consO (tmp (nf 1)) nilO)) (con c_MAX_GIVEN)))))) (bndS (con (.bl false)) retS) nilS)
  (seqS (ifS (cNot (asB (cCall gAll (consO (tmp (q_is_any_machine_0)) nilO)))) (bndS (con (.bl false)) retS) nilS)
  (seqS (ifS (cNot (asB (cCall gAll (consO (tmp (q_is_any_machine_1)) nilO)))) (bndS (con (.bl false)) retS) nilS)
  (bndS (cFn (g_is_number_set) (consO (tmp (nf 2)) (consO (tmp (cCall gLenA (consO (tmp (nf 1)) nilO))) nilO))) retS))))
def g_is_any_machine : List O → Option (O × TL.Env) := fnG 3 5 (fxL []) (b_is_any_machine)
theorem ok_is_any_machine (T : Txt K mg A) : OkF P w K mg base 5 "is_any_machine" ["deeds", "targets", "kept"] (g_is_any_machine) := by
  refine okf_mk 3 5 T.f_is_any_machine sc_is_any_machine rfl rfl (fun _ _ _ _ _ _ us hl => match us, hl with | [_, _, _], _ => rfl) fun f cdv A outer s H E hr hgd => ?_
  exact (sb_cons (ss_if (be_bw (bw_or (be_not (be_val (se_ok (ok_is_any_deeds T) (hr.mono (by decide)) hgd (ao_cons (oe_of (se_nf 0)) ao_nil)))) (bw_or (be_not (be_val (se_callB cs_isi rfl T.b_isinstance rfl (ao_cons (oe_of (se_nf 1)) (ao_cons (oe_of (se_bltn rfl T.b_tuple rfl)) ao_nil))))) (bw_or1 (be_not (be_chain os_le os_le se_int (se_callB cs_lenA rfl T.b_len rfl (ao_cons (oe_of (se_nf 1)) ao_nil)) (se_gl T.c_MAX_GIVEN))))))) (sb_one (ss_ret se_bl)) sb_nil)
  (sb_cons (ss_if (be_not (be_val (se_callB (cs_all rfl) rfl T.b_all rfl (ao_cons (oe_of (se_lc (own := [("row", 3)]) rfl sc_is_any_machine.nd (blkOk_by (by kernel_rfl)) (ie_val (oe_of (se_nf 1))) (fun _ _ _ _ _ => (tg_name 3 sc_is_any_machine.nd)) (fun _ _ _ _ _ => ts_nil) (fun _ _ _ _ _ => (se_fz (se_and (se_callB cs_isi rfl T.b_isinstance rfl (ao_cons (oe_of (se_nf 3)) (ao_cons (oe_of (se_bltn rfl T.b_tuple rfl)) ao_nil))) (se_one (se_cmp (os_eqD hr.units) (oe_of (se_callB cs_lenA rfl T.b_len rfl (ao_cons (oe_of (se_nf 3)) ao_nil))) (oe_of (se_callB cs_lenA rfl T.b_len rfl (ao_cons (oe_of (se_nf 0)) ao_nil))) (nomark _)))))))) ao_nil)))) (sb_one (ss_ret se_bl)) sb_nil)
  (sb_cons (ss_if (be_not (be_val (se_callB (cs_all rfl) rfl T.b_all rfl (ao_cons (oe_of (se_lc2 (own := [("row", 3), ("target", 4)]) [4] rfl sc_is_any_machine.nd (blkOk_by (by kernel_rfl)) (by decide) (ie_val (oe_of (se_nf 1))) (fun _ _ _ _ _ => (tg_name 3 sc_is_any_machine.nd)) (fun _ _ _ _ _ => ts_nil) (fun _ _ _ _ _ => (ie_val (oe_of (se_nf 3)))) (fun _ _ _ _ _ => (tg_name 4 sc_is_any_machine.nd)) (fun _ _ _ _ _ => ts_nil) (fun _ _ _ _ _ => (se_fz (se_ok (ok_is_integer_within T) (hr.mono (by decide)) hgd (ao_cons (oe_of (se_nf 4)) (ao_cons (oe_of se_int) (ao_cons (oe_of (se_bin os_sub (oe_of (se_callB cs_lenA rfl T.b_len rfl (ao_cons (oe_of (se_nf 1)) ao_nil))) (oe_of se_int))) ao_nil)))))))) ao_nil)))) (sb_one (ss_ret se_bl)) sb_nil)
  (sb_one (ss_ret (se_ok (ok_is_number_set T) (hr.mono (by decide)) hgd (ao_cons (oe_of (se_nf 2)) (ao_cons (oe_of (se_callB cs_lenA rfl T.b_len rfl (ao_cons (oe_of (se_nf 1)) ao_nil))) ao_nil))))))))
theorem sc_require_few_states : FnScope ["machine"] ["machine"] (defScope s_require_few_states) := ⟨rfl, rfl, rfl, by decide +kernel, rfl, by decide +kernel, by decide +kernel⟩
def b_require_few_states : S :=
  (ifS (asB (cBin gGt (tmp (cCall gLenA (consO (tmp (cBin gIxA (tmp (nf 0)) (tmp (con (.int 0))))) nilO))) (tmp (con c_MAX_STATES)))) noS nilS)
def g_require_few_states : List O → Option (O × TL.Env) := fnG 1 1 (fxL []) (b_require_few_states)
theorem ok_require_few_states (T : Txt K mg A) : OkF P w K mg base 1 "require_few_states" ["machine"] (g_require_few_states) := by
  refine okf_mk 1 1 T.f_require_few_states sc_require_few_states rfl rfl (fun _ _ _ _ _ _ us hl => match us, hl with | [_], _ => rfl) fun f cdv A outer s H E hr hgd => ?_
  exact (sb_one (ss_if (be_cmp os_gt (oe_of (se_callB cs_lenA rfl T.b_len rfl (ao_cons (oe_of (se_ix (is_ixA hr.units) (oe_of (se_nf 0)) (oe_of se_int))) ao_nil))) (oe_of (se_gl T.c_MAX_STATES)) (nomark _)) (sb_one ss_never) sb_nil))
theorem sc_Wish___init__ : FnScope ["self", "deeds", "targets", "kept", "machine", "at", "deed"] ["self", "deeds", "targets", "kept"] (defScope s_Wish___init__) := ⟨rfl, rfl, rfl, by decide +kernel, rfl, by decide +kernel, by decide +kernel⟩
def q_Wish___init___0 (A : Ads) : M O := (dcM (enumA (consM (nf 1) nilM)) (unpG (consG (setV 5) (consG (setV 6) nilG))) (ret true) (nf 6) (nf 5) [5, 6])
def b_Wish___init__ (A : Ads) : S :=
  (seqS (ifS (cNot (asB (cFn (g_is_any_machine) (consO (tmp (nf 1)) (consO (tmp (nf 2)) (consO (tmp (nf 3)) nilO)))))) noS nilS)
  (seqS (bndS (cFnD (g_least_of) [D.int (0)] (consO (tmp (nf 2)) (consO (tmp (nf 3)) nilO))) (asgS (setV 4)))
  (seqS (bndS (cFn (g_require_few_states) (consO (tmp (nf 4)) nilO)) dropS)
  (seqS (bndS (fz (nf 1)) (setFS [A.Wish] "own_deeds" 0))
  (seqS (bndS (fz (cBin gIxA (tmp (nf 4)) (tmp (con (.int 0))))) (setFS [A.Wish] "own_targets" 0))
  (seqS (bndS (fz (cBin gIxA (tmp (nf 4)) (tmp (con (.int 1))))) (setFS [A.Wish] "own_kept" 0))
  (bndS (fz (q_Wish___init___0 A)) (setFS [A.Wish] "own_numbers" 0))))))))
def g_Wish___init__ (A : Ads) : List O → Option (O × TL.Env) := fnG 4 7 (fxL [0]) (b_Wish___init__ A)
theorem ok_Wish___init__ (T : Txt K mg A) : OkM P w K mg base 6 A.Wish "__init__" ["self", "deeds", "targets", "kept"] (g_Wish___init__ A) := by
  refine okm_mk 4 7 T.f_Wish___init__ sc_Wish___init__ rfl rfl (fun _ _ _ _ _ _ us hl => match us, hl with | [_, _, _, _], _ => rfl) fun f cdv A outer s H E hr hgd => ?_
  exact (sb_cons (ss_if (be_not (be_val (se_ok (ok_is_any_machine T) (hr.mono (by decide)) hgd (ao_cons (oe_of (se_nf 1)) (ao_cons (oe_of (se_nf 2)) (ao_cons (oe_of (se_nf 3)) ao_nil)))))) (sb_one ss_never) sb_nil)
  (sb_cons (ss_set 4 sc_Wish___init__.nd (se_okD (ok_least_of_1 T) (hr.mono (by decide)) hgd (ao_cons (oe_of (se_nf 2)) (ao_cons (oe_of (se_nf 3)) ao_nil))))
  (sb_cons (ss_expr (se_ok (ok_require_few_states T) (hr.mono (by decide)) hgd (ao_cons (oe_of (se_nf 4)) ao_nil)))
  (sb_cons (ss_setFld 0 (T.fld_Wish__own_deeds) (se_nf 1))
  (sb_cons (ss_setFld 0 (T.fld_Wish__own_targets) (se_ix (is_ixA hr.units) (oe_of (se_nf 4)) (oe_of se_int)))
  (sb_cons (ss_setFld 0 (T.fld_Wish__own_kept) (se_ix (is_ixA hr.units) (oe_of (se_nf 4)) (oe_of se_int)))
  (sb_one (ss_setFld 0 (T.fld_Wish__own_numbers) (se_dc (own := [("at", 5), ("deed", 6)]) rfl sc_Wish___init__.nd (blkOk_by (by kernel_rfl)) (ie_enumA rfl T.b_enumerate (ae_cons (se_nf 1) ae_nil)) (fun _ _ _ _ _ => (tg_unp rfl (tgs_cons (tg_name 5 sc_Wish___init__.nd) (tgs_cons (tg_name 6 sc_Wish___init__.nd) tgs_nil)) (gs_lenS (gs_lenS gs_len0)))) (fun _ _ _ _ _ => ts_nil) (fun _ _ _ _ _ => (se_nf 6)) (fun _ _ _ _ _ => (se_nf 5)))))))))))
theorem sc_require_wish : FnScope ["value"] ["value"] (defScope s_require_wish) := ⟨rfl, rfl, rfl, by decide +kernel, rfl, by decide +kernel, by decide +kernel⟩
def b_require_wish (A : Ads) : S :=
  (ifS (cNot (asB (cCall (gIsiC [A.House, A.Wish]) (consO (tmp (nf 0)) (consO (tmp (con (.obj A.Wish))) nilO))))) noS nilS)
def g_require_wish (A : Ads) : List O → Option (O × TL.Env) := fnG 1 1 (fxL []) (b_require_wish A)
theorem ok_require_wish (T : Txt K mg A) : OkF P w K mg base 1 "require_wish" ["value"] (g_require_wish A) := by
  refine okf_mk 1 1 T.f_require_wish sc_require_wish rfl rfl (fun _ _ _ _ _ _ us hl => match us, hl with | [_], _ => rfl) fun f cdv A outer s H E hr hgd => ?_
  exact (sb_one (ss_if (be_not (be_val (se_callB (cs_isiC T.clss) rfl T.b_isinstance rfl (ao_cons (oe_of (se_nf 0)) (ao_cons (oe_of (se_cls T.cl_Wish)) ao_nil))))) (sb_one ss_never) sb_nil))
theorem sc_require_states : FnScope ["wish", "value"] ["wish", "value"] (defScope s_require_states) := ⟨rfl, rfl, rfl, by decide +kernel, rfl, by decide +kernel, by decide +kernel⟩
def b_require_states (A : Ads) : S :=
  (ifS (cNot (asB (cFn (g_is_number_set) (consO (tmp (nf 1)) (consO (tmp (cCall gLenA (consO (tmp (cFld [A.Wish] "own_targets" (tmp (nf 0)))) nilO))) nilO))))) noS nilS)
def g_require_states (A : Ads) : List O → Option (O × TL.Env) := fnG 2 2 (fxL []) (b_require_states A)
theorem ok_require_states (T : Txt K mg A) : OkF P w K mg base 4 "require_states" ["wish", "value"] (g_require_states A) := by
  refine okf_mk 2 2 T.f_require_states sc_require_states rfl rfl (fun _ _ _ _ _ _ us hl => match us, hl with | [_, _], _ => rfl) fun f cdv A outer s H E hr hgd => ?_
  exact (sb_one (ss_if (be_not (be_val (se_ok (ok_is_number_set T) (hr.mono (by decide)) hgd (ao_cons (oe_of (se_nf 1)) (ao_cons (oe_of (se_callB cs_lenA rfl T.b_len rfl (ao_cons (oe_of (se_fld (T.fld_Wish__own_targets) (oe_of (se_nf 0)))) ao_nil))) ao_nil))))) (sb_one ss_never) sb_nil))
theorem sc_require_fit : FnScope ["house", "wish"] ["house", "wish"] (defScope s_require_fit) := ⟨rfl, rfl, rfl, by decide +kernel, rfl, by decide +kernel, by decide +kernel⟩
def b_require_fit (A : Ads) : S :=
  (ifS (asB (cBin (gEqD true) (tmp (cFld [A.Wish] "own_deeds" (tmp (nf 1)))) (tmp (cCall gTupleA (consO (tmp (cFld [A.House] "own_deeds" (tmp (nf 0)))) nilO))))) noS nilS)
def g_require_fit (A : Ads) : List O → Option (O × TL.Env) := fnG 2 2 (fxL []) (b_require_fit A)
theorem ok_require_fit (T : Txt K mg A) : OkF P w K mg base 1 "require_fit" ["house", "wish"] (g_require_fit A) := by
  refine okf_mk 2 2 T.f_require_fit sc_require_fit rfl rfl (fun _ _ _ _ _ _ us hl => match us, hl with | [_, _], _ => rfl) fun f cdv A outer s H E hr hgd => ?_
  exact (sb_one (ss_if (be_cmp (os_neD hr.units) (oe_of (se_fld (T.fld_Wish__own_deeds) (oe_of (se_nf 1)))) (oe_of (se_callTy (cs_tupleA rfl) rfl T.b_tuple rfl (ao_cons (oe_of (se_fld (T.fld_House__own_deeds) (oe_of (se_nf 0)))) ao_nil))) (nomark _)) (sb_one ss_never) sb_nil))
theorem sc_ends_of : FnScope ["wish", "state", "one", "other", "first", "second", "targets"] ["wish", "state", "one", "other"] (defScope s_ends_of) := ⟨rfl, rfl, rfl, by decide +kernel, rfl, by decide +kernel, by decide +kernel⟩
def b_ends_of (A : Ads) : S :=
  (seqS (bndS (consM (cBin gIxA (tmp (cFld [A.Wish] "own_numbers" (tmp (nf 0)))) (tmp (nf 2))) (consM (cBin gIxA (tmp (cFld [A.Wish] "own_numbers" (tmp (nf 0)))) (tmp (nf 3))) nilM)) (parS 4 5))
  (seqS (bndS (cFld [A.Wish] "own_targets" (tmp (nf 0))) (asgS (setV 6)))
  (bndS (cTup (consM (fz (cBin gIxA (tmp (cBin gIxA (tmp (nf 6)) (tmp (cBin gIxA (tmp (cBin gIxA (tmp (nf 6)) (tmp (nf 1)))) (tmp (nf 4)))))) (tmp (nf 5)))) (consM (fz (cBin gIxA (tmp (cBin gIxA (tmp (nf 6)) (tmp (cBin gIxA (tmp (cBin gIxA (tmp (nf 6)) (tmp (nf 1)))) (tmp (nf 5)))))) (tmp (nf 4)))) nilM))) retS)))
def g_ends_of (A : Ads) : List O → Option (O × TL.Env) := fnG 4 7 (fxL []) (b_ends_of A)
theorem ok_ends_of (T : Txt K mg A) : OkF P w K mg base 1 "ends_of" ["wish", "state", "one", "other"] (g_ends_of A) := by
  refine okf_mk 4 7 T.f_ends_of sc_ends_of rfl rfl (fun _ _ _ _ _ _ us hl => match us, hl with | [_, _, _, _], _ => rfl) fun f cdv A outer s H E hr hgd => ?_
  exact (sb_cons (ss_par 4 5 rfl sc_ends_of.nd (ae_cons (se_ix (is_ixA hr.units) (oe_of (se_fld (T.fld_Wish__own_numbers) (oe_of (se_nf 0)))) (oe_of (se_nf 2))) (ae_cons (se_ix (is_ixA hr.units) (oe_of (se_fld (T.fld_Wish__own_numbers) (oe_of (se_nf 0)))) (oe_of (se_nf 3))) ae_nil)))
  (sb_cons (ss_set 6 sc_ends_of.nd (se_fld (T.fld_Wish__own_targets) (oe_of (se_nf 0))))
  (sb_one (ss_ret (se_tup (ae_cons (se_fz (se_ix (is_ixA hr.units) (oe_of (se_ix (is_ixA hr.units) (oe_of (se_nf 6)) (oe_of (se_ix (is_ixA hr.units) (oe_of (se_ix (is_ixA hr.units) (oe_of (se_nf 6)) (oe_of (se_nf 1)))) (oe_of (se_nf 4)))))) (oe_of (se_nf 5)))) (ae_cons (se_fz (se_ix (is_ixA hr.units) (oe_of (se_ix (is_ixA hr.units) (oe_of (se_nf 6)) (oe_of (se_ix (is_ixA hr.units) (oe_of (se_ix (is_ixA hr.units) (oe_of (se_nf 6)) (oe_of (se_nf 1)))) (oe_of (se_nf 5)))))) (oe_of (se_nf 4)))) ae_nil)))))))
theorem sc_clashes_of : FnScope ["house", "wish", "found", "one", "other", "state", "ends"] ["house", "wish"] (defScope s_clashes_of) := ⟨rfl, rfl, rfl, by decide +kernel, rfl, by decide +kernel, by decide +kernel⟩
def lb_clashes_of_0 (A : Ads) : S := (seqS (bndS (cFn (g_ends_of A) (consO (tmp (nf 1)) (consO (tmp (nf 5)) (consO (tmp (nf 3)) (consO (tmp (nf 4)) nilO))))) (asgS (setV 6)))
  (ifS (asB (cBin (gEqD true) (tmp (cBin gIxA (tmp (nf 6)) (tmp (con (.int 0))))) (tmp (cBin gIxA (tmp (nf 6)) (tmp (con (.int 1))))))) (bndS (cMuN "list" uAppend 2 (consM (fz (cTup (consM (nf 5) (consM (nf 3) (consM (nf 4) (starM (tmp (nf 6)) nilM)))))) nilM)) dropS) nilS))
def l_clashes_of_1 (A : Ads) : S := (forS (cRng1 (consM (fz (cCall gLenA (consO (tmp (cFld [A.Wish] "own_targets" (tmp (nf 1)))) nilO))) nilM)) (setV 5) (lb_clashes_of_0 A))
def lb_clashes_of_2 (A : Ads) : S := (l_clashes_of_1 A)
def l_clashes_of_3 (A : Ads) : S := (forS (cIt (tmp (cProp A.House "apart" (g_House_apart A) (tmp (nf 0))))) (unpG (consG (setV 3) (consG (setV 4) nilG))) (lb_clashes_of_2 A))
def b_clashes_of (A : Ads) : S :=
  (seqS (bndS (cLst nilM) (asgS (setV 2)))
  (seqS (l_clashes_of_3 A)
  (bndS (mv 2) retS)))
def g_clashes_of (A : Ads) : List O → Option (O × TL.Env) := fnG 2 7 (fxL []) (b_clashes_of A)
theorem ok_clashes_of (T : Txt K mg A) : OkF P w K mg base 5 "clashes_of" ["house", "wish"] (g_clashes_of A) := by
  refine okf_mk 2 7 T.f_clashes_of sc_clashes_of rfl rfl (fun _ _ _ _ _ _ us hl => match us, hl with | [_, _], _ => rfl) fun f cdv A outer s H E hr hgd => ?_
  exact (sb_cons (ss_set 2 sc_clashes_of.nd (se_lst ae_nil))
  (sb_cons (ss_for own_cx rfl (ie_val (oe_of (se_pr T.cl_House.cl (ok_House_apart T) (hr.mono (by decide)) hgd (oe_of (se_nf 0))))) (tg_unp rfl (tgs_cons (tg_name 3 sc_clashes_of.nd) (tgs_cons (tg_name 4 sc_clashes_of.nd) tgs_nil)) (gs_lenS (gs_lenS gs_len0))) (sb_one (ss_for own_cx rfl (ie_range1 rfl T.b_range (ae_cons (se_fz (se_callB cs_lenA rfl T.b_len rfl (ao_cons (oe_of (se_fld (T.fld_Wish__own_targets) (oe_of (se_nf 1)))) ao_nil))) ae_nil)) (tg_name 5 sc_clashes_of.nd) (sb_cons (ss_set 6 sc_clashes_of.nd (se_ok (ok_ends_of T) (hr.mono (by decide)) hgd (ao_cons (oe_of (se_nf 1)) (ao_cons (oe_of (se_nf 5)) (ao_cons (oe_of (se_nf 3)) (ao_cons (oe_of (se_nf 4)) ao_nil))))))
  (sb_one (ss_if (be_cmp (os_neD hr.units) (oe_of (se_ix (is_ixA hr.units) (oe_of (se_nf 6)) (oe_of se_int))) (oe_of (se_ix (is_ixA hr.units) (oe_of (se_nf 6)) (oe_of se_int))) (nomark _)) (sb_one (ss_expr (se_appendN 2 (ae_cons (se_fz (se_tup (ae_cons (se_nf 5) (ae_cons (se_nf 3) (ae_cons (se_nf 4) (ae_star (oe_of (se_nf 6)) ae_nil)))))) ae_nil)))) sb_nil))))))
  (sb_one (ss_ret (se_name 2)))))
theorem sc_breach_of : FnScope ["house", "wish", "some", "ahead", "behind", "sizes", "state", "one", "other", "end", "later"] ["house", "wish"] (defScope s_breach_of) := ⟨rfl, rfl, rfl, by decide +kernel, rfl, by decide +kernel, by decide +kernel⟩
def b_breach_of (A : Ads) : S :=
  (seqS (bndS (cFn (g_clashes_of A) (consO (tmp (nf 0)) (consO (tmp (nf 1)) nilO))) (asgS (setV 2)))
  (seqS (ifS (asB (cBin (gEqD false) (tmp (nf 2)) (tmp (cLst nilM)))) (bndS (con .non) retS) nilS)
  (seqS noS
  (seqS noS
  (seqS noS
  noS)))))
def g_breach_of (A : Ads) : List O → Option (O × TL.Env) := fnG 2 11 (fxL []) (b_breach_of A)
theorem ok_breach_of (T : Txt K mg A) : OkF P w K mg base 6 "breach_of" ["house", "wish"] (g_breach_of A) := by
  refine okf_mk 2 11 T.f_breach_of sc_breach_of rfl rfl (fun _ _ _ _ _ _ us hl => match us, hl with | [_, _], _ => rfl) fun f cdv A outer s H E hr hgd => ?_
  exact (sb_cons (ss_set 2 sc_breach_of.nd (se_ok (ok_clashes_of T) (hr.mono (by decide)) hgd (ao_cons (oe_of (se_nf 0)) (ao_cons (oe_of (se_nf 1)) ao_nil))))
  (sb_cons (ss_if (be_cmp (os_eqD hr.units) (oe_of (se_nf 2)) (oe_of (se_lst ae_nil)) (nomark _)) (sb_one (ss_ret se_non)) sb_nil)
  (sb_cons ss_never
  (sb_cons ss_never
  (sb_cons ss_never
  (sb_one ss_never))))))
theorem sc_require_steady : FnScope ["house", "wish", "found"] ["house", "wish"] (defScope s_require_steady) := ⟨rfl, rfl, rfl, by decide +kernel, rfl, by decide +kernel, by decide +kernel⟩
def b_require_steady (A : Ads) : S :=
  (seqS (bndS (cFn (g_breach_of A) (consO (tmp (nf 0)) (consO (tmp (nf 1)) nilO))) (asgS (setV 2)))
  (ifS (asB (cBin (gIsN true) (tmp (nf 2)) (tmp (con .non)))) noS nilS))
def g_require_steady (A : Ads) : List O → Option (O × TL.Env) := fnG 2 3 (fxL []) (b_require_steady A)
theorem ok_require_steady (T : Txt K mg A) : OkF P w K mg base 7 "require_steady" ["house", "wish"] (g_require_steady A) := by
  refine okf_mk 2 3 T.f_require_steady sc_require_steady rfl rfl (fun _ _ _ _ _ _ us hl => match us, hl with | [_, _], _ => rfl) fun f cdv A outer s H E hr hgd => ?_
  exact (sb_cons (ss_set 2 sc_require_steady.nd (se_ok (ok_breach_of T) (hr.mono (by decide)) hgd (ao_cons (oe_of (se_nf 0)) (ao_cons (oe_of (se_nf 1)) ao_nil))))
  (sb_one (ss_if (be_cmp os_notN (oe_of (se_nf 2)) (oe_of se_non) (nomark _)) (sb_one ss_never) sb_nil)))
theorem sc_joint_past : FnScope ["house", "row", "hands", "known", "found", "hand", "deed"] ["house", "row", "hands"] (defScope s_joint_past) := ⟨rfl, rfl, rfl, by decide +kernel, rfl, by decide +kernel, by decide +kernel⟩
def q_joint_past_0 (A : Ads) : M O := (dcM (cIt (tmp (nf 2))) (setV 5) (ret true) (nf 5) (con (.bl true)) [5])
def q_joint_past_1 (A : Ads) : M O := (compM (cIt (tmp (cBin gIxA (tmp (cFld [A.House] "own_deeds" (tmp (nf 0)))) (tmp (nf 6))))) (setV 5) (ret true) (cBin (gInA false) (tmp (nf 5)) (op 3)) [5])
def q_joint_past_2 (A : Ads) : M O := (dcM (cIt (tmp (cBin gIxA (tmp (cFld [A.House] "own_deeds" (tmp (nf 0)))) (tmp (nf 6))))) (setV 5) (ret true) (nf 5) (con (.bl true)) [5])
def lb_joint_past_3 (A : Ads) : S := (ifS (asB (cCall gAny (consO (tmp (q_joint_past_1 A)) nilO))) (seqS (iorS 3 (fz (q_joint_past_2 A)))
  (bndS (cMuN "list" uAppend 4 (consM (nf 6) nilM)) dropS)) nilS)
def l_joint_past_4 (A : Ads) : S := (forS (cIt (tmp (cRevA (tmp (nf 1))))) (setV 6) (lb_joint_past_3 A))
def b_joint_past (A : Ads) : S :=
  (seqS (bndS (consM (q_joint_past_0 A) (consM (cLst nilM) nilM)) (parS 3 4))
  (seqS (l_joint_past_4 A)
  (bndS (cCall gTupleA (consO (tmp (cRevA (op 4))) nilO)) retS)))
def g_joint_past (A : Ads) : List O → Option (O × TL.Env) := fnG 3 7 (fxL []) (b_joint_past A)
theorem ok_joint_past (T : Txt K mg A) : OkF P w K mg base 1 "joint_past" ["house", "row", "hands"] (g_joint_past A) := by
  refine okf_mk 3 7 T.f_joint_past sc_joint_past rfl rfl (fun _ _ _ _ _ _ us hl => match us, hl with | [_, _, _], _ => rfl) fun f cdv A outer s H E hr hgd => ?_
  exact (sb_cons (ss_parC 3 4 rfl sc_joint_past.nd (ae_cons (se_dc (own := [("hand", 5)]) rfl sc_joint_past.nd (blkOk_by (by kernel_rfl)) (ie_val (oe_of (se_nf 2))) (fun _ _ _ _ _ => (tg_name 5 sc_joint_past.nd)) (fun _ _ _ _ _ => ts_nil) (fun _ _ _ _ _ => (se_nf 5)) (fun _ _ _ _ _ => se_bl)) (ae_cons (se_lst ae_nil) ae_nil)))
  (sb_cons (ss_for own_cx rfl (ie_val (oe_of (se_revA (oe_of (se_nf 1))))) (tg_name 6 sc_joint_past.nd) (sb_one (ss_if (be_val (se_callB (cs_any rfl) rfl T.b_any rfl (ao_cons (oe_of (se_lc (own := [("hand", 5)]) rfl sc_joint_past.nd (blkOk_by (by kernel_rfl)) (ie_val (oe_of (se_ix (is_ixA hr.units) (oe_of (se_fld (T.fld_House__own_deeds) (oe_of (se_nf 0)))) (oe_of (se_nf 6))))) (fun _ _ _ _ _ => (tg_name 5 sc_joint_past.nd)) (fun _ _ _ _ _ => ts_nil) (fun _ _ _ _ _ => (se_cmp (os_inA (units65 hr)) (oe_of (se_nf 5)) (oe_name 3) (by with_unfolding_all rfl))))) ao_nil))) (sb_cons (ss_ior 3 sc_joint_past.nd (se_fz (se_dc (own := [("hand", 5)]) rfl sc_joint_past.nd (blkOk_by (by kernel_rfl)) (ie_val (oe_of (se_ix (is_ixA hr.units) (oe_of (se_fld (T.fld_House__own_deeds) (oe_of (se_nf 0)))) (oe_of (se_nf 6))))) (fun _ _ _ _ _ => (tg_name 5 sc_joint_past.nd)) (fun _ _ _ _ _ => ts_nil) (fun _ _ _ _ _ => (se_nf 5)) (fun _ _ _ _ _ => se_bl))))
  (sb_one (ss_expr (se_appendN 4 (ae_cons (se_nf 6) ae_nil))))) sb_nil)))
  (sb_one (ss_ret (se_callTy (cs_tupleA rfl) rfl T.b_tuple rfl (ao_cons (oe_of (se_revA (oe_name 4))) ao_nil))))))
theorem sc_state_behind : FnScope ["wish", "row", "state", "deed"] ["wish", "row", "state"] (defScope s_state_behind) := ⟨rfl, rfl, rfl, by decide +kernel, rfl, by decide +kernel, by decide +kernel⟩
def lb_state_behind_0 (A : Ads) : S := (bndS (cBin gIxA (tmp (cBin gIxA (tmp (cFld [A.Wish] "own_targets" (tmp (nf 0)))) (tmp (nf 2)))) (tmp (cBin gIxA (tmp (cFld [A.Wish] "own_numbers" (tmp (nf 0)))) (tmp (nf 3))))) (asgS (setV 2)))
def l_state_behind_1 (A : Ads) : S := (forS (cIt (tmp (nf 1))) (setV 3) (lb_state_behind_0 A))
def b_state_behind (A : Ads) : S :=
  (seqS (l_state_behind_1 A)
  (bndS (nf 2) retS))
def g_state_behind (A : Ads) : List O → Option (O × TL.Env) := fnG 3 4 (fxL []) (b_state_behind A)
theorem ok_state_behind_0 (T : Txt K mg A) : OkD P w K mg base 1 "state_behind" ["wish", "row", "state"] [] (g_state_behind A) := by
  refine okd_mk 3 4 T.f_state_behind sc_state_behind rfl rfl (fun f cdv A outer s H E hr hgd => ?_) 1 3 [] (by simp) rfl (fun _ => .nil) (fun _ _ _ _ _ _ _ us its h1 h2 => match us, its, h1, h2 with | [_, _, _], [_], _, _ => ⟨_, rfl, rfl⟩)
  exact (sb_cons (ss_for own_cx rfl (ie_val (oe_of (se_nf 1))) (tg_name 3 sc_state_behind.nd) (sb_one (ss_set 2 sc_state_behind.nd (se_ix (is_ixA hr.units) (oe_of (se_ix (is_ixA hr.units) (oe_of (se_fld (T.fld_Wish__own_targets) (oe_of (se_nf 0)))) (oe_of (se_nf 2)))) (oe_of (se_ix (is_ixA hr.units) (oe_of (se_fld (T.fld_Wish__own_numbers) (oe_of (se_nf 0)))) (oe_of (se_nf 3))))))))
  (sb_one (ss_ret (se_nf 2))))
theorem ok_state_behind_1 (T : Txt K mg A) : OkD P w K mg base 1 "state_behind" ["wish", "row", "state"] [D.int (0)] (g_state_behind A) := by
  refine okd_mk 3 4 T.f_state_behind sc_state_behind rfl rfl (fun f cdv A outer s H E hr hgd => ?_) 0 2 [D.int (0)] (by simp) rfl (fun _ => .cons (.int _) (.nil)) (fun _ _ _ _ _ _ _ us its h1 h2 => match us, its, h1, h2 with | [_, _], [_], _, _ => ⟨_, rfl, rfl⟩)
  exact (sb_cons (ss_for own_cx rfl (ie_val (oe_of (se_nf 1))) (tg_name 3 sc_state_behind.nd) (sb_one (ss_set 2 sc_state_behind.nd (se_ix (is_ixA hr.units) (oe_of (se_ix (is_ixA hr.units) (oe_of (se_fld (T.fld_Wish__own_targets) (oe_of (se_nf 0)))) (oe_of (se_nf 2)))) (oe_of (se_ix (is_ixA hr.units) (oe_of (se_fld (T.fld_Wish__own_numbers) (oe_of (se_nf 0)))) (oe_of (se_nf 3))))))))
  (sb_one (ss_ret (se_nf 2))))
theorem sc_view_of : FnScope ["house", "wish", "row", "hands"] ["house", "wish", "row", "hands"] (defScope s_view_of) := ⟨rfl, rfl, rfl, by decide +kernel, rfl, by decide +kernel, by decide +kernel⟩
def b_view_of (A : Ads) : S :=
  (bndS (cFnD (g_state_behind A) [D.int (0)] (consO (tmp (nf 1)) (consO (tmp (cFn (g_joint_past A) (consO (tmp (nf 0)) (consO (tmp (nf 2)) (consO (tmp (nf 3)) nilO))))) nilO))) retS)
def g_view_of (A : Ads) : List O → Option (O × TL.Env) := fnG 4 4 (fxL []) (b_view_of A)
theorem ok_view_of (T : Txt K mg A) : OkF P w K mg base 2 "view_of" ["house", "wish", "row", "hands"] (g_view_of A) := by
  refine okf_mk 4 4 T.f_view_of sc_view_of rfl rfl (fun _ _ _ _ _ _ us hl => match us, hl with | [_, _, _, _], _ => rfl) fun f cdv A outer s H E hr hgd => ?_
  exact (sb_one (ss_ret (se_okD (ok_state_behind_1 T) (hr.mono (by decide)) hgd (ao_cons (oe_of (se_nf 1)) (ao_cons (oe_of (se_ok (ok_joint_past T) (hr.mono (by decide)) hgd (ao_cons (oe_of (se_nf 0)) (ao_cons (oe_of (se_nf 2)) (ao_cons (oe_of (se_nf 3)) ao_nil))))) ao_nil)))))
theorem sc_shortest_rows : FnScope ["wish", "state", "deeds", "found", "waits", "at", "here", "deed", "later"] ["wish", "state", "deeds"] (defScope s_shortest_rows) := ⟨rfl, rfl, rfl, by decide +kernel, rfl, by decide +kernel, by decide +kernel⟩
def lb_shortest_rows_0 (A : Ads) : S := (seqS (bndS (cBin gIxA (tmp (cBin gIxA (tmp (cFld [A.Wish] "own_targets" (tmp (nf 0)))) (tmp (nf 6)))) (tmp (cBin gIxA (tmp (cFld [A.Wish] "own_numbers" (tmp (nf 0)))) (tmp (nf 7))))) (asgS (setV 8)))
  (ifS (asB (cBin (gInA true) (tmp (nf 8)) (op 3))) (seqS (bndS (fz (cTup (starM (tmp (cBin gIxA (op 3) (tmp (nf 6)))) (consM (nf 7) nilM)))) (setS uSetA (op 3) (nf 8)))
  (bndS (cMuN "list" uAppend 4 (consM (nf 8) nilM)) dropS)) nilS))
def l_shortest_rows_1 (A : Ads) : S := (forS (cIt (tmp (nf 2))) (setV 7) (lb_shortest_rows_0 A))
def lb_shortest_rows_2 (A : Ads) : S := (seqS (bndS (cBin gIxA (op 4) (tmp (nf 5))) (asgS (setV 6)))
  (seqS (l_shortest_rows_1 A)
  (augS (· + ·) 5 (con (.int 1)))))
def l_shortest_rows_3 (A : Ads) : S := (whileS (asB (cBin gLt (tmp (nf 5)) (tmp (cCall gLenA (consO (op 4) nilO))))) (lb_shortest_rows_2 A) 100)
def b_shortest_rows (A : Ads) : S :=
  (seqS (bndS (consM (cDisp [((nf 1), (fz (cTup nilM)))]) (consM (cLst (consM (nf 1) nilM)) (consM (con (.int 0)) nilM))) (par3S 3 4 5))
  (seqS (l_shortest_rows_3 A)
  (bndS (mv 3) retS)))
def g_shortest_rows (A : Ads) : List O → Option (O × TL.Env) := fnG 3 9 (fxL []) (b_shortest_rows A)
theorem ok_shortest_rows (T : Txt K mg A) : OkF P w K mg base 1 "shortest_rows" ["wish", "state", "deeds"] (g_shortest_rows A) := by
  refine okf_mk 3 9 T.f_shortest_rows sc_shortest_rows rfl rfl (fun _ _ _ _ _ _ us hl => match us, hl with | [_, _, _], _ => rfl) fun f cdv A outer s H E hr hgd => ?_
  exact (sb_cons (ss_par3 3 4 5 rfl sc_shortest_rows.nd (ae_cons (se_disp (ds_cons (se_nf 1) (se_fz (se_tup ae_nil)) ds_nil)) (ae_cons (se_lst (ae_cons (se_nf 1) ae_nil)) (ae_cons se_int ae_nil))))
  (sb_cons (ss_while 100 own_cx (be_cmp os_lt (oe_of (se_nf 5)) (oe_of (se_callB cs_lenA rfl T.b_len rfl (ao_cons (oe_name 4) ao_nil))) (nomark _)) (sb_cons (ss_set 6 sc_shortest_rows.nd (se_ix (is_ixA hr.units) (oe_name 4) (oe_of (se_nf 5))))
  (sb_cons (ss_for own_cx rfl (ie_val (oe_of (se_nf 2))) (tg_name 7 sc_shortest_rows.nd) (sb_cons (ss_set 8 sc_shortest_rows.nd (se_ix (is_ixA hr.units) (oe_of (se_ix (is_ixA hr.units) (oe_of (se_fld (T.fld_Wish__own_targets) (oe_of (se_nf 0)))) (oe_of (se_nf 6)))) (oe_of (se_ix (is_ixA hr.units) (oe_of (se_fld (T.fld_Wish__own_numbers) (oe_of (se_nf 0)))) (oe_of (se_nf 7))))))
  (sb_one (ss_if (be_cmp (os_notInA (units65 hr)) (oe_of (se_nf 8)) (oe_name 3) (by with_unfolding_all rfl)) (sb_cons (ss_setIx (ss_uSetA hr.units) (se_fz (se_tup (ae_star (oe_of (se_ix (is_ixA hr.units) (oe_name 3) (oe_of (se_nf 6)))) (ae_cons (se_nf 7) ae_nil)))) (oe_name 3) (se_nf 8))
  (sb_one (ss_expr (se_appendN 4 (ae_cons (se_nf 8) ae_nil))))) sb_nil))))
  (sb_one (ss_augI ip_add 5 sc_shortest_rows.nd se_int)))))
  (sb_one (ss_ret (se_name 3)))))
theorem sc_states_far : FnScope ["wish", "states", "found", "state", "later"] ["wish", "states"] (defScope s_states_far) := ⟨rfl, rfl, rfl, by decide +kernel, rfl, by decide +kernel, by decide +kernel⟩
def q_states_far_0 (A : Ads) : M O := (dcM (cIt (tmp (fz (cFn (g_shortest_rows A) (consO (tmp (nf 0)) (consO (tmp (nf 3)) (consO (tmp (cFld [A.Wish] "own_deeds" (tmp (nf 0)))) nilO))))))) (setV 4) (ret true) (nf 4) (con (.bl true)) [4])
def lb_states_far_1 (A : Ads) : S := (iorS 2 (fz (q_states_far_0 A)))
def l_states_far_2 (A : Ads) : S := (forS (cIt (tmp (nf 1))) (setV 3) (lb_states_far_1 A))
def b_states_far (A : Ads) : S :=
  (seqS (bndS cNewD (asgS (setV 2)))
  (seqS (l_states_far_2 A)
  (bndS (cCall gTupleA (consO (tmp (cCall gSortedB (consO (tmp (cCall gListB (consO (op 2) nilO))) nilO))) nilO)) retS)))
def g_states_far (A : Ads) : List O → Option (O × TL.Env) := fnG 2 5 (fxL []) (b_states_far A)
theorem ok_states_far (T : Txt K mg A) : OkF P w K mg base 2 "states_far" ["wish", "states"] (g_states_far A) := by
  refine okf_mk 2 5 T.f_states_far sc_states_far rfl rfl (fun _ _ _ _ _ _ us hl => match us, hl with | [_, _], _ => rfl) fun f cdv A outer s H E hr hgd => ?_
  exact (sb_cons (ss_set 2 sc_states_far.nd se_newD)
  (sb_cons (ss_for own_cx rfl (ie_val (oe_of (se_nf 1))) (tg_name 3 sc_states_far.nd) (sb_one (ss_ior 2 sc_states_far.nd (se_fz (se_dc (own := [("later", 4)]) rfl sc_states_far.nd (blkOk_by (by kernel_rfl)) (ie_val (oe_of (se_fz (se_ok (ok_shortest_rows T) (hr.mono (by decide)) hgd (ao_cons (oe_of (se_nf 0)) (ao_cons (oe_of (se_nf 3)) (ao_cons (oe_of (se_fld (T.fld_Wish__own_deeds) (oe_of (se_nf 0)))) ao_nil))))))) (fun _ _ _ _ _ => (tg_name 4 sc_states_far.nd)) (fun _ _ _ _ _ => ts_nil) (fun _ _ _ _ _ => (se_nf 4)) (fun _ _ _ _ _ => se_bl))))))
  (sb_one (ss_ret (se_callTy (cs_tupleA rfl) rfl T.b_tuple rfl (ao_cons (oe_of (se_callB (cs_sortedB rfl hr.units) rfl T.b_sorted rfl (ao_cons (oe_of (se_callTy (cs_listB rfl) rfl T.b_list rfl (ao_cons (oe_name 2) ao_nil))) ao_nil))) ao_nil))))))
theorem sc_require_wished : FnScope ["house", "wish"] ["house", "wish"] (defScope s_require_wished) := ⟨rfl, rfl, rfl, by decide +kernel, rfl, by decide +kernel, by decide +kernel⟩
def b_require_wished (A : Ads) : S :=
  (seqS (bndS (cFn (g_require_fit A) (consO (tmp (nf 0)) (consO (tmp (nf 1)) nilO))) dropS)
  (bndS (cFn (g_require_steady A) (consO (tmp (nf 0)) (consO (tmp (nf 1)) nilO))) dropS))
def g_require_wished (A : Ads) : List O → Option (O × TL.Env) := fnG 2 2 (fxL []) (b_require_wished A)
theorem ok_require_wished (T : Txt K mg A) : OkF P w K mg base 8 "require_wished" ["house", "wish"] (g_require_wished A) := by
  refine okf_mk 2 2 T.f_require_wished sc_require_wished rfl rfl (fun _ _ _ _ _ _ us hl => match us, hl with | [_, _], _ => rfl) fun f cdv A outer s H E hr hgd => ?_
  exact (sb_cons (ss_expr (se_ok (ok_require_fit T) (hr.mono (by decide)) hgd (ao_cons (oe_of (se_nf 0)) (ao_cons (oe_of (se_nf 1)) ao_nil))))
  (sb_one (ss_expr (se_ok (ok_require_steady T) (hr.mono (by decide)) hgd (ao_cons (oe_of (se_nf 0)) (ao_cons (oe_of (se_nf 1)) ao_nil))))))
theorem sc_is_lasting_of : FnScope ["wish", "states", "state", "later"] ["wish", "states"] (defScope s_is_lasting_of) := ⟨rfl, rfl, rfl, by decide +kernel, rfl, by decide +kernel, by decide +kernel⟩
def q_is_lasting_of_0 (A : Ads) : M O := (compM2 (cIt (tmp (nf 1))) (setV 2) (ret true) (cIt (tmp (cBin gIxA (tmp (cFld [A.Wish] "own_targets" (tmp (nf 0)))) (tmp (nf 2))))) (setV 3) (ret true) (cBin (gInA false) (tmp (nf 3)) (tmp (nf 1))) [2, 3] [3])
def b_is_lasting_of (A : Ads) : S :=
  (bndS (cCall gAll (consO (tmp (q_is_lasting_of_0 A)) nilO)) retS)
def g_is_lasting_of (A : Ads) : List O → Option (O × TL.Env) := fnG 2 4 (fxL []) (b_is_lasting_of A)
theorem ok_is_lasting_of (T : Txt K mg A) : OkF P w K mg base 1 "is_lasting_of" ["wish", "states"] (g_is_lasting_of A) := by
  refine okf_mk 2 4 T.f_is_lasting_of sc_is_lasting_of rfl rfl (fun _ _ _ _ _ _ us hl => match us, hl with | [_, _], _ => rfl) fun f cdv A outer s H E hr hgd => ?_
  exact (sb_one (ss_ret (se_callB (cs_all rfl) rfl T.b_all rfl (ao_cons (oe_of (se_lc2 (own := [("state", 2), ("later", 3)]) [3] rfl sc_is_lasting_of.nd (blkOk_by (by kernel_rfl)) (by decide) (ie_val (oe_of (se_nf 1))) (fun _ _ _ _ _ => (tg_name 2 sc_is_lasting_of.nd)) (fun _ _ _ _ _ => ts_nil) (fun _ _ _ _ _ => (ie_val (oe_of (se_ix (is_ixA hr.units) (oe_of (se_fld (T.fld_Wish__own_targets) (oe_of (se_nf 0)))) (oe_of (se_nf 2)))))) (fun _ _ _ _ _ => (tg_name 3 sc_is_lasting_of.nd)) (fun _ _ _ _ _ => ts_nil) (fun _ _ _ _ _ => (se_cmp (os_inA (units65 hr)) (oe_of (se_nf 3)) (oe_of (se_nf 1)) (by with_unfolding_all rfl))))) ao_nil))))
theorem sc_require_lasting : FnScope ["wish", "states"] ["wish", "states"] (defScope s_require_lasting) := ⟨rfl, rfl, rfl, by decide +kernel, rfl, by decide +kernel, by decide +kernel⟩
def b_require_lasting (A : Ads) : S :=
  (seqS (bndS (cFn (g_require_states A) (consO (tmp (nf 0)) (consO (tmp (nf 1)) nilO))) dropS)
  (ifS (cNot (asB (cFn (g_is_lasting_of A) (consO (tmp (nf 0)) (consO (tmp (nf 1)) nilO))))) noS nilS))
def g_require_lasting (A : Ads) : List O → Option (O × TL.Env) := fnG 2 2 (fxL []) (b_require_lasting A)
theorem ok_require_lasting (T : Txt K mg A) : OkF P w K mg base 5 "require_lasting" ["wish", "states"] (g_require_lasting A) := by
  refine okf_mk 2 2 T.f_require_lasting sc_require_lasting rfl rfl (fun _ _ _ _ _ _ us hl => match us, hl with | [_, _], _ => rfl) fun f cdv A outer s H E hr hgd => ?_
  exact (sb_cons (ss_expr (se_ok (ok_require_states T) (hr.mono (by decide)) hgd (ao_cons (oe_of (se_nf 0)) (ao_cons (oe_of (se_nf 1)) ao_nil))))
  (sb_one (ss_if (be_not (be_val (se_ok (ok_is_lasting_of T) (hr.mono (by decide)) hgd (ao_cons (oe_of (se_nf 0)) (ao_cons (oe_of (se_nf 1)) ao_nil))))) (sb_one ss_never) sb_nil)))
theorem sc_is_missed_at : FnScope ["wish", "states", "state", "one", "other", "first", "second", "here"] ["wish", "states", "state", "one", "other"] (defScope s_is_missed_at) := ⟨rfl, rfl, rfl, by decide +kernel, rfl, by decide +kernel, by decide +kernel⟩
def q_is_missed_at_0 (A : Ads) : M O := (compM (cIt (tmp (cTup (consM (nf 2) (consM (nf 5) (consM (nf 6) nilM)))))) (setV 7) (ret true) (cBin (gInA false) (tmp (nf 7)) (tmp (nf 1))) [7])
def b_is_missed_at (A : Ads) : S :=
  (seqS (bndS (consM (cFnD (g_state_behind A) [] (consO (tmp (nf 0)) (consO (tmp (cTup (consM (nf 3) nilM))) (consO (tmp (nf 2)) nilO)))) (consM (cFnD (g_state_behind A) [] (consO (tmp (nf 0)) (consO (tmp (cTup (consM (nf 4) nilM))) (consO (tmp (nf 2)) nilO)))) nilM)) (parS 5 6))
  (seqS (ifS (asB (cCall gAny (consO (tmp (q_is_missed_at_0 A)) nilO))) (bndS (con (.bl false)) retS) nilS)
  (bndS (cBin (gInA false) (tmp (cFnD (g_state_behind A) [] (consO (tmp (nf 0)) (consO (tmp (cTup (consM (nf 4) nilM))) (consO (tmp (nf 5)) nilO))))) (tmp (nf 1))) retS)))
def g_is_missed_at (A : Ads) : List O → Option (O × TL.Env) := fnG 5 8 (fxL []) (b_is_missed_at A)
theorem ok_is_missed_at (T : Txt K mg A) : OkF P w K mg base 2 "is_missed_at" ["wish", "states", "state", "one", "other"] (g_is_missed_at A) := by
  refine okf_mk 5 8 T.f_is_missed_at sc_is_missed_at rfl rfl (fun _ _ _ _ _ _ us hl => match us, hl with | [_, _, _, _, _], _ => rfl) fun f cdv A outer s H E hr hgd => ?_
  exact (sb_cons (ss_par 5 6 rfl sc_is_missed_at.nd (ae_cons (se_okD (ok_state_behind_0 T) (hr.mono (by decide)) hgd (ao_cons (oe_of (se_nf 0)) (ao_cons (oe_of (se_tup (ae_cons (se_nf 3) ae_nil))) (ao_cons (oe_of (se_nf 2)) ao_nil)))) (ae_cons (se_okD (ok_state_behind_0 T) (hr.mono (by decide)) hgd (ao_cons (oe_of (se_nf 0)) (ao_cons (oe_of (se_tup (ae_cons (se_nf 4) ae_nil))) (ao_cons (oe_of (se_nf 2)) ao_nil)))) ae_nil)))
  (sb_cons (ss_if (be_val (se_callB (cs_any rfl) rfl T.b_any rfl (ao_cons (oe_of (se_lc (own := [("here", 7)]) rfl sc_is_missed_at.nd (blkOk_by (by kernel_rfl)) (ie_val (oe_of (se_tup (ae_cons (se_nf 2) (ae_cons (se_nf 5) (ae_cons (se_nf 6) ae_nil)))))) (fun _ _ _ _ _ => (tg_name 7 sc_is_missed_at.nd)) (fun _ _ _ _ _ => ts_nil) (fun _ _ _ _ _ => (se_cmp (os_inA (units65 hr)) (oe_of (se_nf 7)) (oe_of (se_nf 1)) (by with_unfolding_all rfl))))) ao_nil))) (sb_one (ss_ret se_bl)) sb_nil)
  (sb_one (ss_ret (se_cmp (os_inA (units65 hr)) (oe_of (se_okD (ok_state_behind_0 T) (hr.mono (by decide)) hgd (ao_cons (oe_of (se_nf 0)) (ao_cons (oe_of (se_tup (ae_cons (se_nf 4) ae_nil))) (ao_cons (oe_of (se_nf 5)) ao_nil))))) (oe_of (se_nf 1)) (by with_unfolding_all rfl))))))
theorem sc_first_missed : FnScope ["house", "wish", "states", "state", "one", "other"] ["house", "wish", "states"] (defScope s_first_missed) := ⟨rfl, rfl, rfl, by decide +kernel, rfl, by decide +kernel, by decide +kernel⟩
def lb_first_missed_0 (A : Ads) : S := (ifS (asB (cFn (g_is_missed_at A) (consO (tmp (nf 1)) (consO (tmp (nf 2)) (consO (tmp (nf 3)) (consO (tmp (nf 4)) (consO (tmp (nf 5)) nilO))))))) (bndS (cTup (consM (nf 3) (consM (nf 4) (consM (nf 5) nilM)))) retS) nilS)
def l_first_missed_1 (A : Ads) : S := (forS (cIt (tmp (cProp A.House "apart" (g_House_apart A) (tmp (nf 0))))) (unpG (consG (setV 4) (consG (setV 5) nilG))) (lb_first_missed_0 A))
def lb_first_missed_2 (A : Ads) : S := (l_first_missed_1 A)
def l_first_missed_3 (A : Ads) : S := (forS (cRng1 (consM (fz (cCall gLenA (consO (tmp (cFld [A.Wish] "own_targets" (tmp (nf 1)))) nilO))) nilM)) (setV 3) (lb_first_missed_2 A))
def b_first_missed (A : Ads) : S :=
  (seqS (l_first_missed_3 A)
  (bndS (con .non) retS))
def g_first_missed (A : Ads) : List O → Option (O × TL.Env) := fnG 3 6 (fxL []) (b_first_missed A)
theorem ok_first_missed (T : Txt K mg A) : OkF P w K mg base 5 "first_missed" ["house", "wish", "states"] (g_first_missed A) := by
  refine okf_mk 3 6 T.f_first_missed sc_first_missed rfl rfl (fun _ _ _ _ _ _ us hl => match us, hl with | [_, _, _], _ => rfl) fun f cdv A outer s H E hr hgd => ?_
  exact (sb_cons (ss_for own_cx rfl (ie_range1 rfl T.b_range (ae_cons (se_fz (se_callB cs_lenA rfl T.b_len rfl (ao_cons (oe_of (se_fld (T.fld_Wish__own_targets) (oe_of (se_nf 1)))) ao_nil))) ae_nil)) (tg_name 3 sc_first_missed.nd) (sb_one (ss_for own_cx rfl (ie_val (oe_of (se_pr T.cl_House.cl (ok_House_apart T) (hr.mono (by decide)) hgd (oe_of (se_nf 0))))) (tg_unp rfl (tgs_cons (tg_name 4 sc_first_missed.nd) (tgs_cons (tg_name 5 sc_first_missed.nd) tgs_nil)) (gs_lenS (gs_lenS gs_len0))) (sb_one (ss_if (be_val (se_ok (ok_is_missed_at T) (hr.mono (by decide)) hgd (ao_cons (oe_of (se_nf 1)) (ao_cons (oe_of (se_nf 2)) (ao_cons (oe_of (se_nf 3)) (ao_cons (oe_of (se_nf 4)) (ao_cons (oe_of (se_nf 5)) ao_nil))))))) (sb_one (ss_ret (se_tup (ae_cons (se_nf 3) (ae_cons (se_nf 4) (ae_cons (se_nf 5) ae_nil)))))) sb_nil)))))
  (sb_one (ss_ret se_non)))
theorem sc_knowers_of : FnScope ["house", "wish", "row", "states", "hand"] ["house", "wish", "row", "states"] (defScope s_knowers_of) := ⟨rfl, rfl, rfl, by decide +kernel, rfl, by decide +kernel, by decide +kernel⟩
def q_knowers_of_0 (A : Ads) : M O := (compM (cIt (tmp (cFld [A.House] "own_hands" (tmp (nf 0))))) (setV 4) (asB (cBin (gInA false) (tmp (cFn (g_view_of A) (consO (tmp (nf 0)) (consO (tmp (nf 1)) (consO (tmp (nf 2)) (consO (tmp (cTup (consM (nf 4) nilM))) nilO)))))) (tmp (nf 3)))) (nf 4) [4])
def b_knowers_of (A : Ads) : S :=
  (bndS (cCall gTupleA (consO (tmp (q_knowers_of_0 A)) nilO)) retS)
def g_knowers_of (A : Ads) : List O → Option (O × TL.Env) := fnG 4 5 (fxL []) (b_knowers_of A)
theorem ok_knowers_of (T : Txt K mg A) : OkF P w K mg base 3 "knowers_of" ["house", "wish", "row", "states"] (g_knowers_of A) := by
  refine okf_mk 4 5 T.f_knowers_of sc_knowers_of rfl rfl (fun _ _ _ _ _ _ us hl => match us, hl with | [_, _, _, _], _ => rfl) fun f cdv A outer s H E hr hgd => ?_
  exact (sb_one (ss_ret (se_callTy (cs_tupleA rfl) rfl T.b_tuple rfl (ao_cons (oe_of (se_lc (own := [("hand", 4)]) rfl sc_knowers_of.nd (blkOk_by (by kernel_rfl)) (ie_val (oe_of (se_fld (T.fld_House__own_hands) (oe_of (se_nf 0))))) (fun _ _ _ _ _ => (tg_name 4 sc_knowers_of.nd)) (fun _ _ _ _ _ => (ts_one (be_cmp (os_inA (units65 hr)) (oe_of (se_ok (ok_view_of T) (hr.mono (by decide)) hgd (ao_cons (oe_of (se_nf 0)) (ao_cons (oe_of (se_nf 1)) (ao_cons (oe_of (se_nf 2)) (ao_cons (oe_of (se_tup (ae_cons (se_nf 4) ae_nil))) ao_nil)))))) (oe_of (se_nf 3)) (by with_unfolding_all rfl)))) (fun _ _ _ _ _ => (se_nf 4)))) ao_nil))))
theorem sc_is_within : FnScope ["some", "states", "state"] ["some", "states"] (defScope s_is_within) := ⟨rfl, rfl, rfl, by decide +kernel, rfl, by decide +kernel, by decide +kernel⟩
def q_is_within_0 : M O := (compM (cIt (tmp (nf 0))) (setV 2) (ret true) (cBin (gInA false) (tmp (nf 2)) (tmp (nf 1))) [2])
def b_is_within : S :=
  (bndS (cCall gAll (consO (tmp (q_is_within_0)) nilO)) retS)
def g_is_within : List O → Option (O × TL.Env) := fnG 2 3 (fxL []) (b_is_within)
theorem ok_is_within (T : Txt K mg A) : OkF P w K mg base 1 "is_within" ["some", "states"] (g_is_within) := by
  refine okf_mk 2 3 T.f_is_within sc_is_within rfl rfl (fun _ _ _ _ _ _ us hl => match us, hl with | [_, _], _ => rfl) fun f cdv A outer s H E hr hgd => ?_
  exact (sb_one (ss_ret (se_callB (cs_all rfl) rfl T.b_all rfl (ao_cons (oe_of (se_lc (own := [("state", 2)]) rfl sc_is_within.nd (blkOk_by (by kernel_rfl)) (ie_val (oe_of (se_nf 0))) (fun _ _ _ _ _ => (tg_name 2 sc_is_within.nd)) (fun _ _ _ _ _ => ts_nil) (fun _ _ _ _ _ => (se_cmp (os_inA (units65 hr)) (oe_of (se_nf 2)) (oe_of (se_nf 1)) (by with_unfolding_all rfl))))) ao_nil))))
theorem sc_noticed_around : FnScope ["house", "wish", "states", "found", "known", "waits", "here", "missed", "deed"] ["house", "wish", "states"] (defScope s_noticed_around) := ⟨rfl, rfl, rfl, by decide +kernel, rfl, by decide +kernel, by decide +kernel⟩
def lb_noticed_around_0 (A : Ads) : S := (bndS (cMuN "list" uAppend 5 (consM (fz (cFn (g_states_far A) (consO (tmp (nf 1)) (consO (tmp (cTup (starM (tmp (nf 6)) (consM (fz (cFnD (g_state_behind A) [] (consO (tmp (nf 1)) (consO (tmp (cTup (consM (nf 8) nilM))) (consO (tmp (cBin gIxA (tmp (nf 7)) (tmp (con (.int 0))))) nilO))))) nilM)))) nilO)))) nilM)) dropS)
def l_noticed_around_1 (A : Ads) : S := (forS (cIt (tmp (cSl (tmp (nf 7)) (asI (con (.int 1))) (ret none)))) (setV 8) (lb_noticed_around_0 A))
def lb_noticed_around_2 (A : Ads) : S := (seqS (bndS (cMu "list" uPop (op 5) nilM) (asgS (setV 6)))
  (ifS (asB (cBin (gInA true) (tmp (nf 6)) (op 4))) (seqS (bndS (con (.bl true)) (setS uSetA (op 4) (nf 6)))
  (seqS (bndS (cFn (g_first_missed A) (consO (tmp (nf 0)) (consO (tmp (nf 1)) (consO (tmp (nf 6)) nilO)))) (asgS (setV 7)))
  (ifS (asB (cBin (gIsN false) (tmp (nf 7)) (tmp (con .non)))) (bndS (cMuN "list" uAppend 3 (consM (nf 6) nilM)) dropS) (l_noticed_around_1 A)))) nilS))
def l_noticed_around_3 (A : Ads) : S := (whileS (asB (cBin (gEqD true) (op 5) (tmp (cLst nilM)))) (lb_noticed_around_2 A) 100)
def b_noticed_around (A : Ads) : S :=
  (seqS (bndS (consM (cLst nilM) (consM cNewDT (consM (cLst (consM (nf 2) nilM)) nilM))) (par3S 3 4 5))
  (seqS (l_noticed_around_3 A)
  (bndS (mv 3) retS)))
def g_noticed_around (A : Ads) : List O → Option (O × TL.Env) := fnG 3 9 (fxL []) (b_noticed_around A)
theorem ok_noticed_around (T : Txt K mg A) : OkF P w K mg base 6 "noticed_around" ["house", "wish", "states"] (g_noticed_around A) := by
  refine okf_mk 3 9 T.f_noticed_around sc_noticed_around rfl rfl (fun _ _ _ _ _ _ us hl => match us, hl with | [_, _, _], _ => rfl) fun f cdv A outer s H E hr hgd => ?_
  exact (sb_cons (ss_par3 3 4 5 rfl sc_noticed_around.nd (ae_cons (se_lst ae_nil) (ae_cons se_newDT (ae_cons (se_lst (ae_cons (se_nf 2) ae_nil)) ae_nil))))
  (sb_cons (ss_while 100 own_cx (be_cmp (os_neD hr.units) (oe_name 5) (oe_of (se_lst ae_nil)) (nomark _)) (sb_cons (ss_set 6 sc_noticed_around.nd (se_pop0 (oe_name 5)))
  (sb_one (ss_if (be_cmp (os_notInA (units65 hr)) (oe_of (se_nf 6)) (oe_name 4) (by with_unfolding_all rfl)) (sb_cons (ss_setIx (ss_uSetA hr.units) se_bl (oe_name 4) (se_nf 6))
  (sb_cons (ss_set 7 sc_noticed_around.nd (se_ok (ok_first_missed T) (hr.mono (by decide)) hgd (ao_cons (oe_of (se_nf 0)) (ao_cons (oe_of (se_nf 1)) (ao_cons (oe_of (se_nf 6)) ao_nil)))))
  (sb_one (ss_if (be_cmp os_isN (oe_of (se_nf 7)) (oe_of se_non) (nomark _)) (sb_one (ss_expr (se_appendN 3 (ae_cons (se_nf 6) ae_nil)))) (sb_one (ss_for own_cx rfl (ie_val (oe_of (se_slice (oe_of (se_nf 7)) (pt_some se_int) pt_none'))) (tg_name 8 sc_noticed_around.nd) (sb_one (ss_expr (se_appendN 5 (ae_cons (se_fz (se_ok (ok_states_far T) (hr.mono (by decide)) hgd (ao_cons (oe_of (se_nf 1)) (ao_cons (oe_of (se_tup (ae_star (oe_of (se_nf 6)) (ae_cons (se_fz (se_okD (ok_state_behind_0 T) (hr.mono (by decide)) hgd (ao_cons (oe_of (se_nf 1)) (ao_cons (oe_of (se_tup (ae_cons (se_nf 8) ae_nil))) (ao_cons (oe_of (se_ix (is_ixA hr.units) (oe_of (se_nf 7)) (oe_of se_int))) ao_nil))))) ae_nil)))) ao_nil)))) ae_nil)))))))))) sb_nil))))
  (sb_one (ss_ret (se_name 3)))))
theorem sc_is_noticed : FnScope ["house", "wish", "states"] ["house", "wish", "states"] (defScope s_is_noticed) := ⟨rfl, rfl, rfl, by decide +kernel, rfl, by decide +kernel, by decide +kernel⟩
def b_is_noticed (A : Ads) : S :=
  (seqS (bndS (cFn (g_require_house A) (consO (tmp (nf 0)) nilO)) dropS)
  (seqS (bndS (cFn (g_require_wish A) (consO (tmp (nf 1)) nilO)) dropS)
  (seqS (bndS (cFn (g_require_lasting A) (consO (tmp (nf 1)) (consO (tmp (nf 2)) nilO))) dropS)
  (seqS (bndS (cFn (g_require_wished A) (consO (tmp (nf 0)) (consO (tmp (nf 1)) nilO))) dropS)
  (bndS (cBin (gIsN false) (tmp (cFn (g_first_missed A) (consO (tmp (nf 0)) (consO (tmp (nf 1)) (consO (tmp (nf 2)) nilO))))) (tmp (con .non))) retS)))))
def g_is_noticed (A : Ads) : List O → Option (O × TL.Env) := fnG 3 3 (fxL []) (b_is_noticed A)
theorem ok_is_noticed (T : Txt K mg A) : OkF P w K mg base 9 "is_noticed" ["house", "wish", "states"] (g_is_noticed A) := by
  refine okf_mk 3 3 T.f_is_noticed sc_is_noticed rfl rfl (fun _ _ _ _ _ _ us hl => match us, hl with | [_, _, _], _ => rfl) fun f cdv A outer s H E hr hgd => ?_
  exact (sb_cons (ss_expr (se_ok (ok_require_house T) (hr.mono (by decide)) hgd (ao_cons (oe_of (se_nf 0)) ao_nil)))
  (sb_cons (ss_expr (se_ok (ok_require_wish T) (hr.mono (by decide)) hgd (ao_cons (oe_of (se_nf 1)) ao_nil)))
  (sb_cons (ss_expr (se_ok (ok_require_lasting T) (hr.mono (by decide)) hgd (ao_cons (oe_of (se_nf 1)) (ao_cons (oe_of (se_nf 2)) ao_nil))))
  (sb_cons (ss_expr (se_ok (ok_require_wished T) (hr.mono (by decide)) hgd (ao_cons (oe_of (se_nf 0)) (ao_cons (oe_of (se_nf 1)) ao_nil))))
  (sb_one (ss_ret (se_cmp os_isN (oe_of (se_ok (ok_first_missed T) (hr.mono (by decide)) hgd (ao_cons (oe_of (se_nf 0)) (ao_cons (oe_of (se_nf 1)) (ao_cons (oe_of (se_nf 2)) ao_nil))))) (oe_of se_non) (nomark _))))))))
theorem sc_knowers : FnScope ["house", "wish", "row", "states"] ["house", "wish", "row", "states"] (defScope s_knowers) := ⟨rfl, rfl, rfl, by decide +kernel, rfl, by decide +kernel, by decide +kernel⟩
def b_knowers (A : Ads) : S :=
  (seqS (bndS (cFn (g_require_house A) (consO (tmp (nf 0)) nilO)) dropS)
  (seqS (bndS (cFn (g_require_wish A) (consO (tmp (nf 1)) nilO)) dropS)
  (seqS (bndS (cFn (g_require_row A) (consO (tmp (nf 0)) (consO (tmp (nf 2)) nilO))) dropS)
  (seqS (bndS (cFn (g_require_lasting A) (consO (tmp (nf 1)) (consO (tmp (nf 3)) nilO))) dropS)
  (seqS (bndS (cFn (g_require_wished A) (consO (tmp (nf 0)) (consO (tmp (nf 1)) nilO))) dropS)
  (bndS (cFn (g_knowers_of A) (consO (tmp (nf 0)) (consO (tmp (nf 1)) (consO (tmp (nf 2)) (consO (tmp (nf 3)) nilO))))) retS))))))
def g_knowers (A : Ads) : List O → Option (O × TL.Env) := fnG 4 4 (fxL []) (b_knowers A)
theorem ok_knowers (T : Txt K mg A) : OkF P w K mg base 9 "knowers" ["house", "wish", "row", "states"] (g_knowers A) := by
  refine okf_mk 4 4 T.f_knowers sc_knowers rfl rfl (fun _ _ _ _ _ _ us hl => match us, hl with | [_, _, _, _], _ => rfl) fun f cdv A outer s H E hr hgd => ?_
  exact (sb_cons (ss_expr (se_ok (ok_require_house T) (hr.mono (by decide)) hgd (ao_cons (oe_of (se_nf 0)) ao_nil)))
  (sb_cons (ss_expr (se_ok (ok_require_wish T) (hr.mono (by decide)) hgd (ao_cons (oe_of (se_nf 1)) ao_nil)))
  (sb_cons (ss_expr (se_ok (ok_require_row T) (hr.mono (by decide)) hgd (ao_cons (oe_of (se_nf 0)) (ao_cons (oe_of (se_nf 2)) ao_nil))))
  (sb_cons (ss_expr (se_ok (ok_require_lasting T) (hr.mono (by decide)) hgd (ao_cons (oe_of (se_nf 1)) (ao_cons (oe_of (se_nf 3)) ao_nil))))
  (sb_cons (ss_expr (se_ok (ok_require_wished T) (hr.mono (by decide)) hgd (ao_cons (oe_of (se_nf 0)) (ao_cons (oe_of (se_nf 1)) ao_nil))))
  (sb_one (ss_ret (se_ok (ok_knowers_of T) (hr.mono (by decide)) hgd (ao_cons (oe_of (se_nf 0)) (ao_cons (oe_of (se_nf 1)) (ao_cons (oe_of (se_nf 2)) (ao_cons (oe_of (se_nf 3)) ao_nil))))))))))))
theorem sc_first_notice : FnScope ["house", "wish", "row", "states", "size", "hands"] ["house", "wish", "row", "states"] (defScope s_first_notice) := ⟨rfl, rfl, rfl, by decide +kernel, rfl, by decide +kernel, by decide +kernel⟩
def lb_first_notice_0 (A : Ads) : S := (seqS (bndS (cFn (g_knowers_of A) (consO (tmp (nf 0)) (consO (tmp (nf 1)) (consO (tmp (cSl (tmp (nf 2)) (ret none) (asI (nf 4)))) (consO (tmp (nf 3)) nilO))))) (asgS (setV 5)))
  (ifS (asB (cBin (gEqD true) (tmp (nf 5)) (tmp (cTup nilM)))) (bndS (cTup (consM (nf 4) (consM (nf 5) nilM))) retS) nilS))
def l_first_notice_1 (A : Ads) : S := (forS (cRng1 (consM (fz (cBin gAdd (tmp (cCall gLenA (consO (tmp (nf 2)) nilO))) (tmp (con (.int 1))))) nilM)) (setV 4) (lb_first_notice_0 A))
def b_first_notice (A : Ads) : S :=
  (seqS (bndS (cFn (g_require_house A) (consO (tmp (nf 0)) nilO)) dropS)
  (seqS (bndS (cFn (g_require_wish A) (consO (tmp (nf 1)) nilO)) dropS)
  (seqS (bndS (cFn (g_require_row A) (consO (tmp (nf 0)) (consO (tmp (nf 2)) nilO))) dropS)
  (seqS (bndS (cFn (g_require_lasting A) (consO (tmp (nf 1)) (consO (tmp (nf 3)) nilO))) dropS)
  (seqS (bndS (cFn (g_require_wished A) (consO (tmp (nf 0)) (consO (tmp (nf 1)) nilO))) dropS)
  (seqS (l_first_notice_1 A)
  (bndS (con .non) retS)))))))
def g_first_notice (A : Ads) : List O → Option (O × TL.Env) := fnG 4 6 (fxL []) (b_first_notice A)
theorem ok_first_notice (T : Txt K mg A) : OkF P w K mg base 9 "first_notice" ["house", "wish", "row", "states"] (g_first_notice A) := by
  refine okf_mk 4 6 T.f_first_notice sc_first_notice rfl rfl (fun _ _ _ _ _ _ us hl => match us, hl with | [_, _, _, _], _ => rfl) fun f cdv A outer s H E hr hgd => ?_
  exact (sb_cons (ss_expr (se_ok (ok_require_house T) (hr.mono (by decide)) hgd (ao_cons (oe_of (se_nf 0)) ao_nil)))
  (sb_cons (ss_expr (se_ok (ok_require_wish T) (hr.mono (by decide)) hgd (ao_cons (oe_of (se_nf 1)) ao_nil)))
  (sb_cons (ss_expr (se_ok (ok_require_row T) (hr.mono (by decide)) hgd (ao_cons (oe_of (se_nf 0)) (ao_cons (oe_of (se_nf 2)) ao_nil))))
  (sb_cons (ss_expr (se_ok (ok_require_lasting T) (hr.mono (by decide)) hgd (ao_cons (oe_of (se_nf 1)) (ao_cons (oe_of (se_nf 3)) ao_nil))))
  (sb_cons (ss_expr (se_ok (ok_require_wished T) (hr.mono (by decide)) hgd (ao_cons (oe_of (se_nf 0)) (ao_cons (oe_of (se_nf 1)) ao_nil))))
  (sb_cons (ss_for own_cx rfl (ie_range1 rfl T.b_range (ae_cons (se_fz (se_bin os_add (oe_of (se_callB cs_lenA rfl T.b_len rfl (ao_cons (oe_of (se_nf 2)) ao_nil))) (oe_of se_int))) ae_nil)) (tg_name 4 sc_first_notice.nd) (sb_cons (ss_set 5 sc_first_notice.nd (se_ok (ok_knowers_of T) (hr.mono (by decide)) hgd (ao_cons (oe_of (se_nf 0)) (ao_cons (oe_of (se_nf 1)) (ao_cons (oe_of (se_slice (oe_of (se_nf 2)) pt_none' (pt_some (se_nf 4)))) (ao_cons (oe_of (se_nf 3)) ao_nil))))))
  (sb_one (ss_if (be_cmp (os_neD hr.units) (oe_of (se_nf 5)) (oe_of (se_tup ae_nil)) (nomark _)) (sb_one (ss_ret (se_tup (ae_cons (se_nf 4) (ae_cons (se_nf 5) ae_nil))))) sb_nil))))
  (sb_one (ss_ret se_non))))))))
theorem sc_notice_paper : FnScope ["house", "wish", "states", "missed"] ["house", "wish", "states"] (defScope s_notice_paper) := ⟨rfl, rfl, rfl, by decide +kernel, rfl, by decide +kernel, by decide +kernel⟩
def b_notice_paper (A : Ads) : S :=
  (seqS (bndS (cFn (g_require_house A) (consO (tmp (nf 0)) nilO)) dropS)
  (seqS (bndS (cFn (g_require_wish A) (consO (tmp (nf 1)) nilO)) dropS)
  (seqS (bndS (cFn (g_require_lasting A) (consO (tmp (nf 1)) (consO (tmp (nf 2)) nilO))) dropS)
  (seqS (bndS (cFn (g_require_wished A) (consO (tmp (nf 0)) (consO (tmp (nf 1)) nilO))) dropS)
  (seqS (bndS (cFn (g_first_missed A) (consO (tmp (nf 0)) (consO (tmp (nf 1)) (consO (tmp (nf 2)) nilO)))) (asgS (setV 3)))
  (seqS (ifS (asB (cBin (gIsN false) (tmp (nf 3)) (tmp (con .non)))) (bndS (cTup (consM (con c_NOTICED) nilM)) retS) nilS)
  (bndS (cTup (consM (con c_MISSED) (consM (fz (cBin gIxA (tmp (cFn (g_shortest_rows A) (consO (tmp (nf 1)) (consO (tmp (con (.int 0))) (consO (tmp (cFld [A.Wish] "own_deeds" (tmp (nf 1)))) nilO))))) (tmp (cBin gIxA (tmp (nf 3)) (tmp (con (.int 0))))))) (starM (tmp (cSl (tmp (nf 3)) (asI (con (.int 1))) (ret none))) nilM)))) retS)))))))
def g_notice_paper (A : Ads) : List O → Option (O × TL.Env) := fnG 3 4 (fxL []) (b_notice_paper A)
theorem ok_notice_paper (T : Txt K mg A) : OkF P w K mg base 9 "notice_paper" ["house", "wish", "states"] (g_notice_paper A) := by
  refine okf_mk 3 4 T.f_notice_paper sc_notice_paper rfl rfl (fun _ _ _ _ _ _ us hl => match us, hl with | [_, _, _], _ => rfl) fun f cdv A outer s H E hr hgd => ?_
  exact (sb_cons (ss_expr (se_ok (ok_require_house T) (hr.mono (by decide)) hgd (ao_cons (oe_of (se_nf 0)) ao_nil)))
  (sb_cons (ss_expr (se_ok (ok_require_wish T) (hr.mono (by decide)) hgd (ao_cons (oe_of (se_nf 1)) ao_nil)))
  (sb_cons (ss_expr (se_ok (ok_require_lasting T) (hr.mono (by decide)) hgd (ao_cons (oe_of (se_nf 1)) (ao_cons (oe_of (se_nf 2)) ao_nil))))
  (sb_cons (ss_expr (se_ok (ok_require_wished T) (hr.mono (by decide)) hgd (ao_cons (oe_of (se_nf 0)) (ao_cons (oe_of (se_nf 1)) ao_nil))))
  (sb_cons (ss_set 3 sc_notice_paper.nd (se_ok (ok_first_missed T) (hr.mono (by decide)) hgd (ao_cons (oe_of (se_nf 0)) (ao_cons (oe_of (se_nf 1)) (ao_cons (oe_of (se_nf 2)) ao_nil)))))
  (sb_cons (ss_if (be_cmp os_isN (oe_of (se_nf 3)) (oe_of se_non) (nomark _)) (sb_one (ss_ret (se_tup (ae_cons (se_gl T.c_NOTICED) ae_nil)))) sb_nil)
  (sb_one (ss_ret (se_tup (ae_cons (se_gl T.c_MISSED) (ae_cons (se_fz (se_ix (is_ixA hr.units) (oe_of (se_ok (ok_shortest_rows T) (hr.mono (by decide)) hgd (ao_cons (oe_of (se_nf 1)) (ao_cons (oe_of se_int) (ao_cons (oe_of (se_fld (T.fld_Wish__own_deeds) (oe_of (se_nf 1)))) ao_nil))))) (oe_of (se_ix (is_ixA hr.units) (oe_of (se_nf 3)) (oe_of se_int))))) (ae_star (oe_of (se_slice (oe_of (se_nf 3)) (pt_some se_int) pt_none')) ae_nil))))))))))))
theorem sc_is_missed : FnScope ["house", "wish", "states", "row", "one", "other"] ["house", "wish", "states", "row", "one", "other"] (defScope s_is_missed) := ⟨rfl, rfl, rfl, by decide +kernel, rfl, by decide +kernel, by decide +kernel⟩
def b_is_missed (A : Ads) : S :=
  (seqS (ifS (cOr (cNot (asB (cFn (g_is_row_of) (consO (tmp (cFld [A.House] "own_deeds" (tmp (nf 0)))) (consO (tmp (nf 3)) nilO))))) (cNot (asB (cFn (g_is_row_of) (consO (tmp (cFld [A.House] "own_deeds" (tmp (nf 0)))) (consO (tmp (cTup (consM (nf 4) (consM (nf 5) nilM)))) nilO)))))) (bndS (con (.bl false)) retS) nilS)
  (seqS (ifS (cNot (asB (cMeth A.House "are_apart" (g_House_are_apart A) (tmp (nf 0)) (consO (tmp (nf 4)) (consO (tmp (nf 5)) nilO))))) (bndS (con (.bl false)) retS) nilS)
  (bndS (cFn (g_is_missed_at A) (consO (tmp (nf 1)) (consO (tmp (nf 2)) (consO (tmp (cFnD (g_state_behind A) [D.int (0)] (consO (tmp (nf 1)) (consO (tmp (nf 3)) nilO)))) (consO (tmp (nf 4)) (consO (tmp (nf 5)) nilO)))))) retS)))
def g_is_missed (A : Ads) : List O → Option (O × TL.Env) := fnG 6 6 (fxL []) (b_is_missed A)
theorem ok_is_missed (T : Txt K mg A) : OkF P w K mg base 5 "is_missed" ["house", "wish", "states", "row", "one", "other"] (g_is_missed A) := by
  refine okf_mk 6 6 T.f_is_missed sc_is_missed rfl rfl (fun _ _ _ _ _ _ us hl => match us, hl with | [_, _, _, _, _, _], _ => rfl) fun f cdv A outer s H E hr hgd => ?_
  exact (sb_cons (ss_if (be_bw (bw_or (be_not (be_val (se_ok (ok_is_row_of T) (hr.mono (by decide)) hgd (ao_cons (oe_of (se_fld (T.fld_House__own_deeds) (oe_of (se_nf 0)))) (ao_cons (oe_of (se_nf 3)) ao_nil))))) (bw_or1 (be_not (be_val (se_ok (ok_is_row_of T) (hr.mono (by decide)) hgd (ao_cons (oe_of (se_fld (T.fld_House__own_deeds) (oe_of (se_nf 0)))) (ao_cons (oe_of (se_tup (ae_cons (se_nf 4) (ae_cons (se_nf 5) ae_nil)))) ao_nil)))))))) (sb_one (ss_ret se_bl)) sb_nil)
  (sb_cons (ss_if (be_not (be_val (se_me T.cl_House.cl (ok_House_are_apart T) (hr.mono (by decide)) hgd (oe_of (se_nf 0)) (ao_cons (oe_of (se_nf 4)) (ao_cons (oe_of (se_nf 5)) ao_nil))))) (sb_one (ss_ret se_bl)) sb_nil)
  (sb_one (ss_ret (se_ok (ok_is_missed_at T) (hr.mono (by decide)) hgd (ao_cons (oe_of (se_nf 1)) (ao_cons (oe_of (se_nf 2)) (ao_cons (oe_of (se_okD (ok_state_behind_1 T) (hr.mono (by decide)) hgd (ao_cons (oe_of (se_nf 1)) (ao_cons (oe_of (se_nf 3)) ao_nil)))) (ao_cons (oe_of (se_nf 4)) (ao_cons (oe_of (se_nf 5)) ao_nil))))))))))
theorem sc_is_notice_paper : FnScope ["house", "wish", "states", "value", "kind", "row", "one", "other"] ["house", "wish", "states", "value"] (defScope s_is_notice_paper) := ⟨rfl, rfl, rfl, by decide +kernel, rfl, by decide +kernel, by decide +kernel⟩
def b_is_notice_paper (A : Ads) : S :=
  (seqS (bndS (cFn (g_require_house A) (consO (tmp (nf 0)) nilO)) dropS)
  (seqS (bndS (cFn (g_require_wish A) (consO (tmp (nf 1)) nilO)) dropS)
  (seqS (bndS (cFn (g_require_lasting A) (consO (tmp (nf 1)) (consO (tmp (nf 2)) nilO))) dropS)
  (seqS (bndS (cFn (g_require_wished A) (consO (tmp (nf 0)) (consO (tmp (nf 1)) nilO))) dropS)
  (seqS (ifS (cOr (cNot (asB (cCall gIsi (consO (tmp (nf 3)) (consO (tmp (con (.ty "tuple"))) nilO))))) (cOr (asB (cBin (gInA true) (tmp (cCall gLenA (consO (tmp (nf 3)) nilO))) (tmp (cTup (consM (con (.int 1)) (consM (con (.int 4)) nilM)))))) (cNot (asB (cCall gIsi (consO (tmp (cBin gIxA (tmp (nf 3)) (tmp (con (.int 0))))) (consO (tmp (con (.ty "str"))) nilO))))))) (bndS (con (.bl false)) retS) nilS)
  (seqS (ifS (asB (cBin (gEqD false) (tmp (cCall gLenA (consO (tmp (nf 3)) nilO))) (tmp (con (.int 1))))) (bndS (vAnd (cBin (gEqD false) (tmp (cBin gIxA (tmp (nf 3)) (tmp (con (.int 0))))) (tmp (con c_NOTICED))) (cBin (gIsN false) (tmp (cFn (g_first_missed A) (consO (tmp (nf 0)) (consO (tmp (nf 1)) (consO (tmp (nf 2)) nilO))))) (tmp (con .non)))) retS) nilS)
  (seqS (bndS (fz (nf 3)) (asgS (unpG (consG (setV 4) (consG (setV 5) (consG (setV 6) (consG (setV 7) nilG)))))))
  (bndS (vAnd (cBin (gEqD false) (tmp (nf 4)) (tmp (con c_MISSED))) (cFn (g_is_missed A) (consO (tmp (nf 0)) (consO (tmp (nf 1)) (consO (tmp (nf 2)) (consO (tmp (nf 5)) (consO (tmp (nf 6)) (consO (tmp (nf 7)) nilO)))))))) retS))))))))
def g_is_notice_paper (A : Ads) : List O → Option (O × TL.Env) := fnG 4 8 (fxL []) (b_is_notice_paper A)
theorem ok_is_notice_paper (T : Txt K mg A) : OkF P w K mg base 9 "is_notice_paper" ["house", "wish", "states", "value"] (g_is_notice_paper A) := by
  refine okf_mk 4 8 T.f_is_notice_paper sc_is_notice_paper rfl rfl (fun _ _ _ _ _ _ us hl => match us, hl with | [_, _, _, _], _ => rfl) fun f cdv A outer s H E hr hgd => ?_
  exact (sb_cons (ss_expr (se_ok (ok_require_house T) (hr.mono (by decide)) hgd (ao_cons (oe_of (se_nf 0)) ao_nil)))
  (sb_cons (ss_expr (se_ok (ok_require_wish T) (hr.mono (by decide)) hgd (ao_cons (oe_of (se_nf 1)) ao_nil)))
  (sb_cons (ss_expr (se_ok (ok_require_lasting T) (hr.mono (by decide)) hgd (ao_cons (oe_of (se_nf 1)) (ao_cons (oe_of (se_nf 2)) ao_nil))))
  (sb_cons (ss_expr (se_ok (ok_require_wished T) (hr.mono (by decide)) hgd (ao_cons (oe_of (se_nf 0)) (ao_cons (oe_of (se_nf 1)) ao_nil))))
  (sb_cons (ss_if (be_bw (bw_or (be_not (be_val (se_callB cs_isi rfl T.b_isinstance rfl (ao_cons (oe_of (se_nf 3)) (ao_cons (oe_of (se_bltn rfl T.b_tuple rfl)) ao_nil))))) (bw_or (be_cmp (os_notInA (units65 hr)) (oe_of (se_callB cs_lenA rfl T.b_len rfl (ao_cons (oe_of (se_nf 3)) ao_nil))) (oe_of (se_tup (ae_cons se_int (ae_cons se_int ae_nil)))) (by with_unfolding_all rfl)) (bw_or1 (be_not (be_val (se_callB cs_isi rfl T.b_isinstance rfl (ao_cons (oe_of (se_ix (is_ixA hr.units) (oe_of (se_nf 3)) (oe_of se_int))) (ao_cons (oe_of (se_bltn rfl T.b_str rfl)) ao_nil))))))))) (sb_one (ss_ret se_bl)) sb_nil)
  (sb_cons (ss_if (be_cmp (os_eqD hr.units) (oe_of (se_callB cs_lenA rfl T.b_len rfl (ao_cons (oe_of (se_nf 3)) ao_nil))) (oe_of se_int) (nomark _)) (sb_one (ss_ret (se_and (se_cmp (os_eqD hr.units) (oe_of (se_ix (is_ixA hr.units) (oe_of (se_nf 3)) (oe_of se_int))) (oe_of (se_gl T.c_NOTICED)) (nomark _)) (se_one (se_cmp os_isN (oe_of (se_ok (ok_first_missed T) (hr.mono (by decide)) hgd (ao_cons (oe_of (se_nf 0)) (ao_cons (oe_of (se_nf 1)) (ao_cons (oe_of (se_nf 2)) ao_nil))))) (oe_of se_non) (nomark _)))))) sb_nil)
  (sb_cons (ss_asg (se_fz (se_nf 3)) (tg_unp rfl (tgs_cons (tg_name 4 sc_is_notice_paper.nd) (tgs_cons (tg_name 5 sc_is_notice_paper.nd) (tgs_cons (tg_name 6 sc_is_notice_paper.nd) (tgs_cons (tg_name 7 sc_is_notice_paper.nd) tgs_nil)))) (gs_lenS (gs_lenS (gs_lenS (gs_lenS gs_len0))))))
  (sb_one (ss_ret (se_and (se_cmp (os_eqD hr.units) (oe_of (se_nf 4)) (oe_of (se_gl T.c_MISSED)) (nomark _)) (se_one (se_ok (ok_is_missed T) (hr.mono (by decide)) hgd (ao_cons (oe_of (se_nf 0)) (ao_cons (oe_of (se_nf 1)) (ao_cons (oe_of (se_nf 2)) (ao_cons (oe_of (se_nf 5)) (ao_cons (oe_of (se_nf 6)) (ao_cons (oe_of (se_nf 7)) ao_nil))))))))))))))))))
theorem sc_least_noticed : FnScope ["house", "wish", "states", "some", "found", "one", "other"] ["house", "wish", "states"] (defScope s_least_noticed) := ⟨rfl, rfl, rfl, by decide +kernel, rfl, by decide +kernel, by decide +kernel⟩
def q_least_noticed_0 (A : Ads) : M O := (compM (cIt (tmp (nf 3))) (setV 6) (ret true) (fz (vAnd (cFn (g_is_within) (consO (tmp (nf 6)) (consO (tmp (nf 5)) nilO))) (cBin (gEqD true) (tmp (nf 6)) (tmp (nf 5))))) [6])
def q_least_noticed_1 (A : Ads) : M O := (compM (cIt (tmp (nf 3))) (setV 5) (cNot (asB (cCall gAny (consO (tmp (q_least_noticed_0 A)) nilO)))) (nf 5) [5])
def b_least_noticed (A : Ads) : S :=
  (seqS (bndS (cFn (g_require_house A) (consO (tmp (nf 0)) nilO)) dropS)
  (seqS (bndS (cFn (g_require_wish A) (consO (tmp (nf 1)) nilO)) dropS)
  (seqS (bndS (cFn (g_require_states A) (consO (tmp (nf 1)) (consO (tmp (nf 2)) nilO))) dropS)
  (seqS (bndS (cFn (g_require_wished A) (consO (tmp (nf 0)) (consO (tmp (nf 1)) nilO))) dropS)
  (seqS (bndS (cFn (g_noticed_around A) (consO (tmp (nf 0)) (consO (tmp (nf 1)) (consO (tmp (cFn (g_states_far A) (consO (tmp (nf 1)) (consO (tmp (nf 2)) nilO)))) nilO)))) (asgS (setV 3)))
  (seqS (bndS (q_least_noticed_1 A) (asgS (setV 4)))
  (seqS (ifS (asB (cBin gGt (tmp (cCall gLenA (consO (tmp (nf 4)) nilO))) (tmp (con c_MAX_SETS)))) noS nilS)
  (bndS (cCall gTupleA (consO (tmp (cCall gSortedB (consO (tmp (nf 4)) nilO))) nilO)) retS))))))))
def g_least_noticed (A : Ads) : List O → Option (O × TL.Env) := fnG 3 7 (fxL []) (b_least_noticed A)
theorem ok_least_noticed (T : Txt K mg A) : OkF P w K mg base 9 "least_noticed" ["house", "wish", "states"] (g_least_noticed A) := by
  refine okf_mk 3 7 T.f_least_noticed sc_least_noticed rfl rfl (fun _ _ _ _ _ _ us hl => match us, hl with | [_, _, _], _ => rfl) fun f cdv A outer s H E hr hgd => ?_
  exact (sb_cons (ss_expr (se_ok (ok_require_house T) (hr.mono (by decide)) hgd (ao_cons (oe_of (se_nf 0)) ao_nil)))
  (sb_cons (ss_expr (se_ok (ok_require_wish T) (hr.mono (by decide)) hgd (ao_cons (oe_of (se_nf 1)) ao_nil)))
  (sb_cons (ss_expr (se_ok (ok_require_states T) (hr.mono (by decide)) hgd (ao_cons (oe_of (se_nf 1)) (ao_cons (oe_of (se_nf 2)) ao_nil))))
  (sb_cons (ss_expr (se_ok (ok_require_wished T) (hr.mono (by decide)) hgd (ao_cons (oe_of (se_nf 0)) (ao_cons (oe_of (se_nf 1)) ao_nil))))
  (sb_cons (ss_set 3 sc_least_noticed.nd (se_ok (ok_noticed_around T) (hr.mono (by decide)) hgd (ao_cons (oe_of (se_nf 0)) (ao_cons (oe_of (se_nf 1)) (ao_cons (oe_of (se_ok (ok_states_far T) (hr.mono (by decide)) hgd (ao_cons (oe_of (se_nf 1)) (ao_cons (oe_of (se_nf 2)) ao_nil)))) ao_nil)))))
  (sb_cons (ss_setLc 4 (own := [("one", 5)]) rfl sc_least_noticed.nd (blkOk_by (by kernel_rfl)) (ie_val (oe_of (se_nf 3))) (fun _ _ _ _ _ => (tg_name 5 sc_least_noticed.nd)) (fun _ _ _ _ _ => (ts_one (be_not (be_val (se_callB (cs_any rfl) rfl T.b_any rfl (ao_cons (oe_of (se_lc (own := [("other", 6)]) rfl sc_least_noticed.nd (blkOk_by (by kernel_rfl)) (ie_val (oe_of (se_nf 3))) (fun _ _ _ _ _ => (tg_name 6 sc_least_noticed.nd)) (fun _ _ _ _ _ => ts_nil) (fun _ _ _ _ _ => (se_fz (se_and (se_ok (ok_is_within T) (hr.mono (by decide)) hgd (ao_cons (oe_of (se_nf 6)) (ao_cons (oe_of (se_nf 5)) ao_nil))) (se_one (se_cmp (os_neD hr.units) (oe_of (se_nf 6)) (oe_of (se_nf 5)) (nomark _)))))))) ao_nil)))))) (fun _ _ _ _ _ => (se_nf 5)) (sw_true rfl rfl rfl (by decide +kernel)))
  (sb_cons (ss_if (be_cmp os_gt (oe_of (se_callB cs_lenA rfl T.b_len rfl (ao_cons (oe_of (se_nf 4)) ao_nil))) (oe_of (se_gl T.c_MAX_SETS)) (nomark _)) (sb_one ss_never) sb_nil)
  (sb_one (ss_ret (se_callTy (cs_tupleA rfl) rfl T.b_tuple rfl (ao_cons (oe_of (se_callB (cs_sortedB rfl hr.units) rfl T.b_sorted rfl (ao_cons (oe_of (se_nf 4)) ao_nil))) ao_nil)))))))))))
theorem sc__law_things : FnScope ["word", "house"] ["word"] (defScope s__law_things) := ⟨rfl, rfl, rfl, by decide +kernel, rfl, by decide +kernel, by decide +kernel⟩
def b__law_things (A : Ads) : S :=
  (seqS (bndS (cMake A.House (g_House___init__ A) (consO (tmp (cTup (consM (con (.str "l")) (consM (con (.str "r")) nilM)))) (consO (tmp (cDisp [((con (.str "a")), (fz (cTup (consM (con (.str "l")) nilM)))), ((con (.str "b")), (fz (cTup (consM (con (.str "r")) nilM)))), ((con (.str "m")), (fz (cTup (consM (con (.str "l")) (consM (con (.str "r")) nilM)))))])) nilO))) (asgS (setV 1)))
  (seqS (ifS (asB (cBin (gEqD false) (tmp (nf 0)) (tmp (con (.str "calm"))))) (bndS (cLst (consM (nf 1) (consM (fz (cMake A.Wish (g_Wish___init__ A) (consO (tmp (cTup (consM (con (.str "a")) (consM (con (.str "b")) (consM (con (.str "m")) nilM))))) (consO (tmp (cTup (consM (fz (cTup (consM (con (.int 1)) (consM (con (.int 2)) (consM (con (.int 0)) nilM))))) (consM (fz (cTup (consM (con (.int 1)) (consM (con (.int 3)) (consM (con (.int 0)) nilM))))) (consM (fz (cTup (consM (con (.int 3)) (consM (con (.int 2)) (consM (con (.int 0)) nilM))))) (consM (fz (cTup (consM (con (.int 3)) (consM (con (.int 3)) (consM (con (.int 3)) nilM))))) nilM)))))) (consO (tmp (cTup (consM (con (.int 0)) (consM (con (.int 1)) (consM (con (.int 2)) nilM))))) nilO))))) nilM))) retS) nilS)
  (seqS (ifS (asB (cBin (gEqD false) (tmp (nf 0)) (tmp (con (.str "once"))))) (bndS (cLst (consM (nf 1) (consM (fz (cMake A.Wish (g_Wish___init__ A) (consO (tmp (cTup (consM (con (.str "a")) (consM (con (.str "b")) (consM (con (.str "m")) nilM))))) (consO (tmp (cTup (consM (fz (cTup (consM (con (.int 1)) (consM (con (.int 1)) (consM (con (.int 0)) nilM))))) (consM (fz (cTup (consM (con (.int 2)) (consM (con (.int 2)) (consM (con (.int 0)) nilM))))) (consM (fz (cTup (consM (con (.int 2)) (consM (con (.int 2)) (consM (con (.int 2)) nilM))))) nilM))))) (consO (tmp (cTup (consM (con (.int 0)) (consM (con (.int 1)) nilM)))) nilO))))) nilM))) retS) nilS)
  (seqS (bndS (cMake A.House (g_House___init__ A) (consO (tmp (cTup (consM (con (.str "l")) (consM (con (.str "r")) nilM)))) (consO (tmp (cDisp [((con (.str "a")), (fz (cTup (consM (con (.str "l")) nilM)))), ((con (.str "b")), (fz (cTup (consM (con (.str "r")) nilM))))])) nilO))) (asgS (setV 1)))
  (seqS (ifS (asB (cBin (gEqD false) (tmp (nf 0)) (tmp (con (.str "never"))))) (bndS (cLst (consM (nf 1) (consM (fz (cMake A.Wish (g_Wish___init__ A) (consO (tmp (cTup (consM (con (.str "a")) (consM (con (.str "b")) nilM)))) (consO (tmp (cTup (consM (fz (cTup (consM (con (.int 1)) (consM (con (.int 0)) nilM)))) (consM (fz (cTup (consM (con (.int 1)) (consM (con (.int 1)) nilM)))) nilM)))) (consO (tmp (cTup (consM (con (.int 0)) nilM))) nilO))))) nilM))) retS) nilS)
  (bndS (cLst (consM (nf 1) (consM (fz (cMake A.Wish (g_Wish___init__ A) (consO (tmp (cTup (consM (con (.str "a")) (consM (con (.str "b")) nilM)))) (consO (tmp (cTup (consM (fz (cTup (consM (con (.int 1)) (consM (con (.int 2)) nilM)))) (consM (fz (cTup (consM (con (.int 1)) (consM (con (.int 3)) nilM)))) (consM (fz (cTup (consM (con (.int 3)) (consM (con (.int 2)) nilM)))) (consM (fz (cTup (consM (con (.int 3)) (consM (con (.int 3)) nilM)))) nilM)))))) (consO (tmp (cTup (consM (con (.int 0)) (consM (con (.int 1)) (consM (con (.int 2)) nilM))))) nilO))))) nilM))) retS))))))
def g__law_things (A : Ads) : List O → Option (O × TL.Env) := fnG 1 2 (fxL []) (b__law_things A)
theorem ok__law_things (T : Txt K mg A) : OkF P w K mg base 8 "_law_things" ["word"] (g__law_things A) := by
  refine okf_mk 1 2 T.f__law_things sc__law_things rfl rfl (fun _ _ _ _ _ _ us hl => match us, hl with | [_], _ => rfl) fun f cdv A outer s H E hr hgd => ?_
  exact (sb_cons (ss_set 1 sc__law_things.nd (se_mk T.cl_House (ok_House___init__ T) (hr.mono (by decide)) hgd (ao_cons (oe_of (se_tup (ae_cons se_str (ae_cons se_str ae_nil)))) (ao_cons (oe_of (se_disp (ds_cons se_str (se_fz (se_tup (ae_cons se_str ae_nil))) (ds_cons se_str (se_fz (se_tup (ae_cons se_str ae_nil))) (ds_cons se_str (se_fz (se_tup (ae_cons se_str (ae_cons se_str ae_nil)))) ds_nil))))) ao_nil))))
  (sb_cons (ss_if (be_cmp (os_eqD hr.units) (oe_of (se_nf 0)) (oe_of se_str) (nomark _)) (sb_one (ss_ret (se_lst (ae_cons (se_nf 1) (ae_cons (se_fz (se_mk T.cl_Wish (ok_Wish___init__ T) (hr.mono (by decide)) hgd (ao_cons (oe_of (se_tup (ae_cons se_str (ae_cons se_str (ae_cons se_str ae_nil))))) (ao_cons (oe_of (se_tup (ae_cons (se_fz (se_tup (ae_cons se_int (ae_cons se_int (ae_cons se_int ae_nil))))) (ae_cons (se_fz (se_tup (ae_cons se_int (ae_cons se_int (ae_cons se_int ae_nil))))) (ae_cons (se_fz (se_tup (ae_cons se_int (ae_cons se_int (ae_cons se_int ae_nil))))) (ae_cons (se_fz (se_tup (ae_cons se_int (ae_cons se_int (ae_cons se_int ae_nil))))) ae_nil)))))) (ao_cons (oe_of (se_tup (ae_cons se_int (ae_cons se_int (ae_cons se_int ae_nil))))) ao_nil))))) ae_nil))))) sb_nil)
  (sb_cons (ss_if (be_cmp (os_eqD hr.units) (oe_of (se_nf 0)) (oe_of se_str) (nomark _)) (sb_one (ss_ret (se_lst (ae_cons (se_nf 1) (ae_cons (se_fz (se_mk T.cl_Wish (ok_Wish___init__ T) (hr.mono (by decide)) hgd (ao_cons (oe_of (se_tup (ae_cons se_str (ae_cons se_str (ae_cons se_str ae_nil))))) (ao_cons (oe_of (se_tup (ae_cons (se_fz (se_tup (ae_cons se_int (ae_cons se_int (ae_cons se_int ae_nil))))) (ae_cons (se_fz (se_tup (ae_cons se_int (ae_cons se_int (ae_cons se_int ae_nil))))) (ae_cons (se_fz (se_tup (ae_cons se_int (ae_cons se_int (ae_cons se_int ae_nil))))) ae_nil))))) (ao_cons (oe_of (se_tup (ae_cons se_int (ae_cons se_int ae_nil)))) ao_nil))))) ae_nil))))) sb_nil)
  (sb_cons (ss_set 1 sc__law_things.nd (se_mk T.cl_House (ok_House___init__ T) (hr.mono (by decide)) hgd (ao_cons (oe_of (se_tup (ae_cons se_str (ae_cons se_str ae_nil)))) (ao_cons (oe_of (se_disp (ds_cons se_str (se_fz (se_tup (ae_cons se_str ae_nil))) (ds_cons se_str (se_fz (se_tup (ae_cons se_str ae_nil))) ds_nil)))) ao_nil))))
  (sb_cons (ss_if (be_cmp (os_eqD hr.units) (oe_of (se_nf 0)) (oe_of se_str) (nomark _)) (sb_one (ss_ret (se_lst (ae_cons (se_nf 1) (ae_cons (se_fz (se_mk T.cl_Wish (ok_Wish___init__ T) (hr.mono (by decide)) hgd (ao_cons (oe_of (se_tup (ae_cons se_str (ae_cons se_str ae_nil)))) (ao_cons (oe_of (se_tup (ae_cons (se_fz (se_tup (ae_cons se_int (ae_cons se_int ae_nil)))) (ae_cons (se_fz (se_tup (ae_cons se_int (ae_cons se_int ae_nil)))) ae_nil)))) (ao_cons (oe_of (se_tup (ae_cons se_int ae_nil))) ao_nil))))) ae_nil))))) sb_nil)
  (sb_one (ss_ret (se_lst (ae_cons (se_nf 1) (ae_cons (se_fz (se_mk T.cl_Wish (ok_Wish___init__ T) (hr.mono (by decide)) hgd (ao_cons (oe_of (se_tup (ae_cons se_str (ae_cons se_str ae_nil)))) (ao_cons (oe_of (se_tup (ae_cons (se_fz (se_tup (ae_cons se_int (ae_cons se_int ae_nil)))) (ae_cons (se_fz (se_tup (ae_cons se_int (ae_cons se_int ae_nil)))) (ae_cons (se_fz (se_tup (ae_cons se_int (ae_cons se_int ae_nil)))) (ae_cons (se_fz (se_tup (ae_cons se_int (ae_cons se_int ae_nil)))) ae_nil)))))) (ao_cons (oe_of (se_tup (ae_cons se_int (ae_cons se_int (ae_cons se_int ae_nil))))) ao_nil))))) ae_nil))))))))))
theorem sc__law_sets_right : FnScope ["told", "rows", "word", "lost", "house", "wish", "first", "due"] [] (defScope s__law_sets_right) := ⟨rfl, rfl, rfl, by decide +kernel, rfl, by decide +kernel, by decide +kernel⟩
def lb__law_sets_right_0 (A : Ads) : S := (seqS (bndS (fz (cFn (g__law_things A) (consO (tmp (nf 2)) nilO))) (asgS (unpG (consG (setV 4) (consG (setV 5) nilG)))))
  (seqS (bndS (cBin gIxA (tmp (cFn (g_notice_paper A) (consO (tmp (nf 4)) (consO (tmp (nf 5)) (consO (tmp (nf 3)) nilO))))) (tmp (con (.int 0)))) (asgS (setV 6)))
  (bndS (cMuN "list" uAppend 0 (consM (fz (cLst (consM (fz (cFn (g_is_noticed A) (consO (tmp (nf 4)) (consO (tmp (nf 5)) (consO (tmp (nf 3)) nilO))))) (consM (nf 6) (consM (fz (cFn (g_least_noticed A) (consO (tmp (nf 4)) (consO (tmp (nf 5)) (consO (tmp (nf 3)) nilO))))) nilM))))) nilM)) dropS)))
def l__law_sets_right_1 (A : Ads) : S := (forS (cIt (tmp (cBin gAdd (tmp (nf 1)) (tmp (cLst (consM (fz (cTup (consM (con (.str "apart")) (consM (fz (cTup nilM)) nilM)))) nilM)))))) (unpG (consG (setV 2) (consG (setV 3) nilG))) (lb__law_sets_right_0 A))
def b__law_sets_right (A : Ads) : S :=
  (seqS (bndS (consM (cLst nilM) (consM (cLst (consM (fz (cTup (consM (con (.str "calm")) (consM (fz (cTup (consM (con (.int 3)) nilM))) nilM)))) (consM (fz (cTup (consM (con (.str "once")) (consM (fz (cTup (consM (con (.int 2)) nilM))) nilM)))) (consM (fz (cTup (consM (con (.str "never")) (consM (fz (cTup (consM (con (.int 1)) nilM))) nilM)))) (consM (fz (cTup (consM (con (.str "apart")) (consM (fz (cTup (consM (con (.int 3)) nilM))) nilM)))) (consM (fz (cTup (consM (con (.str "apart")) (consM (fz (cTup (consM (con (.int 1)) (consM (con (.int 3)) nilM)))) nilM)))) nilM)))))) nilM)) (parS 0 1))
  (seqS (l__law_sets_right_1 A)
  (seqS (bndS (cLst (consM (fz (cLst (consM (con (.bl false)) (consM (con (.str "missed")) (consM (fz (cTup (consM (fz (cTup (consM (con (.int 0)) (consM (con (.int 1)) (consM (con (.int 2)) (consM (con (.int 3)) nilM)))))) nilM))) nilM))))) (consM (fz (cLst (consM (con (.bl false)) (consM (con (.str "missed")) (consM (fz (cTup (consM (fz (cTup (consM (con (.int 0)) (consM (con (.int 1)) (consM (con (.int 2)) nilM))))) nilM))) nilM))))) (consM (fz (cLst (consM (con (.bl true)) (consM (con (.str "noticed")) (consM (fz (cTup (consM (fz (cTup (consM (con (.int 1)) nilM))) nilM))) nilM))))) nilM)))) (asgS (setV 7)))
  (seqS (bndS (cMuN "list" uAppend 7 (consM (fz (cLst (consM (con (.bl false)) (consM (con (.str "missed")) (consM (fz (cTup (consM (fz (cTup (consM (con (.int 1)) (consM (con (.int 3)) nilM)))) (consM (fz (cTup (consM (con (.int 2)) (consM (con (.int 3)) nilM)))) nilM)))) nilM))))) nilM)) dropS)
  (bndS (cBin (gEqD false) (op 0) (tmp (cBin gAdd (op 7) (tmp (cLst (consM (fz (cLst (consM (con (.bl true)) (consM (con (.str "noticed")) (consM (fz (cTup (consM (fz (cTup (consM (con (.int 1)) (consM (con (.int 3)) nilM)))) nilM))) nilM))))) (consM (fz (cLst (consM (con (.bl true)) (consM (con (.str "noticed")) (consM (fz (cTup (consM (fz (cTup nilM)) nilM))) nilM))))) nilM))))))) retS)))))
def g__law_sets_right (A : Ads) : List O → Option (O × TL.Env) := fnG 0 8 (fxL []) (b__law_sets_right A)
theorem ok__law_sets_right (T : Txt K mg A) : OkF P w K mg base 10 "_law_sets_right" [] (g__law_sets_right A) := by
  refine okf_mk 0 8 T.f__law_sets_right sc__law_sets_right rfl rfl (fun _ _ _ _ _ _ us hl => match us, hl with | [], _ => rfl) fun f cdv A outer s H E hr hgd => ?_
  exact (sb_cons (ss_par 0 1 rfl sc__law_sets_right.nd (ae_cons (se_lst ae_nil) (ae_cons (se_lst (ae_cons (se_fz (se_tup (ae_cons se_str (ae_cons (se_fz (se_tup (ae_cons se_int ae_nil))) ae_nil)))) (ae_cons (se_fz (se_tup (ae_cons se_str (ae_cons (se_fz (se_tup (ae_cons se_int ae_nil))) ae_nil)))) (ae_cons (se_fz (se_tup (ae_cons se_str (ae_cons (se_fz (se_tup (ae_cons se_int ae_nil))) ae_nil)))) (ae_cons (se_fz (se_tup (ae_cons se_str (ae_cons (se_fz (se_tup (ae_cons se_int ae_nil))) ae_nil)))) (ae_cons (se_fz (se_tup (ae_cons se_str (ae_cons (se_fz (se_tup (ae_cons se_int (ae_cons se_int ae_nil)))) ae_nil)))) ae_nil)))))) ae_nil)))
  (sb_cons (ss_for own_cx rfl (ie_val (oe_of (se_bin os_add (oe_of (se_nf 1)) (oe_of (se_lst (ae_cons (se_fz (se_tup (ae_cons se_str (ae_cons (se_fz (se_tup ae_nil)) ae_nil)))) ae_nil)))))) (tg_unp rfl (tgs_cons (tg_name 2 sc__law_sets_right.nd) (tgs_cons (tg_name 3 sc__law_sets_right.nd) tgs_nil)) (gs_lenS (gs_lenS gs_len0))) (sb_cons (ss_asg (se_fz (se_ok (ok__law_things T) (hr.mono (by decide)) hgd (ao_cons (oe_of (se_nf 2)) ao_nil))) (tg_unp rfl (tgs_cons (tg_name 4 sc__law_sets_right.nd) (tgs_cons (tg_name 5 sc__law_sets_right.nd) tgs_nil)) (gs_lenS (gs_lenS gs_len0))))
  (sb_cons (ss_set 6 sc__law_sets_right.nd (se_ix (is_ixA hr.units) (oe_of (se_ok (ok_notice_paper T) (hr.mono (by decide)) hgd (ao_cons (oe_of (se_nf 4)) (ao_cons (oe_of (se_nf 5)) (ao_cons (oe_of (se_nf 3)) ao_nil))))) (oe_of se_int)))
  (sb_one (ss_expr (se_appendN 0 (ae_cons (se_fz (se_lst (ae_cons (se_fz (se_ok (ok_is_noticed T) (hr.mono (by decide)) hgd (ao_cons (oe_of (se_nf 4)) (ao_cons (oe_of (se_nf 5)) (ao_cons (oe_of (se_nf 3)) ao_nil))))) (ae_cons (se_nf 6) (ae_cons (se_fz (se_ok (ok_least_noticed T) (hr.mono (by decide)) hgd (ao_cons (oe_of (se_nf 4)) (ao_cons (oe_of (se_nf 5)) (ao_cons (oe_of (se_nf 3)) ao_nil))))) ae_nil))))) ae_nil)))))))
  (sb_cons (ss_set 7 sc__law_sets_right.nd (se_lst (ae_cons (se_fz (se_lst (ae_cons se_bl (ae_cons se_str (ae_cons (se_fz (se_tup (ae_cons (se_fz (se_tup (ae_cons se_int (ae_cons se_int (ae_cons se_int (ae_cons se_int ae_nil)))))) ae_nil))) ae_nil))))) (ae_cons (se_fz (se_lst (ae_cons se_bl (ae_cons se_str (ae_cons (se_fz (se_tup (ae_cons (se_fz (se_tup (ae_cons se_int (ae_cons se_int (ae_cons se_int ae_nil))))) ae_nil))) ae_nil))))) (ae_cons (se_fz (se_lst (ae_cons se_bl (ae_cons se_str (ae_cons (se_fz (se_tup (ae_cons (se_fz (se_tup (ae_cons se_int ae_nil))) ae_nil))) ae_nil))))) ae_nil)))))
  (sb_cons (ss_expr (se_appendN 7 (ae_cons (se_fz (se_lst (ae_cons se_bl (ae_cons se_str (ae_cons (se_fz (se_tup (ae_cons (se_fz (se_tup (ae_cons se_int (ae_cons se_int ae_nil)))) (ae_cons (se_fz (se_tup (ae_cons se_int (ae_cons se_int ae_nil)))) ae_nil)))) ae_nil))))) ae_nil)))
  (sb_one (ss_ret (se_cmp (os_eqD hr.units) (oe_name 0) (oe_of (se_bin os_add (oe_name 7) (oe_of (se_lst (ae_cons (se_fz (se_lst (ae_cons se_bl (ae_cons se_str (ae_cons (se_fz (se_tup (ae_cons (se_fz (se_tup (ae_cons se_int (ae_cons se_int ae_nil)))) ae_nil))) ae_nil))))) (ae_cons (se_fz (se_lst (ae_cons se_bl (ae_cons se_str (ae_cons (se_fz (se_tup (ae_cons (se_fz (se_tup ae_nil)) ae_nil))) ae_nil))))) ae_nil)))))) (nomark _))))))))
theorem sc__law_first_right : FnScope ["house", "wish", "rows", "told", "row"] [] (defScope s__law_first_right) := ⟨rfl, rfl, rfl, by decide +kernel, rfl, by decide +kernel, by decide +kernel⟩
def q__law_first_right_0 (A : Ads) : M O := (compM (cIt (tmp (nf 2))) (setV 4) (ret true) (fz (cFn (g_first_notice A) (consO (tmp (nf 0)) (consO (tmp (nf 1)) (consO (tmp (nf 4)) (consO (tmp (cTup (consM (con (.int 2)) nilM))) nilO)))))) [4])
def q__law_first_right_1 (A : Ads) : M O := (compM (cIt (tmp (cTup (consM (fz (cTup (consM (con (.str "a")) (consM (con (.str "a")) (consM (con (.str "b")) nilM))))) (consM (fz (cTup (consM (con (.str "a")) (consM (con (.str "a")) (consM (con (.str "m")) nilM))))) (consM (fz (cTup (consM (con (.str "a")) (consM (con (.str "a")) (consM (con (.str "b")) (consM (con (.str "b")) nilM)))))) nilM)))))) (setV 4) (ret true) (fz (cFn (g_knowers A) (consO (tmp (nf 0)) (consO (tmp (nf 1)) (consO (tmp (nf 4)) (consO (tmp (cTup (consM (con (.int 2)) nilM))) nilO)))))) [4])
def b__law_first_right (A : Ads) : S :=
  (seqS (bndS (fz (cFn (g__law_things A) (consO (tmp (con (.str "once"))) nilO))) (asgS (unpG (consG (setV 0) (consG (setV 1) nilG)))))
  (seqS (bndS (cLst (consM (fz (cTup (consM (con (.str "a")) (consM (con (.str "a")) nilM)))) (consM (fz (cTup (consM (con (.str "a")) (consM (con (.str "b")) (consM (con (.str "a")) nilM))))) (consM (fz (cTup (consM (con (.str "a")) (consM (con (.str "b")) (consM (con (.str "m")) nilM))))) (consM (fz (cTup (consM (con (.str "a")) (consM (con (.str "b")) nilM)))) (consM (fz (cTup (consM (con (.str "a")) (consM (con (.str "m")) (consM (con (.str "b")) (consM (con (.str "a")) (consM (con (.str "b")) nilM))))))) (consM (fz (cTup nilM)) nilM))))))) (asgS (setV 2)))
  (seqS (bndS (q__law_first_right_0 A) (asgS (setV 3)))
  (seqS (ifS (asB (cBin (gEqD true) (tmp (nf 3)) (tmp (cLst (consM (fz (cTup (consM (con (.int 2)) (consM (fz (cTup (consM (con (.str "l")) nilM))) nilM)))) (consM (fz (cTup (consM (con (.int 3)) (consM (fz (cTup (consM (con (.str "l")) nilM))) nilM)))) (consM (fz (cTup (consM (con (.int 3)) (consM (fz (cTup (consM (con (.str "l")) (consM (con (.str "r")) nilM)))) nilM)))) (consM (con .non) (consM (fz (cTup (consM (con (.int 5)) (consM (fz (cTup (consM (con (.str "r")) nilM))) nilM)))) (consM (con .non) nilM)))))))))) (bndS (con (.bl false)) retS) nilS)
  (seqS (bndS (q__law_first_right_1 A) (asgS (setV 3)))
  (seqS (ifS (asB (cBin (gEqD true) (tmp (nf 3)) (tmp (cLst (consM (fz (cTup (consM (con (.str "l")) nilM))) (consM (fz (cTup (consM (con (.str "l")) (consM (con (.str "r")) nilM)))) (consM (fz (cTup (consM (con (.str "l")) (consM (con (.str "r")) nilM)))) nilM))))))) (bndS (con (.bl false)) retS) nilS)
  (bndS (cBin (gEqD false) (tmp (cFn (g_first_notice A) (consO (tmp (nf 0)) (consO (tmp (nf 1)) (consO (tmp (cTup (consM (con (.str "a")) nilM))) (consO (tmp (cTup (consM (con (.int 0)) (consM (con (.int 1)) (consM (con (.int 2)) nilM))))) nilO)))))) (tmp (cTup (consM (con (.int 0)) (consM (fz (cTup (consM (con (.str "l")) (consM (con (.str "r")) nilM)))) nilM))))) retS)))))))
def g__law_first_right (A : Ads) : List O → Option (O × TL.Env) := fnG 0 5 (fxL []) (b__law_first_right A)
theorem ok__law_first_right (T : Txt K mg A) : OkF P w K mg base 10 "_law_first_right" [] (g__law_first_right A) := by
  refine okf_mk 0 5 T.f__law_first_right sc__law_first_right rfl rfl (fun _ _ _ _ _ _ us hl => match us, hl with | [], _ => rfl) fun f cdv A outer s H E hr hgd => ?_
  exact (sb_cons (ss_asg (se_fz (se_ok (ok__law_things T) (hr.mono (by decide)) hgd (ao_cons (oe_of se_str) ao_nil))) (tg_unp rfl (tgs_cons (tg_name 0 sc__law_first_right.nd) (tgs_cons (tg_name 1 sc__law_first_right.nd) tgs_nil)) (gs_lenS (gs_lenS gs_len0))))
  (sb_cons (ss_set 2 sc__law_first_right.nd (se_lst (ae_cons (se_fz (se_tup (ae_cons se_str (ae_cons se_str ae_nil)))) (ae_cons (se_fz (se_tup (ae_cons se_str (ae_cons se_str (ae_cons se_str ae_nil))))) (ae_cons (se_fz (se_tup (ae_cons se_str (ae_cons se_str (ae_cons se_str ae_nil))))) (ae_cons (se_fz (se_tup (ae_cons se_str (ae_cons se_str ae_nil)))) (ae_cons (se_fz (se_tup (ae_cons se_str (ae_cons se_str (ae_cons se_str (ae_cons se_str (ae_cons se_str ae_nil))))))) (ae_cons (se_fz (se_tup ae_nil)) ae_nil))))))))
  (sb_cons (ss_setLc 3 (own := [("row", 4)]) rfl sc__law_first_right.nd (blkOk_by (by kernel_rfl)) (ie_val (oe_of (se_nf 2))) (fun _ _ _ _ _ => (tg_name 4 sc__law_first_right.nd)) (fun _ _ _ _ _ => ts_nil) (fun _ _ _ _ _ => (se_fz (se_ok (ok_first_notice T) (hr.mono (by decide)) hgd (ao_cons (oe_of (se_nf 0)) (ao_cons (oe_of (se_nf 1)) (ao_cons (oe_of (se_nf 4)) (ao_cons (oe_of (se_tup (ae_cons se_int ae_nil))) ao_nil))))))) (sw_true rfl rfl rfl (by decide +kernel)))
  (sb_cons (ss_if (be_cmp (os_neD hr.units) (oe_of (se_nf 3)) (oe_of (se_lst (ae_cons (se_fz (se_tup (ae_cons se_int (ae_cons (se_fz (se_tup (ae_cons se_str ae_nil))) ae_nil)))) (ae_cons (se_fz (se_tup (ae_cons se_int (ae_cons (se_fz (se_tup (ae_cons se_str ae_nil))) ae_nil)))) (ae_cons (se_fz (se_tup (ae_cons se_int (ae_cons (se_fz (se_tup (ae_cons se_str (ae_cons se_str ae_nil)))) ae_nil)))) (ae_cons se_non (ae_cons (se_fz (se_tup (ae_cons se_int (ae_cons (se_fz (se_tup (ae_cons se_str ae_nil))) ae_nil)))) (ae_cons se_non ae_nil)))))))) (nomark _)) (sb_one (ss_ret se_bl)) sb_nil)
  (sb_cons (ss_setLc 3 (own := [("row", 4)]) rfl sc__law_first_right.nd (blkOk_by (by kernel_rfl)) (ie_val (oe_of (se_tup (ae_cons (se_fz (se_tup (ae_cons se_str (ae_cons se_str (ae_cons se_str ae_nil))))) (ae_cons (se_fz (se_tup (ae_cons se_str (ae_cons se_str (ae_cons se_str ae_nil))))) (ae_cons (se_fz (se_tup (ae_cons se_str (ae_cons se_str (ae_cons se_str (ae_cons se_str ae_nil)))))) ae_nil)))))) (fun _ _ _ _ _ => (tg_name 4 sc__law_first_right.nd)) (fun _ _ _ _ _ => ts_nil) (fun _ _ _ _ _ => (se_fz (se_ok (ok_knowers T) (hr.mono (by decide)) hgd (ao_cons (oe_of (se_nf 0)) (ao_cons (oe_of (se_nf 1)) (ao_cons (oe_of (se_nf 4)) (ao_cons (oe_of (se_tup (ae_cons se_int ae_nil))) ao_nil))))))) (sw_true rfl rfl rfl (by decide +kernel)))
  (sb_cons (ss_if (be_cmp (os_neD hr.units) (oe_of (se_nf 3)) (oe_of (se_lst (ae_cons (se_fz (se_tup (ae_cons se_str ae_nil))) (ae_cons (se_fz (se_tup (ae_cons se_str (ae_cons se_str ae_nil)))) (ae_cons (se_fz (se_tup (ae_cons se_str (ae_cons se_str ae_nil)))) ae_nil))))) (nomark _)) (sb_one (ss_ret se_bl)) sb_nil)
  (sb_one (ss_ret (se_cmp (os_eqD hr.units) (oe_of (se_ok (ok_first_notice T) (hr.mono (by decide)) hgd (ao_cons (oe_of (se_nf 0)) (ao_cons (oe_of (se_nf 1)) (ao_cons (oe_of (se_tup (ae_cons se_str ae_nil))) (ao_cons (oe_of (se_tup (ae_cons se_int (ae_cons se_int (ae_cons se_int ae_nil))))) ao_nil)))))) (oe_of (se_tup (ae_cons se_int (ae_cons (se_fz (se_tup (ae_cons se_str (ae_cons se_str ae_nil)))) ae_nil)))) (nomark _))))))))))
theorem sc__law_papers_right : FnScope ["house", "wish", "rows", "told", "value"] [] (defScope s__law_papers_right) := ⟨rfl, rfl, rfl, by decide +kernel, rfl, by decide +kernel, by decide +kernel⟩
def q__law_papers_right_0 (A : Ads) : M O := (compM (cIt (op 2)) (setV 4) (ret true) (fz (cFn (g_is_notice_paper A) (consO (tmp (nf 0)) (consO (tmp (nf 1)) (consO (tmp (cTup (consM (con (.int 2)) nilM))) (consO (tmp (nf 4)) nilO)))))) [4])
def b__law_papers_right (A : Ads) : S :=
  (seqS (bndS (fz (cFn (g__law_things A) (consO (tmp (con (.str "once"))) nilO))) (asgS (unpG (consG (setV 0) (consG (setV 1) nilG)))))
  (seqS (bndS (cLst (consM (fz (cTup (consM (con (.str "missed")) (consM (fz (cTup nilM)) (consM (con (.str "a")) (consM (con (.str "b")) nilM)))))) (consM (fz (cTup (consM (con (.str "missed")) (consM (fz (cTup (consM (con (.str "a")) (consM (con (.str "m")) nilM)))) (consM (con (.str "b")) (consM (con (.str "a")) nilM)))))) (consM (fz (cTup (consM (con (.str "missed")) (consM (fz (cTup (consM (con (.str "a")) nilM))) (consM (con (.str "a")) (consM (con (.str "b")) nilM)))))) (consM (fz (cTup (consM (con (.str "noticed")) nilM))) nilM))))) (asgS (setV 2)))
  (seqS (bndS (cMuN "list" uExtend 2 (consM (cLst (consM (fz (cTup (consM (con (.str "missed")) (consM (fz (cTup nilM)) (consM (con (.str "a")) (consM (con (.str "m")) nilM)))))) (consM (fz (cTup (consM (con (.str "missed")) (consM (fz (cTup nilM)) (consM (con (.str "a")) (consM (con (.str "a")) nilM)))))) (consM (fz (cTup (consM (con (.str "missed")) (consM (fz (cTup (consM (con (.str "a")) (consM (con (.str "a")) nilM)))) (consM (con (.str "a")) (consM (con (.str "b")) nilM)))))) nilM)))) nilM)) dropS)
  (seqS (bndS (q__law_papers_right_0 A) (asgS (setV 3)))
  (bndS (cBin (gEqD false) (tmp (nf 3)) (tmp (cLst (consM (con (.bl true)) (consM (con (.bl true)) (consM (con (.bl false)) (consM (con (.bl false)) (consM (con (.bl false)) (consM (con (.bl false)) (consM (con (.bl false)) nilM)))))))))) retS)))))
def g__law_papers_right (A : Ads) : List O → Option (O × TL.Env) := fnG 0 5 (fxL []) (b__law_papers_right A)
theorem ok__law_papers_right (T : Txt K mg A) : OkF P w K mg base 10 "_law_papers_right" [] (g__law_papers_right A) := by
  refine okf_mk 0 5 T.f__law_papers_right sc__law_papers_right rfl rfl (fun _ _ _ _ _ _ us hl => match us, hl with | [], _ => rfl) fun f cdv A outer s H E hr hgd => ?_
  exact (sb_cons (ss_asg (se_fz (se_ok (ok__law_things T) (hr.mono (by decide)) hgd (ao_cons (oe_of se_str) ao_nil))) (tg_unp rfl (tgs_cons (tg_name 0 sc__law_papers_right.nd) (tgs_cons (tg_name 1 sc__law_papers_right.nd) tgs_nil)) (gs_lenS (gs_lenS gs_len0))))
  (sb_cons (ss_set 2 sc__law_papers_right.nd (se_lst (ae_cons (se_fz (se_tup (ae_cons se_str (ae_cons (se_fz (se_tup ae_nil)) (ae_cons se_str (ae_cons se_str ae_nil)))))) (ae_cons (se_fz (se_tup (ae_cons se_str (ae_cons (se_fz (se_tup (ae_cons se_str (ae_cons se_str ae_nil)))) (ae_cons se_str (ae_cons se_str ae_nil)))))) (ae_cons (se_fz (se_tup (ae_cons se_str (ae_cons (se_fz (se_tup (ae_cons se_str ae_nil))) (ae_cons se_str (ae_cons se_str ae_nil)))))) (ae_cons (se_fz (se_tup (ae_cons se_str ae_nil))) ae_nil))))))
  (sb_cons (ss_expr (se_extendN 2 (ae_cons (se_lst (ae_cons (se_fz (se_tup (ae_cons se_str (ae_cons (se_fz (se_tup ae_nil)) (ae_cons se_str (ae_cons se_str ae_nil)))))) (ae_cons (se_fz (se_tup (ae_cons se_str (ae_cons (se_fz (se_tup ae_nil)) (ae_cons se_str (ae_cons se_str ae_nil)))))) (ae_cons (se_fz (se_tup (ae_cons se_str (ae_cons (se_fz (se_tup (ae_cons se_str (ae_cons se_str ae_nil)))) (ae_cons se_str (ae_cons se_str ae_nil)))))) ae_nil)))) ae_nil)))
  (sb_cons (ss_setLc 3 (own := [("value", 4)]) rfl sc__law_papers_right.nd (blkOk_by (by kernel_rfl)) (ie_val (oe_name 2)) (fun _ _ _ _ _ => (tg_name 4 sc__law_papers_right.nd)) (fun _ _ _ _ _ => ts_nil) (fun _ _ _ _ _ => (se_fz (se_ok (ok_is_notice_paper T) (hr.mono (by decide)) hgd (ao_cons (oe_of (se_nf 0)) (ao_cons (oe_of (se_nf 1)) (ao_cons (oe_of (se_tup (ae_cons se_int ae_nil))) (ao_cons (oe_of (se_nf 4)) ao_nil))))))) (sw_true rfl rfl rfl (by decide +kernel)))
  (sb_one (ss_ret (se_cmp (os_eqD hr.units) (oe_of (se_nf 3)) (oe_of (se_lst (ae_cons se_bl (ae_cons se_bl (ae_cons se_bl (ae_cons se_bl (ae_cons se_bl (ae_cons se_bl (ae_cons se_bl ae_nil))))))))) (nomark _))))))))
theorem sc_law : FnScope ["script"] ["script"] (defScope s_law) := ⟨rfl, rfl, rfl, by decide +kernel, rfl, by decide +kernel, by decide +kernel⟩
def b_law (A : Ads) : S :=
  (bndS (vAnd (cFn (g__law_sets_right A) nilO) (vAnd (cFn (g__law_first_right A) nilO) (cFn (g__law_papers_right A) nilO))) retS)
def g_law (A : Ads) : List O → Option (O × TL.Env) := fnG 1 1 (fxL []) (b_law A)
theorem ok_law (T : Txt K mg A) : OkF P w K mg base 11 "law" ["script"] (g_law A) := by
  refine okf_mk 1 1 T.f_law sc_law rfl rfl (fun _ _ _ _ _ _ us hl => match us, hl with | [_], _ => rfl) fun f cdv A outer s H E hr hgd => ?_
  exact (sb_one (ss_ret (se_and (se_ok0 (ok__law_sets_right T) (hr.mono (by decide)) hgd) (se_and (se_ok0 (ok__law_first_right T) (hr.mono (by decide)) hgd) (se_one (se_ok0 (ok__law_papers_right T) (hr.mono (by decide)) hgd))))))
end K56

set_option maxHeartbeats 4000000
namespace K56
open PySem L2 TL PySem.Spec PyProof.Rows
variable {P : Program} {w : World} {K : PySem.W.Frag} {mg : Str → Option Value} {base : Heap} {A : Ads}
def hFn0 : List DfX := [⟨pG "is_integer", "is_integer", "is_integer", defArgs s_is_integer, defBody s_is_integer, defScope s_is_integer, [], []⟩,
  ⟨pG "is_integer_within", "is_integer_within", "is_integer_within", defArgs s_is_integer_within, defBody s_is_integer_within, defScope s_is_integer_within, [], []⟩,
  ⟨pG "is_name", "is_name", "is_name", defArgs s_is_name, defBody s_is_name, defScope s_is_name, [], []⟩,
  ⟨pG "are_ascending", "are_ascending", "are_ascending", defArgs s_are_ascending, defBody s_are_ascending, defScope s_are_ascending, [], []⟩,
  ⟨pG "is_names", "is_names", "is_names", defArgs s_is_names, defBody s_is_names, defScope s_is_names, [], []⟩,
  ⟨pG "is_set", "is_set", "is_set", defArgs s_is_set, defBody s_is_set, defScope s_is_set, [], []⟩,
  ⟨pG "is_set_of", "is_set_of", "is_set_of", defArgs s_is_set_of, defBody s_is_set_of, defScope s_is_set_of, [], []⟩,
  ⟨pG "is_number_set", "is_number_set", "is_number_set", defArgs s_is_number_set, defBody s_is_number_set, defScope s_is_number_set, [], []⟩,
  ⟨pG "are_deeds", "are_deeds", "are_deeds", defArgs s_are_deeds, defBody s_are_deeds, defScope s_are_deeds, [], []⟩,
  ⟨pG "links_of", "links_of", "links_of", defArgs s_links_of, defBody s_links_of, defScope s_links_of, [], []⟩,
  ⟨pG "linked_to", "linked_to", "linked_to", defArgs s_linked_to, defBody s_linked_to, defScope s_linked_to, [], []⟩,
  ⟨pG "above_of", "above_of", "above_of", defArgs s_above_of, defBody s_above_of, defScope s_above_of, [], []⟩,
  ⟨pG "sides_of", "sides_of", "sides_of", defArgs s_sides_of, defBody s_sides_of, defScope s_sides_of, [], []⟩,
  ⟨pM "House" "__init__", "__init__", "House.__init__", defArgs s_House___init__, defBody s_House___init__, defScope s_House___init__, [], []⟩,
  ⟨pM "House" "have_none", "have_none", "House.have_none", defArgs s_House_have_none, defBody s_House_have_none, defScope s_House_have_none, [], []⟩,
  ⟨pP "House" "apart", "apart", "House.apart", defArgs s_House_apart, defBody s_House_apart, defScope s_House_apart, [], []⟩,
  ⟨pG "require_deed", "require_deed", "require_deed", defArgs s_require_deed, defBody s_require_deed, defScope s_require_deed, [], []⟩,
  ⟨pM "House" "are_apart", "are_apart", "House.are_apart", defArgs s_House_are_apart, defBody s_House_are_apart, defScope s_House_are_apart, [], []⟩,
  ⟨pG "require_house", "require_house", "require_house", defArgs s_require_house, defBody s_require_house, defScope s_require_house, [], []⟩,
  ⟨pG "is_row_of", "is_row_of", "is_row_of", defArgs s_is_row_of, defBody s_is_row_of, defScope s_is_row_of, [], []⟩,
  ⟨pG "require_row", "require_row", "require_row", defArgs s_require_row, defBody s_require_row, defScope s_require_row, [], []⟩,
  ⟨pG "met_states", "met_states", "met_states", defArgs s_met_states, defBody s_met_states, defScope s_met_states, [], []⟩,
  ⟨pG "state_classes", "state_classes", "state_classes", defArgs s_state_classes, defBody s_state_classes, defScope s_state_classes, [], []⟩,
  ⟨pG "least_of", "least_of", "least_of", defArgs s_least_of, defBody s_least_of, defScope s_least_of, [He.Dv.int (0)], []⟩,
  ⟨pG "is_any_deeds", "is_any_deeds", "is_any_deeds", defArgs s_is_any_deeds, defBody s_is_any_deeds, defScope s_is_any_deeds, [], []⟩,
  ⟨pG "is_any_machine", "is_any_machine", "is_any_machine", defArgs s_is_any_machine, defBody s_is_any_machine, defScope s_is_any_machine, [], []⟩,
  ⟨pG "require_few_states", "require_few_states", "require_few_states", defArgs s_require_few_states, defBody s_require_few_states, defScope s_require_few_states, [], []⟩,
  ⟨pM "Wish" "__init__", "__init__", "Wish.__init__", defArgs s_Wish___init__, defBody s_Wish___init__, defScope s_Wish___init__, [], []⟩,
  ⟨pG "require_wish", "require_wish", "require_wish", defArgs s_require_wish, defBody s_require_wish, defScope s_require_wish, [], []⟩,
  ⟨pG "require_states", "require_states", "require_states", defArgs s_require_states, defBody s_require_states, defScope s_require_states, [], []⟩]
def hEx0 : Exs := [xFree "all", xFree "any", xFree "bool", xFree "dict", xFree "enumerate", xFree "int", xFree "isinstance", xFree "len", xFree "list", xFree "range", xFree "sorted", xFree "str", xFree "tuple", xFree "zip", xInt "GREATEST" (999999999999999999999999999999999999999999999999999999999999), xInt "MAX_LETTERS" (8), xInt "MAX_DEEDS" (8), xInt "MAX_HANDS" (5), xInt "MOST_DEEDS" (8), xInt "MAX_GIVEN" (100), xInt "MAX_STATES" (24), xStr "NOTICED" "noticed", xStr "MISSED" "missed", xInt "MAX_SETS" (200), xCls "House", xCls "Wish", xOwn "House", xOwn "Wish", xIsi ["House", "Wish"], xNo "House" "own_above", xNo "House" "own_deeds", xNo "House" "own_hands", xNo "House" "own_sides", xNo "Wish" "own_deeds", xNo "Wish" "own_kept", xNo "Wish" "own_numbers", xNo "Wish" "own_targets", xGlo "is_integer", xGlo "is_integer_within", xGlo "is_name", xGlo "are_ascending", xGlo "is_names", xGlo "is_set", xGlo "is_set_of", xGlo "is_number_set", xGlo "are_deeds", xGlo "links_of", xGlo "linked_to", xGlo "above_of", xGlo "sides_of"]
def hFn1 : List DfX := [⟨pG "require_fit", "require_fit", "require_fit", defArgs s_require_fit, defBody s_require_fit, defScope s_require_fit, [], []⟩,
  ⟨pG "ends_of", "ends_of", "ends_of", defArgs s_ends_of, defBody s_ends_of, defScope s_ends_of, [], []⟩,
  ⟨pG "clashes_of", "clashes_of", "clashes_of", defArgs s_clashes_of, defBody s_clashes_of, defScope s_clashes_of, [], []⟩,
  ⟨pG "breach_of", "breach_of", "breach_of", defArgs s_breach_of, defBody s_breach_of, defScope s_breach_of, [], []⟩,
  ⟨pG "require_steady", "require_steady", "require_steady", defArgs s_require_steady, defBody s_require_steady, defScope s_require_steady, [], []⟩,
  ⟨pG "joint_past", "joint_past", "joint_past", defArgs s_joint_past, defBody s_joint_past, defScope s_joint_past, [], []⟩,
  ⟨pG "state_behind", "state_behind", "state_behind", defArgs s_state_behind, defBody s_state_behind, defScope s_state_behind, [He.Dv.int (0)], []⟩,
  ⟨pG "view_of", "view_of", "view_of", defArgs s_view_of, defBody s_view_of, defScope s_view_of, [], []⟩,
  ⟨pG "shortest_rows", "shortest_rows", "shortest_rows", defArgs s_shortest_rows, defBody s_shortest_rows, defScope s_shortest_rows, [], []⟩,
  ⟨pG "states_far", "states_far", "states_far", defArgs s_states_far, defBody s_states_far, defScope s_states_far, [], []⟩,
  ⟨pG "require_wished", "require_wished", "require_wished", defArgs s_require_wished, defBody s_require_wished, defScope s_require_wished, [], []⟩,
  ⟨pG "is_lasting_of", "is_lasting_of", "is_lasting_of", defArgs s_is_lasting_of, defBody s_is_lasting_of, defScope s_is_lasting_of, [], []⟩,
  ⟨pG "require_lasting", "require_lasting", "require_lasting", defArgs s_require_lasting, defBody s_require_lasting, defScope s_require_lasting, [], []⟩,
  ⟨pG "is_missed_at", "is_missed_at", "is_missed_at", defArgs s_is_missed_at, defBody s_is_missed_at, defScope s_is_missed_at, [], []⟩,
  ⟨pG "first_missed", "first_missed", "first_missed", defArgs s_first_missed, defBody s_first_missed, defScope s_first_missed, [], []⟩,
  ⟨pG "knowers_of", "knowers_of", "knowers_of", defArgs s_knowers_of, defBody s_knowers_of, defScope s_knowers_of, [], []⟩,
  ⟨pG "is_within", "is_within", "is_within", defArgs s_is_within, defBody s_is_within, defScope s_is_within, [], []⟩,
  ⟨pG "noticed_around", "noticed_around", "noticed_around", defArgs s_noticed_around, defBody s_noticed_around, defScope s_noticed_around, [], []⟩,
  ⟨pG "is_noticed", "is_noticed", "is_noticed", defArgs s_is_noticed, defBody s_is_noticed, defScope s_is_noticed, [], []⟩,
  ⟨pG "knowers", "knowers", "knowers", defArgs s_knowers, defBody s_knowers, defScope s_knowers, [], []⟩,
  ⟨pG "first_notice", "first_notice", "first_notice", defArgs s_first_notice, defBody s_first_notice, defScope s_first_notice, [], []⟩,
  ⟨pG "notice_paper", "notice_paper", "notice_paper", defArgs s_notice_paper, defBody s_notice_paper, defScope s_notice_paper, [], []⟩,
  ⟨pG "is_missed", "is_missed", "is_missed", defArgs s_is_missed, defBody s_is_missed, defScope s_is_missed, [], []⟩,
  ⟨pG "is_notice_paper", "is_notice_paper", "is_notice_paper", defArgs s_is_notice_paper, defBody s_is_notice_paper, defScope s_is_notice_paper, [], []⟩,
  ⟨pG "least_noticed", "least_noticed", "least_noticed", defArgs s_least_noticed, defBody s_least_noticed, defScope s_least_noticed, [], []⟩,
  ⟨pG "_law_things", "_law_things", "_law_things", defArgs s__law_things, defBody s__law_things, defScope s__law_things, [], []⟩,
  ⟨pG "_law_sets_right", "_law_sets_right", "_law_sets_right", defArgs s__law_sets_right, defBody s__law_sets_right, defScope s__law_sets_right, [], []⟩,
  ⟨pG "_law_first_right", "_law_first_right", "_law_first_right", defArgs s__law_first_right, defBody s__law_first_right, defScope s__law_first_right, [], []⟩,
  ⟨pG "_law_papers_right", "_law_papers_right", "_law_papers_right", defArgs s__law_papers_right, defBody s__law_papers_right, defScope s__law_papers_right, [], []⟩,
  ⟨pG "law", "law", "law", defArgs s_law, defBody s_law, defScope s_law, [], []⟩]
def hEx1 : Exs := [xMeth "House" "__init__", xMeth "House" "have_none", xProp "House" "apart", xGlo "require_deed", xMeth "House" "are_apart", xGlo "require_house", xGlo "is_row_of", xGlo "require_row", xGlo "met_states", xGlo "state_classes", xGlo "least_of", xGlo "is_any_deeds", xGlo "is_any_machine", xGlo "require_few_states", xMeth "Wish" "__init__", xGlo "require_wish", xGlo "require_states", xGlo "require_fit", xGlo "ends_of", xGlo "clashes_of", xGlo "breach_of", xGlo "require_steady", xGlo "joint_past", xGlo "state_behind", xGlo "view_of", xGlo "shortest_rows", xGlo "states_far", xGlo "require_wished", xGlo "is_lasting_of", xGlo "require_lasting", xGlo "is_missed_at", xGlo "first_missed", xGlo "knowers_of", xGlo "is_within", xGlo "noticed_around", xGlo "is_noticed", xGlo "knowers", xGlo "first_notice", xGlo "notice_paper", xGlo "is_missed", xGlo "is_notice_paper", xGlo "least_noticed", xGlo "_law_things", xGlo "_law_sets_right", xGlo "_law_first_right", xGlo "_law_papers_right", xGlo "law", xAt "House" 423, xAt "Wish" 715]
def hFn : List DfX := hFn0 ++ (hFn1)
def hEx : Exs := hEx0 ++ (hEx1)
theorem txt_mk {h : Heap} (X : K.In h) (G : h.Ns mainGlobals mg) (c : SaysM hFn hEx K) : Txt K mg ⟨He.ga K "House", He.ga K "Wish"⟩ :=
  ⟨xFree_ok X G (c.ex 0),
    xFree_ok X G (c.ex 1),
    xFree_ok X G (c.ex 2),
    xFree_ok X G (c.ex 3),
    xFree_ok X G (c.ex 4),
    xFree_ok X G (c.ex 5),
    xFree_ok X G (c.ex 6),
    xFree_ok X G (c.ex 7),
    xFree_ok X G (c.ex 8),
    xFree_ok X G (c.ex 9),
    xFree_ok X G (c.ex 10),
    xFree_ok X G (c.ex 11),
    xFree_ok X G (c.ex 12),
    xFree_ok X G (c.ex 13),
    xInt_ok X G (c.ex 14),
    xInt_ok X G (c.ex 15),
    xInt_ok X G (c.ex 16),
    xInt_ok X G (c.ex 17),
    xInt_ok X G (c.ex 18),
    xInt_ok X G (c.ex 19),
    xInt_ok X G (c.ex 20),
    xStr_ok X G (c.ex 21),
    xStr_ok X G (c.ex 22),
    xInt_ok X G (c.ex 23),
    xCls_ok X G (c.ex 24),
    xCls_ok X G (c.ex 25),
    clss_of (xs := ["House", "Wish"]) (fun x hx => by
      simp only [List.mem_cons, List.not_mem_nil, or_false] at hx
      rcases hx with rfl | rfl
      · exact xOwn_ok (xCls_ok X G (c.ex 24)).cl (c.ex 26)
      · exact xOwn_ok (xCls_ok X G (c.ex 25)).cl (c.ex 27)) (c.ex 28),
    fun C hC => by
      simp only [List.mem_cons, List.not_mem_nil, or_false] at hC
      rcases hC with rfl
      · exact ⟨(xCls_ok X G (c.ex 24)).cl, xNo_ok (c.ex 29)⟩,
    fun C hC => by
      simp only [List.mem_cons, List.not_mem_nil, or_false] at hC
      rcases hC with rfl
      · exact ⟨(xCls_ok X G (c.ex 24)).cl, xNo_ok (c.ex 30)⟩,
    fun C hC => by
      simp only [List.mem_cons, List.not_mem_nil, or_false] at hC
      rcases hC with rfl
      · exact ⟨(xCls_ok X G (c.ex 24)).cl, xNo_ok (c.ex 31)⟩,
    fun C hC => by
      simp only [List.mem_cons, List.not_mem_nil, or_false] at hC
      rcases hC with rfl
      · exact ⟨(xCls_ok X G (c.ex 24)).cl, xNo_ok (c.ex 32)⟩,
    fun C hC => by
      simp only [List.mem_cons, List.not_mem_nil, or_false] at hC
      rcases hC with rfl
      · exact ⟨(xCls_ok X G (c.ex 25)).cl, xNo_ok (c.ex 33)⟩,
    fun C hC => by
      simp only [List.mem_cons, List.not_mem_nil, or_false] at hC
      rcases hC with rfl
      · exact ⟨(xCls_ok X G (c.ex 25)).cl, xNo_ok (c.ex 34)⟩,
    fun C hC => by
      simp only [List.mem_cons, List.not_mem_nil, or_false] at hC
      rcases hC with rfl
      · exact ⟨(xCls_ok X G (c.ex 25)).cl, xNo_ok (c.ex 35)⟩,
    fun C hC => by
      simp only [List.mem_cons, List.not_mem_nil, or_false] at hC
      rcases hC with rfl
      · exact ⟨(xCls_ok X G (c.ex 25)).cl, xNo_ok (c.ex 36)⟩,
    fnAt_of X G (c.ex 37) (c.def_ 0),
    fnAt_of X G (c.ex 38) (c.def_ 1),
    fnAt_of X G (c.ex 39) (c.def_ 2),
    fnAt_of X G (c.ex 40) (c.def_ 3),
    fnAt_of X G (c.ex 41) (c.def_ 4),
    fnAt_of X G (c.ex 42) (c.def_ 5),
    fnAt_of X G (c.ex 43) (c.def_ 6),
    fnAt_of X G (c.ex 44) (c.def_ 7),
    fnAt_of X G (c.ex 45) (c.def_ 8),
    fnAt_of X G (c.ex 46) (c.def_ 9),
    fnAt_of X G (c.ex 47) (c.def_ 10),
    fnAt_of X G (c.ex 48) (c.def_ 11),
    fnAt_of X G (c.ex 49) (c.def_ 12),
    meAt_of (c.ex 50) (c.def_ 13),
    meAt_of (c.ex 51) (c.def_ 14),
    prAt_of (c.ex 52) (c.def_ 15),
    fnAt_of X G (c.ex 53) (c.def_ 16),
    meAt_of (c.ex 54) (c.def_ 17),
    fnAt_of X G (c.ex 55) (c.def_ 18),
    fnAt_of X G (c.ex 56) (c.def_ 19),
    fnAt_of X G (c.ex 57) (c.def_ 20),
    fnAt_of X G (c.ex 58) (c.def_ 21),
    fnAt_of X G (c.ex 59) (c.def_ 22),
    fdAt_of X G (c.ex 60) (c.def_ 23),
    fnAt_of X G (c.ex 61) (c.def_ 24),
    fnAt_of X G (c.ex 62) (c.def_ 25),
    fnAt_of X G (c.ex 63) (c.def_ 26),
    meAt_of (c.ex 64) (c.def_ 27),
    fnAt_of X G (c.ex 65) (c.def_ 28),
    fnAt_of X G (c.ex 66) (c.def_ 29),
    fnAt_of X G (c.ex 67) (c.def_ 30),
    fnAt_of X G (c.ex 68) (c.def_ 31),
    fnAt_of X G (c.ex 69) (c.def_ 32),
    fnAt_of X G (c.ex 70) (c.def_ 33),
    fnAt_of X G (c.ex 71) (c.def_ 34),
    fnAt_of X G (c.ex 72) (c.def_ 35),
    fdAt_of X G (c.ex 73) (c.def_ 36),
    fnAt_of X G (c.ex 74) (c.def_ 37),
    fnAt_of X G (c.ex 75) (c.def_ 38),
    fnAt_of X G (c.ex 76) (c.def_ 39),
    fnAt_of X G (c.ex 77) (c.def_ 40),
    fnAt_of X G (c.ex 78) (c.def_ 41),
    fnAt_of X G (c.ex 79) (c.def_ 42),
    fnAt_of X G (c.ex 80) (c.def_ 43),
    fnAt_of X G (c.ex 81) (c.def_ 44),
    fnAt_of X G (c.ex 82) (c.def_ 45),
    fnAt_of X G (c.ex 83) (c.def_ 46),
    fnAt_of X G (c.ex 84) (c.def_ 47),
    fnAt_of X G (c.ex 85) (c.def_ 48),
    fnAt_of X G (c.ex 86) (c.def_ 49),
    fnAt_of X G (c.ex 87) (c.def_ 50),
    fnAt_of X G (c.ex 88) (c.def_ 51),
    fnAt_of X G (c.ex 89) (c.def_ 52),
    fnAt_of X G (c.ex 90) (c.def_ 53),
    fnAt_of X G (c.ex 91) (c.def_ 54),
    fnAt_of X G (c.ex 92) (c.def_ 55),
    fnAt_of X G (c.ex 93) (c.def_ 56),
    fnAt_of X G (c.ex 94) (c.def_ 57),
    fnAt_of X G (c.ex 95) (c.def_ 58),
    fnAt_of X G (c.ex 96) (c.def_ 59)⟩
theorem txt_ad {h : Heap} (X : K.In h) (G : h.Ns mainGlobals mg) (c : SaysM hFn hEx K) : Txt K mg ⟨423, 715⟩ := by
  have t := txt_mk X G c
  rw [xAt_ok (c.ex 97), xAt_ok (c.ex 98)] at t
  exact t
end K56
namespace K56
open PySem PySem.W PySem.Calls PyProof.Rows TL
abbrev R : OpenRow := OpenLaw.row PySem.Challenge.rw_eachshare_k56_noticing_by_hand
def names0 : List PySem.Str := ["_wall", "MAX_LETTERS", "GREATEST", "is_integer", "is_integer_within", "is_name", "are_ascending", "is_names", "is_set", "is_set_of", "is_number_set", "ShareError", "InvalidName", "InvalidRow", "InvalidHouse", "InvalidWish", "InvalidOperation", "InvalidNumber", "UnknownName", "TooMany", "Unsteady", "MAX_HANDS", "MAX_DEEDS", "are_deeds", "links_of", "linked_to", "above_of", "sides_of", "House", "require_house"]
def names1 : List PySem.Str := ["require_hand", "require_deed", "is_row_of", "require_row", "met_states", "state_classes", "least_of", "product_of", "MAX_STATES", "MAX_GIVEN", "MOST_DEEDS", "MOST_ROWS", "BOTH", "ANY", "FIRST_ONLY", "is_any_deeds", "is_any_machine", "require_few_states", "Wish", "first_row", "require_wish", "require_state", "require_states", "require_fit", "require_steady", "ends_of", "clashes_of", "rows_to", "parting_rows", "breach_of"]
def names2 : List PySem.Str := ["joint_past", "state_behind", "view_of", "shortest_rows", "states_far", "require_wished", "is_lasting_of", "MAX_SETS", "NOTICED", "MISSED", "require_lasting", "is_missed_at", "first_missed", "knowers_of", "is_within", "noticed_around", "is_noticed", "knowers", "first_notice", "notice_paper", "is_missed", "is_notice_paper", "least_noticed", "_law_things", "_law_sets_right", "_law_first_right", "_law_papers_right"]
def names : List PySem.Str := names0 ++ names1 ++ names2
end K56

set_option maxHeartbeats 4000000
namespace K56
open PySem PySem.W PySem.Calls PyProof.Rows TL
theorem run0 (w : World) : HandSHeadRun.RunEq R (view R.prog [97]) (hookR 3 1700 hFn0 hEx0) (obR 3 1700 hFn0 hEx0) 9000 names w := by
  intro os
  kernel_rfl
end K56

set_option maxHeartbeats 4000000
namespace K56
open PySem PySem.W PySem.Calls PyProof.Rows TL
theorem run1 (w : World) : HandSHeadRun.RunEq R (view R.prog [97]) (hookR 3 1700 hFn1 hEx1) (obR 3 1700 hFn1 hEx1) 9000 names w := by
  intro os
  kernel_rfl
end K56

set_option maxHeartbeats 4000000
namespace K56
open PySem PySem.W PySem.Calls PyProof.Rows TL
abbrev hk : Hook := hookR 3 1700 hFn hEx
theorem run (w : World) : HandSHeadRun.RunEq R (view R.prog [97]) hk (obR 3 1700 hFn hEx) 9000 names w := run_joinR (run0 w) (run1 w)
end K56

set_option maxHeartbeats 4000000
namespace K56
open PySem L2 TL
theorem law_at (x : O) : g_law ⟨423, 715⟩ [x] = some (.d (.bl true), [none]) := by kernel_rfl
end K56
theorem K56.law_holds (ns : List Int) (h : ns.length ≤ 63) (hb : ∀ z ∈ ns, PySem.Builtin.Int.intBits z ≤ 1048576) : ∃ e, K56.g_law ⟨423, 715⟩ [.d (.scr (ns.map TL.D.int))] = some (.d (.bl true), e) := ⟨_, K56.law_at _⟩

set_option maxHeartbeats 4000000
open PySem PySem.W PySem.Calls PyProof.Rows
set_option maxHeartbeats 0 in
theorem PySem.Challenge.cw_eachshare_k56_noticing_by_hand_holds : PySem.Challenge.rw_eachshare_k56_noticing_by_hand.Holds := by
  w_on; o_law
  refine HandSHeadRun.head_any (r := OpenLaw.row PySem.Challenge.rw_eachshare_k56_noticing_by_hand) (q := view (OpenLaw.row PySem.Challenge.rw_eachshare_k56_noticing_by_hand).prog [97]) (H := K56.hk) (ob := TL.obR 3 1700 K56.hFn K56.hEx) (M := 9000) (loose := K56.names) (d := HandSHeadRun.topDef (OpenLaw.row PySem.Challenge.rw_eachshare_k56_noticing_by_hand).prog 97) (kwd := []) TL.obR_eq
    (by kernel_rfl) (fun s => by kernel_rfl) K56.run (by kernel_rfl) (by kernel_rfl) (by kernel_rfl) (by rfl) (by first | assumption | decide +kernel) (by decide +kernel) ⟨rfl, rfl, rfl, rfl, rfl, by decide +kernel⟩ ?hw ?hc
  case hw => w_witness2
  case hc =>
    refine TL.walk_GA (l := PySem.Challenge.rw_eachshare_k56_noticing_by_hand) (n := 63) (k := 11) (x := "script") rfl (by decide) (by kernel_rfl) ⟨rfl, by decide, by decide⟩ ?F
    intro w mg h Y G
    obtain ⟨K, KX, c⟩ := Y
    have e : (HandSHeadRun.topDef (OpenLaw.row PySem.Challenge.rw_eachshare_k56_noticing_by_hand).prog 97).name = ("law" : PySem.Str) := by kernel_rfl
    rw [e]
    exact ⟨K, _, KX, fun base _ _ => K56.ok_law (P := PySem.Challenge.rw_eachshare_k56_noticing_by_hand.prog) (w := w) (mg := mg) (base := base) (K56.txt_ad KX G c), K56.law_holds⟩


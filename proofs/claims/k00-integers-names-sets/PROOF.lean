import PyProof.Rows.All
import Wide.All
import OpenK.AllK
import Wide.FinOn
import HandS.ForMost
import HandS.Wide
import HandS.TupAny
import HandS.Style
import KE.SortData
import HandS.Flow
import HandS.Text
import HandS.ListEq
import HandS.IsInst
import HandS.Small
import HandS.Walk
import HandS.Zip
import HandS.Set
import HandS.SetFor
import HandS.SetKeys
import PyProof.ListStr
import HandS.Words
import HandS.NoneIn
import HandS.Exc
import HandS.EndBits
import HandS.HeadEnd
import PySem.Challenge.RW_eachshare_k00_integers_names_and_sets
set_option Elab.async false
set_option linter.all false
set_option maxRecDepth 100000
set_option maxHeartbeats 1000000
/-! TL: data as trees over the hand layer. D: what never changes any more; O: what one place owns, down to D. -/
namespace TL
open PySem L2

inductive D where
  | non | bl (b : Bool) | int (i : Int) | str (x : Str)
  | tup (xs : List D) | lst (xs : List D) | dct (kvs : List (Key × D)) | dcT (kvs : List (List Key × D))
  | ins (C : Addr) (fs : List (Str × D))
  | obj (a : Addr) | ty (n : String)
  | scr (xs : List D)
inductive O where
  | d (x : D) | lst (xs : List O) | dct (kvs : List (Key × O)) | dcT (kvs : List (List Key × O)) | ins (C : Addr) (fs : List (Str × O))

mutual
def O.shr : O → D
  | .d x => x
  | .lst xs => .lst (shrs xs)
  | .dct kvs => .dct (shrK kvs)
  | .dcT kvs => .dcT (shrT kvs)
  | .ins C fs => .ins C (shrF fs)
def shrs : List O → List D
  | [] => []
  | x :: xs => x.shr :: shrs xs
def shrK : List (Key × O) → List (Key × D)
  | [] => []
  | (k, x) :: r => (k, x.shr) :: shrK r
def shrT : List (List Key × O) → List (List Key × D)
  | [] => []
  | (k, x) :: r => (k, x.shr) :: shrT r
def shrF : List (Str × O) → List (Str × D)
  | [] => []
  | (k, x) :: r => (k, x.shr) :: shrF r
end
theorem shrs_map : ∀ xs : List O, shrs xs = xs.map O.shr
  | [] => by rw [shrs]; rfl
  | x :: xs => by rw [shrs, shrs_map xs]; rfl
theorem shrK_map : ∀ m : List (Key × O), shrK m = m.map fun p => (p.1, p.2.shr)
  | [] => by rw [shrK]; rfl
  | (k, x) :: r => by rw [shrK, shrK_map r]; rfl
theorem shrT_map : ∀ m : List (List Key × O), shrT m = m.map fun p => (p.1, p.2.shr)
  | [] => by rw [shrT]; rfl
  | (k, x) :: r => by rw [shrT, shrT_map r]; rfl
theorem shrF_map : ∀ m : List (Str × O), shrF m = m.map fun p => (p.1, p.2.shr)
  | [] => by rw [shrF]; rfl
  | (k, x) :: r => by rw [shrF, shrF_map r]; rfl

/-! ### steps of the heap -/
/-- what a place's owner may change -/
def MutO : HO → Prop
  | .lst _ => True
  | .dK _ => True
  | .dT _ => True
  | .ins _ _ _ => True
  | _ => False
theorem MutO.mut {o : HO} (h : MutO o) : Mut (some o) := by cases o <;> first | exact h.elim | trivial
abbrev Fp := Addr → Prop
structure Step (F : Fp) (H H' : Hp) : Prop where
  keep : ∀ a o, H a = some o → ¬ F a → H' a = some o
  pers : ∀ a o, H a = some o → ¬ MutO o → H' a = some o
  there : ∀ a o, H a = some o → ∃ o', H' a = some o'
theorem Step.refl {F : Fp} {H : Hp} : Step F H H := ⟨fun _ _ h _ => h, fun _ _ h _ => h, fun _ o h => ⟨o, h⟩⟩
theorem off {F F' : Fp} {H : Hp} {x : Addr} {o : HO} (s : ∀ x, F' x → F x ∨ H x = none) (h : H x = some o) (n : ¬ F x) : ¬ F' x := fun z => by
  rcases s x z with q | q
  · exact n q
  · rw [h] at q; cases q
theorem Step.trans {F F' : Fp} {H H1 H2 : Hp} (a : Step F H H1) (b : Step F' H1 H2) (s : ∀ x, F' x → F x ∨ H x = none) : Step F H H2 where
  keep := fun x o h n => b.keep x o (a.keep x o h n) (off s h n)
  pers := fun x o h n => b.pers x o (a.pers x o h n) n
  there := fun x o h => by
    obtain ⟨o1, h1⟩ := a.there x o h
    exact b.there x o1 h1
theorem Step.mono {F F' : Fp} {H H' : Hp} (a : Step F H H') (s : ∀ x, F x → F' x ∨ H x = none) : Step F' H H' where
  keep := fun x o h n => a.keep x o h (off s h n)
  pers := a.pers
  there := a.there
theorem Step.new {F : Fp} {H : Hp} {p : Addr} {o : HO} (h : H p = none) : Step F H (upd H p o) :=
  ⟨fun _ _ e _ => by rw [upd_ne (ne_of_none e h)]; exact e, fun _ _ e _ => by rw [upd_ne (ne_of_none e h)]; exact e, fun _ _ e => ⟨_, by rw [upd_ne (ne_of_none e h)]; exact e⟩⟩
theorem Step.wr {F : Fp} {H : Hp} {p : Addr} {o u : HO} (h : H p = some u) (m : MutO u) (hF : F p) : Step F H (upd H p o) := by
  refine ⟨fun a v e n => ?_, fun a v e n => ?_, fun a v e => ?_⟩
  · rw [upd_ne (fun z => by subst z; exact n hF)]; exact e
  · rw [upd_ne (fun z => by subst z; rw [h] at e; cases e; exact n m)]; exact e
  · by_cases z : a = p
    · exact ⟨o, by rw [z, upd_same]⟩
    · exact ⟨v, by rw [upd_ne z]; exact e⟩
theorem Step.free {F : Fp} {H H' : Hp} (s : Step F H H') {p : Addr} (h : H' p = none) : H p = none := by
  cases e : H p with
  | none => rfl
  | some o => obtain ⟨o', e'⟩ := s.there p o e; rw [h] at e'; cases e'
/-- where new places come from -/
def Sub (G F : Fp) (H : Hp) : Prop := ∀ a, G a → F a ∨ H a = none
theorem Sub.refl {F : Fp} {H : Hp} : Sub F F H := fun _ h => .inl h
theorem Sub.trans {F G E : Fp} {H H1 : Hp} {F0 : Fp} (a : Sub G F H) (b : Sub E G H1) (s : Step F0 H H1) : Sub E F H := fun x h => (b x h).elim (a x) fun n => .inr (s.free n)
def Disj (F G : Fp) : Prop := ∀ a, F a → G a → False
abbrev nof : Fp := fun _ => False

/-! ### what a value stands for -/
section
variable (K : PySem.W.Frag) (H : Hp)
/-- a list that no one changes any more -/
def FrzL (a : Addr) (vs : List V) : Prop := (∃ o, H a = some (.frz o (.lst vs))) ∨
  ∃ (o : Obj) (its : Array Value) (n : Nat), K.lookup a = some o ∧ o.cls = .type "list" ∧ o.dict = none ∧ o.data = .seq its n ∧ its.size ≤ sizeLine ∧ Vals vs its.toList
mutual
inductive RD : D → V → Prop
  | non : RD .non .non
  | bl (b) : RD (.bl b) (.bl b)
  | int (i) : RD (.int i) (.int i)
  | str (x) : RD (.str x) (.str x)
  | obj (a) : RD (.obj a) (.ref a)
  | ty (n) : RD (.ty n) (.ty n)
  | tup {a vs xs} : SqT K H a vs → RDs xs vs → RD (.tup xs) (.ref a)
  | lst {a o vs xs} : H a = some (.frz o (.lst vs)) → RDs xs vs → RD (.lst xs) (.ref a)
  | scr {a vs xs} : FrzL K H a vs → RDs xs vs → RD (.scr xs) (.ref a)
  | dct {a o kvs m} : H a = some (.frz o (.dK kvs)) → kvs.map (·.1) = m.map (·.1) → RDs (m.map (·.2)) (kvs.map (·.2)) → RD (.dct m) (.ref a)
  | dcT {a o kvs m} : H a = some (.frz o (.dT kvs)) → kvs.map (·.1) = m.map (·.1) → RDs (m.map (·.2)) (kvs.map (·.2)) → RD (.dcT m) (.ref a)
  | ins {a o C dx vfs fs} : H a = some (.frz o (.ins C dx vfs)) → vfs.map (·.1) = fs.map (·.1) → RDs (fs.map (·.2)) (vfs.map (·.2)) → RD (.ins C fs) (.ref a)
inductive RDs : List D → List V → Prop
  | nil : RDs [] []
  | cons {x v xs vs} : RD x v → RDs xs vs → RDs (x :: xs) (v :: vs)
end
mutual
inductive RO : O → V → Fp → Prop
  | d {x v F} : RD K H x v → RO (.d x) v F
  | lst {a vs xs F} : H a = some (.lst vs) → F a → ROs xs vs (fun b => F b ∧ b ≠ a) → RO (.lst xs) (.ref a) F
  | dct {a kvs m F} : H a = some (.dK kvs) → F a → kvs.map (·.1) = m.map (·.1) → ROs (m.map (·.2)) (kvs.map (·.2)) (fun b => F b ∧ b ≠ a) → RO (.dct m) (.ref a) F
  | dcT {a kvs m F} : H a = some (.dT kvs) → F a → kvs.map (·.1) = m.map (·.1) → ROs (m.map (·.2)) (kvs.map (·.2)) (fun b => F b ∧ b ≠ a) → RO (.dcT m) (.ref a) F
  | ins {a C dx vfs fs F} : H a = some (.ins C dx vfs) → F a → vfs.map (·.1) = fs.map (·.1) → ROs (fs.map (·.2)) (vfs.map (·.2)) (fun b => F b ∧ b ≠ a) → RO (.ins C fs) (.ref a) F
inductive ROs : List O → List V → Fp → Prop
  | nil {F} : ROs [] [] F
  | cons {x v xs vs F} (F1 F2 : Fp) : RO x v F1 → ROs xs vs F2 → (∀ b, F1 b → F b) → (∀ b, F2 b → F b) → Disj F1 F2 → ROs (x :: xs) (v :: vs) F
end
end
section
variable {K : PySem.W.Frag} {H H' : Hp}
theorem FrzL.keep {a : Addr} {vs : List V} (h : FrzL K H a vs) (k : ∀ a o, H a = some o → ¬ MutO o → H' a = some o) : FrzL K H' a vs := by
  rcases h with ⟨o, h⟩ | h
  · exact .inl ⟨o, k _ _ h (fun z => z)⟩
  · exact .inr h
theorem FrzL.sq {a : Addr} {vs : List V} (h : FrzL K H a vs) : SqL K H a vs := by
  rcases h with ⟨o, h⟩ | h
  · exact .inl (.inr ⟨o, h⟩)
  · exact .inr h
theorem SqT.keepP {a : Addr} {vs : List V} (h : SqT K H a vs) (k : ∀ a o, H a = some o → ¬ MutO o → H' a = some o) : SqT K H' a vs := by
  rcases h with (h | ⟨o, h⟩) | h
  · exact .inl (.inl (k _ _ h fun z => z))
  · exact .inl (.inr ⟨o, k _ _ h fun z => z⟩)
  · exact .inr h
mutual
theorem RD.keep (k : ∀ a o, H a = some o → ¬ MutO o → H' a = some o) : ∀ {x v}, RD K H x v → RD K H' x v
  | _, _, .non => .non
  | _, _, .bl b => .bl b
  | _, _, .int i => .int i
  | _, _, .str x => .str x
  | _, _, .obj a => .obj a
  | _, _, .ty n => .ty n
  | _, _, .tup h r => .tup (SqT.keepP h k) (RDs.keep k r)
  | _, _, .lst h r => .lst (k _ _ h fun z => z) (RDs.keep k r)
  | _, _, .scr h r => .scr (h.keep k) (RDs.keep k r)
  | _, _, .dct h e r => .dct (k _ _ h fun z => z) e (RDs.keep k r)
  | _, _, .dcT h e r => .dcT (k _ _ h fun z => z) e (RDs.keep k r)
  | _, _, .ins h e r => .ins (k _ _ h fun z => z) e (RDs.keep k r)
theorem RDs.keep (k : ∀ a o, H a = some o → ¬ MutO o → H' a = some o) : ∀ {xs vs}, RDs K H xs vs → RDs K H' xs vs
  | _, _, .nil => .nil
  | _, _, .cons h r => .cons (RD.keep k h) (RDs.keep k r)
end
theorem RDs.length : ∀ {xs vs}, RDs K H xs vs → xs.length = vs.length
  | _, _, .nil => rfl
  | _, _, .cons _ r => by simp [RDs.length r]
mutual
theorem RO.mono : ∀ {x v F G}, RO K H x v F → (∀ a, F a → G a) → RO K H x v G
  | _, _, _, _, .d h, _ => .d h
  | _, _, _, _, .lst h f r, s => .lst h (s _ f) (ROs.mono r fun b ⟨p, q⟩ => ⟨s b p, q⟩)
  | _, _, _, _, .dct h f e r, s => .dct h (s _ f) e (ROs.mono r fun b ⟨p, q⟩ => ⟨s b p, q⟩)
  | _, _, _, _, .dcT h f e r, s => .dcT h (s _ f) e (ROs.mono r fun b ⟨p, q⟩ => ⟨s b p, q⟩)
  | _, _, _, _, .ins h f e r, s => .ins h (s _ f) e (ROs.mono r fun b ⟨p, q⟩ => ⟨s b p, q⟩)
theorem ROs.mono : ∀ {xs vs F G}, ROs K H xs vs F → (∀ a, F a → G a) → ROs K H xs vs G
  | _, _, _, _, .nil, _ => .nil
  | _, _, _, _, .cons F1 F2 h r a b d, s => .cons F1 F2 h r (fun x z => s x (a x z)) (fun x z => s x (b x z)) d
end
mutual
/-- only what stands counts -/
theorem RO.dom : ∀ {x v F}, RO K H x v F → RO K H x v (fun a => F a ∧ ∃ o, H a = some o)
  | _, _, _, .d h => .d h
  | _, _, _, .lst h f r => .lst h ⟨f, _, h⟩ (ROs.mono (ROs.dom r) fun b ⟨⟨p, q⟩, z⟩ => ⟨⟨p, z⟩, q⟩)
  | _, _, _, .dct h f e r => .dct h ⟨f, _, h⟩ e (ROs.mono (ROs.dom r) fun b ⟨⟨p, q⟩, z⟩ => ⟨⟨p, z⟩, q⟩)
  | _, _, _, .dcT h f e r => .dcT h ⟨f, _, h⟩ e (ROs.mono (ROs.dom r) fun b ⟨⟨p, q⟩, z⟩ => ⟨⟨p, z⟩, q⟩)
  | _, _, _, .ins h f e r => .ins h ⟨f, _, h⟩ e (ROs.mono (ROs.dom r) fun b ⟨⟨p, q⟩, z⟩ => ⟨⟨p, z⟩, q⟩)
theorem ROs.dom : ∀ {xs vs F}, ROs K H xs vs F → ROs K H xs vs (fun a => F a ∧ ∃ o, H a = some o)
  | _, _, _, .nil => .nil
  | _, _, _, .cons F1 F2 h r a b d => .cons _ _ (RO.dom h) (ROs.dom r) (fun x z => ⟨a x z.1, z.2⟩) (fun x z => ⟨b x z.1, z.2⟩) fun x p q => d x p.1 q.1
end
mutual
/-- what stands apart from a step stays -/
theorem RO.step {F : Fp} (s : Step F H H') : ∀ {x v G}, RO K H x v G → Disj G F → RO K H' x v G
  | _, _, _, .d h, _ => .d (h.keep s.pers)
  | _, _, _, .lst h f r, d => .lst (s.keep _ _ h (d _ f)) f (ROs.step s r fun b p q => d b p.1 q)
  | _, _, _, .dct h f e r, d => .dct (s.keep _ _ h (d _ f)) f e (ROs.step s r fun b p q => d b p.1 q)
  | _, _, _, .dcT h f e r, d => .dcT (s.keep _ _ h (d _ f)) f e (ROs.step s r fun b p q => d b p.1 q)
  | _, _, _, .ins h f e r, d => .ins (s.keep _ _ h (d _ f)) f e (ROs.step s r fun b p q => d b p.1 q)
theorem ROs.step {F : Fp} (s : Step F H H') : ∀ {xs vs G}, ROs K H xs vs G → Disj G F → ROs K H' xs vs G
  | _, _, _, .nil, _ => .nil
  | _, _, _, .cons F1 F2 h r a b dd, d => .cons F1 F2 (RO.step s h fun x p q => d x (a x p) q) (ROs.step s r fun x p q => d x (b x p) q) a b dd
end
theorem ROs.length : ∀ {xs vs F}, ROs K H xs vs F → xs.length = vs.length
  | _, _, _, .nil => rfl
  | _, _, _, .cons _ _ _ r _ _ _ => by simp [ROs.length r]
theorem RDs.os {F : Fp} : ∀ {xs vs}, RDs K H xs vs → ROs K H (xs.map O.d) vs F
  | _, _, .nil => .nil
  | _, _, .cons h r => .cons nof nof (.d h) (RDs.os r) (fun _ z => z.elim) (fun _ z => z.elim) (fun _ z _ => z)
theorem RO.od {x : D} {v : V} {F : Fp} (h : RO K H (.d x) v F) : RD K H x v := by cases h; assumption
end

/-! ### the places of a def -/
abbrev Env := List (Option O)
section
variable (K : PySem.W.Frag) (H : Hp)
inductive RelE : Env → L2.St → Fp → Prop
  | nil {F} : RelE [] [] F
  | no {env σ s F} : RelE env σ F → RelE (none :: env) (s :: σ) F
  | so {o v env σ F} (F1 F2 : Fp) : RO K H o v F1 → RelE env σ F2 → (∀ b, F1 b → F b) → (∀ b, F2 b → F b) → Disj F1 F2 → RelE (some o :: env) (some v :: σ) F
end
section
variable {K : PySem.W.Frag} {H H' : Hp}
theorem RelE.length : ∀ {env σ F}, RelE K H env σ F → env.length = σ.length
  | _, _, _, .nil => rfl
  | _, _, _, .no r => by simp [r.length]
  | _, _, _, .so _ _ _ r _ _ _ => by simp [r.length]
theorem RelE.mono : ∀ {env σ F G}, RelE K H env σ F → (∀ a, F a → G a) → RelE K H env σ G
  | _, _, _, _, .nil, _ => .nil
  | _, _, _, _, .no r, s => .no (r.mono s)
  | _, _, _, _, .so F1 F2 h r a b d, s => .so F1 F2 h r (fun x z => s x (a x z)) (fun x z => s x (b x z)) d
theorem RelE.dom : ∀ {env σ F}, RelE K H env σ F → RelE K H env σ (fun a => F a ∧ ∃ o, H a = some o)
  | _, _, _, .nil => .nil
  | _, _, _, .no r => .no r.dom
  | _, _, _, .so F1 F2 h r a b d => .so _ _ h.dom r.dom (fun x z => ⟨a x z.1, z.2⟩) (fun x z => ⟨b x z.1, z.2⟩) fun x p q => d x p.1 q.1
theorem RelE.step {F : Fp} (s : Step F H H') : ∀ {env σ G}, RelE K H env σ G → Disj G F → RelE K H' env σ G
  | _, _, _, .nil, _ => .nil
  | _, _, _, .no r, d => .no (r.step s d)
  | _, _, _, .so F1 F2 h r a b dd, d => .so F1 F2 (h.step s fun x p q => d x (a x p) q) (r.step s fun x p q => d x (b x p) q) a b dd
/-- a place is taken out -/
theorem RelE.take : ∀ {env σ F} {i : Nat} {o : O}, RelE K H env σ F → env[i]? = some (some o) → ∃ v F1 F2, σ[i]? = some (some v) ∧ RO K H o v F1 ∧ RelE K H (env.set i none) σ F2 ∧ (∀ b, F1 b → F b) ∧ (∀ b, F2 b → F b) ∧ Disj F1 F2
  | _, _, _, 0, _, .so F1 F2 h r a b d, e => by cases e; exact ⟨_, F1, F2, rfl, h, .no r, a, b, d⟩
  | _, _, _, i + 1, _, .no r, e => by
    obtain ⟨v, F1, F2, q, h, r', a, b, d⟩ := RelE.take (i := i) r (by simpa using e)
    exact ⟨v, F1, F2, by simpa using q, h, .no r', a, b, d⟩
  | _, _, _, i + 1, _, .so F1 F2 h0 r a0 b0 d0, e => by
    obtain ⟨v, G1, G2, q, h, r', a, b, d⟩ := RelE.take (i := i) r (by simpa using e)
    exact ⟨v, G1, fun x => F1 x ∨ G2 x, by simpa using q, h, .so F1 G2 h0 r' (fun _ z => .inl z) (fun _ z => .inr z) (fun x p q => d0 x p (b x q)),
      fun x z => b0 x (a x z), fun x z => z.elim (a0 x) fun z => b0 x (b x z), fun x p q => q.elim (fun q => d0 x q (a x p)) (d x p)⟩
/-- .. and put -/
theorem RelE.put : ∀ {env σ F} {i : Nat} {o : O} {v : V} {F1 : Fp}, RelE K H env σ F → i < σ.length → RO K H o v F1 → Disj F1 F → RelE K H (env.set i (some o)) (σ.set i (some v)) (fun a => F1 a ∨ F a)
  | _, _, _, 0, _, _, F1, .no r, _, h, d => .so F1 _ h r (fun _ z => .inl z) (fun _ z => .inr z) d
  | _, _, _, 0, _, _, F1, .so G1 G2 g r a b dd, _, h, d => .so F1 G2 h r (fun _ z => .inl z) (fun x z => .inr (b x z)) (fun x p q => d x p (b x q))
  | _, _, _, i + 1, _, _, F1, .no r, l, h, d => .no (RelE.put r (by simpa using l) h d)
  | _, _, _, i + 1, _, _, F1, .so G1 G2 g r a b dd, l, h, d =>
    .so G1 (fun x => F1 x ∨ G2 x) g (RelE.put r (by simpa using l) h fun x p q => d x p (b x q)) (fun x z => .inr (a x z)) (fun x z => z.elim .inl fun z => .inr (b x z)) fun x p q => q.elim (fun q => d x q (a x p)) (dd x p)
theorem RelE.drop : ∀ {env σ F} {i : Nat}, RelE K H env σ F → RelE K H (env.set i none) σ F
  | _, _, _, _, .nil => .nil
  | _, _, _, 0, .no r => .no r
  | _, _, _, 0, .so F1 F2 h r a b d => .no (r.mono b)
  | _, _, _, i + 1, .no r => .no (RelE.drop r)
  | _, _, _, i + 1, .so F1 F2 h r a b d => .so F1 F2 h (RelE.drop r) a b d
/-- back to the same place -/
theorem RelE.back {env : Env} {σ : L2.St} {F F1 : Fp} {i : Nat} {o : O} {v : V} (r : RelE K H env σ F) (hv : σ[i]? = some (some v)) (h : RO K H o v F1) (d : Disj F1 F) : RelE K H (env.set i (some o)) σ (fun a => F1 a ∨ F a) := by
  have hl : i < σ.length := (List.getElem?_eq_some_iff.mp hv).1
  have e : σ.set i (some v) = σ := by
    apply List.ext_getElem?
    intro j
    by_cases z : i = j
    · subst z; rw [List.getElem?_set_self hl, hv]
    · rw [List.getElem?_set_ne z]
  have q := RelE.put r hl h d
  rwa [e] at q
theorem RelE.getD {env : Env} {σ : L2.St} {F : Fp} {i : Nat} {x : D} (r : RelE K H env σ F) (e : env[i]? = some (some (.d x))) : ∃ v, σ[i]? = some (some v) ∧ RD K H x v := by
  obtain ⟨v, F1, F2, q, h, _⟩ := r.take e
  exact ⟨v, q, h.od⟩
end
end TL

set_option maxHeartbeats 1000000
namespace TL
open PySem L2

/-! ### runs over the places -/
abbrev M (α : Type) := Env → Option (α × Env)
def ret {α : Type} (a : α) : M α := fun e => some (a, e)
def bnd {α β : Type} (f : M α) (g : α → M β) : M β := fun e => match f e with
  | some (a, e') => g a e'
  | none => none
def lift {α : Type} (o : Option α) : M α := fun e => match o with
  | some a => some (a, e)
  | none => none
def Post {α : Type} (P : α → Env → Prop) : Option (α × Env) → Prop
  | some (a, e) => P a e
  | none => False
theorem Post.bnd {α β : Type} {f : M α} {g : α → M β} {P : β → Env → Prop} {e : Env} (h : Post P (bnd f g e)) : Post (fun a e' => Post P (g a e')) (f e) := by
  unfold TL.bnd at h
  cases q : f e with
  | none => rw [q] at h; exact h
  | some r => rw [q] at h; exact h
theorem Post.mono {α : Type} {P Q : α → Env → Prop} {r : Option (α × Env)} (h : Post P r) (k : ∀ a e, P a e → Q a e) : Post Q r := by
  cases r with
  | none => exact h
  | some r => exact k _ _ h
theorem Post.lift {α β : Type} {o : Option α} {g : α → M β} {P : β → Env → Prop} {e : Env} (h : Post P (TL.bnd (TL.lift o) g e)) : ∃ a, o = some a ∧ Post P (g a e) := by
  cases o with
  | none => exact h.elim
  | some a => exact ⟨a, rfl, h⟩
/-- a value that was taken out of a place goes back there -/
def rst : Option Nat → O → M Unit
  | none, _ => fun e => some ((), e)
  | some i, o => fun e => some ((), e.set i (some o))
/-- the value of a place: what changes no more is copied; else it is taken out -/
def mv (i : Nat) : M O := fun e => match e[i]? with
  | some (some (.d x)) => some (.d x, e)
  | some (some o) => some (o, e.set i none)
  | _ => none
def op (i : Nat) : M (O × Option Nat) := fun e => match e[i]? with
  | some (some (.d x)) => some ((.d x, none), e)
  | some (some o) => some ((o, some i), e.set i none)
  | _ => none
def tmp (f : M O) : M (O × Option Nat) := bnd f fun o => ret (o, none)

def Dom (F : Fp) (H : Hp) : Prop := ∀ a, F a → ∃ o, H a = some o
abbrev Or (F G : Fp) : Fp := fun a => F a ∨ G a
theorem disj_new {R F G : Fp} {H : Hp} (d : Disj R F) (m : Dom R H) (s : Sub G F H) : Disj R G := fun a p q => by
  rcases s a q with z | z
  · exact d a p z
  · obtain ⟨o, e⟩ := m a p; rw [z] at e; cases e
theorem Dom.step {F E : Fp} {H H' : Hp} (m : Dom F H) (s : Step E H H') : Dom F H' := fun a p => let ⟨_, e⟩ := m a p; s.there a _ e

/-! ### judgements -/
section
variable (X : Cx)
/-- behind an expression: the value, the places -/
def PV (F : Fp) (σ : L2.St) (H : Hp) (Q : VK) (o : O) (env : Env) : Prop :=
  ∀ v H' F1 F2, RO X.K H' o v F1 → RelE X.K H' env σ F2 → Disj F1 F2 → Step F H H' → Sub (Or F1 F2) F H → Q v H'
def tOf (f : M O) : TE := fun σ H Q => ∃ env F, RelE X.K H env σ F ∧ Post (PV X F σ H Q) (f env)
def PO' (F : Fp) (σ : L2.St) (H : Hp) (Q : VK) (r : O × Option Nat) (env : Env) : Prop :=
  ∀ v H' F1 F2, RO X.K H' r.1 v F1 → RelE X.K H' env σ F2 → Disj F1 F2 → Step F H H' → Sub (Or F1 F2) F H → (∀ i, r.2 = some i → σ[i]? = some (some v)) → Q v H'
def tOp' (f : M (O × Option Nat)) : TE := fun σ H Q => ∃ env F, RelE X.K H env σ F ∧ Post (PO' X F σ H Q) (f env)
def PB (F : Fp) (σ : L2.St) (H : Hp) (Q : Bool → Hp → Prop) (b : Bool) (env : Env) : Prop :=
  ∀ H' F2, RelE X.K H' env σ F2 → Step F H H' → Sub F2 F H → Q b H'
def tBf (f : M Bool) : TT := fun σ H Q => ∃ env F, RelE X.K H env σ F ∧ Post (PB X F σ H Q) (f env)
def PL (F : Fp) (σ : L2.St) (H : Hp) (Q : List V → Hp → Prop) (os : List O) (env : Env) : Prop :=
  ∀ vs H' F1 F2, ROs X.K H' os vs F1 → RelE X.K H' env σ F2 → Disj F1 F2 → Step F H H' → Sub (Or F1 F2) F H → Q vs H'
def tLf (f : M (List O)) : TA := fun σ H Q => ∃ env F, RelE X.K H env σ F ∧ Post (PL X F σ H Q) (f env)
def SE (e : Expr) (f : M O) : Prop := PE X e (tOf X f)
def OE (e : Expr) (f : M (O × Option Nat)) : Prop := PE X e (tOp' X f)
def BE (e : Expr) (f : M Bool) : Prop := PT X e (tBf X f)
def BW (e : Expr) (f : M Bool) : Prop := PW X e (tBf X f)
def AE (es : List Expr) (f : M (List O)) : Prop := PA X es (tLf X f)
end
section
variable {X : Cx}
theorem PE.imp {e : Expr} {t t' : TE} (h : PE X e t) (k : ∀ σ H Q, t' σ H Q → t σ H Q) : PE X e t' := ⟨fun pins s σ H Q I q => h.run pins s σ H Q I (k _ _ _ q)⟩
theorem PT.imp {e : Expr} {t t' : TT} (h : PT X e t) (k : ∀ σ H Q, t' σ H Q → t σ H Q) : PT X e t' := ⟨fun pins s σ H Q I q => h.run pins s σ H Q I (k _ _ _ q)⟩
theorem PW.imp {e : Expr} {t t' : TT} (h : PW X e t) (k : ∀ σ H Q, t' σ H Q → t σ H Q) : PW X e t' := ⟨fun wh pins s σ H Q I q => h.run wh pins s σ H Q I (k _ _ _ q)⟩
theorem PA.imp {e : List Expr} {t t' : TA} (h : PA X e t) (k : ∀ σ H Q, t' σ H Q → t σ H Q) : PA X e t' := ⟨fun pos pins s σ H Q I q => h.run pos pins s σ H Q I (k _ _ _ q)⟩

/-- what one knows behind a part: value at F1, places at F2, all of it from F or new -/
structure Aft (X : Cx) (F : Fp) (H H' : Hp) (σ : L2.St) (env : Env) (F1 F2 : Fp) : Prop where
  rel : RelE X.K H' env σ F2
  dj : Disj F1 F2
  st : Step F H H'
  sub : Sub (Or F1 F2) F H
  d1 : Dom F1 H'
  d2 : Dom F2 H'
theorem tOf_bind {β : Type} {f : M O} {k : O → M β} {P : β → Env → Prop} {σ : L2.St} {H : Hp} {Q : VK} {env : Env} {F : Fp} (rel : RelE X.K H env σ F) (h : Post P (bnd f k env))
    (c : ∀ o env' v H' F1 F2, RO X.K H' o v F1 → Aft X F H H' σ env' F1 F2 → Post P (k o env') → Q v H') : tOf X f σ H Q :=
  ⟨env, F, rel, h.bnd.mono fun o e' q v H' F1 F2 ro re dj st sub => c o e' v H' _ _ ro.dom ⟨re.dom, fun a p q => dj a p.1 q.1, st, fun a z => sub a (z.imp And.left And.left), fun a p => p.2, fun a p => p.2⟩ q⟩
theorem tOp_bind {β : Type} {f : M (O × Option Nat)} {k : O × Option Nat → M β} {P : β → Env → Prop} {σ : L2.St} {H : Hp} {Q : VK} {env : Env} {F : Fp} (rel : RelE X.K H env σ F) (h : Post P (bnd f k env))
    (c : ∀ r env' v H' F1 F2, RO X.K H' r.1 v F1 → Aft X F H H' σ env' F1 F2 → (∀ i, r.2 = some i → σ[i]? = some (some v)) → Post P (k r env') → Q v H') : tOp' X f σ H Q :=
  ⟨env, F, rel, h.bnd.mono fun o e' q v H' F1 F2 ro re dj st sub g => c o e' v H' _ _ ro.dom ⟨re.dom, fun a p q => dj a p.1 q.1, st, fun a z => sub a (z.imp And.left And.left), fun a p => p.2, fun a p => p.2⟩ g q⟩
theorem tBf_bind {β : Type} {f : M Bool} {k : Bool → M β} {P : β → Env → Prop} {σ : L2.St} {H : Hp} {Q : Bool → Hp → Prop} {env : Env} {F : Fp} (rel : RelE X.K H env σ F) (h : Post P (bnd f k env))
    (c : ∀ b env' H' F2, Aft X F H H' σ env' nof F2 → Post P (k b env') → Q b H') : tBf X f σ H Q :=
  ⟨env, F, rel, h.bnd.mono fun o e' q H' F2 re st sub => c o e' H' _ ⟨re.dom, fun a p q => p.elim, st, fun a z => sub a (z.elim False.elim And.left), fun a p => p.elim, fun a p => p.2⟩ q⟩
theorem tLf_bind {β : Type} {f : M (List O)} {k : List O → M β} {P : β → Env → Prop} {σ : L2.St} {H : Hp} {Q : List V → Hp → Prop} {env : Env} {F : Fp} (rel : RelE X.K H env σ F) (h : Post P (bnd f k env))
    (c : ∀ os env' vs H' F1 F2, ROs X.K H' os vs F1 → Aft X F H H' σ env' F1 F2 → Post P (k os env') → Q vs H') : tLf X f σ H Q :=
  ⟨env, F, rel, h.bnd.mono fun o e' q v H' F1 F2 ro re dj st sub => c o e' v H' _ _ ro.dom ⟨re.dom, fun a p q => dj a p.1 q.1, st, fun a z => sub a (z.imp And.left And.left), fun a p => p.2, fun a p => p.2⟩ q⟩
/-- a part behind a part: what is held (G) stays -/
theorem Aft.next {F F1 F2 F3 F4 : Fp} {H H1 H2 : Hp} {σ : L2.St} {env env' : Env} (a : Aft X F H H1 σ env F1 F2) (b : Aft X F2 H1 H2 σ env' F3 F4) :
    Step F H H2 ∧ Sub (Or F1 (Or F3 F4)) F H ∧ Disj F1 F3 ∧ Disj F1 F4 ∧ Dom F1 H2 := by
  have dn : Disj F1 (Or F3 F4) := disj_new a.dj a.d1 b.sub
  refine ⟨a.st.trans b.st fun x q => a.sub x (.inr q), fun x q => ?_, fun x p q => dn x p (.inl q), fun x p q => dn x p (.inr q), a.d1.step b.st⟩
  rcases q with q | q
  · exact a.sub x (.inl q)
  · rcases b.sub x q with z | z
    · exact a.sub x (.inr z)
    · exact .inr (a.st.free z)
theorem rst_ok {β : Type} {ri : Option Nat} {o : O} {k : Unit → M β} {P : β → Env → Prop} {env : Env} {σ : L2.St} {H : Hp} {F G : Fp} {v : V} (rel : RelE X.K H env σ F) (ro : RO X.K H o v G) (dj : Disj G F) (hi : ∀ i, ri = some i → σ[i]? = some (some v))
    (h : Post P (bnd (rst ri o) k env)) : ∃ env', RelE X.K H env' σ (Or G F) ∧ Post P (k () env') := by
  cases ri with
  | none => exact ⟨env, rel.mono fun a z => .inr z, h⟩
  | some i => exact ⟨env.set i (some o), rel.back (hi i rfl) ro dj, h⟩

/-! ### names, constants -/
theorem se_name (i : Nat) {x : Str} {pos : Pos} (hN : X.N[i]? = some x := by rfl) (hv : Vis X.env.scope x := by first | exact Or.inl rfl | exact Or.inr (Or.inl rfl) | exact Or.inr (Or.inr rfl)) (hd : (x == ("__debug__" : Str)) = false := by decide)
    (hcd : (x == ("__classdict__" : Str)) = false := by decide) : SE X (.Name x pos) (mv i) := by
  refine PE.imp (pe_var hN hv hd hcd) fun σ H Q ⟨env, F, rel, h⟩ => ?_
  unfold mv at h
  split at h
  · rename_i x e
    obtain ⟨v, e1, r⟩ := rel.getD e
    exact ⟨v, e1, h v H nof F (.d r) rel (fun a z _ => z) .refl fun a z => .inl (z.elim False.elim id)⟩
  · rename_i o _ e
    obtain ⟨v, F1, F2, e1, r, rel', a, b, d⟩ := rel.take e
    exact ⟨v, e1, h v H F1 F2 r rel' d .refl fun x z => .inl (z.elim (a x) (b x))⟩
  · exact h.elim
theorem oe_name (i : Nat) {x : Str} {pos : Pos} (hN : X.N[i]? = some x := by rfl) (hv : Vis X.env.scope x := by first | exact Or.inl rfl | exact Or.inr (Or.inl rfl) | exact Or.inr (Or.inr rfl)) (hd : (x == ("__debug__" : Str)) = false := by decide)
    (hcd : (x == ("__classdict__" : Str)) = false := by decide) : OE X (.Name x pos) (op i) := by
  refine PE.imp (pe_var hN hv hd hcd) fun σ H Q ⟨env, F, rel, h⟩ => ?_
  unfold op at h
  split at h
  · rename_i x e
    obtain ⟨v, e1, r⟩ := rel.getD e
    exact ⟨v, e1, h v H nof F (.d r) rel (fun a z _ => z) .refl (fun a z => .inl (z.elim False.elim id)) (fun _ z => nomatch z)⟩
  · rename_i o _ e
    obtain ⟨v, F1, F2, e1, r, rel', a, b, d⟩ := rel.take e
    exact ⟨v, e1, h v H F1 F2 r rel' d .refl (fun x z => .inl (z.elim (a x) (b x))) (fun j z => by cases z; exact e1)⟩
  · exact h.elim
theorem oe_of {e : Expr} {f : M O} (h : SE X e f) : OE X e (tmp f) := by
  refine PE.imp h fun σ H Q ⟨env, F, rel, q⟩ => ?_
  exact tOf_bind rel q fun o env' v H' F1 F2 ro a q => q v H' F1 F2 ro a.rel a.dj a.st a.sub (fun _ z => nomatch z)
def con (x : D) : M O := ret (.d x)
theorem se_con {e : Expr} {v : V} {x : D} (h : PE X e (tC v)) (r : ∀ H, RD X.K H x v) : SE X e (con x) :=
  PE.imp h fun σ H Q ⟨env, F, rel, q⟩ => q v H nof F (.d (r H)) rel (fun a z _ => z) .refl fun a z => .inl (z.elim False.elim id)
theorem se_int {i j pos} : SE X (.Constant (.int i) j pos) (con (.int i)) := se_con pe_int fun _ => .int i
theorem se_bl {b j pos} : SE X (.Constant (.bool b) j pos) (con (.bl b)) := se_con pe_bl fun _ => .bl b
theorem se_non {j pos} : SE X (.Constant .none j pos) (con .non) := se_con pe_non fun _ => .non
theorem se_str {x j pos} : SE X (.Constant (.str x) j pos) (con (.str x)) := se_con pe_str fun _ => .str x

/-! ### operators by values -/
/-- what an operation hands back is new, or changes no more; nothing else changes -/
def New (K : PySem.W.Frag) (H : Hp) (r : O) (z : V) (H' : Hp) : Prop := ∃ F', RO K H' r z F' ∧ Step nof H H' ∧ Sub F' nof H
theorem New.d {K : PySem.W.Frag} {H : Hp} {x : D} {z : V} (h : RD K H x z) : New K H (.d x) z H := ⟨nof, .d h, .refl, fun _ z => z.elim⟩
variable (X) in
def OpS (f : Value → Value → Sem Value) (g : O → O → Option O) : Prop :=
  ∀ (pins : List (Addr × Obj)) (s : Shared) (σ : L2.St) (H : Hp) (x y : V) (v u : Value) (ox oy r : O) (F G : Fp), Inv X pins σ H s → RelV x v → RelV y u → RO X.K H ox x F → RO X.K H oy y G → g ox oy = some r →
    wpAny (model X.prog X.w) X.A (f v u) (EP X pins σ (New X.K H r)) X.xe s
theorem OpS.of {f : Value → Value → Sem Value} {g : O → O → Option O} {r : R2} (h : OpR X f r) (k : ∀ H x y ox oy F G o, RO X.K H ox x F → RO X.K H oy y G → g ox oy = some o → r x y H (New X.K H o)) : OpS X f g :=
  fun pins s σ H x y v u ox oy o F G I rx ry ro1 ro2 e => h pins s σ H x y v u _ I rx ry (k H x y ox oy F G o ro1 ro2 e)
/-- the first of two that knows the values -/
def orO (g g' : O → O → Option O) : O → O → Option O := fun x y => match g x y with
  | some r => some r
  | none => g' x y
theorem OpS.or {f : Value → Value → Sem Value} {g g' : O → O → Option O} (h : OpS X f g) (h' : OpS X f g') : OpS X f (orO g g') := by
  intro pins s σ H x y v u ox oy o F G I rx ry ro1 ro2 e
  unfold orO at e
  cases q : g ox oy with
  | some r => rw [q] at e; cases e; exact h pins s σ H x y v u ox oy _ F G I rx ry ro1 ro2 q
  | none => rw [q] at e; exact h' pins s σ H x y v u ox oy _ F G I rx ry ro1 ro2 e
/-- the rule's form of an operation by values -/
def rOf (K : PySem.W.Frag) (g : O → O → Option O) : R2 := fun x y H Q => ∃ ox oy r F G, RO K H ox x F ∧ RO K H oy y G ∧ g ox oy = some r ∧ ∀ z H', New K H r z H' → Q z H'
theorem OpS.rule {f : Value → Value → Sem Value} {g : O → O → Option O} (h : OpS X f g) : OpR X f (rOf X.K g) := by
  intro pins s σ H x y v u Q I rx ry ⟨ox, oy, r, F, G, r1, r2, e, q⟩
  exact thn (h pins s σ H x y v u ox oy r F G I rx ry r1 r2 e) fun w s' ⟨z, H', I', rz, n⟩ => ⟨z, H', I', rz, q z H' n⟩
def cBin (g : O → O → Option O) (fa fb : M (O × Option Nat)) : M O :=
  bnd fa fun x => bnd fb fun y => bnd (lift (g x.1 y.1)) fun r => bnd (rst y.2 y.1) fun _ => bnd (rst x.2 x.1) fun _ => ret r
theorem bin_ok {g : O → O → Option O} {fa fb : M (O × Option Nat)} {σ : L2.St} {H : Hp} {Q : VK} (h : tOf X (cBin g fa fb) σ H Q) : tOp (rOf X.K g) (tOp' X fa) (tOp' X fb) σ H Q := by
  obtain ⟨env, F, rel, h⟩ := h
  refine tOp_bind rel h fun x env1 v H1 F1 F2 ro1 a g1 h => ?_
  refine tOp_bind a.rel h fun y env2 u H2 F3 F4 ro2 b g2 h => ?_
  obtain ⟨r, e, h⟩ := h.lift
  obtain ⟨st, sub, d13, d14, dm⟩ := a.next b
  have ro1' := ro1.step b.st a.dj
  refine ⟨x.1, y.1, r, F1, F3, ro1', ro2, e, fun z H' ⟨F', rz, st', sub'⟩ => ?_⟩
  have rel2 := b.rel.step st' fun _ _ z => z
  obtain ⟨env3, rel3, h⟩ := rst_ok rel2 (ro2.step st' fun _ _ z => z) b.dj g2 h
  obtain ⟨env4, rel4, h⟩ := rst_ok rel3 (ro1'.step st' fun _ _ z => z) (fun q m n => n.elim (d13 q m) (d14 q m)) g1 h
  refine h z H' F' _ rz rel4 (fun q m n => ?_) (st.trans st' fun _ z => z.elim) fun q m => ?_
  · have hn : H2 q = none := (sub' q m).elim False.elim id
    rcases n with n | n | n
    · obtain ⟨o, eo⟩ := dm q n; rw [hn] at eo; cases eo
    · obtain ⟨o, eo⟩ := b.d1 q n; rw [hn] at eo; cases eo
    · obtain ⟨o, eo⟩ := b.d2 q n; rw [hn] at eo; cases eo
  · rcases m with m | m
    · exact .inr (st.free ((sub' q m).elim False.elim id))
    · exact sub q m
theorem se_bin {op : Operator} {g : O → O → Option O} {a b : Expr} {fa fb : M (O × Option Nat)} {pos : Pos} (ho : OpS X (binaryOp op) g) (ha : OE X a fa) (hb : OE X b fb) : SE X (.BinOp a op b pos) (cBin g fa fb) :=
  PE.imp (pe_op ho.rule ha hb) fun _ _ _ h => bin_ok h
theorem se_cmp {op : CmpOp} {g : O → O → Option O} {a b : Expr} {fa fb : M (O × Option Nat)} {pos : Pos} (ho : OpS X (compareOp op) g) (ha : OE X a fa) (hb : OE X b fb) (hm : behindInMarks op b = false) : SE X (.Compare a [op] [b] pos) (cBin g fa fb) :=
  PE.imp (pe_cmpR ho.rule ha hb hm) fun _ _ _ h => bin_ok h
/-- a value as a test: a truth -/
def asB (f : M O) : M Bool := bnd f fun o => lift (match o with | .d (.bl b) => some b | _ => none)
theorem test_ok {e : Expr} {f : M O} {t : TE} {σ : L2.St} {H : Hp} {Q : Bool → Hp → Prop} (k : ∀ σ H Q, tOf X f σ H Q → t σ H Q) (h : tBf X (asB f) σ H Q) : tTest t σ H Q := by
  obtain ⟨env, F, rel, h⟩ := h
  refine k _ _ _ (tOf_bind rel h fun o env1 v H1 F1 F2 ro a h => ?_)
  cases o with
  | d x =>
    cases x with
    | bl b =>
      cases ro.od
      exact ⟨b, rfl, h H1 F2 a.rel a.st fun q m => a.sub q (.inr m)⟩
    | _ => exact h.elim
  | _ => exact h.elim
theorem be_cmp {op : CmpOp} {g : O → O → Option O} {a b : Expr} {fa fb : M (O × Option Nat)} {pos : Pos} (ho : OpS X (compareOp op) g) (ha : OE X a fa) (hb : OE X b fb) (hm : behindInMarks op b = false) : BE X (.Compare a [op] [b] pos) (asB (cBin g fa fb)) :=
  PT.imp (pt_cmpR ho.rule ha hb hm) fun _ _ _ h => test_ok (e := a) (fun _ _ _ => bin_ok) h
end
end TL

set_option maxHeartbeats 1000000
namespace TL
open PySem L2

/-! ### what a value is -/
def dOnly : List O → Option (List D)
  | [] => some []
  | .d x :: r => (dOnly r).map (x :: ·)
  | _ :: _ => none
def asL : O → Option (List D)
  | .d (.lst xs) => some xs
  | .d (.scr xs) => some xs
  | .lst os => dOnly os
  | _ => none
def asL' : O → Option (List D)
  | .d (.lst xs) => some xs
  | .lst os => dOnly os
  | _ => none
def asT : O → Option (List D)
  | .d (.tup xs) => some xs
  | _ => none
def asQ (o : O) : Option (List D) := match asT o with
  | some xs => some xs
  | none => asL o
section
variable {K : PySem.W.Frag} {H : Hp}
theorem dOnly_ok : ∀ {os : List O} {vs : List V} {F : Fp} {xs : List D}, ROs K H os vs F → dOnly os = some xs → RDs K H xs vs
  | [], _, _, _, r, e => by cases r; cases e; exact .nil
  | .d x :: os, _, _, _, .cons F1 F2 h r a b d, e => by
    unfold dOnly at e
    cases q : dOnly os with
    | none => rw [q] at e; cases e
    | some ys => rw [q] at e; cases e; exact .cons h.od (dOnly_ok r q)
  | .lst _ :: _, _, _, _, _, e => by cases e
  | .dct _ :: _, _, _, _, _, e => by cases e
  | .dcT _ :: _, _, _, _, _, e => by cases e
  | .ins _ _ :: _, _, _, _, _, e => by cases e
theorem asL_ok {o : O} {v : V} {F : Fp} {xs : List D} (r : RO K H o v F) (e : asL o = some xs) : ∃ a vs, v = .ref a ∧ SqL K H a vs ∧ RDs K H xs vs := by
  cases o with
  | d x =>
    cases x with
    | lst ys => cases e; cases r.od with | lst h q => exact ⟨_, _, rfl, .inl (.inr ⟨_, h⟩), q⟩
    | scr ys => cases e; cases r.od with | scr h q => exact ⟨_, _, rfl, h.sq, q⟩
    | _ => cases e
  | lst os => cases r with | lst h f q => exact ⟨_, _, rfl, .of h, dOnly_ok q e⟩
  | _ => cases e
theorem asL'_ok {o : O} {v : V} {F : Fp} {xs : List D} (r : RO K H o v F) (e : asL' o = some xs) : ∃ a vs, v = .ref a ∧ Rd H a (.lst vs) ∧ RDs K H xs vs := by
  cases o with
  | d x =>
    cases x with
    | lst ys => cases e; cases r.od with | lst h q => exact ⟨_, _, rfl, .inr ⟨_, h⟩, q⟩
    | _ => cases e
  | lst os => cases r with | lst h f q => exact ⟨_, _, rfl, .of h, dOnly_ok q e⟩
  | _ => cases e
theorem asT_ok {o : O} {v : V} {F : Fp} {xs : List D} (r : RO K H o v F) (e : asT o = some xs) : ∃ a vs, v = .ref a ∧ SqT K H a vs ∧ RDs K H xs vs := by
  cases o with
  | d x =>
    cases x with
    | tup ys => cases e; cases r.od with | tup h q => exact ⟨_, _, rfl, h, q⟩
    | _ => cases e
  | _ => cases e
theorem asQ_ok {o : O} {v : V} {F : Fp} {xs : List D} (r : RO K H o v F) (e : asQ o = some xs) : ∃ a vs, v = .ref a ∧ (SqL K H a vs ∨ SqT K H a vs) ∧ RDs K H xs vs := by
  unfold asQ at e
  cases q : asT o with
  | some ys =>
    rw [q] at e; cases e
    obtain ⟨a, vs, e1, e2, e3⟩ := asT_ok r q
    exact ⟨a, vs, e1, .inr e2, e3⟩
  | none =>
    rw [q] at e
    obtain ⟨a, vs, e1, e2, e3⟩ := asL_ok r e
    exact ⟨a, vs, e1, .inl e2, e3⟩
theorem RDs.append : ∀ {xs ys : List D} {vs ws : List V}, RDs K H xs vs → RDs K H ys ws → RDs K H (xs ++ ys) (vs ++ ws)
  | _, _, _, _, .nil, s => s
  | _, _, _, _, .cons h r, s => .cons h (RDs.append r s)
theorem RDs.get : ∀ {xs : List D} {vs : List V} {i : Nat} {x : D}, RDs K H xs vs → xs[i]? = some x → ∃ v, vs[i]? = some v ∧ RD K H x v
  | _, _, _, _, .nil, e => by simp at e
  | _, _, 0, _, .cons h r, e => by simp at e; subst e; exact ⟨_, rfl, h⟩
  | _, _, i + 1, _, .cons h r, e => by
    obtain ⟨v, a, b⟩ := RDs.get (i := i) r (by simpa using e)
    exact ⟨v, by simpa using a, b⟩
theorem RDs.take (n : Nat) : ∀ {xs : List D} {vs : List V}, RDs K H xs vs → RDs K H (xs.take n) (vs.take n) := by
  induction n with
  | zero => intro xs vs r; simp; exact .nil
  | succ n ih =>
    intro xs vs r
    cases r with
    | nil => simp; exact .nil
    | cons h r => simp only [List.take_succ_cons]; exact .cons h (ih r)
theorem RDs.drop (n : Nat) : ∀ {xs : List D} {vs : List V}, RDs K H xs vs → RDs K H (xs.drop n) (vs.drop n) := by
  induction n with
  | zero => intro xs vs r; simpa using r
  | succ n ih =>
    intro xs vs r
    cases r with
    | nil => simp; exact .nil
    | cons h r => simp only [List.drop_succ_cons]; exact ih r
theorem New.lst {H : Hp} {p : Addr} {xs : List D} {vs : List V} (h : H p = none) (r : RDs K H xs vs) : New K H (.lst (xs.map O.d)) (.ref p) (upd H p (.lst vs)) :=
  ⟨fun a => a = p, .lst upd_same rfl (RDs.os (RDs.keep (Step.new (F := nof) h).pers r)), .new h, fun a z => .inr (by subst z; exact h)⟩
theorem New.tup {H : Hp} {p : Addr} {xs : List D} {vs : List V} (h : H p = none) (r : RDs K H xs vs) : New K H (.d (.tup xs)) (.ref p) (upd H p (.tup vs)) :=
  ⟨nof, .d (.tup (.of upd_same) (RDs.keep (Step.new (F := nof) h).pers r)), .new h, fun _ z => z.elim⟩
end

/-! ### data that is compared, sorted, written -/
mutual
def D.py : D → Option PyData
  | .non => some .none
  | .bl b => some (.bool b)
  | .int i => some (.int i)
  | .str x => some (.str x)
  | .tup xs => match pys xs with
    | some ds => some (.tuple ds)
    | none => none
  | .lst xs => match pys xs with
    | some ds => some (.list ds)
    | none => none
  | .scr xs => match pys xs with
    | some ds => some (.list ds)
    | none => none
  | .dct _ => none
  | .dcT _ => none
  | .ins _ _ => none
  | .obj _ => none
  | .ty _ => none
def pys : List D → Option (List PyData)
  | [] => some []
  | x :: xs => match x.py, pys xs with
    | some d, some ds => some (d :: ds)
    | _, _ => none
end
section
variable {K : PySem.W.Frag} {H : Hp}
mutual
theorem RD.dp : ∀ {x : D} {v : V} {d : PyData}, RD K H x v → x.py = some d → Dp K H v d
  | .non, _, _, h, e => by rw [D.py] at e; cases e; cases h; exact .non
  | .bl b, _, _, h, e => by rw [D.py] at e; cases e; cases h; exact .bl b
  | .int i, _, _, h, e => by rw [D.py] at e; cases e; cases h; exact .int i
  | .str x, _, _, h, e => by rw [D.py] at e; cases e; cases h; exact .str x
  | .tup xs, _, _, h, e => by
    rw [D.py] at e
    cases q : pys xs with
    | none => rw [q] at e; cases e
    | some ds => rw [q] at e; cases e; cases h with | tup h r => exact .tup h (RDs.dp r q)
  | .lst xs, _, _, h, e => by
    rw [D.py] at e
    cases q : pys xs with
    | none => rw [q] at e; cases e
    | some ds => rw [q] at e; cases e; cases h with | lst h r => exact .lst (.inl (.inr ⟨_, h⟩)) (RDs.dp r q)
  | .scr xs, _, _, h, e => by
    rw [D.py] at e
    cases q : pys xs with
    | none => rw [q] at e; cases e
    | some ds => rw [q] at e; cases e; cases h with | scr h r => exact .lst h.sq (RDs.dp r q)
  | .dct _, _, _, _, e => by rw [D.py] at e; cases e
  | .dcT _, _, _, _, e => by rw [D.py] at e; cases e
  | .ins _ _, _, _, _, e => by rw [D.py] at e; cases e
  | .obj _, _, _, _, e => by rw [D.py] at e; cases e
  | .ty _, _, _, _, e => by rw [D.py] at e; cases e
theorem RDs.dp : ∀ {xs : List D} {vs : List V} {ds : List PyData}, RDs K H xs vs → pys xs = some ds → DpAll K H vs ds
  | [], _, _, h, e => by rw [pys] at e; cases e; cases h; exact .nil
  | x :: xs, _, _, h, e => by
    rw [pys] at e
    cases q : x.py with
    | none => rw [q] at e; cases e
    | some d =>
      cases q2 : pys xs with
      | none => rw [q, q2] at e; cases e
      | some ds => rw [q, q2] at e; cases e; cases h with | cons a b => exact .cons (RD.dp a q) (RDs.dp b q2)
end
mutual
theorem RO.dp : ∀ {o : O} {v : V} {F : Fp} {d : PyData}, RO K H o v F → o.shr.py = some d → Dp K H v d
  | .d x, _, _, _, h, e => by rw [O.shr] at e; exact h.od.dp e
  | .lst xs, _, _, _, h, e => by
    rw [O.shr, D.py] at e
    cases q : pys (shrs xs) with
    | none => rw [q] at e; cases e
    | some ds => rw [q] at e; cases e; cases h with | lst h f r => exact .lst (.of h) (ROs.dp r q)
  | .dct _, _, _, _, _, e => by rw [O.shr, D.py] at e; cases e
  | .dcT _, _, _, _, _, e => by rw [O.shr, D.py] at e; cases e
  | .ins _ _, _, _, _, _, e => by rw [O.shr, D.py] at e; cases e
theorem ROs.dp : ∀ {os : List O} {vs : List V} {F : Fp} {ds : List PyData}, ROs K H os vs F → pys (shrs os) = some ds → DpAll K H vs ds
  | [], _, _, _, h, e => by rw [shrs, pys] at e; cases e; cases h; exact .nil
  | x :: xs, _, _, _, h, e => by
    rw [shrs, pys] at e
    cases q : x.shr.py with
    | none => rw [q] at e; cases e
    | some d =>
      cases q2 : pys (shrs xs) with
      | none => rw [q, q2] at e; cases e
      | some ds => rw [q, q2] at e; cases e; cases h with | cons F1 F2 a b _ _ _ => exact .cons (RO.dp a q) (ROs.dp b q2)
end
end

/-! ### operators -/
/-- two ints -/
def gI (f : Int → Int → Option D) : O → O → Option O
  | .d (.int i), .d (.int j) => (f i j).map O.d
  | _, _ => none
def gS (f : Str → Str → Option D) : O → O → Option O
  | .d (.str i), .d (.str j) => (f i j).map O.d
  | _, _ => none
section
variable {X : Cx}
theorem gI_of {ox oy o : O} {f : Int → Int → Option D} {x y : V} {H : Hp} {F G : Fp} (r1 : RO X.K H ox x F) (r2 : RO X.K H oy y G) (e : gI f ox oy = some o) : ∃ i j d, x = .int i ∧ y = .int j ∧ f i j = some d ∧ o = .d d := by
  unfold gI at e
  split at e
  · rename_i i j
    cases q : f i j with
    | none => rw [q] at e; cases e
    | some d => rw [q] at e; cases e; cases r1.od; cases r2.od; exact ⟨i, j, d, rfl, rfl, q, rfl⟩
  · cases e
theorem gS_of {ox oy o : O} {f : Str → Str → Option D} {x y : V} {H : Hp} {F G : Fp} (r1 : RO X.K H ox x F) (r2 : RO X.K H oy y G) (e : gS f ox oy = some o) : ∃ i j d, x = .str i ∧ y = .str j ∧ f i j = some d ∧ o = .d d := by
  unfold gS at e
  split at e
  · rename_i i j
    cases q : f i j with
    | none => rw [q] at e; cases e
    | some d => rw [q] at e; cases e; cases r1.od; cases r2.od; exact ⟨i, j, d, rfl, rfl, q, rfl⟩
  · cases e
/-- an operator of two ints -/
theorem os_int {f : Value → Value → Sem Value} {C : Int → Int → Prop} [∀ i j, Decidable (C i j)] {g : Int → Int → Int} (h : OpR X f (rI C fun i j => .int (g i j))) : OpS X f (gI fun i j => if C i j then some (.int (g i j)) else none) :=
  .of h fun H x y ox oy F G o r1 r2 e => by
    obtain ⟨i, j, d, rfl, rfl, q, rfl⟩ := gI_of r1 r2 e
    split at q
    · rename_i c; cases q; exact ⟨i, j, rfl, rfl, c, .d (.int _)⟩
    · cases q
theorem os_int0 {f : Value → Value → Sem Value} {g : Int → Int → Int} (h : OpR X f (rI0 fun i j => .int (g i j))) : OpS X f (gI fun i j => some (.int (g i j))) :=
  .of h fun H x y ox oy F G o r1 r2 e => by
    obtain ⟨i, j, d, rfl, rfl, q, rfl⟩ := gI_of r1 r2 e
    cases q; exact ⟨i, j, rfl, rfl, .d (.int _)⟩
theorem os_intB {f : Value → Value → Sem Value} {g : Int → Int → Bool} (h : OpR X f (rI0 fun i j => .bl (g i j))) : OpS X f (gI fun i j => some (.bl (g i j))) :=
  .of h fun H x y ox oy F G o r1 r2 e => by
    obtain ⟨i, j, d, rfl, rfl, q, rfl⟩ := gI_of r1 r2 e
    cases q; exact ⟨i, j, rfl, rfl, .d (.bl _)⟩
instance (i j : Int) : Decidable (CMulW i j) := by unfold CMulW; infer_instance
instance (i j : Int) : Decidable (CDivW i j) := by unfold CDivW; infer_instance
def CPowW (i j : Int) : Prop := 0 ≤ j ∧ (Builtin.Int.intBits i : Int) * j ≤ 2 ^ 27
instance (i j : Int) : Decidable (CPowW i j) := by unfold CPowW; infer_instance
theorem op_powW : OpR X (binaryOp .Pow) (rI CPowW fun i j => .int (i ^ j.toNat)) := opI fun _ _ _ _ _ _ _ hc q => PyProof.Rows.pow_int hc.1 hc.2 q
/-- two lists -/
def gCatL : O → O → Option O := fun x y => match asL' x, asL' y with
  | some a, some b => if a.length + b.length ≤ sizeLine then some (.lst ((a ++ b).map O.d)) else none
  | _, _ => none
theorem os_catL : OpS X (binaryOp .Add) gCatL := by
  intro pins s σ H x y v u ox oy o F G I rx ry r1 r2 e
  unfold gCatL at e
  cases q1 : asL' ox with
  | none => rw [q1] at e; cases e
  | some a =>
    cases q2 : asL' oy with
    | none => rw [q1, q2] at e; cases e
    | some b =>
      rw [q1, q2] at e
      dsimp only at e
      split at e
      · rename_i hz
        cases e
        obtain ⟨p, xs, rfl, h1, d1⟩ := asL'_ok r1 q1
        obtain ⟨p', ys, rfl, h2, d2⟩ := asL'_ok r2 q2
        cases rx
        cases ry
        obtain ⟨z, its, n, r, g⟩ := h1.ok I.hok
        obtain ⟨z2, its2, n2, r', g2⟩ := h2.ok I.hok
        have l1 := r.length
        have l2 := r'.length
        have l3 := d1.length
        have l4 := d2.length
        refine PySem.P.add_list g g2 ?_ (by rw [List.size_toArray, List.size_toArray]; omega)
        have ea : its.toArray ++ its2.toArray = (its ++ its2).toArray := by simp
        rw [ea]
        exact ⟨.ref _, _, I.lnew (t' := s.toks) (r.append r') (by rw [List.length_append]; omega), rfl, .lst I.fresh (d1.append d2)⟩
      · cases e
def gCatT : O → O → Option O := fun x y => match asT x, asT y with
  | some a, some b => if a.length + b.length ≤ sizeLine then some (.d (.tup (a ++ b))) else none
  | _, _ => none
theorem os_catT : OpS X (binaryOp .Add) gCatT := .of op_catA fun H x y ox oy F G o r1 r2 e => by
  unfold gCatT at e
  cases q1 : asT ox with
  | none => rw [q1] at e; cases e
  | some a =>
    cases q2 : asT oy with
    | none => rw [q1, q2] at e; cases e
    | some b =>
      rw [q1, q2] at e
      dsimp only at e
      split at e
      · rename_i hz
        cases e
        obtain ⟨p, xs, rfl, h1, d1⟩ := asT_ok r1 q1
        obtain ⟨p', ys, rfl, h2, d2⟩ := asT_ok r2 q2
        have l3 := d1.length
        have l4 := d2.length
        refine ⟨p, p', xs, ys, rfl, rfl, h1, h2, by omega, fun e => ?_, fun n e => ?_, fun n n' p hp => ?_⟩
        · subst e; cases d1; exact .d (.tup h2 d2)
        · subst e; cases d2; rw [List.append_nil]; exact .d (.tup h1 d1)
        · exact .tup hp (d1.append d2)
      · cases e
def gAdd : O → O → Option O := orO (gI fun i j => some (.int (i + j))) (orO (gS fun a b => if a.length + b.length ≤ sizeLine then some (.str (a ++ b)) else none) (orO gCatL gCatT))
end
end TL

set_option maxHeartbeats 1000000
namespace TL
open PySem L2

section
variable {X : Cx}
/-! ### comparisons -/
theorem os_strD {f : Value → Value → Sem Value} {g : Str → Str → D} {r : R2} (h : OpR X f r) (k : ∀ H i j Q, (∀ z, RD X.K H (g i j) z → Q z H) → r (.str i) (.str j) H Q) : OpS X f (gS fun i j => some (g i j)) :=
  .of h fun H x y ox oy F G o r1 r2 e => by
    obtain ⟨i, j, d, rfl, rfl, q, rfl⟩ := gS_of r1 r2 e
    cases q
    exact k H i j _ fun z hz => .d hz
def gLt : O → O → Option O := orO (gI fun i j => some (.bl (decide (i < j)))) (gS fun i j => some (.bl (decide (i.cps.toList < j.cps.toList))))
theorem os_lt : OpS X (compareOp .Lt) gLt := (os_intB op_lt).or (os_strD op_lt_str fun H i j Q q => ⟨i, j, rfl, rfl, q _ (.bl _)⟩)
theorem le_strR : OpR X (compareOp .LtE) (fun x y H Q => ∃ i j, x = .str i ∧ y = .str j ∧ Q (.bl (!decide (j.cps.toList < i.cps.toList))) H) := by
  intro pins s σ H x y v u Q I rx ry h
  obtain ⟨i, j, rfl, rfl, q⟩ := h
  obtain ⟨t, rfl⟩ := rx
  obtain ⟨t', rfl⟩ := ry
  exact PySem.P.le_str (fin_bl I q rfl)
def gLe : O → O → Option O := orO (gI fun i j => some (.bl (decide (i ≤ j)))) (gS fun i j => some (.bl (!decide (j.cps.toList < i.cps.toList))))
theorem os_le : OpS X (compareOp .LtE) gLe := (os_intB op_le).or (os_strD le_strR fun H i j Q q => ⟨i, j, rfl, rfl, q _ (.bl _)⟩)
def gGt : O → O → Option O := gI fun i j => some (.bl (decide (j < i)))
theorem os_gt : OpS X (compareOp .Gt) gGt := os_intB op_gt
def gGe : O → O → Option O := gI fun i j => some (.bl (decide (j ≤ i)))
theorem os_ge : OpS X (compareOp .GtE) gGe := os_intB op_ge
def gEqD (neg : Bool) : O → O → Option O := fun x y => match x.shr.py, y.shr.py with
  | some d, some e => if (SeqAt.shaped d && SeqAt.shaped e) = true then some (.d (.bl (if neg then !PyData.eqv d e else PyData.eqv d e))) else none
  | _, _ => none
theorem gEqD_of {ox oy o : O} {neg : Bool} {x y : V} {H : Hp} {F G : Fp} (r1 : RO X.K H ox x F) (r2 : RO X.K H oy y G) (e : gEqD neg ox oy = some o) :
    ∃ d e, Dp X.K H x d ∧ Dp X.K H y e ∧ SeqAt.shaped d = true ∧ SeqAt.shaped e = true ∧ o = .d (.bl (if neg then !PyData.eqv d e else PyData.eqv d e)) := by
  unfold gEqD at e
  cases q1 : ox.shr.py with
  | none => rw [q1] at e; cases e
  | some d =>
    cases q2 : oy.shr.py with
    | none => rw [q1, q2] at e; cases e
    | some d' =>
      rw [q1, q2] at e
      dsimp only at e
      split at e
      · rename_i c
        rw [Bool.and_eq_true] at c
        cases e
        exact ⟨d, d', r1.dp q1, r2.dp q2, c.1, c.2, rfl⟩
      · cases e
theorem os_eqD (hu : X.A.units + 64 < cLine) : OpS X (compareOp .Eq) (gEqD false) := .of (op_eqD hu) fun H x y ox oy F G o r1 r2 e => by
  obtain ⟨d, d', h1, h2, s1, s2, rfl⟩ := gEqD_of r1 r2 e
  exact ⟨d, d', h1, h2, s1, s2, .d (.bl _)⟩
theorem os_neD (hu : X.A.units + 64 < cLine) : OpS X (compareOp .NotEq) (gEqD true) := .of (op_neD hu) fun H x y ox oy F G o r1 r2 e => by
  obtain ⟨d, d', h1, h2, s1, s2, rfl⟩ := gEqD_of r1 r2 e
  exact ⟨d, d', h1, h2, s1, s2, .d (.bl _)⟩
def isNon : O → Bool
  | .d .non => true
  | _ => false
theorem isNon_of {o : O} {v : V} {H : Hp} {F : Fp} (r : RO X.K H o v F) : decide (v = .non) = isNon o := by
  cases r with
  | d h => cases h <;> simp [isNon]
  | _ => simp [isNon]
def gIsN (neg : Bool) : O → O → Option O := fun x y => match y with
  | .d .non => some (.d (.bl (if neg then !isNon x else isNon x)))
  | _ => none
theorem os_isN : OpS X (compareOp .Is) (gIsN false) := .of op_isN fun H x y ox oy F G o r1 r2 e => by
  unfold gIsN at e
  split at e
  · cases e; cases r2.od
    refine ⟨rfl, ?_⟩
    rw [isNon_of r1]
    exact .d (.bl _)
  · cases e
theorem os_notN : OpS X (compareOp .IsNot) (gIsN true) := .of op_notN fun H x y ox oy F G o r1 r2 e => by
  unfold gIsN at e
  split at e
  · cases e; cases r2.od
    refine ⟨rfl, ?_⟩
    rw [isNon_of r1]
    exact .d (.bl _)
  · cases e
/-- a sign in a text -/
def gInS (neg : Bool) : O → O → Option O := gS fun i j => match i.cps.toList with
  | [c] => some (.bl (if neg then !decide (c ∈ j.cps.toList) else decide (c ∈ j.cps.toList)))
  | _ => none
theorem sign_of {i : Str} {c : Nat} (h : i.cps.toList = [c]) : i = ⟨#[c]⟩ := by
  apply Str.ext'
  apply Array.toList_inj.mp
  exact h
theorem os_inS : OpS X (compareOp .In) (gInS false) := .of op_in_sign fun H x y ox oy F G o r1 r2 e => by
  obtain ⟨i, j, d, rfl, rfl, q, rfl⟩ := gS_of r1 r2 e
  split at q
  · rename_i c hc
    cases q
    exact ⟨c, j, by rw [sign_of hc], rfl, .d (.bl _)⟩
  · cases q
theorem os_notInS : OpS X (compareOp .NotIn) (gInS true) := .of op_notIn_sign fun H x y ox oy F G o r1 r2 e => by
  obtain ⟨i, j, d, rfl, rfl, q, rfl⟩ := gS_of r1 r2 e
  split at q
  · rename_i c hc
    cases q
    exact ⟨c, j, by rw [sign_of hc], rfl, .d (.bl _)⟩
  · cases q
/-- a text times an int -/
def gMulS : O → O → Option O
  | .d (.str i), .d (.int n) => if 0 ≤ n ∧ n < 2 ^ 63 ∧ i.length * n.toNat ≤ sizeLine then some (.d (.str ⟨(List.replicate n.toNat i.cps.toList).flatten.toArray⟩)) else none
  | _, _ => none

/-! ### freezing -/
/-- a step that changes what is ours alone, and lays nothing -/
structure Frz (F : Fp) (H H' : Hp) : Prop where
  keep : ∀ a, ¬ F a → H' a = H a
  pers : ∀ a o, H a = some o → ¬ MutO o → H' a = some o
  there : ∀ a o, H a = some o → ∃ o', H' a = some o'
  free : ∀ a, H a = none → H' a = none
theorem Frz.refl {F : Fp} {H : Hp} : Frz F H H := ⟨fun _ _ => rfl, fun _ _ h _ => h, fun _ o h => ⟨o, h⟩, fun _ h => h⟩
theorem Frz.trans {F : Fp} {H H1 H2 : Hp} (a : Frz F H H1) (b : Frz F H1 H2) : Frz F H H2 :=
  ⟨fun x n => (b.keep x n).trans (a.keep x n), fun x o h n => b.pers x o (a.pers x o h n) n, fun x o h => let ⟨_, h1⟩ := a.there x o h; b.there x _ h1, fun x h => b.free x (a.free x h)⟩
theorem Frz.mono {F G : Fp} {H H1 : Hp} (a : Frz F H H1) (s : ∀ x, F x → G x) : Frz G H H1 := ⟨fun x n => a.keep x fun z => n (s x z), a.pers, a.there, a.free⟩
theorem Frz.step {F : Fp} {H H' : Hp} (a : Frz F H H') : Step F H H' := ⟨fun x o h n => (a.keep x n).trans h, a.pers, a.there⟩
theorem Frz.one {F : Fp} {H : Hp} {a : Addr} {u : HO} {o : Obj} (h : H a = some u) (m : MutO u) (f : F a) : Frz F H (upd H a (.frz o u)) where
  keep := fun x n => upd_ne (fun z => by subst z; exact n f)
  pers := fun x o e n => by rw [upd_ne (fun z => by subst z; rw [h] at e; cases e; exact n m)]; exact e
  there := fun x o e => by
    by_cases z : x = a
    · exact ⟨_, by rw [z, upd_same]⟩
    · exact ⟨o, by rw [upd_ne z]; exact e⟩
  free := fun x e => by rw [upd_ne (fun z => by subst z; rw [h] at e; cases e)]; exact e
variable {pins : List (Addr × Obj)} {σ : L2.St} {s : Shared}
/-- the heap as it is known still stands where F is -/
structure At (F : Fp) (H H1 : Hp) : Prop where
  own : ∀ a u, F a → H a = some u → H1 a = some u
  pers : ∀ a u, H a = some u → ¬ MutO u → H1 a = some u
theorem At.refl {F : Fp} {H : Hp} : At F H H := ⟨fun _ _ _ h => h, fun _ _ h _ => h⟩
theorem At.mono {F G : Fp} {H H1 : Hp} (a : At F H H1) (s : ∀ x, G x → F x) : At G H H1 := ⟨fun x u f h => a.own x u (s x f) h, a.pers⟩
theorem At.frz {F G : Fp} {H H1 H2 : Hp} (a : At F H H1) (z : Frz G H1 H2) (d : ∀ x, F x → ¬ G x) : At F H H2 := ⟨fun x u f h => (z.keep x (d x f)).trans (a.own x u f h), fun x u h n => z.pers x u (a.pers x u h n) n⟩
theorem frz_top {a : Addr} {u : HO} {F : Fp} {H H1 H2 : Hp} (t : At F H H1) (h : H a = some u) (f : F a) (m : MutO u) (z1 : Frz (fun b => F b ∧ b ≠ a) H1 H2) (I : Inv X pins σ H2 s) :
    ∃ ob, Inv X pins σ (upd H2 a (.frz ob u)) s ∧ Frz F H1 (upd H2 a (.frz ob u)) ∧ Frz F H2 (upd H2 a (.frz ob u)) := by
  have e : H2 a = some u := (z1.keep _ fun q => q.2 rfl).trans (t.own a u f h)
  obtain ⟨ob, I2⟩ := I.lock e m.mut
  exact ⟨ob, I2, (z1.mono fun _ q => q.1).trans (Frz.one e m f), Frz.one e m f⟩
mutual
theorem frz_ok' {H : Hp} : ∀ {o : O} {v : V} {F : Fp}, RO X.K H o v F → ∀ H1, Inv X pins σ H1 s → At F H H1 → ∃ H2, Inv X pins σ H2 s ∧ RD X.K H2 o.shr v ∧ Frz F H1 H2
  | .d x, _, F, .d r, H1, I, t => ⟨H1, I, by rw [O.shr]; exact r.keep t.pers, .refl⟩
  | .lst xs, _, F, .lst h f r, H1, I, t => by
    obtain ⟨H2, I1, r1, z1⟩ := frzs_ok' r H1 I (t.mono fun _ q => q.1)
    obtain ⟨ob, I2, z, z2⟩ := frz_top t h f trivial z1 I1
    exact ⟨_, I2, by rw [O.shr]; exact .lst upd_same (r1.keep z2.pers), z⟩
  | .dct m, _, F, .dct h f e0 r, H1, I, t => by
    obtain ⟨H2, I1, r1, z1⟩ := frzs_ok' r H1 I (t.mono fun _ q => q.1)
    obtain ⟨ob, I2, z, z2⟩ := frz_top t h f trivial z1 I1
    refine ⟨_, I2, ?_, z⟩
    rw [O.shr, shrK_map]
    refine .dct upd_same (by rw [e0, List.map_map]; rfl) ?_
    have q := r1.keep z2.pers
    rw [shrs_map, List.map_map] at q
    rw [List.map_map]
    exact q
  | .dcT m, _, F, .dcT h f e0 r, H1, I, t => by
    obtain ⟨H2, I1, r1, z1⟩ := frzs_ok' r H1 I (t.mono fun _ q => q.1)
    obtain ⟨ob, I2, z, z2⟩ := frz_top t h f trivial z1 I1
    refine ⟨_, I2, ?_, z⟩
    rw [O.shr, shrT_map]
    refine .dcT upd_same (by rw [e0, List.map_map]; rfl) ?_
    have q := r1.keep z2.pers
    rw [shrs_map, List.map_map] at q
    rw [List.map_map]
    exact q
  | .ins C fs, _, F, .ins h f e0 r, H1, I, t => by
    obtain ⟨H2, I1, r1, z1⟩ := frzs_ok' r H1 I (t.mono fun _ q => q.1)
    obtain ⟨ob, I2, z, z2⟩ := frz_top t h f trivial z1 I1
    refine ⟨_, I2, ?_, z⟩
    rw [O.shr, shrF_map]
    refine .ins upd_same (by rw [e0, List.map_map]; rfl) ?_
    have q := r1.keep z2.pers
    rw [shrs_map, List.map_map] at q
    rw [List.map_map]
    exact q
theorem frzs_ok' {H : Hp} : ∀ {os : List O} {vs : List V} {F : Fp}, ROs X.K H os vs F → ∀ H1, Inv X pins σ H1 s → At F H H1 → ∃ H2, Inv X pins σ H2 s ∧ RDs X.K H2 (shrs os) vs ∧ Frz F H1 H2
  | _, _, _, .nil, H1, I, t => ⟨H1, I, by rw [shrs]; exact .nil, .refl⟩
  | _, _, _, .cons F1 F2 h r a b d, H1, I, t => by
    obtain ⟨H2, I1, r1, z1⟩ := frz_ok' h H1 I (t.mono a)
    obtain ⟨H3, I2, r2, z2⟩ := frzs_ok' r H2 I1 ((t.mono b).frz z1 fun x p q => d x q p)
    exact ⟨H3, I2, by rw [shrs]; exact .cons (r1.keep z2.pers) r2, (z1.mono a).trans (z2.mono b)⟩
end
theorem frz_ok {o : O} {v : V} {H : Hp} {F : Fp} (I : Inv X pins σ H s) (r : RO X.K H o v F) : ∃ H', Inv X pins σ H' s ∧ RD X.K H' o.shr v ∧ Frz F H H' := frz_ok' r H I .refl
theorem frzs_ok {os : List O} {vs : List V} {H : Hp} {F : Fp} (I : Inv X pins σ H s) (r : ROs X.K H os vs F) : ∃ H', Inv X pins σ H' s ∧ RDs X.K H' (shrs os) vs ∧ Frz F H H' := frzs_ok' r H I .refl
/-- behind an expression what is known may be told otherwise -/
theorem pe_gh {e : Expr} {t : TE} {G : L2.St → V → Hp → VK → Prop} (h : PE X e t) (hG : ∀ pins σ s v H Q, Inv X pins σ H s → G σ v H Q → ∃ H', Inv X pins σ H' s ∧ Q v H') : PE X e (fun σ H Q => t σ H fun v H1 => G σ v H1 Q) :=
  ⟨fun pins s σ H Q I q => thn (h.run pins s σ H _ I q) fun u s1 ⟨v, H1, I1, r, g⟩ => let ⟨H2, I2, q2⟩ := hG pins σ s1 v H1 Q I1 g; ⟨v, H2, I2, r, q2⟩⟩
/-- what is new is never changed from now on -/
def fz (f : M O) : M O := bnd f fun o => ret (.d o.shr)
def GFz (X : Cx) (σ : L2.St) (v : V) (H : Hp) (Q : VK) : Prop := ∃ o F, RO X.K H o v F ∧ ∀ H', RD X.K H' o.shr v → Frz F H H' → Q v H'
theorem se_fz {e : Expr} {f : M O} (h : SE X e f) : SE X e (fz f) := by
  refine PE.imp (pe_gh (G := GFz X) h fun pins σ s v H Q I ⟨o, F, r, q⟩ => ?_) fun σ H Q ⟨env, F, rel, h⟩ => ?_
  · obtain ⟨H', I', r', z⟩ := frz_ok I r
    exact ⟨H', I', q H' r' z⟩
  · refine tOf_bind rel h fun o env' v H1 F1 F2 ro a h => ⟨o, F1, ro, fun H' r z => ?_⟩
    exact h v H' nof F2 (.d r) (a.rel.step z.step fun x p q => a.dj x q p) (fun _ p _ => p) (a.st.trans z.step fun x p => a.sub x (.inl p)) fun x p => p.elim False.elim fun p => a.sub x (.inr p)

/-! ### displays -/
def nilM : M (List O) := ret []
def consM (f : M O) (g : M (List O)) : M (List O) := bnd f fun o => bnd g fun os => ret (o :: os)
theorem ae_nil : AE X [] nilM := PA.imp pa_nil fun σ H Q ⟨env, F, rel, h⟩ => h [] H nof F .nil rel (fun _ p _ => p) .refl fun x p => .inl (p.elim False.elim id)
theorem ae_cons {e : Expr} {es : List Expr} {f : M O} {g : M (List O)} (ha : SE X e f) (hr : AE X es g) (hs : starEach (e :: es) X.env = (false, eval e X.env) :: starEach es X.env := by rfl) : AE X (e :: es) (consM f g) := by
  refine PA.imp (pa_cons ha hr hs) fun σ H Q ⟨env, F, rel, h⟩ => ?_
  refine tOf_bind rel h fun o env1 v H1 F1 F2 ro a h => ?_
  refine tLf_bind a.rel h fun os env2 vs H2 F3 F4 ro2 b h => ?_
  obtain ⟨st, sub, d13, d14, dm⟩ := a.next b
  refine h (v :: vs) H2 (Or F1 F3) F4 (.cons F1 F3 (ro.step b.st a.dj) ro2 (fun _ p => .inl p) (fun _ p => .inr p) d13) b.rel (fun x p q => p.elim (fun p => d14 x p q) fun p => b.dj x p q) st fun x p => sub x ?_
  rcases p with (p | p) | p
  · exact .inl p
  · exact .inr (.inl p)
  · exact .inr (.inr p)
def cLst (f : M (List O)) : M O := bnd f fun os => if os.length ≤ sizeLine then ret (.lst os) else lift none
theorem se_lst {es : List Expr} {f : M (List O)} {pos : Pos} (h : AE X es f) : SE X (.List es pos) (cLst f) := by
  refine PE.imp (pe_lst h) fun σ H Q ⟨env, F, rel, h⟩ => ?_
  refine tLf_bind rel h fun os env1 vs H1 F1 F2 ro a h => ?_
  have hl := ro.length
  split at h
  · rename_i hz
    refine ⟨by omega, fun p hp => ?_⟩
    have st := Step.new (F := nof) (o := .lst vs) hp
    refine h (.ref p) _ (Or (fun x => x = p) F1) F2 (.lst upd_same (.inl rfl) ((ro.step st fun _ _ z => z).mono fun x q => ⟨.inr q, fun z => ?_⟩)) (a.rel.step st fun _ _ z => z) (fun x q q' => ?_) (a.st.trans st fun _ z => z.elim) fun x q => ?_
    · subst z; obtain ⟨o, e⟩ := a.d1 _ q; rw [hp] at e; cases e
    · rcases q with q | q
      · subst q; obtain ⟨o, e⟩ := a.d2 _ q'; rw [hp] at e; cases e
      · exact a.dj x q q'
    · rcases q with (q | q) | q
      · subst q; exact .inr (a.st.free hp)
      · exact a.sub x (.inl q)
      · exact a.sub x (.inr q)
  · exact h.elim
def cTup (f : M (List O)) : M O := bnd f fun os => if os.length ≤ sizeLine then ret (.d (.tup (shrs os))) else lift none
def GTup (X : Cx) (σ : L2.St) (v : V) (H : Hp) (Q : VK) : Prop := ∃ p os vs F, v = .ref p ∧ H p = some (.tup vs) ∧ ROs X.K H os vs F ∧ ∀ H', RD X.K H' (.tup (shrs os)) v → Frz F H H' → Q v H'
theorem se_tup {es : List Expr} {f : M (List O)} {k} {pos : Pos} (h : AE X es f) : SE X (.Tuple es k pos) (cTup f) := by
  refine PE.imp (pe_gh (G := GTup X) (pe_tup h) fun pins σ s v H Q I ⟨p, os, vs, F, e, hp, r, q⟩ => ?_) fun σ H Q ⟨env, F, rel, h⟩ => ?_
  · obtain ⟨H', I', r', z⟩ := frzs_ok I r
    subst e
    exact ⟨H', I', q H' (.tup (.of (z.pers _ _ hp fun z => z)) r') z⟩
  · refine tLf_bind rel h fun os env1 vs H1 F1 F2 ro a h => ?_
    have hl := ro.length
    split at h
    · rename_i hz
      refine ⟨by omega, fun p hp => ?_⟩
      have st := Step.new (F := nof) (o := .tup vs) hp
      refine ⟨p, os, vs, F1, rfl, upd_same, ro.step st fun _ _ z => z, fun H' r z => ?_⟩
      exact h (.ref p) H' nof F2 (.d r) ((a.rel.step st fun _ _ z => z).step z.step fun x p q => a.dj x q p) (fun _ p _ => p) ((a.st.trans st fun _ z => z.elim).trans z.step fun x p => a.sub x (.inl p)) fun x p => p.elim False.elim fun p => a.sub x (.inr p)
    · exact h.elim

/-! ### truths -/
def cAnd (f g : M Bool) : M Bool := bnd f fun b => if b = true then g else ret false
def cOr (f g : M Bool) : M Bool := bnd f fun b => if b = true then ret true else g
def cNot (f : M Bool) : M Bool := bnd f fun b => ret (!b)
theorem Aft.ge {F F1 F2 : Fp} {H H1 : Hp} {σ : L2.St} {env : Env} (a : Aft X F H H1 σ env F1 F2) {Q : Bool → Hp → Prop} {b : Bool} {env' : Env} (h : PB X F2 σ H1 Q b env') : PB X F σ H Q b env' ∨ True := .inr trivial
theorem PB.weak {F F1 F2 : Fp} {H H1 : Hp} {σ : L2.St} {env : Env} (a : Aft X F H H1 σ env F1 F2) {Q : Bool → Hp → Prop} {b : Bool} {env' : Env} (h : PB X F σ H Q b env') : PB X F2 σ H1 Q b env' :=
  fun H' F3 rel st sub => h H' F3 rel (a.st.trans st fun x p => a.sub x (.inr p)) fun x p => (sub x p).elim (fun p => a.sub x (.inr p)) fun p => .inr (a.st.free p)
theorem and_ok {f g : M Bool} {σ : L2.St} {H : Hp} {Q : Bool → Hp → Prop} (h : tBf X (cAnd f g) σ H Q) : tAnd (tBf X f) (tBf X g) σ H Q := by
  obtain ⟨env, F, rel, h⟩ := h
  refine tBf_bind rel h fun b env1 H1 F2 a h => ?_
  cases b with
  | true => exact iteT ⟨env1, F2, a.rel, h.mono fun _ _ q => q.weak a⟩
  | false => exact iteF (h H1 F2 a.rel a.st fun x p => a.sub x (.inr p))
theorem or_ok {f g : M Bool} {σ : L2.St} {H : Hp} {Q : Bool → Hp → Prop} (h : tBf X (cOr f g) σ H Q) : tOr (tBf X f) (tBf X g) σ H Q := by
  obtain ⟨env, F, rel, h⟩ := h
  refine tBf_bind rel h fun b env1 H1 F2 a h => ?_
  cases b with
  | false => exact iteF ⟨env1, F2, a.rel, h.mono fun _ _ q => q.weak a⟩
  | true => exact iteT (h H1 F2 a.rel a.st fun x p => a.sub x (.inr p))
theorem bw_and1 {a : Expr} {pos : Pos} {f : M Bool} (ha : BE X a f) : BW X (.BoolOp .And [a] pos) f := pw_and1 ha
theorem bw_or1 {a : Expr} {pos : Pos} {f : M Bool} (ha : BE X a f) : BW X (.BoolOp .Or [a] pos) f := pw_or1 ha
theorem bw_and {a b : Expr} {rest : List Expr} {pos : Pos} {f g : M Bool} (ha : BE X a f) (hb : BW X (.BoolOp .And (b :: rest) pos) g) : BW X (.BoolOp .And (a :: b :: rest) pos) (cAnd f g) := PW.imp (pw_and ha hb) fun _ _ _ h => and_ok h
theorem bw_or {a b : Expr} {rest : List Expr} {pos : Pos} {f g : M Bool} (ha : BE X a f) (hb : BW X (.BoolOp .Or (b :: rest) pos) g) : BW X (.BoolOp .Or (a :: b :: rest) pos) (cOr f g) := PW.imp (pw_or ha hb) fun _ _ _ h => or_ok h
theorem be_bw {e : Expr} {f : M Bool} (h : BW X e f) : BE X e f := PW.pt h
theorem be_not {a : Expr} {pos : Pos} {f : M Bool} (ha : BE X a f) : BE X (.UnaryOp .Not a pos) (cNot f) := PT.imp (pt_not ha) fun σ H Q ⟨env, F, rel, h⟩ =>
  tBf_bind rel h fun b env1 H1 F2 a h => h H1 F2 a.rel a.st fun x p => a.sub x (.inr p)
/-- any expression whose value is a truth -/
theorem be_val {e : Expr} {f : M O} (h : SE X e f) (he : ∀ whole, isTrue e X.env whole = (do let v ← whole; standAt e.pos; holding [v] (truthy v)) := by intro _; rfl) : BE X e (asB f) :=
  PT.imp (pt_val h he) fun _ _ _ h => test_ok (e := e) (fun _ _ _ h => h) h
/-- as values -/
def vB (f : M Bool) : M O := bnd f fun b => ret (.d (.bl b))
theorem se_one {op} {a : Expr} {pos : Pos} {f : M O} (h : SE X a f) : SE X (.BoolOp op [a] pos) f := pe_one h
def vAnd (f g : M O) : M O := bnd (asB f) fun b => if b = true then g else ret (.d (.bl false))
def vOr (f g : M O) : M O := bnd (asB f) fun b => if b = true then ret (.d (.bl true)) else g
theorem PV.weak {F F1 F2 : Fp} {H H1 : Hp} {σ : L2.St} {env : Env} (a : Aft X F H H1 σ env F1 F2) {Q : VK} {o : O} {env' : Env} (h : PV X F σ H Q o env') : PV X F2 σ H1 Q o env' :=
  fun v H' F3 F4 ro rel dj st sub => h v H' F3 F4 ro rel dj (a.st.trans st fun x p => a.sub x (.inr p)) fun x p => (sub x p).elim (fun p => a.sub x (.inr p)) fun p => .inr (a.st.free p)
theorem asB_bind {β : Type} {f : M O} {k : Bool → M β} {P : β → Env → Prop} {σ : L2.St} {H : Hp} {Q : VK} {env : Env} {F : Fp} (rel : RelE X.K H env σ F) (h : Post P (bnd (asB f) k env))
    (c : ∀ b env' H' F1 F2, Aft X F H H' σ env' F1 F2 → Post P (k b env') → Q (.bl b) H') : tOf X f σ H Q := by
  refine tOf_bind (P := P) (k := fun o => bnd (lift (match o with | .d (.bl b) => some b | _ => none)) k) rel ?_ fun o env1 v H1 F1 F2 ro a h => ?_
  · unfold asB at h
    unfold bnd at h ⊢
    cases q : f env with
    | none => rw [q] at h; exact h
    | some r => rw [q] at h; exact h
  · cases o with
    | d x =>
      cases x with
      | bl b => cases ro.od; exact c b env1 H1 F1 F2 a h
      | _ => exact h.elim
    | _ => exact h.elim
theorem se_and {a b : Expr} {rest : List Expr} {pos : Pos} {f g : M O} (ha : SE X a f) (hb : SE X (.BoolOp .And (b :: rest) pos) g) : SE X (.BoolOp .And (a :: b :: rest) pos) (vAnd f g) := by
  refine PE.imp (pe_and ha hb) fun σ H Q ⟨env, F, rel, h⟩ => ?_
  refine asB_bind rel h fun b env1 H1 F1 F2 a h => ⟨b, rfl, ?_⟩
  cases b with
  | true => exact iteT ⟨env1, F2, a.rel, h.mono fun _ _ q => q.weak a⟩
  | false => exact iteF (h (.bl false) H1 nof F2 (.d (.bl _)) a.rel (fun _ p _ => p) a.st fun x p => p.elim False.elim fun p => a.sub x (.inr p))
theorem se_or {a b : Expr} {rest : List Expr} {pos : Pos} {f g : M O} (ha : SE X a f) (hb : SE X (.BoolOp .Or (b :: rest) pos) g) : SE X (.BoolOp .Or (a :: b :: rest) pos) (vOr f g) := by
  refine PE.imp (pe_or ha hb) fun σ H Q ⟨env, F, rel, h⟩ => ?_
  refine asB_bind rel h fun b env1 H1 F1 F2 a h => ⟨b, rfl, ?_⟩
  cases b with
  | false => exact iteF ⟨env1, F2, a.rel, h.mono fun _ _ q => q.weak a⟩
  | true => exact iteT (h (.bl true) H1 nof F2 (.d (.bl _)) a.rel (fun _ p _ => p) a.st fun x p => p.elim False.elim fun p => a.sub x (.inr p))
theorem se_not {a : Expr} {pos : Pos} {f : M O} (ha : SE X a f) : SE X (.UnaryOp .Not a pos) (vB (cNot (asB f))) := by
  refine PE.imp (pe_not ha) fun σ H Q ⟨env, F, rel, h⟩ => ?_
  have h' : Post (PV X F σ H Q) (bnd (asB f) (fun b => ret (.d (.bl (!b)))) env) := by
    unfold vB cNot at h
    unfold bnd at h ⊢
    cases q : asB f env with
    | none => rw [q] at h; exact h
    | some r => rw [q] at h; exact h
  refine asB_bind rel h' fun b env1 H1 F1 F2 a h => ⟨b, rfl, ?_⟩
  exact h _ H1 nof F2 (.d (.bl _)) a.rel (fun _ p _ => p) a.st fun x p => p.elim False.elim fun p => a.sub x (.inr p)
def cIf (c : M Bool) (f g : M O) : M O := bnd c fun b => if b = true then f else g
theorem se_if {c a b : Expr} {pos : Pos} {k : M Bool} {f g : M O} (hc : BE X c k) (ha : SE X a f) (hb : SE X b g) : SE X (.IfExp c a b pos) (cIf k f g) := by
  refine PE.imp (pe_ifExp hc ha hb) fun σ H Q ⟨env, F, rel, h⟩ => ?_
  refine tBf_bind rel h fun b env1 H1 F2 a h => ?_
  cases b with
  | true => exact iteT ⟨env1, F2, a.rel, h.mono fun _ _ q => q.weak a⟩
  | false => exact iteF ⟨env1, F2, a.rel, h.mono fun _ _ q => q.weak a⟩
end
end TL

set_option maxHeartbeats 1000000
namespace TL
open PySem L2

section
variable {X : Cx}
/-! ### argument lists whose places come back -/
def PLO (X : Cx) (F : Fp) (σ : L2.St) (H : Hp) (Q : List V → Hp → Prop) (rs : List (O × Option Nat)) (env : Env) : Prop :=
  ∀ vs H' F1 F2, ROs X.K H' (rs.map (·.1)) vs F1 → RelE X.K H' env σ F2 → Disj F1 F2 → Step F H H' → Sub (Or F1 F2) F H → (∀ (k : Nat) (r : O × Option Nat) (i : Nat), rs[k]? = some r → r.2 = some i → ∃ v, vs[k]? = some v ∧ σ[i]? = some (some v)) → Q vs H'
def tLOf (X : Cx) (f : M (List (O × Option Nat))) : TA := fun σ H Q => ∃ env F, RelE X.K H env σ F ∧ Post (PLO X F σ H Q) (f env)
variable (X) in
def AO (es : List Expr) (f : M (List (O × Option Nat))) : Prop := PA X es (tLOf X f)
def nilO : M (List (O × Option Nat)) := ret []
def consO (f : M (O × Option Nat)) (g : M (List (O × Option Nat))) : M (List (O × Option Nat)) := bnd f fun o => bnd g fun os => ret (o :: os)
theorem ao_nil : AO X [] nilO := PA.imp pa_nil fun σ H Q ⟨env, F, rel, h⟩ => h [] H nof F .nil rel (fun _ p _ => p) .refl (fun x p => .inl (p.elim False.elim id)) (fun k r i e => by simp at e)
theorem tLO_bind {β : Type} {f : M (List (O × Option Nat))} {k : List (O × Option Nat) → M β} {P : β → Env → Prop} {σ : L2.St} {H : Hp} {Q : List V → Hp → Prop} {env : Env} {F : Fp} (rel : RelE X.K H env σ F) (h : Post P (bnd f k env))
    (c : ∀ os env' vs H' F1 F2, ROs X.K H' (os.map (·.1)) vs F1 → Aft X F H H' σ env' F1 F2 → (∀ (k : Nat) (r : O × Option Nat) (i : Nat), os[k]? = some r → r.2 = some i → ∃ v, vs[k]? = some v ∧ σ[i]? = some (some v)) → Post P (k os env') → Q vs H') : tLOf X f σ H Q :=
  ⟨env, F, rel, h.bnd.mono fun o e' q v H' F1 F2 ro re dj st sub g => c o e' v H' _ _ ro.dom ⟨re.dom, fun a p q => dj a p.1 q.1, st, fun a z => sub a (z.imp And.left And.left), fun a p => p.2, fun a p => p.2⟩ g q⟩
theorem ao_cons {e : Expr} {es : List Expr} {f : M (O × Option Nat)} {g : M (List (O × Option Nat))} (ha : OE X e f) (hr : AO X es g) (hs : starEach (e :: es) X.env = (false, eval e X.env) :: starEach es X.env := by rfl) : AO X (e :: es) (consO f g) := by
  refine PA.imp (pa_cons ha hr hs) fun σ H Q ⟨env, F, rel, h⟩ => ?_
  refine tOp_bind rel h fun o env1 v H1 F1 F2 ro a g1 h => ?_
  refine tLO_bind a.rel h fun os env2 vs H2 F3 F4 ro2 b g2 h => ?_
  obtain ⟨st, sub, d13, d14, dm⟩ := a.next b
  refine h (v :: vs) H2 (Or F1 F3) F4 (.cons F1 F3 (ro.step b.st a.dj) ro2 (fun _ p => .inl p) (fun _ p => .inr p) d13) b.rel (fun x p q => p.elim (fun p => d14 x p q) fun p => b.dj x p q) st (fun x p => sub x ?_) fun k r i e1 e2 => ?_
  · rcases p with (p | p) | p
    · exact .inl p
    · exact .inr (.inl p)
    · exact .inr (.inr p)
  · cases k with
    | zero => simp at e1; subst e1; exact ⟨v, rfl, g1 i e2⟩
    | succ k => simp at e1; simpa using g2 k r i e1 e2
def rstAll : List (O × Option Nat) → M Unit
  | [] => ret ()
  | r :: rs => bnd (rst r.2 r.1) fun _ => rstAll rs
theorem rstAll_ok {β : Type} {k : Unit → M β} {P : β → Env → Prop} {σ : L2.St} {H : Hp} : ∀ {rs : List (O × Option Nat)} {vs : List V} {env : Env} {F G : Fp}, RelE X.K H env σ F → ROs X.K H (rs.map (·.1)) vs G → Disj G F →
    (∀ (k : Nat) (r : O × Option Nat) (i : Nat), rs[k]? = some r → r.2 = some i → ∃ v, vs[k]? = some v ∧ σ[i]? = some (some v)) → Post P (bnd (rstAll rs) k env) → ∃ env', RelE X.K H env' σ (Or G F) ∧ Post P (k () env')
  | [], _, env, F, G, rel, _, _, _, h => ⟨env, rel.mono fun _ p => .inr p, h⟩
  | r :: rs, _, env, F, G, rel, ro, dj, g, h => by
    cases ro with
    | cons F1 F2 h1 r1 a b d =>
      rename_i v vs
      have h' : Post P (bnd (rst r.2 r.1) (fun _ => bnd (rstAll rs) k) env) := by
        unfold rstAll at h
        unfold bnd at h ⊢
        cases q : rst r.2 r.1 env with
        | none => rw [q] at h; exact h
        | some z => rw [q] at h; exact h
      obtain ⟨env1, rel1, h1'⟩ := rst_ok rel h1 (fun x p q => dj x (a x p) q) (fun i e => by obtain ⟨w, e1, e2⟩ := g 0 r i rfl e; simp at e1; rw [e1]; exact e2) h'
      obtain ⟨env2, rel2, h2'⟩ := rstAll_ok rel1 r1 (fun x p q => q.elim (fun q => d x q p) fun q => dj x (b x p) q) (fun k r' i e1 e2 => by obtain ⟨w, q1, q2⟩ := g (k + 1) r' i (by simpa using e1) e2; exact ⟨w, by simpa using q1, q2⟩) h1'
      exact ⟨env2, rel2.mono fun x p => p.elim (fun p => .inl (b x p)) fun p => p.elim (fun p => .inl (a x p)) .inr, h2'⟩

/-! ### built-in functions by values -/
variable (X) in
def CallS (f : Value) (g : List O → Option O) : Prop :=
  ∀ (pins : List (Addr × Obj)) (s : Shared) (σ : L2.St) (H : Hp) (xs : List V) (us : List Value) (os : List O) (o : O) (F : Fp), Inv X pins σ H s → Vals xs us → ROs X.K H os xs F → g os = some o →
    wpAny (model X.prog X.w) X.A (call f us) (EP X pins σ (New X.K H o)) X.xe s
theorem CallS.of {f : Value} {g : List O → Option O} {r : List V → Hp → VK → Prop} (h : CallR X f r) (k : ∀ H xs os F o, ROs X.K H os xs F → g os = some o → r xs H (New X.K H o)) : CallS X f g :=
  fun pins s σ H xs us os o F I rv ro e => h pins s σ H xs us _ I rv (k H xs os F o ro e)
def orC (g g' : List O → Option O) : List O → Option O := fun x => match g x with
  | some r => some r
  | none => g' x
theorem CallS.or {f : Value} {g g' : List O → Option O} (h : CallS X f g) (h' : CallS X f g') : CallS X f (orC g g') := by
  intro pins s σ H xs us os o F I rv ro e
  unfold orC at e
  cases q : g os with
  | some r => rw [q] at e; cases e; exact h pins s σ H xs us os _ F I rv ro q
  | none => rw [q] at e; exact h' pins s σ H xs us os _ F I rv ro e
def rOfC (K : PySem.W.Frag) (g : List O → Option O) : List V → Hp → VK → Prop := fun xs H Q => ∃ os o F, ROs K H os xs F ∧ g os = some o ∧ ∀ z H', New K H o z H' → Q z H'
theorem CallS.rule {f : Value} {g : List O → Option O} (h : CallS X f g) : CallR X f (rOfC X.K g) := by
  intro pins s σ H xs us Q I rv ⟨os, o, F, ro, e, q⟩
  exact thn (h pins s σ H xs us os o F I rv ro e) fun w s' ⟨z, H', I', rz, n⟩ => ⟨z, H', I', rz, q z H' n⟩
def cCall (g : List O → Option O) (fa : M (List (O × Option Nat))) : M O := bnd fa fun rs => bnd (lift (g (rs.map (·.1)))) fun o => bnd (rstAll rs) fun _ => ret o
theorem callS_ok {g : List O → Option O} {fa : M (List (O × Option Nat))} {σ : L2.St} {H : Hp} {Q : VK} (h : tOf X (cCall g fa) σ H Q) : tCB (rOfC X.K g) (tLOf X fa) σ H Q := by
  obtain ⟨env, F, rel, h⟩ := h
  refine tLO_bind rel h fun rs env1 vs H1 F1 F2 ro a g1 h => ?_
  obtain ⟨o, e, h⟩ := h.lift
  refine ⟨rs.map (·.1), o, F1, ro, e, fun z H' ⟨F', rz, st', sub'⟩ => ?_⟩
  obtain ⟨env2, rel2, h⟩ := rstAll_ok (a.rel.step st' fun _ _ z => z) (ro.step st' fun _ _ z => z) a.dj g1 h
  refine h z H' F' _ rz rel2 (fun q m n => ?_) (a.st.trans st' fun _ z => z.elim) fun q m => ?_
  · have hn : H1 q = none := (sub' q m).elim False.elim id
    rcases n with n | n
    · obtain ⟨o, eo⟩ := a.d1 q n; rw [hn] at eo; cases eo
    · obtain ⟨o, eo⟩ := a.d2 q n; rw [hn] at eo; cases eo
  · rcases m with m | m
    · exact .inr (a.st.free ((sub' q m).elim False.elim id))
    · exact a.sub q m
theorem se_callB {x : Str} {p pos : Pos} {e : Expr} {es : List Expr} {id : String} {g : List O → Option O} {fa : M (List (O × Option Nat))} (hc : CallS X (.builtin id) g) (hg : Gl X x) (hm : X.mg x = none) (hv : bootBuiltins x = some (.builtin id)) (ha : AO X (e :: es) fa) (hn : x ≠ "__name__" := by decide) (hdb : (x == ("__debug__" : Str)) = false := by decide)
    (he : starEach (e :: es) X.env = (false, eval e X.env) :: starEach es X.env := by rfl) (hpl : (backTo pos (starEach es X.env)).any (·.1) = false := by rfl) : SE X (.Call (.Name x p) (e :: es) [] pos) (cCall g fa) :=
  PE.imp (pe_callB hc.rule hg hm hv ha hn hdb he hpl) fun _ _ _ h => callS_ok h
theorem se_callTy {x : Str} {p pos : Pos} {e : Expr} {es : List Expr} {T : String} {g : List O → Option O} {fa : M (List (O × Option Nat))} (hc : CallS X (.type T) g) (hg : Gl X x) (hm : X.mg x = none) (hv : bootBuiltins x = some (.type T)) (ha : AO X (e :: es) fa) (hn : x ≠ "__name__" := by decide) (hdb : (x == ("__debug__" : Str)) = false := by decide)
    (he : starEach (e :: es) X.env = (false, eval e X.env) :: starEach es X.env := by rfl) (hpl : (backTo pos (starEach es X.env)).any (·.1) = false := by rfl) : SE X (.Call (.Name x p) (e :: es) [] pos) (cCall g fa) :=
  PE.imp (pe_callTy hc.rule hg hm hv ha hn hdb he hpl) fun _ _ _ h => callS_ok h
/-! ### which ones -/
def g1 (f : O → Option O) : List O → Option O
  | [x] => f x
  | _ => none
def g2 (f : O → O → Option O) : List O → Option O
  | [x, y] => f x y
  | _ => none
theorem g1_of {f : O → Option O} {os : List O} {o : O} {xs : List V} {H : Hp} {F : Fp} (r : ROs X.K H os xs F) (e : g1 f os = some o) : ∃ x v G, os = [x] ∧ xs = [v] ∧ RO X.K H x v G ∧ f x = some o := by
  unfold g1 at e
  split at e
  · cases r with
    | cons F1 F2 h r a b d => cases r; exact ⟨_, _, F1, rfl, rfl, h, e⟩
  · cases e
theorem g2_of {f : O → O → Option O} {os : List O} {o : O} {xs : List V} {H : Hp} {F : Fp} (r : ROs X.K H os xs F) (e : g2 f os = some o) : ∃ x y v w G G', os = [x, y] ∧ xs = [v, w] ∧ RO X.K H x v G ∧ RO X.K H y w G' ∧ f x y = some o := by
  unfold g2 at e
  split at e
  · cases r with
    | cons F1 F2 h r a b d =>
      cases r with
      | cons F3 F4 h' r a' b' d' => cases r; exact ⟨_, _, _, _, F1, F3, rfl, rfl, h, h', e⟩
  · cases e
def fInt (f : Int → Option D) : O → Option O
  | .d (.int i) => (f i).map O.d
  | _ => none
theorem fInt_of {f : Int → Option D} {x o : O} {v : V} {H : Hp} {F : Fp} (r : RO X.K H x v F) (e : fInt f x = some o) : ∃ i d, v = .int i ∧ f i = some d ∧ o = .d d := by
  unfold fInt at e
  split at e
  · rename_i i
    cases q : f i with
    | none => rw [q] at e; cases e
    | some d => rw [q] at e; cases e; cases r.od; exact ⟨i, d, rfl, q, rfl⟩
  · cases e
def gAbs : List O → Option O := g1 (fInt fun i => some (.int (if i < 0 then -i else i)))
theorem cs_abs : CallS X (.builtin "abs") gAbs := .of call_abs fun H xs os F o r e => by
  obtain ⟨x, v, G, rfl, rfl, h, q⟩ := g1_of r e
  obtain ⟨i, d, rfl, q2, rfl⟩ := fInt_of h q
  cases q2
  exact ⟨i, rfl, .d (.int _)⟩
def gToInt : List O → Option O := g1 fun x => match x with
  | .d (.int i) => some (.d (.int i))
  | .d (.bl b) => some (.d (.int (if b then 1 else 0)))
  | _ => none
theorem cs_int : CallS X (.type "int") gToInt := .of call_int1 fun H xs os F o r e => by
  obtain ⟨x, v, G, rfl, rfl, h, q⟩ := g1_of r e
  split at q
  · cases q; cases h.od; exact .inl ⟨_, rfl, .d (.int _)⟩
  · cases q; cases h.od; exact .inr ⟨_, rfl, .d (.int _)⟩
  · cases q
def gMax2 : List O → Option O := g2 (gI fun i j => some (.int (if j > i then j else i)))
theorem cs_max2 (hc : X.calm = true) : CallS X (.builtin "max") gMax2 := .of (call_max2 hc) fun H xs os F o r e => by
  obtain ⟨x, y, v, w, G, G', rfl, rfl, h, h', q⟩ := g2_of r e
  obtain ⟨i, j, d, rfl, rfl, q2, rfl⟩ := gI_of h h' q
  cases q2
  exact ⟨i, j, rfl, .d (.int _)⟩
def gMin2 : List O → Option O := g2 (gI fun i j => some (.int (if j < i then j else i)))
theorem cs_min2 (hc : X.calm = true) : CallS X (.builtin "min") gMin2 := .of (call_min2 hc) fun H xs os F o r e => by
  obtain ⟨x, y, v, w, G, G', rfl, rfl, h, h', q⟩ := g2_of r e
  obtain ⟨i, j, d, rfl, rfl, q2, rfl⟩ := gI_of h h' q
  cases q2
  exact ⟨i, j, rfl, .d (.int _)⟩
def lenO : O → Option Nat
  | .d (.str x) => if x.length ≤ sizeLine then some x.length else none
  | .d (.tup xs) => some xs.length
  | .d (.lst xs) => some xs.length
  | .d (.scr xs) => some xs.length
  | .lst xs => some xs.length
  | .d (.dct m) => some m.length
  | .dct m => some m.length
  | _ => none
def gLen : List O → Option O := g1 fun x => match lenO x with
  | some n => some (.d (.int n))
  | none => none
theorem len_dict {H : Hp} {a : Addr} {kvs : List (Key × V)} (e : Rd H a (.dK kvs)) {pins : List (Addr × Obj)} {s : Shared} {σ : L2.St} {E : Value → Shared → Prop} {Q : VK} (I : Inv X pins σ H s) (q : Q (.int kvs.length) H) : wpAny (model X.prog X.w) X.A (call (.builtin "len") [.ref a]) (EP X pins σ Q) E s :=
  d_len I e fun t s' I' => ⟨.int kvs.length, H, I', ⟨t, rfl⟩, q⟩
theorem cs_len : CallS X (.builtin "len") gLen := by
  intro pins s σ H xs us os o F I rv r e
  obtain ⟨x, v, G, rfl, rfl, h, q⟩ := g1_of r e
  have fin : ∀ {n : Nat}, o = .d (.int n) → LenV X.K v H n → wpAny (model X.prog X.w) X.A (call (.builtin "len") us) (EP X pins σ (New X.K H o)) X.xe s := fun {n} eo l =>
    call_len pins s σ H [v] us _ I rv ⟨v, n, rfl, l, by rw [eo]; exact .d (.int _)⟩
  have dic : ∀ {a : Addr} {kvs : List (Key × V)} {n : Nat}, o = .d (.int n) → v = .ref a → kvs.length = n → Rd H a (.dK kvs) → wpAny (model X.prog X.w) X.A (call (.builtin "len") us) (EP X pins σ (New X.K H o)) X.xe s := fun {a kvs n} eo ev en l => by
    subst ev
    obtain rfl := Vals.ref1 rv
    exact len_dict l I (by rw [eo, en]; exact .d (.int _))
  split at q
  · rename_i n hn
    cases q
    unfold lenO at hn
    split at hn
    · split at hn
      · cases hn; cases h.od; exact fin rfl ⟨by assumption, rfl⟩
      · cases hn
    · cases hn; cases h.od with | tup h2 r2 => exact fin rfl (.inr ⟨_, h2, r2.length⟩)
    · cases hn; cases h.od with | lst h2 r2 => exact fin rfl (.inl ⟨_, .inl (.inr ⟨_, h2⟩), r2.length⟩)
    · cases hn; cases h.od with | scr h2 r2 => exact fin rfl (.inl ⟨_, h2.sq, r2.length⟩)
    · cases hn; cases h with | lst h2 f r2 => exact fin rfl (.inl ⟨_, .of h2, r2.length⟩)
    · cases hn; cases h.od with | dct h2 e2 r2 => exact dic rfl rfl (by have := congrArg List.length e2; simpa using this) (.inr ⟨_, h2⟩)
    · cases hn; cases h with | dct h2 f e2 r2 => exact dic rfl rfl (by have := congrArg List.length e2; simpa using this) (.inl h2)
    · cases hn
  · cases q
def gList : List O → Option O := g1 fun x => match asQ x with
  | some xs => some (.lst (xs.map O.d))
  | none => none
theorem cs_list : CallS X (.type "list") gList := .of call_list_of fun H xs os F o r e => by
  obtain ⟨x, v, G, rfl, rfl, h, q⟩ := g1_of r e
  split at q
  · rename_i ys hy
    cases q
    obtain ⟨a, vs, rfl, hs, rd⟩ := asQ_ok h hy
    exact ⟨a, vs, rfl, hs, fun l hl => .lst hl rd⟩
  · cases q
def gTuple : List O → Option O := g1 fun x => match asT x with
  | some xs => some (.d (.tup xs))
  | none => match asL x with
    | some xs => some (.d (.tup xs))
    | none => none
theorem cs_tuple : CallS X (.type "tuple") gTuple := .of call_tuple_of fun H xs os F o r e => by
  obtain ⟨x, v, G, rfl, rfl, h, q⟩ := g1_of r e
  split at q
  · rename_i ys hy
    cases q
    obtain ⟨a, vs, rfl, hs, rd⟩ := asT_ok h hy
    exact ⟨a, vs, rfl, .inr ⟨hs, .d (.tup hs rd)⟩⟩
  · split at q
    · rename_i ys hy
      cases q
      obtain ⟨a, vs, rfl, hs, rd⟩ := asL_ok h hy
      exact ⟨a, vs, rfl, .inl ⟨hs, fun l hl => .tup hl rd⟩⟩
    · cases q
def blsO : List D → Option (List Bool)
  | [] => some []
  | .bl b :: r => (blsO r).map (b :: ·)
  | _ :: _ => none
theorem blsO_ok {H : Hp} : ∀ {xs : List D} {vs : List V} {bs : List Bool}, RDs X.K H xs vs → blsO xs = some bs → vs = bs.map V.bl
  | [], _, _, r, e => by cases r; cases e; rfl
  | x :: xs, _, _, .cons h r, e => by
    cases x with
    | bl b =>
      unfold blsO at e
      cases q : blsO xs with
      | none => rw [q] at e; cases e
      | some bs => rw [q] at e; cases e; cases h; rw [blsO_ok r q]; rfl
    | _ => cases e
def gAll : List O → Option O := g1 fun x => match asL x with
  | some xs => match blsO xs with
    | some bs => some (.d (.bl (bs.all id)))
    | none => none
  | none => none
theorem cs_all (hc : X.calm = true) : CallS X (.builtin "all") gAll := .of (cr_all hc) fun H xs os F o r e => by
  obtain ⟨x, v, G, rfl, rfl, h, q⟩ := g1_of r e
  split at q
  · rename_i ys hy
    split at q
    · rename_i bs hb
      cases q
      obtain ⟨a, vs, rfl, hs, rd⟩ := asL_ok h hy
      exact ⟨a, bs, rfl, by rw [← blsO_ok rd hb]; exact hs, .d (.bl _)⟩
    · cases q
  · cases q
def gAny : List O → Option O := g1 fun x => match asL x with
  | some xs => match blsO xs with
    | some bs => some (.d (.bl (bs.any id)))
    | none => none
  | none => none
theorem cs_any (hc : X.calm = true) : CallS X (.builtin "any") gAny := .of (cr_any hc) fun H xs os F o r e => by
  obtain ⟨x, v, G, rfl, rfl, h, q⟩ := g1_of r e
  split at q
  · rename_i ys hy
    split at q
    · rename_i bs hb
      cases q
      obtain ⟨a, vs, rfl, hs, rd⟩ := asL_ok h hy
      exact ⟨a, bs, rfl, by rw [← blsO_ok rd hb]; exact hs, .d (.bl _)⟩
    · cases q
  · cases q
/-- the class of a value, of those that are built in -/
def tyO : O → Option String
  | .d .non => some "NoneType"
  | .d (.bl _) => some "bool"
  | .d (.int _) => some "int"
  | .d (.str _) => some "str"
  | .d (.tup _) => some "tuple"
  | .d (.lst _) => some "list"
  | .d (.dct _) => some "dict"
  | .d (.scr _) => none
  | .lst _ => some "list"
  | .dct _ => some "dict"
  | .dcT _ => some "dict"
  | _ => none
theorem tyO_ok {o : O} {v : V} {H : Hp} {F : Fp} {n : String} (r : RO X.K H o v F) (e : tyO o = some n) : TyX X.K H v (.type n) := by
  unfold tyO at e
  split at e
  · cases e; cases r.od; exact .base .non
  · cases e; cases r.od; exact .base (.bl _)
  · cases e; cases r.od; exact .base (.int _)
  · cases e; cases r.od; exact .base (.str _)
  · cases e
    cases r.od with
    | tup h _ =>
      rcases h with (h | ⟨o, h⟩) | ⟨o, its, n, h1, h2, _⟩
      · exact .base (.tup h)
      · exact .fTuple h
      · exact .kTuple h1 h2
  · cases e; cases r.od with | lst h _ => exact .base (.frz h)
  · cases e; cases r.od with | dct h _ _ => exact .fDict h
  · cases e
  · cases e; cases r with | lst h _ _ => exact .base (.lst h)
  · cases e; cases r with | dct h _ _ _ => exact .base (.dK h)
  · cases e; cases r with | dcT h _ _ _ => exact .base (.dT h)
  · cases e
/-- whether a built-in class is, or comes of, another one -/
def isTy (n m : String) : Bool := n == m || (n == "bool" && m == "int")
def kTys : List String := ["NoneType", "bool", "int", "str", "tuple", "list", "dict"]
theorem kit_tys {K : PySem.W.Frag} : ∀ n ∈ kTys, ∀ m ∈ ["int", "bool", "str", "tuple", "list", "dict"], PySem.W.kitOne K (.type n) (.type m) = some (isTy n m) := by
  intro n hn m hm
  simp only [kTys, List.mem_cons, List.not_mem_nil, or_false] at hn hm
  rcases hn with rfl | rfl | rfl | rfl | rfl | rfl | rfl <;> rcases hm with rfl | rfl | rfl | rfl | rfl | rfl <;> exact kit_ty (by decide +kernel)
end
end TL

set_option maxHeartbeats 1000000
namespace TL
open PySem L2

/-! ### tables by keys -/
section
variable {κ α β : Type} [DecidableEq κ]
def getK (m : List (κ × α)) (k : κ) : Option α := (m.find? fun p => decide (p.1 = k)).map (·.2)
def hasK (m : List (κ × α)) (k : κ) : Bool := m.any fun p => decide (p.1 = k)
def setK (m : List (κ × α)) (k : κ) (x : α) : List (κ × α) := if hasK m k then m.map fun p => if p.1 = k then (p.1, x) else p else m ++ [(k, x)]
end
def keyD : D → Option Key
  | .int i => some (.inl i)
  | .str x => some (.inr x)
  | _ => none
def keyO : O → Option Key
  | .d x => keyD x
  | _ => none
def kD : Key → D
  | .inl i => .int i
  | .inr x => .str x
section
variable {K : PySem.W.Frag} {H : Hp}
theorem keyO_ok {o : O} {v : V} {F : Fp} {k : Key} (r : RO K H o v F) (e : keyO o = some k) : v = kV k := by
  cases o with
  | d x =>
    cases x with
    | int i => cases e; cases r.od; rfl
    | str i => cases e; cases r.od; rfl
    | _ => cases e
  | _ => cases e
theorem kD_ok (k : Key) : RD K H (kD k) (kV k) := by
  cases k with
  | inl i => exact .int i
  | inr x => exact .str x
theorem getK_rd {κ : Type} [DecidableEq κ] {k : κ} : ∀ {m : List (κ × D)} {kvs : List (κ × V)} {x : D}, kvs.map (·.1) = m.map (·.1) → RDs K H (m.map (·.2)) (kvs.map (·.2)) → getK m k = some x → ∃ v, valV kvs k = some v ∧ RD K H x v
  | [], kvs, x, _, _, e => by cases e
  | (k', y) :: m, [], x, h, _, _ => by cases h
  | (k', y) :: m, (k2, v) :: kvs, x, h, r, e => by
    simp only [List.map_cons, List.cons.injEq] at h
    obtain ⟨h1, h2⟩ := h
    subst h1
    cases r with
    | cons r1 r2 =>
      by_cases c : k2 = k
      · unfold getK at e
        rw [List.find?_cons, show decide (k2 = k) = true from decide_eq_true c] at e
        cases e
        exact ⟨v, valV_pos c, r1⟩
      · unfold getK at e
        rw [List.find?_cons, show decide (k2 = k) = false from decide_eq_false c] at e
        obtain ⟨w, a, b⟩ := getK_rd h2 r2 e
        exact ⟨w, by rw [valV_neg c]; exact a, b⟩
theorem getK_none {κ : Type} [DecidableEq κ] {k : κ} {α : Type} : ∀ {m : List (κ × α)} {kvs : List (κ × V)}, kvs.map (·.1) = m.map (·.1) → getK m k = none → valV kvs k = none
  | [], [], _, _ => rfl
  | [], _ :: _, h, _ => by cases h
  | (k', y) :: m, [], h, _ => by cases h
  | (k', y) :: m, (k2, v) :: kvs, h, e => by
    simp only [List.map_cons, List.cons.injEq] at h
    obtain ⟨h1, h2⟩ := h
    subst h1
    by_cases c : k2 = k
    · unfold getK at e
      rw [List.find?_cons, show decide (k2 = k) = true from decide_eq_true c] at e
      cases e
    · unfold getK at e
      rw [List.find?_cons, show decide (k2 = k) = false from decide_eq_false c] at e
      rw [valV_neg c]
      exact getK_none h2 e
theorem ROs.get : ∀ {os : List O} {vs : List V} {F : Fp} {i : Nat} {o : O}, ROs K H os vs F → os[i]? = some o → ∃ v G, vs[i]? = some v ∧ RO K H o v G ∧ (∀ a, G a → F a)
  | _, _, _, _, _, .nil, e => by simp at e
  | _, _, _, 0, _, .cons F1 F2 h r a b d, e => by simp at e; subst e; exact ⟨_, F1, rfl, h, a⟩
  | _, _, _, i + 1, _, .cons F1 F2 h r a b d, e => by
    obtain ⟨v, G, q, h', s⟩ := ROs.get (i := i) r (by simpa using e)
    exact ⟨v, G, by simpa using q, h', fun x z => b x (s x z)⟩
theorem getK_ro {κ : Type} [DecidableEq κ] {k : κ} : ∀ {m : List (κ × O)} {kvs : List (κ × V)} {x : O} {F : Fp}, kvs.map (·.1) = m.map (·.1) → ROs K H (m.map (·.2)) (kvs.map (·.2)) F → getK m k = some x → ∃ v G, valV kvs k = some v ∧ RO K H x v G
  | [], kvs, x, _, _, _, e => by cases e
  | (k', y) :: m, [], x, _, h, _, _ => by cases h
  | (k', y) :: m, (k2, v) :: kvs, x, F, h, r, e => by
    simp only [List.map_cons, List.cons.injEq] at h
    obtain ⟨h1, h2⟩ := h
    subst h1
    cases r with
    | cons F1 F2 r1 r2 _ _ _ =>
      by_cases c : k2 = k
      · unfold getK at e
        rw [List.find?_cons, show decide (k2 = k) = true from decide_eq_true c] at e
        cases e
        exact ⟨v, F1, valV_pos c, r1⟩
      · unfold getK at e
        rw [List.find?_cons, show decide (k2 = k) = false from decide_eq_false c] at e
        obtain ⟨w, G, a, b⟩ := getK_ro h2 r2 e
        exact ⟨w, G, by rw [valV_neg c]; exact a, b⟩
theorem hasK_get {κ α : Type} [DecidableEq κ] (m : List (κ × α)) (k : κ) : hasK m k = (getK m k).isSome := by
  induction m with
  | nil => rfl
  | cons p m ih =>
    unfold hasK getK
    rw [List.any_cons, List.find?_cons]
    by_cases c : p.1 = k
    · rw [decide_eq_true c]; rfl
    · rw [decide_eq_false c]; exact ih
theorem atI_rd {xs : List D} {vs : List V} {i : Int} {x : D} (r : RDs K H xs vs) (e : atI xs i = some x) : ∃ v, atI vs i = some v ∧ RD K H x v := by
  unfold atI at e ⊢
  rw [← r.length]
  cases q : ixN xs.length i with
  | none => rw [q] at e; cases e
  | some j => rw [q] at e; exact r.get e
theorem atI_ro {os : List O} {vs : List V} {F : Fp} {i : Int} {o : O} (r : ROs K H os vs F) (e : atI os i = some o) : ∃ v G, atI vs i = some v ∧ RO K H o v G := by
  unfold atI at e ⊢
  rw [← r.length]
  cases q : ixN os.length i with
  | none => rw [q] at e; cases e
  | some j =>
    rw [q] at e
    obtain ⟨v, G, a, b, _⟩ := r.get e
    exact ⟨v, G, a, b⟩
end
section
variable {X : Cx}
/-! ### an item -/
variable (X) in
def IxS (g : O → O → Option O) : Prop :=
  ∀ (value slice : Expr) (pins : List (Addr × Obj)) (s : Shared) (σ : L2.St) (H : Hp) (x y : V) (v u : Value) (ox oy o : O) (F G : Fp), Inv X pins σ H s → RelV x v → RelV y u → RO X.K H ox x F → RO X.K H oy y G → g ox oy = some o →
    subscripted slice false v u = operate [v, u] (getItem v u) → wpAny (model X.prog X.w) X.A (PyProof.Rows.subscriptTail value slice v u) (EP X pins σ (New X.K H o)) X.xe s
theorem IxS.of {g : O → O → Option O} {r : R2} (h : IxR X r) (k : ∀ H x y ox oy F G o, RO X.K H ox x F → RO X.K H oy y G → g ox oy = some o → r x y H (New X.K H o)) : IxS X g :=
  fun a b pins s σ H x y v u ox oy o F G I rx ry r1 r2 e hs => h a b pins s σ H x y v u _ I rx ry (k H x y ox oy F G o r1 r2 e) hs
theorem IxS.or {g g' : O → O → Option O} (h : IxS X g) (h' : IxS X g') : IxS X (orO g g') := by
  intro a b pins s σ H x y v u ox oy o F G I rx ry r1 r2 e hs
  unfold orO at e
  cases q : g ox oy with
  | some r => rw [q] at e; cases e; exact h a b pins s σ H x y v u ox oy _ F G I rx ry r1 r2 q hs
  | none => rw [q] at e; exact h' a b pins s σ H x y v u ox oy _ F G I rx ry r1 r2 e hs
theorem IxS.rule {g : O → O → Option O} (h : IxS X g) : IxR X (rOf X.K g) := by
  intro a b pins s σ H x y v u Q I rx ry ⟨ox, oy, r, F, G, r1, r2, e, q⟩ hs
  exact thn (h a b pins s σ H x y v u ox oy r F G I rx ry r1 r2 e hs) fun w s' ⟨z, H', I', rz, n⟩ => ⟨z, H', I', rz, q z H' n⟩
theorem se_ix {g : O → O → Option O} {a b : Expr} {fa fb : M (O × Option Nat)} {pos : Pos} (h : IxS X g) (ha : OE X a fa) (hb : OE X b fb) (hs : PlainIx b := by intro _ _; rfl) : SE X (.Subscript a b pos) (cBin g fa fb) :=
  PE.imp (pe_ix h.rule ha hb hs) fun _ _ _ h => bin_ok h
/-- what is copied out of a place -/
def dO : O → Option O
  | .d x => some (.d x)
  | _ => none
theorem dO_of {o r : O} (e : dO o = some r) : ∃ x, o = .d x ∧ r = .d x := by
  unfold dO at e
  split at e
  · cases e; exact ⟨_, rfl, rfl⟩
  · cases e
def gIxL : O → O → Option O
  | .lst os, .d (.int i) => (atI os i).bind dO
  | .d (.lst xs), .d (.int i) => (atI xs i).map O.d
  | .d (.scr xs), .d (.int i) => (atI xs i).map O.d
  | _, _ => none
theorem is_ixL : IxS X gIxL := .of ix_list fun H x y ox oy F G o r1 r2 e => by
  unfold gIxL at e
  split at e
  · rename_i os i
    cases r2.od
    cases q : atI os i with
    | none => rw [q] at e; cases e
    | some o' =>
      rw [q] at e
      obtain ⟨z, rfl, rfl⟩ := dO_of e
      cases r1 with
      | lst h f r =>
        obtain ⟨v, G', a, b⟩ := atI_ro r q
        exact ⟨_, _, i, v, rfl, rfl, .of h, a, .d b.od⟩
  · rename_i xs i
    cases r2.od
    cases q : atI xs i with
    | none => rw [q] at e; cases e
    | some d =>
      rw [q] at e; cases e
      cases r1.od with
      | lst h r =>
        obtain ⟨v, a, b⟩ := atI_rd r q
        exact ⟨_, _, i, v, rfl, rfl, .inl (.inr ⟨_, h⟩), a, .d b⟩
  · rename_i xs i
    cases r2.od
    cases q : atI xs i with
    | none => rw [q] at e; cases e
    | some d =>
      rw [q] at e; cases e
      cases r1.od with
      | scr h r =>
        obtain ⟨v, a, b⟩ := atI_rd r q
        exact ⟨_, _, i, v, rfl, rfl, h.sq, a, .d b⟩
  · cases e
def gIxT : O → O → Option O
  | .d (.tup xs), .d (.int i) => (atI xs i).map O.d
  | _, _ => none
theorem is_ixT : IxS X gIxT := .of ix_tup fun H x y ox oy F G o r1 r2 e => by
  unfold gIxT at e
  split at e
  · rename_i xs i
    cases r2.od
    cases q : atI xs i with
    | none => rw [q] at e; cases e
    | some d =>
      rw [q] at e; cases e
      cases r1.od with
      | tup h r =>
        obtain ⟨v, a, b⟩ := atI_rd r q
        exact ⟨_, _, i, v, rfl, rfl, h, a, .d b⟩
  · cases e
def gIxS : O → O → Option O
  | .d (.str z), .d (.int i) => if z.length ≤ sizeLine then (atI z.cps.toList i).map fun c => .d (.str ⟨#[c]⟩) else none
  | _, _ => none
theorem is_ixS : IxS X gIxS := .of ix_str fun H x y ox oy F G o r1 r2 e => by
  unfold gIxS at e
  split at e
  · rename_i z i
    split at e
    · rename_i hz
      cases r2.od
      cases r1.od
      cases q : atI z.cps.toList i with
      | none => rw [q] at e; cases e
      | some c => rw [q] at e; cases e; exact ⟨z, i, c, rfl, rfl, hz, q, .d (.str _)⟩
    · cases e
  · cases e
theorem ix_dict (hu : X.A.units + 1 < cLine) : IxR X (fun x y H Q => ∃ a v, x = .ref a ∧ DGet H a y (some v) ∧ Q v H) := by
  intro value slice pins s σ H x y v u Q I rx ry ⟨a, w, ex, g, q⟩ hs
  subst ex
  cases rx
  exact PyProof.Rows.tail_any (dict_typeIs I g) PySem.F.slot_dict_getitem.lookup (d_getItem hu I g ry fun w' s3 I3 rw' => ⟨w, H, I3, rw', q⟩) hs
def gIxD : O → O → Option O
  | .dct m, y => match keyO y with
    | some k => (getK m k).bind dO
    | none => none
  | .d (.dct m), y => match keyO y with
    | some k => (getK m k).map O.d
    | none => none
  | _, _ => none
theorem is_ixD (hu : X.A.units + 1 < cLine) : IxS X gIxD := .of (ix_dict hu) fun H x y ox oy F G o r1 r2 e => by
  unfold gIxD at e
  cases ox with
  | dct m =>
    dsimp only at e
    cases hk : keyO oy with
    | none => rw [hk] at e; cases e
    | some k =>
      rw [hk] at e
      dsimp only at e
      have ey := keyO_ok r2 hk
      subst ey
      cases q : getK m k with
      | none => rw [q] at e; cases e
      | some o' =>
        rw [q] at e
        obtain ⟨z, rfl, rfl⟩ := dO_of e
        cases r1 with
        | dct h f e2 r =>
          obtain ⟨v, G', a, b⟩ := getK_ro e2 r q
          exact ⟨_, v, rfl, by rw [← a]; exact .k h, .d b.od⟩
  | d x =>
    cases x with
    | dct m =>
      dsimp only at e
      cases hk : keyO oy with
      | none => rw [hk] at e; cases e
      | some k =>
        rw [hk] at e
        dsimp only at e
        have ey := keyO_ok r2 hk
        subst ey
        cases q : getK m k with
        | none => rw [q] at e; cases e
        | some d =>
          rw [q] at e; cases e
          cases r1.od with
          | dct h e2 r =>
            obtain ⟨v, a, b⟩ := getK_rd e2 r q
            exact ⟨_, v, rfl, by rw [← a]; exact .inl ⟨_, k, .inr ⟨_, h⟩, rfl, rfl⟩, .d b⟩
    | _ => cases e
  | _ => cases e
def gIx : O → O → Option O := orO gIxL (orO gIxT (orO gIxS gIxD))
theorem is_ix (hu : X.A.units + 1 < cLine) : IxS X gIx := is_ixL.or (is_ixT.or (is_ixS.or (is_ixD hu)))

/-! ### in a dict, in a sequence -/
theorem or_din (hu : X.A.units + 1 < cLine) (neg : Bool) : OpR X (compareOp (if neg then .NotIn else .In)) (fun x y H Q => ∃ a o, y = .ref a ∧ DGet H a x o ∧ Q (.bl (if neg then !o.isSome else o.isSome)) H) := by
  intro pins s σ H x y v u Q I rx ry ⟨a, o, ey, g, q⟩
  subst ey
  cases ry
  cases neg with
  | false => exact d_in hu I g rx fun s' I' => ⟨.bl _, H, I', rfl, q⟩
  | true => exact d_notIn hu I g rx fun s' I' => ⟨.bl _, H, I', rfl, q⟩
def gInD (neg : Bool) : O → O → Option O := fun x y => match keyO x, y with
  | some k, .dct m => some (.d (.bl (if neg then !hasK m k else hasK m k)))
  | some k, .d (.dct m) => some (.d (.bl (if neg then !hasK m k else hasK m k)))
  | _, _ => none
theorem valV_isSome {α : Type} {m : List (Key × α)} {kvs : List (Key × V)} {k : Key} (e : kvs.map (·.1) = m.map (·.1)) : (valV kvs k).isSome = hasK m k := by
  rw [← valV_any]
  unfold hasK
  have h : ∀ {β : Type} (l : List (Key × β)), (l.any fun p => decide (p.1 = k)) = (l.map (·.1)).any fun x => decide (x = k) := fun l => by rw [List.any_map]; rfl
  rw [h kvs, h m, e]
theorem os_inD' (hu : X.A.units + 1 < cLine) (neg : Bool) : OpS X (compareOp (if neg then .NotIn else .In)) (gInD neg) := .of (or_din hu neg) fun H x y ox oy F G o r1 r2 e => by
  unfold gInD at e
  split at e
  · rename_i k m hk
    cases e
    have ex := keyO_ok r1 hk
    subst ex
    cases r2 with
    | dct h f e2 r => exact ⟨_, _, rfl, .k h, by rw [valV_isSome e2]; exact .d (.bl _)⟩
  · rename_i k m hk
    cases e
    have ex := keyO_ok r1 hk
    subst ex
    cases r2.od with
    | dct h e2 r => exact ⟨_, _, rfl, .inl ⟨_, k, .inr ⟨_, h⟩, rfl, rfl⟩, by rw [valV_isSome e2]; exact .d (.bl _)⟩
  · cases e

/-! ### slices -/
def cutD {α : Type} (xs : List α) (lo hi : Option Int) : List α := (xs.drop (HT.sIx xs.length 0 lo)).take (HT.sIx xs.length xs.length hi - HT.sIx xs.length 0 lo)
def gSl (x : O) (lo hi : Option Int) : Option O := match asT x with
  | some xs => some (.d (.tup (cutD xs lo hi)))
  | none => match asL x with
    | some xs => some (.lst ((cutD xs lo hi).map O.d))
    | none => match x with
      | .d (.str z) => if z.length ≤ sizeLine then some (.d (.str (cutS z lo hi))) else none
      | _ => none
theorem cut_rd {K : PySem.W.Frag} {H : Hp} {xs : List D} {vs : List V} {lo hi : Option Int} (r : RDs K H xs vs) : RDs K H (cutD xs lo hi) (cutV vs lo hi) := by
  unfold cutD cutV
  rw [← r.length]
  exact (r.drop _).take _
theorem cut_all {K : PySem.W.Frag} {H : Hp} {xs : List D} {vs : List V} {lo hi : Option Int} (r : RDs K H xs vs) (h : HT.sIx vs.length 0 lo = 0 ∧ HT.sIx vs.length vs.length hi = vs.length) : cutD xs lo hi = xs := by
  unfold cutD
  rw [r.length, h.1, h.2, List.drop_zero, Nat.sub_zero, ← r.length, List.take_length]
theorem slR_of : SlR X (fun x lo hi H Q => ∃ ox o F, RO X.K H ox x F ∧ gSl ox lo hi = some o ∧ ∀ z H', New X.K H o z H' → Q z H') := by
  intro pins s σ H x v vl vu lo hi sl Q I rx hs pl pu ⟨ox, o, F, ro, e, q⟩
  unfold gSl at e
  split at e
  · rename_i xs hx
    cases e
    obtain ⟨a, vs, rfl, h, r⟩ := asT_ok ro hx
    refine sl_tupA pins s σ H _ v vl vu lo hi sl Q I rx hs pl pu ⟨a, vs, rfl, h, fun c => q _ _ ?_, fun c p hp => q _ _ (.tup hp (cut_rd r))⟩
    rw [cut_all r c]
    exact .d (.tup h r)
  · split at e
    · rename_i xs hx
      cases e
      obtain ⟨a, vs, rfl, h, r⟩ := asL_ok ro hx
      exact sl_list pins s σ H _ v vl vu lo hi sl Q I rx hs pl pu ⟨a, vs, rfl, h, fun p hp => q _ _ (.lst hp (cut_rd r))⟩
    · split at e
      · split at e
        · rename_i hz
          cases e
          cases ro.od
          exact sl_str pins s σ H _ v vl vu lo hi sl Q I rx hs pl pu ⟨_, rfl, hz, q _ _ (.d (.str _))⟩
        · cases e
      · cases e
/-- a slice's part -/
def PPt (X : Cx) (F : Fp) (σ : L2.St) (H : Hp) (Q : Option Int → Hp → Prop) (i : Option Int) (env : Env) : Prop := ∀ H' F2, RelE X.K H' env σ F2 → Step F H H' → Sub F2 F H → Q i H'
def tPt (X : Cx) (f : M (Option Int)) : TO := fun σ H Q => ∃ env F, RelE X.K H env σ F ∧ Post (PPt X F σ H Q) (f env)
variable (X) in
def PtE (e : Option Expr) (f : M (Option Int)) : Prop := L2.PO X e (tPt X f)
theorem pt_none' : PtE X none (ret none) := ⟨fun pins s σ H Q I ⟨env, F, rel, h⟩ => po_none.run pins s σ H Q I (h H F rel .refl fun _ p => .inl p)⟩
def asI (f : M O) : M (Option Int) := bnd f fun o => lift (match o with | .d (.int i) => some (some i) | _ => none)
theorem pt_some {e : Expr} {f : M O} (h : SE X e f) : PtE X (some e) (asI f) := ⟨fun pins s σ H Q I ⟨env, F, rel, q⟩ => by
  refine (po_some h).run pins s σ H Q I ?_
  refine tOf_bind rel q fun o env1 v H1 F1 F2 ro a h => ?_
  cases o with
  | d x =>
    cases x with
    | int i => cases ro.od; exact ⟨i, rfl, h H1 F2 a.rel a.st fun x p => a.sub x (.inr p)⟩
    | _ => exact h.elim
  | _ => exact h.elim⟩
theorem tPt_bind {β : Type} {f : M (Option Int)} {k : Option Int → M β} {P : β → Env → Prop} {σ : L2.St} {H : Hp} {Q : Option Int → Hp → Prop} {env : Env} {F : Fp} (rel : RelE X.K H env σ F) (h : Post P (bnd f k env))
    (c : ∀ b env' H' F2, Aft X F H H' σ env' nof F2 → Post P (k b env') → Q b H') : tPt X f σ H Q :=
  ⟨env, F, rel, h.bnd.mono fun o e' q H' F2 re st sub => c o e' H' _ ⟨re.dom, fun a p q => p.elim, st, fun a z => sub a (z.elim False.elim And.left), fun a p => p.elim, fun a p => p.2⟩ q⟩
def cSl (fa : M (O × Option Nat)) (fl fh : M (Option Int)) : M O := bnd fa fun x => bnd fl fun l => bnd fh fun u => bnd (lift (gSl x.1 l u)) fun r => bnd (rst x.2 x.1) fun _ => ret r
theorem se_slice {e : Expr} {lo hi : Option Expr} {fa : M (O × Option Nat)} {fl fh : M (Option Int)} {p2 pos : Pos} (he : OE X e fa) (hl : PtE X lo fl) (hu : PtE X hi fh) : SE X (.Subscript e (.Slice lo hi none p2) pos) (cSl fa fl fh) := by
  refine PE.imp (pe_slice slR_of he hl hu) fun σ H Q ⟨env, F, rel, h⟩ => ?_
  refine tOp_bind rel h fun x env1 v H1 F1 F2 ro a g1 h => ?_
  refine tPt_bind a.rel h fun l env2 H2 F3 b h => ?_
  have dn : Disj F1 F3 := disj_new a.dj a.d1 fun x p => b.sub x (.inr p)
  have ro2 := ro.step b.st a.dj
  have st2 : Step F H H2 := a.st.trans b.st fun x p => a.sub x (.inr p)
  have d12 := a.d1.step b.st
  refine tPt_bind b.rel h fun u env3 H3 F4 c h => ?_
  have dn2 : Disj F1 F4 := disj_new dn d12 fun x p => c.sub x (.inr p)
  have ro3 := ro2.step c.st dn
  obtain ⟨r, e, h⟩ := h.lift
  have sub4 : ∀ x, F4 x → F x ∨ H x = none := fun x p => by
    rcases c.sub x (.inr p) with q | q
    · rcases b.sub x (.inr q) with q | q
      · exact a.sub x (.inr q)
      · exact .inr (a.st.free q)
    · exact .inr (st2.free q)
  have st3 : Step F H H3 := st2.trans c.st fun x p => (b.sub x (.inr p)).elim (fun q => a.sub x (.inr q)) fun q => .inr (a.st.free q)
  refine ⟨x.1, r, F1, ro3, e, fun z H' ⟨F', rz, st', sub'⟩ => ?_⟩
  obtain ⟨env4, rel4, h⟩ := rst_ok (c.rel.step st' fun _ _ z => z) (ro3.step st' fun _ _ z => z) dn2 g1 h
  refine h z H' F' _ rz rel4 (fun q m n => ?_) (st3.trans st' fun _ z => z.elim) fun q m => ?_
  · have hn : H3 q = none := (sub' q m).elim False.elim id
    rcases n with n | n
    · obtain ⟨o, eo⟩ := d12.step c.st q n; rw [hn] at eo; cases eo
    · obtain ⟨o, eo⟩ := c.d2 q n; rw [hn] at eo; cases eo
  · rcases m with m | m | m
    · exact .inr (st3.free ((sub' q m).elim False.elim id))
    · exact a.sub q (.inl m)
    · exact sub4 q m

/-! ### isinstance, -x, chains, globals -/
def gIsi : List O → Option O := g2 fun x c => match tyO x, c with
  | some n, .d (.ty m) => if n ∈ kTys ∧ m ∈ ["int", "bool", "str", "tuple", "list", "dict"] then some (.d (.bl (isTy n m))) else none
  | _, _ => none
theorem cs_isi : CallS X (.builtin "isinstance") gIsi := .of call_isi fun H xs os F o r e => by
  obtain ⟨x, y, v, w, G, G', rfl, rfl, h, h', q⟩ := g2_of r e
  split at q
  · rename_i n m hn
    split at q
    · rename_i c
      cases q
      cases h'.od
      exact ⟨v, .ty m, .type n, .type m, _, rfl, .ty m, tyO_ok h hn, kit_tys n c.1 m c.2, .d (.bl _)⟩
    · cases q
  · cases q
theorem se_bltn {x : Str} {n : String} {pos : Pos} (hg : Gl X x) (hm : X.mg x = none) (hv : bootBuiltins x = some (.type n)) (hn : x ≠ "__name__" := by decide) (hd : (x == ("__debug__" : Str)) = false := by decide) : SE X (.Name x pos) (con (.ty n)) :=
  se_con (pe_bltn hg hm hv (v := .ty n) rfl hn hd) fun _ => .ty n
/-- a module's constant -/
theorem se_glob {x : Str} {v : V} {d : D} {u : Value} {pos : Pos} (hg : Gl X x) (hm : X.mg x = some u) (r : RelV v u) (hd : ∀ H, RD X.K H d v) (hb : (x == ("__debug__" : Str)) = false := by decide) : SE X (.Name x pos) (con d) := se_con (pe_glob hg hm r hb) hd
def cNeg (f : M O) : M O := bnd f fun o => lift (match o with | .d (.int i) => some (.d (.int (-i))) | _ => none)
theorem se_neg {a : Expr} {f : M O} {pos : Pos} (ha : SE X a f) : SE X (.UnaryOp .USub a pos) (cNeg f) :=
  PE.imp (pe_un un_neg ha) fun σ H Q ⟨env, F, rel, h⟩ => tOf_bind rel h fun o env1 v H1 F1 F2 ro a h => by
    cases o with
    | d x =>
      cases x with
      | int i => cases ro.od; exact ⟨i, rfl, h _ H1 nof F2 (.d (.int _)) a.rel (fun _ p _ => p) a.st fun x p => p.elim False.elim fun p => a.sub x (.inr p)⟩
      | _ => exact h.elim
    | _ => exact h.elim
/-- a < b < c: b is asked once -/
def cChain (g g' : O → O → Option O) (fa fb fc : M O) : M O := bnd fa fun x => bnd fb fun y => bnd (lift (match g x y with | some (.d (.bl b)) => some b | _ => none)) fun b => if b = true then bnd fc fun z => lift (g' y z) else ret (.d (.bl false))
theorem chain_ok {g g' : O → O → Option O} {fa fb fc : M O} {σ : L2.St} {H : Hp} {Q : VK} (h : tOf X (cChain g g' fa fb fc) σ H Q) : tChain (rOf X.K g) (rOf X.K g') (tOf X fa) (tOf X fb) (tOf X fc) σ H Q := by
  obtain ⟨env, F, rel, h⟩ := h
  refine tOf_bind rel h fun x env1 v H1 F1 F2 ro1 a h => ?_
  refine tOf_bind a.rel h fun y env2 u H2 F3 F4 ro2 b h => ?_
  obtain ⟨k, e, h⟩ := h.lift
  obtain ⟨st, sub, d13, d14, dm⟩ := a.next b
  have eg : g x y = some (.d (.bl k)) := by
    split at e
    · rename_i q; cases e; exact q
    · cases e
  refine ⟨x, y, _, F1, F3, ro1.step b.st a.dj, ro2, eg, fun z H3 ⟨F', rz, st', sub'⟩ => ?_⟩
  cases rz.od
  refine ⟨k, rfl, ?_⟩
  have rel2 := b.rel.step st' fun _ _ z => z
  have ro3 := ro2.step st' fun _ _ z => z
  have st3 : Step F H H3 := st.trans st' fun _ z => z.elim
  cases k with
  | false => exact iteF (h _ H3 nof F4 (.d (.bl _)) rel2 (fun _ p _ => p) st3 fun x p => p.elim False.elim fun p => sub x (.inr (.inr p)))
  | true =>
    refine iteT (tOf_bind rel2 h fun w env3 v3 H4 F5 F6 ro4 c h => ?_)
    have h' : Post (PV X F σ H Q) (bnd (lift (g' y w)) ret env3) := by
      unfold bnd lift at *
      cases q : g' y w with
      | none => rw [q] at h; exact h
      | some r => rw [q] at h; exact h
    obtain ⟨r, e', h⟩ := h'.lift
    refine ⟨y, w, r, F3, F5, ro3.step c.st b.dj, ro4, e', fun z H5 ⟨F7, rz', st5, sub5⟩ => ?_⟩
    have st4 : Step F H H4 := st3.trans c.st fun x p => sub x (.inr (.inr p))
    refine h z H5 F7 F6 rz' (c.rel.step st5 fun _ _ z => z) (fun q m n => ?_) (st4.trans st5 fun _ z => z.elim) fun q m => ?_
    · have hn : H4 q = none := (sub5 q m).elim False.elim id
      obtain ⟨o, eo⟩ := c.d2 q n; rw [hn] at eo; cases eo
    · rcases m with m | m
      · exact .inr (st4.free ((sub5 q m).elim False.elim id))
      · rcases c.sub q (.inr m) with z | z
        · exact sub q (.inr (.inr z))
        · exact .inr (st3.free z)
theorem se_chain {op op' : CmpOp} {g g' : O → O → Option O} {a b c : Expr} {fa fb fc : M O} {pos : Pos} (ho : OpS X (compareOp op) g) (ho' : OpS X (compareOp op') g') (ha : SE X a fa) (hb : SE X b fb) (hc : SE X c fc)
    (hm : lastMarks [op, op'] [b, c] = false := by with_unfolding_all rfl) : SE X (.Compare a [op, op'] [b, c] pos) (cChain g g' fa fb fc) := PE.imp (pe_chain ho.rule ho'.rule ha hb hc hm) fun _ _ _ h => chain_ok h
theorem be_chain {op op' : CmpOp} {g g' : O → O → Option O} {a b c : Expr} {fa fb fc : M O} {pos : Pos} (ho : OpS X (compareOp op) g) (ho' : OpS X (compareOp op') g') (ha : SE X a fa) (hb : SE X b fb) (hc : SE X c fc)
    (hm : lastMarks [op, op'] [b, c] = false := by with_unfolding_all rfl) : BE X (.Compare a [op, op'] [b, c] pos) (asB (cChain g g' fa fb fc)) := PT.imp (pt_chain ho.rule ho'.rule ha hb hc hm) fun _ _ _ h => test_ok (e := a) (fun _ _ _ => chain_ok) h
end
end TL

set_option maxHeartbeats 1000000
namespace TL
open PySem L2

section
variable {X : Cx}
/-! ### methods of built-in types -/
variable (X) in
def TyB (T : String) (x : V) (H : Hp) : Prop := ∀ (pins : List (Addr × Obj)) (σ : L2.St) (s : Shared) (v : Value), Inv X pins σ H s → RelV x v → s.TypeIs v T ∧ ∀ a, v = .ref a → ∃ ob, s.heap.get? a = some ob ∧ ob.dict = none
theorem tyB_of {o : O} {v : V} {H : Hp} {F : Fp} {T : String} (r : RO X.K H o v F) (e : tyO o = some T) (h : T ∈ ["str", "list", "dict"]) : TyB X T v H := by
  intro pins σ s u I rv
  have dk : ∀ {a : Addr} {kvs : List (Key × V)}, Rd H a (.dK kvs) → s.TypeIs (.ref a) "dict" ∧ ∀ b, Value.ref a = .ref b → ∃ ob, s.heap.get? b = some ob ∧ ob.dict = none := fun {a kvs} h => by
    obtain ⟨_, _, vs, _, ob, _, _, h1, h2, _⟩ := dk_rd I.hok h
    refine ⟨⟨ob, h1, h2.1⟩, fun b e => ?_⟩
    cases e
    exact ⟨ob, h1, h2.2.1⟩
  unfold tyO at e
  split at e
  · cases e; simp at h
  · cases e; simp at h
  · cases e; simp at h
  · cases e; cases r.od; exact tyV_is I rv rfl
  · cases e; simp at h
  · cases e; cases r.od with | lst h2 _ => exact tyV_is I rv (.inl ⟨rfl, _, .inl (.inr ⟨_, h2⟩)⟩)
  · cases e; cases r.od with | dct h2 _ _ => cases rv; exact dk (.inr ⟨_, h2⟩)
  · cases e
  · cases e; cases r with | lst h2 _ _ => exact tyV_is I rv (.inl ⟨rfl, _, .of h2⟩)
  · cases e; cases r with | dct h2 _ _ _ => cases rv; exact dk (.inl h2)
  · cases e; cases r with | dcT h2 _ _ _ => exact tyV_is I rv (.inr (.inr (.inl ⟨rfl, .inr ⟨_, h2⟩⟩)))
  · cases e
section
variable {o e : Expr} {es : List Expr} {to : TE} {t : TA} {name : Str} {apos cpos : Pos} {T id : String} {r : V → List V → Hp → VK → Prop}
theorem pe_bmG0 (pa : PlainAttrs T) (slot : Slot T name id) (hty : typeOf (.builtin id) = pure (.type "method_descriptor")) (hm : MtR X id r) (ho : PE X o to)
    (hbase : attributeBase o name X.env (eval o X.env) = eval o X.env := by rfl) (hline : (apos.endLine == cpos.line) = true := by rfl) : PE X (.Call (.Attribute o name apos) [] [] cpos) (fun σ H Q => to σ H fun x H1 => TyB X T x H1 ∧ r x [] H1 Q) := by
  refine ⟨fun pins s σ H Q I h => ?_⟩
  refine wpAny_Call_method0_late hbase hline (thn (ho.run pins s σ H _ I h) fun v s1 ⟨x, H1, I1, r1, ty, q1⟩ => ?_)
  obtain ⟨h1, h2⟩ := ty pins σ s1 v I1 r1
  exact ⟨T, id, pa, slot, hty, h1, h2, Calls.callWith_builtin rfl (PySem.evalArgs_none (hm pins s1 σ H1 x [] v [] Q I1 r1 .nil q1))⟩
theorem pe_bmG (pa : PlainAttrs T) (slot : Slot T name id) (hty : typeOf (.builtin id) = pure (.type "method_descriptor")) (hm : MtR X id r) (ho : PE X o to) (ha : PA X (e :: es) t)
    (hbase : attributeBase o name X.env (eval o X.env) = eval o X.env := by rfl)
    (hfew : ((backTo cpos (starEach (e :: es) X.env)).all (fun x => !x.1) && (backToKw cpos (keywordEach [] X.env)).all (fun x => x.1.isSome)
      && decide ((e :: es).length + ([] : List Keyword).length + (if ([] : List Keyword).isEmpty then 0 else 1) < 30)) = true := by rfl)
    (hline : (apos.endLine == cpos.line) = true := by rfl) (hs : starEach (e :: es) X.env = (false, eval e X.env) :: starEach es X.env := by rfl) (hplain : (backTo cpos (starEach es X.env)).any (·.1) = false := by rfl) :
    PE X (.Call (.Attribute o name apos) (e :: es) [] cpos) (fun σ H Q => to σ H fun x H1 => TyB X T x H1 ∧ t σ H1 fun xs H2 => r x xs H2 Q) := by
  refine ⟨fun pins s σ H Q I h => ?_⟩
  refine wpAny_Call_method_late hbase hfew hline rfl (thn (ho.run pins s σ H _ I h) fun v s1 ⟨x, H1, I1, r1, ty, q1⟩ => ?_)
  obtain ⟨h1, h2⟩ := ty pins σ s1 v I1 r1
  refine ⟨T, id, pa, slot, hty, h1, h2, ?_⟩
  have hA := ha.run cpos pins s1 σ H1 _ I1 q1
  rw [hs] at hA ⊢
  refine Calls.callWith_builtin (by show (false || (backTo cpos (starEach es X.env)).any (·.1)) = false; rw [hplain] <;> rfl) (Calls.evalArgs_plain ?_)
  exact thn hA fun us s2 ⟨vs, H2, I2, r2, q2⟩ => hm pins s2 σ H2 x vs v us Q I2 r1 r2 q2
end
/-! reading methods: the receiver comes back -/
variable (X) in
def MtS (id : String) (g : O → List O → Option O) : Prop :=
  ∀ (pins : List (Addr × Obj)) (s : Shared) (σ : L2.St) (H : Hp) (x : V) (xs : List V) (v : Value) (us : List Value) (ox : O) (os : List O) (o : O) (F G : Fp), Inv X pins σ H s → RelV x v → Vals xs us → RO X.K H ox x F → ROs X.K H os xs G → g ox os = some o →
    wpAny (model X.prog X.w) X.A (call (.builtin id) (v :: us)) (EP X pins σ (New X.K H o)) X.xe s
theorem MtS.of {id : String} {g : O → List O → Option O} {r : V → List V → Hp → VK → Prop} (h : MtR X id r) (k : ∀ H x xs ox os F G o, RO X.K H ox x F → ROs X.K H os xs G → g ox os = some o → r x xs H (New X.K H o)) : MtS X id g :=
  fun pins s σ H x xs v us ox os o F G I rv rvs r1 r2 e => h pins s σ H x xs v us _ I rv rvs (k H x xs ox os F G o r1 r2 e)
def rOfM (K : PySem.W.Frag) (g : O → List O → Option O) : V → List V → Hp → VK → Prop := fun x xs H Q => ∃ ox os o F G, RO K H ox x F ∧ ROs K H os xs G ∧ g ox os = some o ∧ ∀ z H', New K H o z H' → Q z H'
theorem MtS.rule {id : String} {g : O → List O → Option O} (h : MtS X id g) : MtR X id (rOfM X.K g) := by
  intro pins s σ H x xs v us Q I rv rvs ⟨ox, os, o, F, G, r1, r2, e, q⟩
  exact thn (h pins s σ H x xs v us ox os o F G I rv rvs r1 r2 e) fun w s' ⟨z, H', I', rz, n⟩ => ⟨z, H', I', rz, q z H' n⟩
def chk (T : String) (o : O) : Option Unit := if tyO o = some T then some () else none
def cMt (T : String) (g : O → List O → Option O) (fr : M (O × Option Nat)) (fa : M (List (O × Option Nat))) : M O :=
  bnd fr fun x => bnd (lift (chk T x.1)) fun _ => bnd fa fun rs => bnd (lift (g x.1 (rs.map (·.1)))) fun o => bnd (rstAll rs) fun _ => bnd (rst x.2 x.1) fun _ => ret o
theorem chk_of {T : String} {o : O} {u : Unit} (h : chk T o = some u) : tyO o = some T := by
  unfold chk at h
  split at h
  · assumption
  · cases h
theorem mt_ok {T : String} (hT : T ∈ ["str", "list", "dict"]) {g : O → List O → Option O} {fr : M (O × Option Nat)} {fa : M (List (O × Option Nat))} {σ : L2.St} {H : Hp} {Q : VK} (h : tOf X (cMt T g fr fa) σ H Q) :
    tOp' X fr σ H fun x H1 => TyB X T x H1 ∧ tLOf X fa σ H1 fun xs H2 => rOfM X.K g x xs H2 Q := by
  obtain ⟨env, F, rel, h⟩ := h
  refine tOp_bind rel h fun x env1 v H1 F1 F2 ro1 a g1 h => ?_
  obtain ⟨u, eu, h⟩ := h.lift
  refine ⟨tyB_of ro1 (chk_of eu) hT, ?_⟩
  refine tLO_bind a.rel h fun rs env2 us H2 F3 F4 ro2 b g2 h => ?_
  obtain ⟨o, e, h⟩ := h.lift
  obtain ⟨st, sub, d13, d14, dm⟩ := a.next b
  have ro1' := ro1.step b.st a.dj
  refine ⟨x.1, rs.map (·.1), o, F1, F3, ro1', ro2, e, fun z H' ⟨F', rz, st', sub'⟩ => ?_⟩
  obtain ⟨env3, rel3, h⟩ := rstAll_ok (b.rel.step st' fun _ _ z => z) (ro2.step st' fun _ _ z => z) b.dj g2 h
  obtain ⟨env4, rel4, h⟩ := rst_ok rel3 (ro1'.step st' fun _ _ z => z) (fun q m n => n.elim (d13 q m) (d14 q m)) g1 h
  refine h z H' F' _ rz rel4 (fun q m n => ?_) (st.trans st' fun _ z => z.elim) fun q m => ?_
  · have hn : H2 q = none := (sub' q m).elim False.elim id
    rcases n with n | n | n
    · obtain ⟨o, eo⟩ := dm q n; rw [hn] at eo; cases eo
    · obtain ⟨o, eo⟩ := b.d1 q n; rw [hn] at eo; cases eo
    · obtain ⟨o, eo⟩ := b.d2 q n; rw [hn] at eo; cases eo
  · rcases m with m | m
    · exact .inr (st.free ((sub' q m).elim False.elim id))
    · exact sub q m
theorem se_mt {o e : Expr} {es : List Expr} {name : Str} {apos cpos : Pos} {T id : String} {g : O → List O → Option O} {fr : M (O × Option Nat)} {fa : M (List (O × Option Nat))} (hT : T ∈ ["str", "list", "dict"]) (pa : PlainAttrs T) (slot : Slot T name id) (hty : typeOf (.builtin id) = pure (.type "method_descriptor")) (hm : MtS X id g) (ho : OE X o fr) (ha : AO X (e :: es) fa)
    (hbase : attributeBase o name X.env (eval o X.env) = eval o X.env := by rfl)
    (hfew : ((backTo cpos (starEach (e :: es) X.env)).all (fun x => !x.1) && (backToKw cpos (keywordEach [] X.env)).all (fun x => x.1.isSome)
      && decide ((e :: es).length + ([] : List Keyword).length + (if ([] : List Keyword).isEmpty then 0 else 1) < 30)) = true := by rfl)
    (hline : (apos.endLine == cpos.line) = true := by rfl) (hs : starEach (e :: es) X.env = (false, eval e X.env) :: starEach es X.env := by rfl) (hplain : (backTo cpos (starEach es X.env)).any (·.1) = false := by rfl) :
    SE X (.Call (.Attribute o name apos) (e :: es) [] cpos) (cMt T g fr fa) :=
  PE.imp (pe_bmG pa slot hty hm.rule ho ha hbase hfew hline hs hplain) fun _ _ _ h => mt_ok hT h
theorem se_mt0 {o : Expr} {name : Str} {apos cpos : Pos} {T id : String} {g : O → List O → Option O} {fr : M (O × Option Nat)} (hT : T ∈ ["str", "list", "dict"]) (pa : PlainAttrs T) (slot : Slot T name id) (hty : typeOf (.builtin id) = pure (.type "method_descriptor")) (hm : MtS X id g) (ho : OE X o fr)
    (hbase : attributeBase o name X.env (eval o X.env) = eval o X.env := by rfl) (hline : (apos.endLine == cpos.line) = true := by rfl) : SE X (.Call (.Attribute o name apos) [] [] cpos) (cMt T g fr nilO) :=
  PE.imp (pe_bmG0 pa slot hty hm.rule ho hbase hline) fun σ H Q h => by
    obtain ⟨env, F, rel, h⟩ := h
    refine tOp_bind rel h fun x env1 v H1 F1 F2 ro1 a g1 h => ?_
    obtain ⟨u, eu, h⟩ := h.lift
    refine ⟨tyB_of ro1 (chk_of eu) hT, ?_⟩
    obtain ⟨o, e, h⟩ := Post.lift (g := fun o => bnd (rstAll []) fun _ => bnd (rst x.2 x.1) fun _ => ret o) (o := g x.1 []) (e := env1) h
    refine ⟨x.1, [], o, F1, nof, ro1, .nil, e, fun z H' ⟨F', rz, st', sub'⟩ => ?_⟩
    obtain ⟨env4, rel4, h⟩ := rst_ok (a.rel.step st' fun _ _ z => z) (ro1.step st' fun _ _ z => z) a.dj g1 h
    refine h z H' F' _ rz rel4 (fun q m n => ?_) (a.st.trans st' fun _ z => z.elim) fun q m => ?_
    · have hn : H1 q = none := (sub' q m).elim False.elim fun z => z
      rcases n with n | n
      · obtain ⟨o, eo⟩ := a.d1 q n; rw [hn] at eo; cases eo
      · obtain ⟨o, eo⟩ := a.d2 q n; rw [hn] at eo; cases eo
    · rcases m with m | m
      · exact .inr (a.st.free ((sub' q m).elim False.elim fun z => z))
      · exact a.sub q m
def strsO : List D → Option (List Str)
  | [] => some []
  | .str x :: r => (strsO r).map (x :: ·)
  | _ :: _ => none
theorem strsO_ok {H : Hp} : ∀ {xs : List D} {vs : List V} {bs : List Str}, RDs X.K H xs vs → strsO xs = some bs → vs = bs.map V.str
  | [], _, _, r, e => by cases r; cases e; rfl
  | x :: xs, _, _, .cons h r, e => by
    cases x with
    | str b =>
      unfold strsO at e
      cases q : strsO xs with
      | none => rw [q] at e; cases e
      | some bs => rw [q] at e; cases e; cases h; rw [strsO_ok r q]; rfl
    | _ => cases e
def gJoin : O → List O → Option O := fun x os => match x, os with
  | .d (.str a), [y] => match asQ y with
    | some ys => match strsO ys with
      | some zs => if (zs.map (·.length)).sum + zs.length * a.length ≤ 16777216 then some (.d (.str (Txt.join a zs))) else none
      | none => none
    | none => none
  | _, _ => none
theorem ms_join : MtS X "str.join" gJoin := .of mt_join fun H x xs ox os F G o r1 r2 e => by
  unfold gJoin at e
  split at e
  · rename_i a y
    cases r2 with
    | cons F1 F2 h r _ _ _ =>
      cases r
      split at e
      · rename_i ys hy
        split at e
        · rename_i zs hz
          split at e
          · rename_i c
            cases e
            cases r1.od
            obtain ⟨p, vs, rfl, hs, rd⟩ := asQ_ok h hy
            have ev := strsO_ok rd hz
            subst ev
            exact ⟨a, p, zs, rfl, rfl, hs, c, .d (.str _)⟩
          · cases e
        · cases e
      · cases e
  · cases e

/-! changing methods: the receiver is ours -/
variable (X) in
def MuS (id : String) (g : O → List O → Option (O × O)) : Prop :=
  ∀ (pins : List (Addr × Obj)) (s : Shared) (σ : L2.St) (H : Hp) (x : V) (xs : List V) (v : Value) (us : List Value) (ox : O) (os : List O) (r o' : O) (F G : Fp), Inv X pins σ H s → RelV x v → Vals xs us → RO X.K H ox x F → ROs X.K H os xs G → Disj F G → g ox os = some (r, o') →
    wpAny (model X.prog X.w) X.A (call (.builtin id) (v :: us)) (EP X pins σ fun z H' => ∃ F1 F2, RO X.K H' r z F1 ∧ RO X.K H' o' x F2 ∧ Disj F1 F2 ∧ Step (Or F G) H H' ∧ Sub (Or F1 F2) (Or F G) H) X.xe s
def rOfU (K : PySem.W.Frag) (g : O → List O → Option (O × O)) : V → List V → Hp → VK → Prop := fun x xs H Q => ∃ ox os r o' F G, RO K H ox x F ∧ ROs K H os xs G ∧ Disj F G ∧ g ox os = some (r, o') ∧
  ∀ z H', (∃ F1 F2, RO K H' r z F1 ∧ RO K H' o' x F2 ∧ Disj F1 F2 ∧ Step (Or F G) H H' ∧ Sub (Or F1 F2) (Or F G) H) → Q z H'
theorem MuS.rule {id : String} {g : O → List O → Option (O × O)} (h : MuS X id g) : MtR X id (rOfU X.K g) := by
  intro pins s σ H x xs v us Q I rv rvs ⟨ox, os, r, o', F, G, r1, r2, d, e, q⟩
  exact thn (h pins s σ H x xs v us ox os r o' F G I rv rvs r1 r2 d e) fun w s' ⟨z, H', I', rz, n⟩ => ⟨z, H', I', rz, q z H' n⟩
def cMu (T : String) (g : O → List O → Option (O × O)) (fr : M (O × Option Nat)) (fa : M (List O)) : M O :=
  bnd fr fun x => bnd (lift (chk T x.1)) fun _ => bnd fa fun os => bnd (lift (g x.1 os)) fun r => bnd (rst x.2 r.2) fun _ => ret r.1
theorem mu_end {g : O → List O → Option (O × O)} {σ : L2.St} {H H2 : Hp} {Q : VK} {F F1 F3 F4 : Fp} {x : O × Option Nat} {os : List O} {env2 : Env} {v : V} {us : List V} (ro1 : RO X.K H2 x.1 v F1) (ro2 : ROs X.K H2 os us F3) (rel : RelE X.K H2 env2 σ F4)
    (d13 : Disj F1 F3) (d14 : Disj F1 F4) (d34 : Disj F3 F4) (m1 : Dom F1 H2) (m3 : Dom F3 H2) (m4 : Dom F4 H2) (st : Step F H H2) (sub : Sub (Or F1 (Or F3 F4)) F H) (g1 : ∀ i, x.2 = some i → σ[i]? = some (some v))
    (h : Post (PV X F σ H Q) (bnd (lift (g x.1 os)) (fun r => bnd (rst x.2 r.2) fun _ => ret r.1) env2)) : rOfU X.K g v us H2 Q := by
  obtain ⟨⟨r, o'⟩, e, h⟩ := h.lift
  refine ⟨x.1, os, r, o', F1, F3, ro1, ro2, d13, e, fun z H' ⟨G1, G2, rz, ro', d, st', sub'⟩ => ?_⟩
  have d4 : Disj F4 (Or F1 F3) := fun q m n => n.elim (fun n => d14 q n m) fun n => d34 q n m
  have dn : Disj F4 (Or G1 G2) := disj_new d4 m4 sub'
  obtain ⟨env3, rel3, h⟩ := rst_ok (rel.step st' d4) ro' (fun q m n => dn q n (.inr m)) g1 h
  refine h z H' G1 _ rz rel3 (fun q m n => n.elim (d q m) fun n => dn q n (.inl m)) (st.trans st' fun q m => sub q (m.elim .inl fun m => .inr (.inl m))) fun q m => ?_
  have go : ∀ q, Or G1 G2 q → F q ∨ H q = none := fun q m => (sub' q m).elim (fun m => sub q (m.elim .inl fun m => .inr (.inl m))) fun n => .inr (st.free n)
  rcases m with m | m | m
  · exact go q (.inl m)
  · exact go q (.inr m)
  · exact sub q (.inr (.inr m))
theorem mu_ok {T : String} (hT : T ∈ ["str", "list", "dict"]) {g : O → List O → Option (O × O)} {fr : M (O × Option Nat)} {fa : M (List O)} {σ : L2.St} {H : Hp} {Q : VK} (h : tOf X (cMu T g fr fa) σ H Q) :
    tOp' X fr σ H fun x H1 => TyB X T x H1 ∧ tLf X fa σ H1 fun xs H2 => rOfU X.K g x xs H2 Q := by
  obtain ⟨env, F, rel, h⟩ := h
  refine tOp_bind rel h fun x env1 v H1 F1 F2 ro1 a g1 h => ?_
  obtain ⟨u, eu, h⟩ := h.lift
  refine ⟨tyB_of ro1 (chk_of eu) hT, ?_⟩
  refine tLf_bind a.rel h fun os env2 us H2 F3 F4 ro2 b h => ?_
  obtain ⟨st, sub, d13, d14, dm⟩ := a.next b
  exact mu_end (ro1.step b.st a.dj) ro2 b.rel d13 d14 b.dj dm b.d1 b.d2 st sub g1 h
theorem se_mu {o e : Expr} {es : List Expr} {name : Str} {apos cpos : Pos} {T id : String} {g : O → List O → Option (O × O)} {fr : M (O × Option Nat)} {fa : M (List O)} (hT : T ∈ ["str", "list", "dict"]) (pa : PlainAttrs T) (slot : Slot T name id) (hty : typeOf (.builtin id) = pure (.type "method_descriptor")) (hm : MuS X id g) (ho : OE X o fr) (ha : AE X (e :: es) fa)
    (hbase : attributeBase o name X.env (eval o X.env) = eval o X.env := by rfl)
    (hfew : ((backTo cpos (starEach (e :: es) X.env)).all (fun x => !x.1) && (backToKw cpos (keywordEach [] X.env)).all (fun x => x.1.isSome)
      && decide ((e :: es).length + ([] : List Keyword).length + (if ([] : List Keyword).isEmpty then 0 else 1) < 30)) = true := by rfl)
    (hline : (apos.endLine == cpos.line) = true := by rfl) (hs : starEach (e :: es) X.env = (false, eval e X.env) :: starEach es X.env := by rfl) (hplain : (backTo cpos (starEach es X.env)).any (·.1) = false := by rfl) :
    SE X (.Call (.Attribute o name apos) (e :: es) [] cpos) (cMu T g fr fa) :=
  PE.imp (pe_bmG pa slot hty hm.rule ho ha hbase hfew hline hs hplain) fun _ _ _ h => mu_ok hT h
theorem se_mu0 {o : Expr} {name : Str} {apos cpos : Pos} {T id : String} {g : O → List O → Option (O × O)} {fr : M (O × Option Nat)} (hT : T ∈ ["str", "list", "dict"]) (pa : PlainAttrs T) (slot : Slot T name id) (hty : typeOf (.builtin id) = pure (.type "method_descriptor")) (hm : MuS X id g) (ho : OE X o fr)
    (hbase : attributeBase o name X.env (eval o X.env) = eval o X.env := by rfl) (hline : (apos.endLine == cpos.line) = true := by rfl) : SE X (.Call (.Attribute o name apos) [] [] cpos) (cMu T g fr nilM) :=
  PE.imp (pe_bmG0 pa slot hty hm.rule ho hbase hline) fun σ H Q h => by
    obtain ⟨env, F, rel, h⟩ := h
    refine tOp_bind rel h fun x env1 v H1 F1 F2 ro1 a g1 h => ?_
    obtain ⟨u, eu, h⟩ := h.lift
    refine ⟨tyB_of ro1 (chk_of eu) hT, ?_⟩
    exact mu_end (os := []) (us := []) (F3 := nof) ro1 .nil a.rel (fun _ _ p => p) a.dj (fun _ p => p.elim) a.d1 (fun _ p => p.elim) a.d2 a.st (fun q m => a.sub q (m.elim .inl fun m => m.elim False.elim .inr)) g1 h
theorem ROs.append {K : PySem.W.Frag} {H : Hp} : ∀ {xs ys : List O} {vs ws : List V} {F G : Fp}, ROs K H xs vs F → ROs K H ys ws G → Disj F G → ROs K H (xs ++ ys) (vs ++ ws) (Or F G)
  | _, _, _, _, _, _, .nil, s, d => s.mono fun _ p => .inr p
  | _, _, _, _, _, G, .cons F1 F2 h r a b dd, s, d => .cons F1 (Or F2 G) h (ROs.append r s fun x p q => d x (b x p) q) (fun x p => .inl (a x p)) (fun x p => p.elim (fun p => .inl (b x p)) .inr) fun x p q => q.elim (dd x p) fun q => d x (a x p) q
theorem ROs.erase {K : PySem.W.Frag} {H : Hp} : ∀ {os : List O} {vs : List V} {F : Fp} {i : Nat} {o : O}, ROs K H os vs F → os[i]? = some o → ∃ v F1 F2, vs[i]? = some v ∧ RO K H o v F1 ∧ ROs K H (os.eraseIdx i) (vs.eraseIdx i) F2 ∧ Disj F1 F2 ∧ (∀ x, F1 x → F x) ∧ (∀ x, F2 x → F x)
  | _, _, _, _, _, .nil, e => by simp at e
  | _, _, _, 0, _, .cons F1 F2 h r a b d, e => by simp at e; subst e; exact ⟨_, F1, F2, rfl, h, r, d, a, b⟩
  | _, _, _, i + 1, _, .cons F1 F2 h r a b d, e => by
    obtain ⟨v, G1, G2, q, h', r', d', s1, s2⟩ := ROs.erase (i := i) r (by simpa using e)
    exact ⟨v, G1, Or F1 G2, by simpa using q, h', .cons F1 G2 h r' (fun _ p => .inl p) (fun _ p => .inr p) (fun x p q => d x p (s2 x q)), fun x p q => q.elim (fun q => d x q (s1 x p)) (d' x p), fun x p => b x (s1 x p), fun x p => p.elim (a x) fun p => b x (s2 x p)⟩
def uAppend : O → List O → Option (O × O) := fun x os => match x, os with
  | .lst xs, [o] => if xs.length < sizeLine then some (.d .non, .lst (xs ++ [o])) else none
  | _, _ => none
theorem mu_append : MuS X "list.append" uAppend := by
  intro pins s σ H x xs v us ox os r o' F G I rv rvs r1 r2 d e
  unfold uAppend at e
  split at e
  · rename_i ys o
    split at e
    · rename_i hz
      cases e
      cases r1 with
      | lst h f q =>
        cases r2 with
        | cons F1 F2 h2 r2 a b _ =>
          cases r2
          have hl := q.length
          refine mt_append pins s σ H _ _ v us _ I rv rvs ⟨_, _, _, rfl, rfl, h, by omega, ?_⟩
          have st : ∀ o, Step (Or F G) H (upd H _ o) := fun o => Step.wr h trivial (.inl f)
          refine ⟨nof, Or F G, .d .non, ?_, fun _ p _ => p, st _, fun x p => .inl (p.elim False.elim fun z => z)⟩
          have w : ∀ u, Step (fun z => z = _) H (upd H _ u) := fun u => Step.wr (o := u) h trivial rfl
          refine .lst upd_same (.inl f) ((ROs.append (q.step (w _) fun z m n => m.2 n) ((ROs.cons F1 nof h2 .nil (fun _ p => p) (fun _ p => p.elim) (fun _ _ p => p)).step (w _) fun z m n => ?_) fun z m n => d z m.1 (a z n)).mono fun z m0 => m0.elim (fun m => ⟨.inl m.1, m.2⟩) fun m2 => ⟨.inr (a z m2), fun n => d z (n ▸ f) (a z m2)⟩)
          subst n; exact d _ f (a _ m)
    · cases e
  · cases e
def uPop : O → List O → Option (O × O) := fun x os => match x, os with
  | .lst xs, [] => match xs[xs.length - 1]? with
    | some o => some (o, .lst (xs.eraseIdx (xs.length - 1)))
    | none => none
  | .lst xs, [.d (.int i)] => if -(2 ^ 63) ≤ i ∧ i < 2 ^ 63 then match seqIndex? i xs.length with
      | some k => match xs[k]? with
        | some o => some (o, .lst (xs.eraseIdx k))
        | none => none
      | none => none
    else none
  | _, _ => none
theorem erase_last {α : Type} : ∀ (xs : List α), xs.eraseIdx (xs.length - 1) = xs.dropLast
  | [] => rfl
  | [a] => rfl
  | a :: b :: r => by
    have h := erase_last (b :: r)
    simp only [List.length_cons, Nat.add_sub_cancel] at h ⊢
    rw [List.eraseIdx_cons_succ, h]
    rfl
theorem pop_end {H : Hp} {a : Addr} {xs : List O} {vs : List V} {F G : Fp} {k : Nat} {o : O} (h : H a = some (.lst vs)) (f : F a) (q : ROs X.K H xs vs (fun b => F b ∧ b ≠ a)) (e : xs[k]? = some o) :
    ∃ v, vs[k]? = some v ∧ ∃ F1 F2, RO X.K (upd H a (.lst (vs.eraseIdx k))) o v F1 ∧ RO X.K (upd H a (.lst (vs.eraseIdx k))) (.lst (xs.eraseIdx k)) (.ref a) F2 ∧ Disj F1 F2 ∧ Step (Or F G) H (upd H a (.lst (vs.eraseIdx k))) ∧ Sub (Or F1 F2) (Or F G) H := by
  obtain ⟨v, F1, F2, ev, r1, r2, d, s1, s2⟩ := q.erase e
  have w := Step.wr (F := fun z => z = a) (o := .lst (vs.eraseIdx k)) h trivial rfl
  refine ⟨v, ev, F1, Or (fun z => z = a) F2, r1.step w fun z m n => (s1 z m).2 n, .lst upd_same (.inl rfl) ((r2.step w fun z m n => (s2 z m).2 n).mono fun z m => ⟨.inr m, (s2 z m).2⟩), fun z m n => n.elim (s1 z m).2 (d z m), Step.wr h trivial (.inl f), fun z m => .inl (.inl ?_)⟩
  rcases m with m | m | m
  · exact (s1 z m).1
  · subst m; exact f
  · exact (s2 z m).1
theorem mu_pop : MuS X "list.pop" uPop := by
  intro pins s σ H x xs v us ox os r o' F G I rv rvs r1 r2 d e
  unfold uPop at e
  split at e
  · rename_i ys
    split at e
    · rename_i o ho
      cases e
      cases r2
      cases r1 with
      | lst h f q =>
        have hl := q.length
        obtain ⟨w, ew, z⟩ := pop_end (X := X) (G := G) h f q ho
        refine mt_pop pins s σ H _ _ v us _ I rv rvs ⟨_, _, w, rfl, rfl, h, by rw [← hl]; exact ew, ?_⟩
        rw [hl, erase_last] at z
        exact (by rw [hl, ← erase_last]; rw [erase_last]; exact z)
    · cases e
  · rename_i ys i
    split at e
    · rename_i c
      split at e
      · rename_i k hk
        split at e
        · rename_i o ho
          cases e
          cases r2 with
          | cons F1 F2 h2 r2 a b _ =>
            cases r2
            cases h2.od
            cases r1 with
            | lst h f q =>
              have hl := q.length
              obtain ⟨w, ew, z⟩ := pop_end (X := X) (G := G) h f q ho
              exact mt_popAt pins s σ H _ _ v us _ I rv rvs ⟨_, _, i, k, w, rfl, rfl, h, c.1, c.2, by rw [← hl]; exact hk, ew, z⟩
        · cases e
      · cases e
    · cases e
  · cases e
end
end TL

set_option maxHeartbeats 1000000
namespace TL
open PySem L2

/-! ### statements -/
inductive Ou where
  | nx | bk | ct | rt (o : O)
abbrev S := Env → Option (Ou × Env)
structure Fix (fx : Nat → Bool) (σ σ' : L2.St) : Prop where
  len : σ'.length = σ.length
  at_ : ∀ i, fx i = true → σ'[i]? = σ[i]?
theorem Fix.refl {fx : Nat → Bool} {σ : L2.St} : Fix fx σ σ := ⟨rfl, fun _ _ => rfl⟩
theorem Fix.trans {fx : Nat → Bool} {σ σ1 σ2 : L2.St} (a : Fix fx σ σ1) (b : Fix fx σ1 σ2) : Fix fx σ σ2 := ⟨b.len.trans a.len, fun i h => (b.at_ i h).trans (a.at_ i h)⟩
section
variable (X : Cx) (fx : Nat → Bool)
/-- behind a statement -/
def PSf (D : Ends) (σ : L2.St) (H : Hp) (F : Fp) : Ou × Env → Prop
  | (.nx, e) => ∀ σ' H' F', RelE X.K H' e σ' F' → Fix fx σ σ' → Step F H H' → Sub F' F H → D.nx σ' H'
  | (.bk, e) => ∀ σ' H' F', RelE X.K H' e σ' F' → Fix fx σ σ' → Step F H H' → Sub F' F H → D.bk σ' H'
  | (.ct, e) => ∀ σ' H' F', RelE X.K H' e σ' F' → Fix fx σ σ' → Step F H H' → Sub F' F H → D.ct σ' H'
  | (.rt o, e) => ∀ v σ' H' F1 F2, RO X.K H' o v F1 → RelE X.K H' e σ' F2 → Disj F1 F2 → Fix fx σ σ' → Step F H H' → Sub (Or F1 F2) F H → D.rt v H'
def PSo (D : Ends) (σ : L2.St) (H : Hp) (F : Fp) (r : Option (Ou × Env)) : Prop := match r with
  | some r => PSf X fx D σ H F r
  | none => False
def tSf (f : S) : TS := fun D σ H => ∃ env F, RelE X.K H env σ F ∧ PSo X fx D σ H F (f env)
def SS (st : Stmt) (f : S) : Prop := PS X st (tSf X fx f)
def SB (st : List Stmt) (f : S) : Prop := PSs X st (tSf X fx f)
end
section
variable {X : Cx} {fx : Nat → Bool}
theorem PS.imp {st : Stmt} {t t' : TS} (h : PS X st t) (k : ∀ D σ H, t' D σ H → t D σ H) : PS X st t' := ⟨fun pins s σ H D I q => h.run pins s σ H D I (k _ _ _ q)⟩
theorem PSs.imp {st : List Stmt} {t t' : TS} (h : PSs X st t) (k : ∀ D σ H, t' D σ H → t D σ H) : PSs X st t' := ⟨fun pins s σ H D I q => h.run pins s σ H D I (k _ _ _ q)⟩
/-- from a start to a later one -/
theorem PSf.weak {D : Ends} {σ σ1 : L2.St} {H H1 : Hp} {F F1 : Fp} {r : Ou × Env} (fi : Fix fx σ σ1) (st : Step F H H1) (sub : Sub F1 F H) (h : PSf X fx D σ H F r) : PSf X fx D σ1 H1 F1 r := by
  have g : ∀ {F' : Fp}, Sub F' F1 H1 → Sub F' F H := fun s x p => (s x p).elim (sub x) fun n => .inr (st.free n)
  obtain ⟨o, e⟩ := r
  cases o with
  | nx => exact fun σ' H' F' rel fi' st' sub' => h σ' H' F' rel (fi.trans fi') (st.trans st' sub) (g sub')
  | bk => exact fun σ' H' F' rel fi' st' sub' => h σ' H' F' rel (fi.trans fi') (st.trans st' sub) (g sub')
  | ct => exact fun σ' H' F' rel fi' st' sub' => h σ' H' F' rel (fi.trans fi') (st.trans st' sub) (g sub')
  | rt o => exact fun v σ' H' F1 F2 ro rel d fi' st' sub' => h v σ' H' F1 F2 ro rel d (fi.trans fi') (st.trans st' sub) (g sub')
theorem PSo.weak {D : Ends} {σ σ1 : L2.St} {H H1 : Hp} {F F1 : Fp} {r : Option (Ou × Env)} (fi : Fix fx σ σ1) (st : Step F H H1) (sub : Sub F1 F H) (h : PSo X fx D σ H F r) : PSo X fx D σ1 H1 F1 r := by
  cases r with
  | none => exact h
  | some r => exact PSf.weak fi st sub h
def seqS (f g : S) : S := fun e => match f e with
  | some (.nx, e') => g e'
  | r => r
def nilS : S := fun e => some (.nx, e)
theorem sb_nil : SB X fx [] nilS := PSs.imp pss_nil fun D σ H ⟨env, F, rel, h⟩ => h σ H F rel .refl .refl .refl
theorem seq_ok {f g : S} {D : Ends} {σ : L2.St} {H : Hp} (h : tSf X fx (seqS f g) D σ H) : tSeq (tSf X fx f) (tSf X fx g) D σ H := by
  obtain ⟨env, F, rel, h⟩ := h
  refine ⟨env, F, rel, ?_⟩
  unfold seqS at h
  cases q : f env with
  | none => rw [q] at h; exact h
  | some r =>
    rw [q] at h
    obtain ⟨o, e⟩ := r
    cases o with
    | nx => exact fun σ' H' F' rel' fi st sub => ⟨e, F', rel', PSo.weak fi st sub h⟩
    | bk => exact h
    | ct => exact h
    | rt o => exact h
theorem sb_cons {st : Stmt} {rest : List Stmt} {f g : S} (h1 : SS X fx st f) (h2 : SB X fx rest g) : SB X fx (st :: rest) (seqS f g) := PSs.imp (pss_cons h1 h2) fun _ _ _ h => seq_ok h
theorem sb_one {st : Stmt} {f : S} (h1 : SS X fx st f) : SB X fx [st] f := pss_one h1
def noS : S := fun _ => none
theorem ss_never {st : Stmt} : SS X fx st noS := PS.imp ps_never fun D σ H ⟨env, F, rel, h⟩ => h
theorem sb_never {st : List Stmt} : SB X fx st noS := PSs.imp pss_never fun D σ H ⟨env, F, rel, h⟩ => h
theorem ss_pass {pos : Pos} : SS X fx (.Pass pos) nilS := PS.imp ps_pass fun D σ H ⟨env, F, rel, h⟩ => h σ H F rel .refl .refl .refl
def bkS : S := fun e => some (.bk, e)
theorem ss_break {pos : Pos} : SS X fx (.Break pos) bkS := PS.imp ps_break fun D σ H ⟨env, F, rel, h⟩ => h σ H F rel .refl .refl .refl
def ctS : S := fun e => some (.ct, e)
theorem ss_continue {pos : Pos} : SS X fx (.Continue pos) ctS := PS.imp ps_continue fun D σ H ⟨env, F, rel, h⟩ => h σ H F rel .refl .refl .refl
theorem ss_doc {x j pos pos'} : SS X fx (.Expr (.Constant (.str x) j pos) pos') nilS := PS.imp ps_doc fun D σ H ⟨env, F, rel, h⟩ => h σ H F rel .refl .refl .refl
/-- an expression, then what is done with its value -/
def bndS {α : Type} (f : M α) (g : α → S) : S := fun e => match f e with
  | some (a, e') => g a e'
  | none => none
def PSk (X : Cx) (fx : Nat → Bool) (D : Ends) (σ : L2.St) (H : Hp) (F : Fp) {α : Type} (g : α → S) (a : α) (e : Env) : Prop := PSo X fx D σ H F (g a e)
theorem bndS_ok {α : Type} {f : M α} {g : α → S} {D : Ends} {σ : L2.St} {H : Hp} {F : Fp} {env : Env} (h : PSo X fx D σ H F (bndS f g env)) : Post (PSk X fx D σ H F g) (f env) := by
  unfold bndS at h
  cases q : f env with
  | none => rw [q] at h; exact h
  | some r => rw [q] at h; exact h
theorem Post.tof {f : M O} {P : O → Env → Prop} {σ : L2.St} {H : Hp} {Q : VK} {env : Env} {F : Fp} (rel : RelE X.K H env σ F) (h : Post P (f env))
    (c : ∀ o env' v H' F1 F2, RO X.K H' o v F1 → Aft X F H H' σ env' F1 F2 → P o env' → Q v H') : tOf X f σ H Q :=
  ⟨env, F, rel, h.mono fun o e' q v H' F1 F2 ro re dj st sub => c o e' v H' _ _ ro.dom ⟨re.dom, fun a p q => dj a p.1 q.1, st, fun a z => sub a (z.imp And.left And.left), fun a p => p.2, fun a p => p.2⟩ q⟩
def dropS : O → S := fun _ e => some (.nx, e)
theorem ss_expr {e : Expr} {f : M O} {pos : Pos} (he : SE X e f) (hs : swapsWith e none pos.line X.env = pure false := by rfl) : SS X fx (.Expr e pos) (bndS f dropS) :=
  PS.imp (ps_expr he hs) fun D σ H ⟨env, F, rel, h⟩ => Post.tof rel (bndS_ok h) fun o env1 v H1 F1 F2 ro a h => h σ H1 F2 a.rel .refl a.st fun x p => a.sub x (.inr p)
def retS : O → S := fun o e => some (.rt o, e)
theorem ss_ret {e : Expr} {f : M O} {pos : Pos} (he : SE X e f) : SS X fx (.Return (some e) pos) (bndS f retS) :=
  PS.imp (ps_ret he) fun D σ H ⟨env, F, rel, h⟩ => Post.tof rel (bndS_ok h) fun o env1 v H1 F1 F2 ro a h => h v σ H1 F1 F2 ro a.rel a.dj .refl a.st a.sub
theorem ss_retN {pos : Pos} : SS X fx (.Return none pos) (retS (.d .non)) := PS.imp ps_retN fun D σ H ⟨env, F, rel, h⟩ => h .non σ H nof F (.d .non) rel (fun _ p _ => p) .refl .refl fun x p => .inl (p.elim False.elim id)
def ifS (c : M Bool) (f g : S) : S := bndS c fun b => if b = true then f else g
theorem ss_if {c : Expr} {a b : List Stmt} {k : M Bool} {f g : S} {pos : Pos} (hc : BE X c k) (ha : SB X fx a f) (hb : SB X fx b g) : SS X fx (.If c a b pos) (ifS k f g) :=
  PS.imp (ps_if hc ha hb) fun D σ H ⟨env, F, rel, h⟩ => by
    refine ⟨env, F, rel, (bndS_ok h).mono fun b e q H' F2 rel' st sub => ?_⟩
    cases b with
    | true => exact iteT ⟨e, F2, rel', PSo.weak .refl st sub q⟩
    | false => exact iteF ⟨e, F2, rel', PSo.weak .refl st sub q⟩
/-! ### targets -/
abbrev G := O → Env → Option Env
variable (X fx) in
def tGf (g : G) : TG := fun v σ H Q => ∃ o env F1 F2, RO X.K H o v F1 ∧ RelE X.K H env σ F2 ∧ Disj F1 F2 ∧ ∃ env', g o env = some env' ∧ ∀ σ' H' F', RelE X.K H' env' σ' F' → Fix fx σ σ' → Step (Or F1 F2) H H' → Sub F' (Or F1 F2) H → Q σ' H'
variable (X fx) in
def TG' (e : Expr) (g : G) : Prop := PG X e (tGf X fx g)
theorem PG.imp {e : Expr} {t t' : TG} (h : PG X e t) (k : ∀ v σ H Q, t' v σ H Q → t v σ H Q) : PG X e t' := ⟨fun pins s σ H v u Q I r q => h.run pins s σ H v u Q I r (k _ _ _ _ q)⟩
def setV (i : Nat) : G := fun o e => if i < e.length then some (e.set i (some o)) else none
theorem Fix.set {σ : L2.St} {i : Nat} {v : Option V} (h : fx i = false) : Fix fx σ (σ.set i v) := ⟨List.length_set, fun j hj => by
  rw [List.getElem?_set_ne]
  rintro rfl
  rw [h] at hj; cases hj⟩
theorem setV_ok {i : Nat} {o : O} {env env' : Env} {σ : L2.St} {H : Hp} {v : V} {F1 F2 : Fp} (h : setV i o env = some env') (ro : RO X.K H o v F1) (rel : RelE X.K H env σ F2) (d : Disj F1 F2) : RelE X.K H env' (σ.set i (some v)) (Or F1 F2) := by
  unfold setV at h
  split at h
  · rename_i hi
    cases h
    exact rel.put (by rw [← rel.length]; exact hi) ro d
  · cases h
theorem tg_name (i : Nat) {x : Str} {pos : Pos} (hN : X.N.Nodup) (hi : X.N[i]? = some x := by rfl) (hx : Loc X.env.scope x := by first | exact .inl rfl | exact .inr rfl) (hfx : fx i = false := by rfl) (hf : X.fn x = true ∨ X.env.scope.names.lookup x = some .local := by first | exact .inl rfl | exact .inr rfl | assumption) : TG' X fx (.Name x pos) (setV i) :=
  PG.imp (pg_name hN hi hx hf) fun v σ H Q ⟨o, env, F1, F2, ro, rel, d, env', e, k⟩ => k _ H (Or F1 F2) (setV_ok e ro rel d) (.set hfx) .refl .refl
/-- several targets from a tuple -/
abbrev Gs := List D → Env → Option Env
variable (X fx) in
def tGs (g : Gs) : TGs := fun vs σ H Q => ∃ xs env F2, RDs X.K H xs vs ∧ RelE X.K H env σ F2 ∧ ∃ env', g xs env = some env' ∧ ∀ σ' H' F', RelE X.K H' env' σ' F' → Fix fx σ σ' → Step F2 H H' → Sub F' F2 H → Q σ' H'
variable (X fx) in
def TGs' (es : List Expr) (g : Gs) : Prop := PGs X es (tGs X fx g)
theorem PGs.imp {e : List Expr} {t t' : TGs} (h : PGs X e t) (k : ∀ v σ H Q, t' v σ H Q → t v σ H Q) : PGs X e t' := ⟨fun pins s σ H v u Q I r q => h.run pins s σ H v u Q I r (k _ _ _ _ q)⟩
def nilG : Gs := fun xs e => match xs with
  | [] => some e
  | _ => none
def consG (g : G) (gs : Gs) : Gs := fun xs e => match xs with
  | [] => none
  | x :: r => match g (.d x) e with
    | some e' => gs r e'
    | none => none
theorem tgs_nil : TGs' X fx [] nilG := PGs.imp pgs_nil fun vs σ H Q ⟨xs, env, F2, rd, rel, env', e, k⟩ => by
  cases rd with
  | nil => cases e; exact ⟨rfl, k σ H F2 rel .refl .refl .refl⟩
  | cons _ _ => cases e
theorem tgs_cons {e : Expr} {es : List Expr} {g : G} {gs : Gs} (h1 : TG' X fx e g) (h2 : TGs' X fx es gs) (hs : (assignEach (e :: es) X.env).map (·.2) = assign e X.env :: (assignEach es X.env).map (·.2) := by rfl) : TGs' X fx (e :: es) (consG g gs) :=
  PGs.imp (pgs_cons h1 h2 hs) fun vs σ H Q ⟨xs, env, F2, rd, rel, env', e, k⟩ => by
    cases rd with
    | nil => cases e
    | cons r1 r2 =>
      unfold consG at e
      dsimp only at e
      split at e
      · rename_i env1 e1
        refine ⟨_, _, rfl, _, env, nof, F2, .d r1, rel, fun _ p _ => p, env1, e1, fun σ1 H1 F3 rel1 fi st sub => ?_⟩
        have st' : Step F2 H H1 := st.mono fun x p => .inl (p.elim False.elim id)
        have sub' : Sub F3 F2 H := fun x p => (sub x p).imp (fun p => p.elim False.elim id) id
        refine ⟨_, env1, F3, r2.keep st'.pers, rel1, env', e, fun σ2 H2 F4 rel2 fi2 st2 sub2 => k σ2 H2 F4 rel2 (fi.trans fi2) (st'.trans st2 sub') (sub'.trans sub2 st')⟩
      · cases e
def tupG (gs : Gs) : G := fun o e => match asT o with
  | some xs => gs xs e
  | none => none
theorem tg_tup {es : List Expr} {k : Nat} {gs : Gs} {pos : Pos} {n : Nat} (hc : X.calm = true) (h : TGs' X fx es gs) (hl : ∀ xs e e', gs xs e = some e' → xs.length = n) (hn : (assignEach es X.env).length = n := by rfl) (hst : (assignEach es X.env).findIdx? (·.1) = none := by rfl) : TG' X fx (.Tuple es k pos) (tupG gs) :=
  PG.imp (pg_tup hc h hn hst) fun v σ H Q ⟨o, env, F1, F2, ro, rel, d, env', e, kk⟩ => by
    unfold tupG at e
    split at e
    · rename_i xs hx
      obtain ⟨a, vs, rfl, hs, rd⟩ := asT_ok ro hx
      refine ⟨a, vs, rfl, hs, by rw [← rd.length]; exact hl _ _ _ e, xs, env, F2, rd, rel, env', e, fun σ' H' F' rel' fi st sub => ?_⟩
      exact kk σ' H' F' rel' fi (st.mono fun x p => .inl (.inr p)) fun x p => (sub x p).imp .inr id
    · cases e
theorem gs_len0 : ∀ xs e e', nilG xs e = some e' → xs.length = 0 := fun xs e e' h => by cases xs with | nil => rfl | cons _ _ => cases h
theorem gs_lenS {g : G} {gs : Gs} {n : Nat} (hn : ∀ xs e e', gs xs e = some e' → xs.length = n) : ∀ xs e e', consG g gs xs e = some e' → xs.length = n + 1 := fun xs e e' h => by
  cases xs with
  | nil => cases h
  | cons x r =>
    unfold consG at h
    dsimp only at h
    split at h
    · rw [List.length_cons, hn _ _ _ h]
    · cases h
def asgS (g : G) : O → S := fun o e => match g o e with
  | some e' => some (.nx, e')
  | none => none
theorem asg_end {g : G} {D : Ends} {σ : L2.St} {H H1 : Hp} {F F1 F2 : Fp} {o : O} {env1 : Env} {v : V} (ro : RO X.K H1 o v F1) (a : Aft X F H H1 σ env1 F1 F2) (h : PSk X fx D σ H F (asgS g) o env1) : tGf X fx g v σ H1 D.nx := by
  have h' : PSo X fx D σ H F (asgS g o env1) := h
  unfold asgS at h'
  cases q : g o env1 with
  | none => rw [q] at h'; exact h'.elim
  | some env' =>
    rw [q] at h'
    exact ⟨o, env1, F1, F2, ro, a.rel, a.dj, env', q, fun σ' H' F' rel fi st sub => h' σ' H' F' rel fi (a.st.trans st a.sub) (Sub.trans a.sub sub a.st)⟩
theorem ss_asg {tg e : Expr} {f : M O} {g : G} {pos : Pos} (he : SE X e f) (hg : TG' X fx tg g) (hs : swapsWithSole [tg] e pos.line X.env = pure false := by rfl) (hw : swappedStores [tg] e X.env = pure none := by rfl)
    (h1 : (assignEach [tg] X.env).map (·.2) = [assign tg X.env] := by rfl) : SS X fx (.Assign [tg] e pos) (bndS f (asgS g)) :=
  PS.imp (ps_asg he hg hs hw h1) fun D σ H ⟨env, F, rel, h⟩ => Post.tof rel (bndS_ok h) fun o env1 v H1 F1 F2 ro a h => asg_end ro a h
theorem ss_set (i : Nat) {x : Str} {e : Expr} {f : M O} {pos pos' : Pos} (hN : X.N.Nodup) (he : SE X e f) (hi : X.N[i]? = some x := by rfl) (hx : Loc X.env.scope x := by first | exact .inl rfl | exact .inr rfl) (hfx : fx i = false := by rfl) (hs : swapsWith e (some (.Name x pos')) pos.line X.env = pure false := by rfl) (hf : X.fn x = true ∨ X.env.scope.names.lookup x = some .local := by first | exact .inl rfl | exact .inr rfl | assumption) :
    SS X fx (.Assign [.Name x pos'] e pos) (bndS f (asgS (setV i))) :=
  PS.imp (ps_set hN hi hx he hs hf) fun D σ H ⟨env, F, rel, h⟩ => Post.tof rel (bndS_ok h) fun o env1 v H1 F1 F2 ro a h => by
    obtain ⟨o', env', G1, G2, ro', rel', d', env2, e, k⟩ := asg_end ro a h
    exact k _ _ (Or G1 G2) (setV_ok e ro' rel' d') (.set hfx) .refl .refl
/-- a, b = x, y -/
def parS (i j : Nat) : List O → S := fun os e => match os with
  | [a, b] => if i < e.length ∧ j < e.length then some (.nx, (e.set i (some a)).set j (some b)) else none
  | _ => none
theorem Post.tlf {f : M (List O)} {P : List O → Env → Prop} {σ : L2.St} {H : Hp} {Q : List V → Hp → Prop} {env : Env} {F : Fp} (rel : RelE X.K H env σ F) (h : Post P (f env))
    (c : ∀ o env' v H' F1 F2, ROs X.K H' o v F1 → Aft X F H H' σ env' F1 F2 → P o env' → Q v H') : tLf X f σ H Q :=
  ⟨env, F, rel, h.mono fun o e' q v H' F1 F2 ro re dj st sub => c o e' v H' _ _ ro.dom ⟨re.dom, fun a p q => dj a p.1 q.1, st, fun a z => sub a (z.imp And.left And.left), fun a p => p.2, fun a p => p.2⟩ q⟩
theorem ss_par (i j : Nat) {x y : Str} {a b : Expr} {f : M (List O)} {px py pt : Pos} {kt k2 pt2} {pos : Pos} (hc : X.calm = true) (hN : X.N.Nodup) (ha : AE X [a, b] f) (hi : X.N[i]? = some x := by rfl) (hj : X.N[j]? = some y := by rfl) (hij : i ≠ j := by decide)
    (hx : X.env.scope.names.lookup x = some .local := by rfl) (hy : X.env.scope.names.lookup y = some .local := by rfl) (hfi : fx i = false := by rfl) (hfj : fx j = false := by rfl)
    (hw : swappedStores [.Tuple [.Name x px, .Name y py] kt pt] (.Tuple [a, b] k2 pt2) X.env = pure (some [x, y]) := by rfl)
    (hs : swapsWithSole [.Tuple [.Name x px, .Name y py] kt pt] (.Tuple [a, b] k2 pt2) pos.line X.env = pure false := by rfl) :
    SS X fx (.Assign [.Tuple [.Name x px, .Name y py] kt pt] (.Tuple [a, b] k2 pt2) pos) (bndS f (parS i j)) :=
  PS.imp (ps_par hc hN hi hj hij hx hy ha hw hs) fun D σ H ⟨env, F, rel, h⟩ => Post.tlf rel (bndS_ok h) fun os env1 vs H1 F1 F2 ro q h => by
    have h' : PSo X fx D σ H F (parS i j os env1) := h
    unfold parS at h'
    split at h'
    · rename_i o1 o2
      split at h'
      · rename_i hl
        cases ro with
        | cons G1 G2 r1 r2 s1 s2 d =>
          cases r2 with
          | cons G3 G4 r3 r4 s3 s4 d' =>
            cases r4
            rename_i v w
            refine ⟨v, w, rfl, ?_⟩
            have e1 := q.rel.put (i := i) (by rw [← q.rel.length]; exact hl.1) r1 fun x m n => q.dj x (s1 x m) n
            have e2 := e1.put (i := j) (by rw [List.length_set, ← q.rel.length]; exact hl.2) r3 fun x m n => n.elim (fun n => d x n (s3 x m)) fun n => q.dj x (s2 x (s3 x m)) n
            exact h' _ H1 _ e2 ((Fix.set hfi).trans (Fix.set hfj)) q.st fun x m => m.elim (fun m => q.sub x (.inl (s2 x (s3 x m)))) fun m => m.elim (fun m => q.sub x (.inl (s1 x m))) fun m => q.sub x (.inr m)
      · exact h'.elim
    · exact h'.elim
def par3S (i j l : Nat) : List O → S := fun os e => match os with
  | [a, b, c] => if i < e.length ∧ j < e.length ∧ l < e.length then some (.nx, ((e.set i (some a)).set j (some b)).set l (some c)) else none
  | _ => none
theorem ss_par3 (i j l : Nat) {x y z : Str} {a b c : Expr} {f : M (List O)} {px py pz pt pos : Pos} {kt k2 pt2} (hc : X.calm = true) (hN : X.N.Nodup) (ha : AE X [a, b, c] f) (hi : X.N[i]? = some x := by rfl) (hj : X.N[j]? = some y := by rfl) (hl : X.N[l]? = some z := by rfl) (hij : i ≠ j := by decide) (hil : i ≠ l := by decide) (hjl : j ≠ l := by decide)
    (hx : X.env.scope.names.lookup x = some .local := by rfl) (hy : X.env.scope.names.lookup y = some .local := by rfl) (hz : X.env.scope.names.lookup z = some .local := by rfl) (hfi : fx i = false := by rfl) (hfj : fx j = false := by rfl) (hfl : fx l = false := by rfl)
    (hw : swappedStores [.Tuple [.Name x px, .Name y py, .Name z pz] kt pt] (.Tuple [a, b, c] k2 pt2) X.env = pure (some [x, y, z]) := by rfl)
    (hs : swapsWithSole [.Tuple [.Name x px, .Name y py, .Name z pz] kt pt] (.Tuple [a, b, c] k2 pt2) pos.line X.env = pure false := by rfl) :
    SS X fx (.Assign [.Tuple [.Name x px, .Name y py, .Name z pz] kt pt] (.Tuple [a, b, c] k2 pt2) pos) (bndS f (par3S i j l)) :=
  PS.imp (ps_par3 hc hN hi hj hl hij hil hjl hx hy hz ha hw hs) fun D σ H ⟨env, F, rel, h⟩ => Post.tlf rel (bndS_ok h) fun os env1 vs H1 F1 F2 ro q h => by
    have h' : PSo X fx D σ H F (par3S i j l os env1) := h
    unfold par3S at h'
    split at h'
    · rename_i o1 o2 o3
      split at h'
      · rename_i hl
        cases ro with
        | cons G1 G2 r1 r2 s1 s2 d =>
          cases r2 with
          | cons G3 G4 r3 r4 s3 s4 d' =>
            cases r4 with
            | cons G5 G6 r5 r6 s5 s6 d'' =>
              cases r6
              rename_i v w u
              refine ⟨v, w, u, rfl, ?_⟩
              have e1 := q.rel.put (i := i) (by rw [← q.rel.length]; exact hl.1) r1 fun x m n => q.dj x (s1 x m) n
              have e2 := e1.put (i := j) (by rw [List.length_set, ← q.rel.length]; exact hl.2.1) r3 fun x m n => n.elim (fun n => d x n (s3 x m)) fun n => q.dj x (s2 x (s3 x m)) n
              have e3 := e2.put (i := l) (by rw [List.length_set, List.length_set, ← q.rel.length]; exact hl.2.2) r5 fun x m n => n.elim (fun n => d' x n (s5 x m)) fun n => n.elim (fun n => d x n (s4 x (s5 x m))) fun n => q.dj x (s2 x (s4 x (s5 x m))) n
              exact h' _ H1 _ e3 (((Fix.set hfi).trans (Fix.set hfj)).trans (Fix.set hfl)) q.st fun x m => m.elim (fun m => q.sub x (.inl (s2 x (s4 x (s5 x m))))) fun m => m.elim (fun m => q.sub x (.inl (s2 x (s3 x m)))) fun m => m.elim (fun m => q.sub x (.inl (s1 x m))) fun m => q.sub x (.inr m)
      · exact h'.elim
    · exact h'.elim
/-! ### xs[i] = e, d[k] = e -/
/-- the changed thing; the key is not kept -/
def uSet : O → O → O → Option O := fun x i o => match x, i with
  | .lst xs, .d (.int n) => match ixN xs.length n with
    | some j => some (.lst (xs.set j o))
    | none => none
  | .dct m, y => match keyO y with
    | some k => if m.length < sizeLine then some (.dct (setK m k o)) else none
    | none => none
  | _, _ => none
end
end TL

set_option maxHeartbeats 1000000
namespace TL
open PySem L2

/-! ### what is walked -/
/-- at each turn i the i-th of ds comes -/
def ItD (X : Cx) (J : It) (ds : List D) (G : Hp → Prop) : Prop := ∃ Y, Walk J ds.length G Y ∧ ∀ i H x H', i < ds.length → G H → Y i H x H' → ∃ d, ds[i]? = some d ∧ RD X.K H' d x ∧ Step nof H H'
section
variable {X : Cx}
def PIf (X : Cx) (F : Fp) (σ : L2.St) (H : Hp) (R : It → Hp → Prop) (r : List D × (O × Option Nat)) (env : Env) : Prop :=
  ∀ J H' vh Fh F2 G, RO X.K H' r.2.1 vh Fh → (∀ i, r.2.2 = some i → σ[i]? = some (some vh)) → ItD X J r.1 G → G H' → (∀ H1 H2 F', G H1 → Step F' H1 H2 → Disj Fh F' → G H2) → RelE X.K H' env σ F2 → Disj Fh F2 → Step F H H' → Sub (Or Fh F2) F H → Dom Fh H' → R J H'
def tIf (X : Cx) (f : M (List D × (O × Option Nat))) : TI := fun σ H R => ∃ env F, RelE X.K H env σ F ∧ Post (PIf X F σ H R) (f env)
variable (X) in
def IE (tg e : Expr) (f : M (List D × (O × Option Nat))) : Prop := PI X tg e (tIf X f)
theorem PI.imp {tg e : Expr} {t t' : TI} (h : PI X tg e t) (k : ∀ σ H R, t' σ H R → t σ H R) : PI X tg e t' := ⟨fun pins s σ H R I q => h.run pins s σ H R I (k _ _ _ q)⟩
def PIv (X : Cx) (tg : Expr) (r : V → Hp → (It → Hp → Prop) → Prop) : Prop :=
  ∀ (pins : List (Addr × Obj)) (s : Shared) (σ : L2.St) (H : Hp) (x : V) (v : Value) (R : It → Hp → Prop), Inv X pins σ H s → RelV x v → r x H R → wpAny (model X.prog X.w) X.A (pyIter v) (PIE X pins σ tg R) X.xe s
theorem pi_val {tg e : Expr} {te : TE} {r : V → Hp → (It → Hp → Prop) → Prop} (hr : PIv X tg r) (he : PE X e te) : PI X tg e (fun σ H R => te σ H fun x H1 => r x H1 R) :=
  ⟨fun pins s σ H R I h => thn (he.run pins s σ H _ I h) fun v s1 ⟨x, H1, I1, r1, q⟩ => hr pins s1 σ H1 x v R I1 r1 q⟩
theorem PIv.or {tg : Expr} {r r' : V → Hp → (It → Hp → Prop) → Prop} (h : PIv X tg r) (h' : PIv X tg r') : PIv X tg (fun x H R => r x H R ∨ r' x H R) := fun pins s σ H x v R I rv q => q.elim (h pins s σ H x v R I rv) (h' pins s σ H x v R I rv)
theorem pv_list {tg : Expr} : PIv X tg fun x H R => ∃ a xs, x = .ref a ∧ SqL X.K H a xs ∧ R (Itl X.K a) H := by
  intro pins s1 σ H1 x v R I1 rv ⟨a, xs, e, hq, q⟩
  subst e
  cases rv
  obtain ⟨its, rv, p, hz⟩ := I1.list hq
  refine wpAny_pyIter_list p.isList ?_
  refine ⟨s1.heap.objs.size, [s1.heap.objs.size], _, _, H1, rfl, I1.kept (t' := s1.toks) fun b o e => Heap.get?_push_of_some _ e, turn_list a _, ⟨_, Heap.get?_push_size _ rfl, rfl, rfl⟩, fun b hb => ?_, q⟩
  have e : b = s1.heap.objs.size := by simpa using hb
  subst e
  exact I1.fpOk (Nat.le_refl _) (I1.hok.fresh (Nat.le_refl _))
theorem pv_tup {tg : Expr} : PIv X tg fun x H R => ∃ a xs, x = .ref a ∧ SqT X.K H a xs ∧ R (Itt X.K a) H := by
  intro pins s1 σ H1 x v R I1 rv ⟨a, xs, e, hq, q⟩
  subst e
  cases rv
  obtain ⟨its, rv, p, hz⟩ := I1.tuple hq
  refine wpAny_pyIter_tuple (show s1.heap.IsTuple a its.toArray from p) ?_
  refine ⟨s1.heap.objs.size, [s1.heap.objs.size], _, _, H1, rfl, I1.kept (t' := s1.toks) fun b o e => Heap.get?_push_of_some _ e, turn_tuple a _, ⟨_, Heap.get?_push_size _ rfl, rfl, rfl⟩, fun b hb => ?_, q⟩
  have e : b = s1.heap.objs.size := by simpa using hb
  subst e
  exact I1.fpOk (Nat.le_refl _) (I1.hok.fresh (Nat.le_refl _))
theorem pv_str {tg : Expr} : PIv X tg fun v H R => ∃ x, v = .str x ∧ R (Its x) H := by
  intro pins s1 σ H1 y v R I1 r1 ⟨x, ex, q⟩
  subst ex
  obtain ⟨t, rfl⟩ := r1
  cases ha : x.cps.all (· < 128)
  · exact wpAny_pyIter_wide ha (pi_one (tk := s1.toks) I1 _ (turn_str _ x t "str_iterator" (.inr rfl)) ⟨_, Heap.get?_push_size _ rfl, rfl, rfl⟩ q)
  · exact wpAny_pyIter_ascii ha (pi_one (tk := s1.toks) I1 _ (turn_str _ x t "str_ascii_iterator" (.inl rfl)) ⟨_, Heap.get?_push_size _ rfl, rfl, rfl⟩ q)
theorem pv_keys {tg : Expr} : PIv X tg fun x H R => ∃ d o kvs, x = .ref d ∧ H d = some (.frz o (.dK kvs)) ∧ R (Itk d o kvs) H := by
  intro pins s1 σ H1 x u R I1 rx ⟨d, o, kvs, ex, hd, q⟩
  subst ex
  obtain rfl : u = Value.ref d := rx
  obtain ⟨hs, hgd, hx, es, ep, vs, hdt, hsz, kv, hm⟩ := I1.frzK hd
  refine iter_keys hs hgd hx hdt (pi_one (tk := s1.toks) I1 _ (turn_keys _ hdt) ⟨_, Heap.get?_push_size _ rfl, rfl, ?_⟩ q)
  rw [hsz] <;> rfl
/-- the items that come -/
def chars (z : Str) : List D := z.cps.toList.map fun c => .str ⟨#[c]⟩
def itO : O → Option (List D)
  | .d (.str z) => some (chars z)
  | .d (.dct m) => some (m.map fun p => kD p.1)
  | o => asQ o
theorem itd_seq {J : It} {ds : List D} {vs : List V} {G : Hp → Prop} (w : Walk J vs.length G (YAt vs)) (h : ∀ H, G H → RDs X.K H ds vs) (hl : ds.length = vs.length) : ItD X J ds G := by
  refine ⟨YAt vs, by rw [hl]; exact w, fun i H x H' hi g y => ?_⟩
  obtain ⟨e, hx⟩ := y
  subst e
  obtain ⟨d, hd⟩ : ∃ d, ds[i]? = some d := ⟨ds[i], by simp [hi]⟩
  obtain ⟨v, e2, r⟩ := (h _ g).get hd
  rw [hx] at e2; cases e2
  exact ⟨d, hd, r, .refl⟩
/-- what stands while only others are changed -/
def Stable (Fh : Fp) (G : Hp → Prop) : Prop := ∀ H1 H2 F', G H1 → Step F' H1 H2 → Disj Fh F' → G H2
theorem asL_st {o : O} {v : V} {H : Hp} {Fh : Fp} {xs : List D} (r : RO X.K H o v Fh) (e : asL o = some xs) : ∃ a vs, ∃ G : Hp → Prop, v = .ref a ∧ G H ∧ (∀ H, G H → SqL X.K H a vs ∧ RDs X.K H xs vs) ∧ Stable Fh G := by
  cases o with
  | d x =>
    cases x with
    | lst ys =>
      cases e
      cases r.od with
      | lst h q => exact ⟨_, _, fun H => H _ = some (.frz _ (.lst _)) ∧ RDs X.K H xs _, rfl, ⟨h, q⟩, fun H g => ⟨.inl (.inr ⟨_, g.1⟩), g.2⟩, fun H1 H2 F' g st d => ⟨st.pers _ _ g.1 fun z => z, g.2.keep st.pers⟩⟩
    | scr ys =>
      cases e
      cases r.od with
      | scr h q => exact ⟨_, _, fun H => FrzL X.K H _ _ ∧ RDs X.K H xs _, rfl, ⟨h, q⟩, fun H g => ⟨g.1.sq, g.2⟩, fun H1 H2 F' g st d => ⟨g.1.keep st.pers, g.2.keep st.pers⟩⟩
    | _ => cases e
  | lst os =>
    cases r with
    | lst h f q =>
      exact ⟨_, _, fun H => H _ = some (.lst _) ∧ RDs X.K H xs _, rfl, ⟨h, dOnly_ok q e⟩, fun H g => ⟨.of g.1, g.2⟩, fun H1 H2 F' g st d => ⟨st.keep _ _ g.1 fun z => d _ f z, g.2.keep st.pers⟩⟩
  | _ => cases e
theorem asT_st {o : O} {v : V} {H : Hp} {Fh : Fp} {xs : List D} (r : RO X.K H o v Fh) (e : asT o = some xs) : ∃ a vs, ∃ G : Hp → Prop, v = .ref a ∧ G H ∧ (∀ H, G H → SqT X.K H a vs ∧ RDs X.K H xs vs) ∧ Stable nof G := by
  obtain ⟨a, vs, rfl, h, rd⟩ := asT_ok r e
  exact ⟨a, vs, fun H => SqT X.K H a vs ∧ RDs X.K H xs vs, rfl, ⟨h, rd⟩, fun _ g => g, fun H1 H2 F' g st d => ⟨SqT.keepP g.1 st.pers, g.2.keep st.pers⟩⟩
theorem itv {o : O} {ds : List D} {v : V} {H : Hp} {Fh : Fp} {R : It → Hp → Prop} (ro : RO X.K H o v Fh) (e : itO o = some ds) (k : ∀ J G, ItD X J ds G → G H → Stable Fh G → R J H) :
    ((∃ a xs, v = .ref a ∧ SqL X.K H a xs ∧ R (Itl X.K a) H) ∨ (∃ a xs, v = .ref a ∧ SqT X.K H a xs ∧ R (Itt X.K a) H)) ∨ (∃ x, v = .str x ∧ R (Its x) H) ∨ ∃ d o kvs, v = .ref d ∧ H d = some (.frz o (.dK kvs)) ∧ R (Itk d o kvs) H := by
  have seq : asQ o = some ds → ((∃ a xs, v = .ref a ∧ SqL X.K H a xs ∧ R (Itl X.K a) H) ∨ (∃ a xs, v = .ref a ∧ SqT X.K H a xs ∧ R (Itt X.K a) H)) := fun e => by
    unfold asQ at e
    cases q : asT o with
    | some ys =>
      rw [q] at e; cases e
      obtain ⟨a, vs, G, rfl, g, hg, st⟩ := asT_st ro q
      exact .inr ⟨a, vs, rfl, (hg _ g).1, k _ G (itd_seq (Walk.mono walk_tup (fun _ h => (hg _ h).1) fun _ _ _ _ _ _ h => h) (fun _ h => (hg _ h).2) (hg _ g).2.length) g fun H1 H2 F' g s _ => st H1 H2 F' g s fun _ z => z.elim⟩
    | none =>
      rw [q] at e
      obtain ⟨a, vs, G, rfl, g, hg, st⟩ := asL_st ro e
      exact .inl ⟨a, vs, rfl, (hg _ g).1, k _ G (itd_seq (Walk.mono walk_list (fun _ h => (hg _ h).1) fun _ _ _ _ _ _ h => h) (fun _ h => (hg _ h).2) (hg _ g).2.length) g st⟩
  unfold itO at e
  split at e
  · rename_i z
    cases e
    cases ro.od
    refine .inr (.inl ⟨z, rfl, k _ (fun _ => True) ⟨_, by show Walk _ (chars z).length _ _; unfold chars; rw [List.length_map, Array.length_toList]; exact walk_str, fun i H x H' hi _ y => ?_⟩ trivial fun _ _ _ g _ _ => g⟩)
    obtain ⟨e, c, hc, ex⟩ := y
    subst e ex
    refine ⟨.str ⟨#[c]⟩, ?_, .str _, .refl⟩
    unfold chars
    rw [List.getElem?_map, Array.getElem?_toList, hc]
    rfl
  · rename_i m
    cases e
    cases ro.od with
    | @dct a ob kvs m h e2 r =>
      refine .inr (.inr ⟨a, ob, kvs, rfl, h, k _ (fun H => H a = some (.frz ob (.dK kvs))) ⟨fun i H x H' => H' = H ∧ ∃ k v, kvs[i]? = some (k, v) ∧ x = kV k, ?_, fun i H x H' hi _ y => ?_⟩ h fun H1 H2 F' g st _ => st.pers _ _ g fun z => z⟩)
      · rw [List.length_map, show m.length = kvs.length by have := congrArg List.length e2; simpa using this.symm]
        exact walk_keys
      · obtain ⟨e, kk, v, hk, ex⟩ := y
        subst e ex
        refine ⟨kD kk, ?_, kD_ok kk, .refl⟩
        have q : (kvs.map (·.1))[i]? = some kk := by rw [List.getElem?_map, hk]; rfl
        rw [e2, List.getElem?_map] at q
        rw [List.getElem?_map]
        cases q2 : m[i]? with
        | none => rw [q2] at q; cases q
        | some p => rw [q2] at q; cases q; rfl
  · exact .inl (seq e)
def cIt (f : M (O × Option Nat)) : M (List D × (O × Option Nat)) := bnd f fun x => bnd (lift (itO x.1)) fun ds => ret (ds, x)
theorem ie_val {tg e : Expr} {f : M (O × Option Nat)} (he : OE X e f) : IE X tg e (cIt f) :=
  PI.imp (pi_val ((pv_list.or pv_tup).or (pv_str.or pv_keys)) he) fun σ H R ⟨env, F, rel, h⟩ => by
    refine tOp_bind rel h fun x env1 v H1 F1 F2 ro a g1 h => ?_
    obtain ⟨ds, e, h⟩ := h.lift
    exact itv ro e fun J G it g st => h J H1 v F1 F2 G ro g1 it g st a.rel a.dj a.st a.sub a.d1
/-- range -/
def rng (lo hi : Int) : List D := (List.range (hi - lo).toNat).map fun i => .int (lo + (i : Nat))
theorem itd_rng {lo hi : Int} : ItD X (Itr lo (hi - lo).toNat) (rng lo hi) (fun _ => True) := by
  refine ⟨_, by unfold rng; rw [List.length_map, List.length_range]; exact walk_range, fun i H x H' hi' _ y => ?_⟩
  obtain ⟨e, ex⟩ := y
  subst e ex
  unfold rng at hi' ⊢
  rw [List.length_map, List.length_range] at hi'
  exact ⟨.int (lo + i), by rw [List.getElem?_map, List.getElem?_range hi']; rfl, .int _, .refl⟩
def noneO : O × Option Nat := (.d .non, none)
def cRng1 (f : M (List O)) : M (List D × (O × Option Nat)) := bnd f fun os => lift (match os with
  | [.d (.int j)] => if -(2 ^ 62) ≤ j ∧ j < 2 ^ 62 then some (rng 0 j, noneO) else none
  | _ => none)
theorem ie_range1 {tg a : Expr} {f : M (List O)} {p pos : Pos} (hg : Gl X "range") (hm : X.mg "range" = none) (ha : AE X [a] f) (hs : starEach [a] X.env = [(false, eval a X.env)] := by rfl) : IE X tg (.Call (.Name "range" p) [a] [] pos) (cRng1 f) :=
  PI.imp (pi_range1 hg hm ha hs) fun σ H R ⟨env, F, rel, h⟩ => by
    refine tLf_bind rel h fun os env1 vs H1 F1 F2 ro a h => ?_
    split at h
    · rename_i j
      split at h
      · rename_i hj
        cases ro with
        | cons G1 G2 r1 r2 _ _ _ =>
          cases r2
          cases r1.od
          refine ⟨j, rfl, hj.1, hj.2, ?_⟩
          have z : (j - 0).toNat = j.toNat := by omega
          have w := itd_rng (X := X) (lo := 0) (hi := j)
          rw [z] at w
          exact h _ H1 .non nof F2 _ (.d .non) (fun _ e => nomatch e) w trivial (fun _ _ _ _ _ _ => trivial) a.rel (fun _ p _ => p) a.st (fun x p => p.elim False.elim fun p => a.sub x (.inr p)) fun _ p => p.elim
      · exact h.elim
    · exact h.elim
def cRng2 (f : M (List O)) : M (List D × (O × Option Nat)) := bnd f fun os => lift (match os with
  | [.d (.int i), .d (.int j)] => if -(2 ^ 62) ≤ i ∧ i < 2 ^ 62 ∧ -(2 ^ 62) ≤ j ∧ j < 2 ^ 62 then some (rng i j, noneO) else none
  | _ => none)
theorem ie_range2 {tg a b : Expr} {f : M (List O)} {p pos : Pos} (hg : Gl X "range") (hm : X.mg "range" = none) (ha : AE X [a, b] f) (hs : starEach [a, b] X.env = [(false, eval a X.env), (false, eval b X.env)] := by rfl) (hs2 : starEach [b] X.env = [(false, eval b X.env)] := by rfl) : IE X tg (.Call (.Name "range" p) [a, b] [] pos) (cRng2 f) :=
  PI.imp (pi_range2 hg hm ha hs hs2) fun σ H R ⟨env, F, rel, h⟩ => by
    refine tLf_bind rel h fun os env1 vs H1 F1 F2 ro a h => ?_
    split at h
    · rename_i i j
      split at h
      · rename_i hj
        cases ro with
        | cons G1 G2 r1 r2 _ _ _ =>
          cases r2 with
          | cons G3 G4 r3 r4 _ _ _ =>
            cases r4
            cases r1.od
            cases r3.od
            exact ⟨i, j, rfl, hj, h _ H1 .non nof F2 _ (.d .non) (fun _ e => nomatch e) itd_rng trivial (fun _ _ _ _ _ _ => trivial) a.rel (fun _ p _ => p) a.st (fun x p => p.elim False.elim fun p => a.sub x (.inr p)) fun _ p => p.elim⟩
      · exact h.elim
    · exact h.elim
/-- pairs -/
def pairs (xs ys : List D) : List D := List.zipWith (fun x y => .tup [x, y]) xs ys
theorem itd_pair {J : It} {xs ys : List D} {vs ws : List V} {G : Hp → Prop} (w : Walk J (min vs.length ws.length) G (YPair (fun i => vs[i]?) (fun i => ws[i]?))) (h : ∀ H, G H → RDs X.K H xs vs ∧ RDs X.K H ys ws) (h1 : xs.length = vs.length) (h2 : ys.length = ws.length) : ItD X J (pairs xs ys) G := by
  refine ⟨_, by unfold pairs; rw [List.length_zipWith, h1, h2]; exact w, fun i H x H' hi g y => ?_⟩
  obtain ⟨T, v, u, rfl, hT, rfl, e1, e2⟩ := y
  unfold pairs at hi ⊢
  rw [List.length_zipWith] at hi
  have l1 : i < xs.length := by omega
  have l2 : i < ys.length := by omega
  obtain ⟨r1, r2⟩ := h _ g
  obtain ⟨v', q1, p1⟩ := r1.get (i := i) (x := xs[i]) (by simp [l1])
  obtain ⟨u', q2, p2⟩ := r2.get (i := i) (x := ys[i]) (by simp [l2])
  have e1' : vs[i]? = some v := e1
  have e2' : ws[i]? = some u := e2
  obtain rfl : v = v' := Option.some.inj (e1'.symm.trans q1)
  obtain rfl : u = u' := Option.some.inj (e2'.symm.trans q2)
  have st : Step nof H (upd H T (.tup [v, u])) := .new hT
  refine ⟨.tup [xs[i], ys[i]], by simp [List.getElem?_zipWith, l1, l2], .tup (.of upd_same) (.cons (p1.keep st.pers) (.cons (p2.keep st.pers) .nil)), st⟩
theorem walk_zipT {K : PySem.W.Frag} {a b : Addr} {xs ys : List V} : Walk (RZ.ItzT K a b) (min xs.length ys.length) (fun H => SqT K H a xs ∧ SqT K H b ys) (YPair (fun i => xs[i]?) (fun i => ys[i]?)) := by
  refine ⟨fun i _ hi q => ?_, fun _ q => ⟨xs, ys, q.1, q.2, by omega⟩, fun i H v H' _ q y => ?_⟩
  · have h1 : i < xs.length := by omega
    have h2 : i < ys.length := by omega
    exact ⟨xs, ys, xs[i], ys[i], q.1, q.2, by simp [h1], by simp [h2]⟩
  · obtain ⟨T, x, z, h1, h2, h3, h4, h5⟩ := y
    exact ⟨T, x, z, h1, h2, h3, h4 xs q.1, h5 ys q.2⟩
/-- zip of two lists or two tuples that stay -/
def asLd : O → Option (List D)
  | .d (.lst xs) => some xs
  | .d (.scr xs) => some xs
  | _ => none
theorem asLd_st {o : O} {v : V} {H : Hp} {Fh : Fp} {xs : List D} (r : RO X.K H o v Fh) (e : asLd o = some xs) : ∃ a vs, ∃ G : Hp → Prop, v = .ref a ∧ G H ∧ (∀ H, G H → SqL X.K H a vs ∧ RDs X.K H xs vs) ∧ Stable nof G := by
  cases o with
  | d x =>
    have r' : RO X.K H (.d x) v nof := .d r.od
    refine asL_st r' ?_
    cases x <;> first | exact e | cases e
  | _ => cases e
def zipO : O → O → Option (List D) := fun x y => match asT x, asT y with
  | some a, some b => some (pairs a b)
  | _, _ => match asLd x, asLd y with
    | some a, some b => some (pairs a b)
    | _, _ => none
def cZip (f : M (List O)) : M (List D × (O × Option Nat)) := bnd f fun os => lift (match os with
  | [x, y] => match zipO x y with
    | some ds => some (ds, noneO)
    | none => none
  | _ => none)
theorem ie_zip {e e2 : Expr} {f : M (List O)} {p pos tpos : Pos} {elts : List Expr} {kk : Nat} (hg : Gl X "zip") (hm : X.mg "zip" = none) (ha : AE X [e, e2] f)
    (hs : starEach [e, e2] X.env = (false, eval e X.env) :: starEach [e2] X.env := by rfl) (hpl : (backTo pos (starEach [e2] X.env)).any (·.1) = false := by rfl) : IE X (.Tuple elts kk tpos) (.Call (.Name "zip" p) [e, e2] [] pos) (cZip f) :=
  PI.imp (RZ.pi_zipA hg hm ha hs hpl) fun σ H R ⟨env, F, rel, h⟩ => by
    refine tLf_bind rel h fun os env1 vs H1 F1 F2 ro a h => ?_
    split at h
    · rename_i x y
      cases ro with
      | cons G1 G2 r1 r2 _ _ _ =>
        cases r2 with
        | cons G3 G4 r3 r4 _ _ _ =>
          cases r4
          cases q : zipO x y with
          | none => rw [q] at h; exact h.elim
          | some ds =>
            rw [q] at h
            have fin : ∀ J G, ItD X J ds G → G H1 → Stable nof G → R J H1 := fun J G it g st =>
              h J H1 .non nof F2 G (.d .non) (fun _ e => nomatch e) it g st a.rel (fun _ p _ => p) a.st (fun x p => p.elim False.elim fun p => a.sub x (.inr p)) fun _ p => p.elim
            unfold zipO at q
            split at q
            · rename_i xs ys q1 q2
              cases q
              obtain ⟨a1, vs1, Ga, rfl, g1, hg1, st1⟩ := asT_st r1 q1
              obtain ⟨a2, vs2, Gb, rfl, g2, hg2, st2⟩ := asT_st r3 q2
              exact ⟨a1, a2, vs1, vs2, rfl, .inr ⟨(hg1 _ g1).1, (hg2 _ g2).1, fin _ (fun H => Ga H ∧ Gb H) (itd_pair (walk_zipT.mono (fun H h => ⟨(hg1 H h.1).1, (hg2 H h.2).1⟩) fun _ _ _ _ _ _ h => h) (fun H h => ⟨(hg1 H h.1).2, (hg2 H h.2).2⟩) (hg1 _ g1).2.length (hg2 _ g2).2.length) ⟨g1, g2⟩
                fun H1 H2 F' g s d => ⟨st1 H1 H2 F' g.1 s d, st2 H1 H2 F' g.2 s d⟩⟩⟩
            · split at q
              · rename_i xs ys q1 q2
                cases q
                obtain ⟨a1, vs1, Ga, rfl, g1, hg1, st1⟩ := asLd_st r1 q1
                obtain ⟨a2, vs2, Gb, rfl, g2, hg2, st2⟩ := asLd_st r3 q2
                exact ⟨a1, a2, vs1, vs2, rfl, .inl ⟨(hg1 _ g1).1, (hg2 _ g2).1, fin _ (fun H => Ga H ∧ Gb H) (itd_pair ((walk_zip rfl).mono (fun H h => ⟨(hg1 H h.1).1, (hg2 H h.2).1⟩) fun _ _ _ _ _ _ h => h) (fun H h => ⟨(hg1 H h.1).2, (hg2 H h.2).2⟩) (hg1 _ g1).2.length (hg2 _ g2).2.length) ⟨g1, g2⟩
                  fun H1 H2 F' g s d => ⟨st1 H1 H2 F' g.1 s d, st2 H1 H2 F' g.2 s d⟩⟩⟩
              · cases q
    · exact h.elim
end
end TL

set_option maxHeartbeats 1000000
namespace TL
open PySem L2

section
variable {X : Cx} {fx : Nat → Bool}
/-! ### xs[i] = e, d[k] = e -/
variable (X) in
def SetS (u : O → O → O → Option O) : Prop :=
  ∀ (pins : List (Addr × Obj)) (s : Shared) (σ : L2.St) (H : Hp) (o i v : V) (ov iv uv : Value) (ox oi oo o' : O) (F1 F2 F3 : Fp), Inv X pins σ H s → RelV o ov → RelV i iv → RelV v uv → RO X.K H ox o F1 → RO X.K H oi i F2 → RO X.K H oo v F3 → Disj F1 F3 → u ox oi oo = some o' →
    wpAny (model X.prog X.w) X.A (setItem ov iv uv) (fun _ s' => ∃ H' F', Inv X pins σ H' s' ∧ RO X.K H' o' o F' ∧ Step (Or F1 F3) H H' ∧ Sub F' (Or F1 F3) H) X.xe s
theorem ROs.set {K : PySem.W.Frag} {H : Hp} : ∀ {os : List O} {vs : List V} {F G : Fp} {j : Nat} {o : O} {v : V}, ROs K H os vs F → RO K H o v G → Disj F G → ROs K H (os.set j o) (vs.set j v) (Or F G)
  | _, _, _, _, _, _, _, .nil, _, _ => .nil
  | _, _, F, G, 0, o, v, .cons F1 F2 h r a b d, ro, dj => .cons G F2 ro r (fun _ p => .inr p) (fun x p => .inl (b x p)) fun x p q => dj x (b x q) p
  | _, _, F, G, j + 1, o, v, .cons F1 F2 h r a b d, ro, dj => .cons F1 (Or F2 G) h (ROs.set (j := j) r ro fun x p q => dj x (b x p) q) (fun x p => .inl (a x p)) (fun x p => p.elim (fun p => .inl (b x p)) .inr) fun x p q => q.elim (d x p) fun q => dj x (a x p) q
theorem setK_ro {K : PySem.W.Frag} {H : Hp} {k : Key} {o : O} {v : V} {G : Fp} : ∀ {m : List (Key × O)} {kvs : List (Key × V)} {F : Fp}, kvs.map (·.1) = m.map (·.1) → (kvs.map (·.1)).Nodup → ROs K H (m.map (·.2)) (kvs.map (·.2)) F → RO K H o v G → Disj F G →
    (m.map fun p => if p.1 = k then (p.1, o) else p).map (·.1) = m.map (·.1) ∧ ROs K H ((m.map fun p => if p.1 = k then (p.1, o) else p).map (·.2)) ((kvs.map fun p => if p.1 = k then (p.1, v) else p).map (·.2)) (Or F G)
  | [], [], F, _, _, r, _, _ => ⟨rfl, .nil⟩
  | [], _ :: _, F, h, _, _, _, _ => by cases h
  | (k1, y) :: m, [], F, h, _, _, _, _ => by cases h
  | (k1, y) :: m, (k2, w) :: kvs, F, h, nd, r, ro, dj => by
    simp only [List.map_cons, List.cons.injEq] at h
    obtain ⟨h1, h2⟩ := h
    subst h1
    simp only [List.map_cons, List.nodup_cons] at nd
    cases r with
    | cons F1 F2 r1 r2 a b d =>
      by_cases c : k2 = k
      · subst c
        have same : ∀ {β : Type} {l : List (Key × β)} (z : β), k2 ∉ l.map (·.1) → (l.map fun p => if p.1 = k2 then (p.1, z) else p) = l := fun {β l} z hn => by
          induction l with
          | nil => rfl
          | cons p l ih =>
            simp only [List.map_cons, List.mem_cons, not_or] at hn
            rw [List.map_cons, if_neg (fun e => hn.1 e.symm), ih hn.2]
        have n1 : k2 ∉ kvs.map (·.1) := nd.1
        have n2 : k2 ∉ m.map (·.1) := by rw [← h2]; exact n1
        simp only [List.map_cons, if_pos]
        rw [same o n2, same v n1]
        exact ⟨trivial |> fun _ => rfl, .cons G F2 ro r2 (fun _ p => .inr p) (fun x p => .inl (b x p)) fun x p q => dj x (b x q) p⟩
      · obtain ⟨e1, e2⟩ := setK_ro h2 nd.2 r2 ro fun x p q => dj x (b x p) q
        simp only [List.map_cons, if_neg c]
        refine ⟨?_, .cons F1 (Or F2 G) r1 ?_ (fun x p => .inl (a x p)) (fun x p => p.elim (fun p => .inl (b x p)) .inr) fun x p q => q.elim (d x p) fun q => dj x (a x p) q⟩
        · have := e1; simp only [List.map_map] at this ⊢; rw [this]
        · exact e2
theorem dk_nodup {pins : List (Addr × Obj)} {σ : L2.St} {H : Hp} {s : Shared} {a : Addr} {kvs : List (Key × V)} (I : Inv X pins σ H s) (h : Rd H a (.dK kvs)) : (kvs.map (·.1)).Nodup := by
  obtain ⟨_, _, vs, r, o, es, ep, _, _, _, _, _, nd⟩ := dk_rd I.hok h
  rw [r.keys]
  exact nd
theorem hasK_keys {α β : Type} {m : List (Key × α)} {n : List (Key × β)} (k : Key) (e : m.map (·.1) = n.map (·.1)) : hasK m k = hasK n k := by
  have h : ∀ {γ : Type} (l : List (Key × γ)), hasK l k = (l.map (·.1)).any fun x => decide (x = k) := fun l => by unfold hasK; rw [List.any_map]; rfl
  rw [h m, h n, e]
theorem put_ro {K : PySem.W.Frag} {H : Hp} {k : Key} {o : O} {v : V} {G F : Fp} {m : List (Key × O)} {kvs : List (Key × V)} (e : kvs.map (·.1) = m.map (·.1)) (nd : (kvs.map (·.1)).Nodup) (r : ROs K H (m.map (·.2)) (kvs.map (·.2)) F) (ro : RO K H o v G) (d : Disj F G) :
    (putK kvs k v).map (·.1) = (setK m k o).map (·.1) ∧ ROs K H ((setK m k o).map (·.2)) ((putK kvs k v).map (·.2)) (Or F G) := by
  have eh := hasK_keys k e
  have hp : putK kvs k v = if hasK kvs k then kvs.map fun p => if p.1 = k then (p.1, v) else p else kvs ++ [(k, v)] := rfl
  rw [hp]
  unfold setK
  rw [eh]
  have ks : ∀ {γ : Type} (l : List (Key × γ)) (z : γ), (l.map fun p => if p.1 = k then (p.1, z) else p).map (·.1) = l.map (·.1) := fun l z => by
    rw [List.map_map]; apply List.map_congr_left; intro p _; dsimp only [Function.comp]; split <;> rfl
  cases q : hasK m k with
  | true =>
    simp only [if_true]
    exact ⟨by rw [ks kvs v, ks m o, e], (setK_ro e nd r ro d).2⟩
  | false =>
    simp only [Bool.false_eq_true, if_false, List.map_append, List.map_cons, List.map_nil]
    exact ⟨by rw [e], ROs.append r (.cons G nof ro .nil (fun _ p => p) (fun _ p => p.elim) fun _ _ p => p) d⟩
theorem ss_uSet (hu : X.A.units + 1 < cLine) : SetS X uSet := by
  intro pins s σ H o i v ov iv uv ox oi oo o' F1 F2 F3 I ro' ri rv r1 r2 r3 d e
  unfold uSet at e
  cases ox with
  | lst xs =>
    cases oi with
    | d y =>
      cases y with
      | int n =>
        dsimp only at e
        cases q : ixN xs.length n with
        | none => rw [q] at e; cases e
        | some j =>
          rw [q] at e; cases e
          cases r2.od
          cases r1 with
          | lst h f r =>
            refine thn (set_list pins s σ H _ _ v ov iv uv (fun H' => ∃ F', RO X.K H' (.lst (xs.set j oo)) _ F' ∧ Step (Or F1 F3) H H' ∧ Sub F' (Or F1 F3) H) I ro' ri rv ⟨_, _, n, j, rfl, rfl, h, by rw [← r.length]; exact q, ?_⟩) fun _ s' ⟨H', I', F', z⟩ => ⟨H', F', I', z⟩
            have w : ∀ u, Step (fun z => z = _) H (upd H _ u) := fun u => Step.wr (o := u) h trivial rfl
            exact ⟨Or F1 F3, .lst upd_same (.inl f) ((ROs.set (r.step (w _) fun z m n => m.2 n) (r3.step (w _) fun z m n => d z (n ▸ f) m) fun z m n => d z m.1 n).mono fun z m => m.elim (fun m => ⟨.inl m.1, m.2⟩) fun m => ⟨.inr m, fun n => d z (n ▸ f) m⟩), Step.wr h trivial (.inl f), fun _ m => .inl m⟩
      | _ => simp [keyO, keyD] at e
    | _ => cases e
  | dct m =>
    dsimp only at e
    cases q : keyO oi with
    | none => rw [q] at e; cases e
    | some k =>
      rw [q] at e
      dsimp only at e
      split at e
      · rename_i hz
        cases e
        have ei := keyO_ok r2 q
        subst ei
        cases r1 with
        | dct h f e2 r =>
          rename_i a kvs
          have hl : kvs.length = m.length := by have := congrArg List.length e2; simpa using this
          refine thn (set_dict hu pins s σ H _ _ v ov iv uv (fun H' => ∃ F', RO X.K H' (.dct (setK m k oo)) (.ref a) F' ∧ Step (Or F1 F3) H H' ∧ Sub F' (Or F1 F3) H) I ro' ri rv ⟨a, _, rfl, .k h (by omega), ?_⟩) fun _ s' ⟨H', I', F', z⟩ => ⟨H', F', I', z⟩
          have w : ∀ u, Step (fun z => z = a) H (upd H a u) := fun u => Step.wr (o := u) h trivial rfl
          obtain ⟨p1, p2⟩ := put_ro e2 (dk_nodup I (.inl h)) (r.step (w (.dK (putK kvs k v))) fun z m n => m.2 n) (r3.step (w (.dK (putK kvs k v))) fun z m n => d z (n ▸ f) m) (k := k) fun z m n => d z m.1 n
          exact ⟨Or F1 F3, .dct upd_same (.inl f) p1 (p2.mono fun z m => m.elim (fun m => ⟨.inl m.1, m.2⟩) fun m => ⟨.inr m, fun n => d z (n ▸ f) m⟩), Step.wr h trivial (.inl f), fun _ m => .inl m⟩
      · cases e
  | d x => cases oi <;> cases e
  | _ => cases e
def setS (u : O → O → O → Option O) (fr : M (O × Option Nat)) (fi : M O) : O → S := fun oo => bndS fr fun x => bndS fi fun oi => bndS (lift (u x.1 oi oo)) fun o' => bndS (rst x.2 o') fun _ e => some (.nx, e)
theorem Post.liftS {α : Type} {o : Option α} {g : α → S} {D : Ends} {σ : L2.St} {H : Hp} {F : Fp} {e : Env} (h : PSo X fx D σ H F (bndS (TL.lift o) g e)) : ∃ a, o = some a ∧ PSo X fx D σ H F (g a e) := by
  cases o with
  | none => exact h.elim
  | some a => exact ⟨a, rfl, h⟩
theorem Post.top {f : M (O × Option Nat)} {P : O × Option Nat → Env → Prop} {σ : L2.St} {H : Hp} {Q : VK} {env : Env} {F : Fp} (rel : RelE X.K H env σ F) (h : Post P (f env))
    (c : ∀ r env' v H' F1 F2, RO X.K H' r.1 v F1 → Aft X F H H' σ env' F1 F2 → (∀ i, r.2 = some i → σ[i]? = some (some v)) → P r env' → Q v H') : tOp' X f σ H Q :=
  ⟨env, F, rel, h.mono fun o e' q v H' F1 F2 ro re dj st sub g => c o e' v H' _ _ ro.dom ⟨re.dom, fun a p q => dj a p.1 q.1, st, fun a z => sub a (z.imp And.left And.left), fun a p => p.2, fun a p => p.2⟩ g q⟩
theorem rstS_ok {ri : Option Nat} {o : O} {k : Unit → S} {D : Ends} {env : Env} {σ σ0 : L2.St} {H H0 : Hp} {F G F0 : Fp} {v : V} (rel : RelE X.K H env σ F) (ro : RO X.K H o v G) (dj : Disj G F) (hi : ∀ i, ri = some i → σ[i]? = some (some v))
    (h : PSo X fx D σ0 H0 F0 (bndS (rst ri o) k env)) : ∃ env', RelE X.K H env' σ (Or G F) ∧ PSo X fx D σ0 H0 F0 (k () env') := by
  cases ri with
  | none => exact ⟨env, rel.mono fun a z => .inr z, h⟩
  | some i => exact ⟨env.set i (some o), rel.back (hi i rfl) ro dj, h⟩
theorem ss_setIx {o i e : Expr} {f fi : M O} {fr : M (O × Option Nat)} {u : O → O → O → Option O} {pos pos' : Pos} (hset : SetS X u) (he : SE X e f) (ho : OE X o fr) (hi : SE X i fi)
    (ha : ∀ v, assign (.Subscript o i pos') X.env v = (do
      let ov ← holding [v] (eval o X.env)
      let iv ← holding [v, ov] (eval i X.env)
      standAt pos'
      holding [v, ov, iv] (setItem ov iv v)
      release [v, ov, iv] []) := by intro _; rfl)
    (hs : swapsWithSole [.Subscript o i pos'] e pos.line X.env = pure false := by rfl) (hw : swappedStores [.Subscript o i pos'] e X.env = pure none := by rfl)
    (h1 : (assignEach [.Subscript o i pos'] X.env).map (·.2) = [assign (.Subscript o i pos') X.env] := by rfl) : SS X fx (.Assign [.Subscript o i pos'] e pos) (bndS f (setS u fr fi)) := by
  have hP : PSet X (fun o i v H Q => ∃ ox oi oo o' F1 F2 F3, RO X.K H ox o F1 ∧ RO X.K H oi i F2 ∧ RO X.K H oo v F3 ∧ Disj F1 F3 ∧ u ox oi oo = some o' ∧ ∀ H' F', RO X.K H' o' o F' → Step (Or F1 F3) H H' → Sub F' (Or F1 F3) H → Q H') := by
    intro pins s σ H o i v ov iv uv Q I r1 r2 r3 ⟨ox, oi, oo, o', F1, F2, F3, q1, q2, q3, d, e, k⟩
    exact thn (hset pins s σ H o i v ov iv uv ox oi oo o' F1 F2 F3 I r1 r2 r3 q1 q2 q3 d e) fun _ s' ⟨H', F', I', ro, st, sub⟩ => ⟨H', I', k H' F' ro st sub⟩
  refine PS.imp (ps_asg he (pg_sub ho hi hP ha) hs hw h1) fun D σ H ⟨env, F, rel, h⟩ => Post.tof rel (bndS_ok h) fun oo env1 v H1 F1 F2 ro a h => ?_
  refine Post.top a.rel (bndS_ok h) fun x env2 w H2 F3 F4 ro2 b g h => ?_
  refine Post.tof b.rel (bndS_ok h) fun oi env3 z H3 F5 F6 ro3 c h => ?_
  obtain ⟨o', e, h⟩ := Post.liftS h
  obtain ⟨stA, subA, d13, d14, dm⟩ := a.next b
  obtain ⟨stB, subB, d35, d36, dm3⟩ := b.next c
  have n1 : Disj F1 (Or F5 F6) := disj_new d14 dm c.sub
  have ro' := (ro.step b.st a.dj).step c.st d14
  have ro2' := ro2.step c.st b.dj
  refine ⟨x.1, oi, oo, o', F3, F5, F1, ro2', ro3, ro', fun q m n => d13 q n m, e, fun H' F' rz st sub => ?_⟩
  have dF6 : Disj F6 (Or F3 F1) := fun q m n => n.elim (fun n => d36 q n m) fun n => n1 q n (.inr m)
  have dn : Disj F6 F' := disj_new dF6 c.d2 sub
  obtain ⟨env4, rel4, h⟩ := rstS_ok (c.rel.step st dF6) rz (fun q m n => dn q n m) g h
  have stC : Step F H H3 := stA.trans c.st fun q m => subA q (.inr (.inr m))
  refine h σ H' _ rel4 .refl (stC.trans st fun q m => m.elim (fun m => subA q (.inr (.inl m))) fun m => subA q (.inl m)) fun q m => ?_
  rcases m with m | m
  · rcases sub q m with (m | m) | m
    · exact subA q (.inr (.inl m))
    · exact subA q (.inl m)
    · exact .inr (stC.free m)
  · rcases c.sub q (.inr m) with m | m
    · exact subA q (.inr (.inr m))
    · exact .inr (stA.free m)

/-! ### loops -/
def loopS (g : G) (fb : S) : List D → S
  | [] => fun e => some (.nx, e)
  | d :: ds => fun e => match g (.d d) e with
    | none => none
    | some e1 => match fb e1 with
      | some (.nx, e2) => loopS g fb ds e2
      | some (.ct, e2) => loopS g fb ds e2
      | some (.bk, e2) => some (.nx, e2)
      | some (.rt o, e2) => some (.rt o, e2)
      | none => none
def forS (src : M (List D × (O × Option Nat))) (g : G) (fb : S) : S := bndS src fun r => loopS g fb r.1
theorem ss_for {tg iter : Expr} {body : List Stmt} {src : M (List D × (O × Option Nat))} {g : G} {fb : S} {pos : Pos} (hp : PassesOwn (model X.prog X.w) X.A X.env X.xe) (hc : X.calm = true) (hi : IE X tg iter src) (hg : TG' X fx tg g) (hb : SB X fx body fb)
    (hs : ∀ x, foldedSetIterable iter X.env x = pure x := by intro _; rfl) : SS X fx (.For tg iter body [] pos) (forS src g fb) := by
  refine PS.imp (ps_for hp hc hi hg hb hs) fun D σ H ⟨env, F, rel, h⟩ => ?_
  refine ⟨env, F, rel, (bndS_ok h).mono fun r e h J H1 vh Fh F2 G ro gi it gs stb rel1 dj st sub dm => ?_⟩
  obtain ⟨Y, w, hY⟩ := it
  obtain ⟨ds, hl⟩ := r
  dsimp only at ro gi w hY h
  refine ⟨fun i m σ' H' => m = ds.length - i ∧ i ≤ ds.length ∧ G H' ∧ ∃ env' F', RelE X.K H' env' σ' F' ∧ Disj Fh F' ∧ Fix fx σ σ' ∧ Step F H H' ∧ Sub F' F H ∧ Dom Fh H' ∧ PSo X fx D σ H F (loopS g fb (ds.drop i) env'), ⟨ds.length, by simp, Nat.zero_le _, gs, e, F2, rel1, dj, .refl, st, fun x p => sub x (.inr p), dm, by rw [List.drop_zero]; exact h⟩, ?_⟩
  rintro i m σ' H' ⟨rfl, hi', g', env', F', rel', dj', fi', st', sub', dm', h'⟩
  by_cases hlt : i < ds.length
  · refine .inr ⟨w.goes i H' hlt g', fun σ2 H2 => (i + 1 ≤ ds.length ∧ G H2 ∧ ∃ env' F', RelE X.K H2 env' σ2 F' ∧ Disj Fh F' ∧ Fix fx σ σ2 ∧ Step F H H2 ∧ Sub F' F H ∧ Dom Fh H2 ∧ PSo X fx D σ H F (loopS g fb (ds.drop (i + 1)) env')), fun σ2 H2 q => ⟨ds.length - (i + 1), by omega, rfl, q⟩, fun x H2 y => ?_⟩
    obtain ⟨d, hd, rd, st2⟩ := hY i H' x H2 hlt g' (w.yields i H' x H2 hlt g' y)
    have ed : ds.drop i = d :: ds.drop (i + 1) := by
      rw [List.drop_eq_getElem_cons hlt]
      have : ds[i]? = some ds[i] := by simp [hlt]
      rw [this] at hd; cases hd; rfl
    rw [ed] at h'
    unfold loopS at h'
    cases q1 : g (.d d) env' with
    | none => rw [q1] at h'; exact h'.elim
    | some e1 =>
      rw [q1] at h'
      dsimp only at h'
      have gg2 := stb H' H2 nof g' st2 fun _ _ z => z
      have rel2 := rel'.step st2 fun _ _ z => z
      have st02 : Step F H H2 := st'.trans st2 fun _ z => z.elim
      refine ⟨.d d, env', nof, F', .d rd, rel2, fun _ p _ => p, e1, q1, fun σ3 H3 F3 rel3 fi3 st3 sub3 => ?_⟩
      have st3' : Step F' H2 H3 := st3.mono fun x p => .inl (p.elim False.elim id)
      have sub3' : Sub F3 F' H2 := fun x p => (sub3 x p).imp (fun p => p.elim False.elim id) id
      have dm2 := dm'.step st2
      have g3 := stb H2 H3 F' gg2 st3' dj'
      have d3 : Disj Fh F3 := disj_new dj' dm2 sub3'
      have st03 : Step F H H3 := st02.trans st3' sub'
      have subF3 : Sub F3 F H := fun x p => (sub3' x p).elim (sub' x) fun n => .inr (st02.free n)
      have fi03 : Fix fx σ σ3 := fi'.trans fi3
      refine ⟨e1, F3, rel3, ?_⟩
      have go : ∀ {e2 : Env} {σ4 : L2.St} {H4 : Hp} {F4 : Fp}, PSo X fx D σ H F (loopS g fb (ds.drop (i + 1)) e2) → RelE X.K H4 e2 σ4 F4 → Fix fx σ3 σ4 → Step F3 H3 H4 → Sub F4 F3 H3 →
          i + 1 ≤ ds.length ∧ G H4 ∧ ∃ env' F', RelE X.K H4 env' σ4 F' ∧ Disj Fh F' ∧ Fix fx σ σ4 ∧ Step F H H4 ∧ Sub F' F H ∧ Dom Fh H4 ∧ PSo X fx D σ H F (loopS g fb (ds.drop (i + 1)) env') :=
        fun {e2 σ4 H4 F4} hh r4 f4 s4 b4 => ⟨hlt, stb H3 H4 F3 g3 s4 d3, e2, F4, r4, disj_new d3 (dm2.step st3') b4, fi03.trans f4, st03.trans s4 subF3, fun x p => (b4 x p).elim (subF3 x) fun n => .inr (st03.free n), (dm2.step st3').step s4, hh⟩
      cases q2 : fb e1 with
      | none => rw [q2] at h'; exact h'.elim
      | some r =>
        obtain ⟨o, e2⟩ := r
        rw [q2] at h'
        cases o with
        | nx => exact fun σ4 H4 F4 r4 f4 s4 b4 => go h' r4 f4 s4 b4
        | ct => exact fun σ4 H4 F4 r4 f4 s4 b4 => go h' r4 f4 s4 b4
        | bk => exact fun σ4 H4 F4 r4 f4 s4 b4 => h' σ4 H4 F4 r4 (fi03.trans f4) (st03.trans s4 subF3) fun x p => (b4 x p).elim (subF3 x) fun n => .inr (st03.free n)
        | rt o => exact fun v σ4 H4 G1 G2 ro4 r4 d4 f4 s4 b4 => h' v σ4 H4 G1 G2 ro4 r4 d4 (fi03.trans f4) (st03.trans s4 subF3) fun x p => (b4 x p).elim (subF3 x) fun n => .inr (st03.free n)
  · have e : i = ds.length := by omega
    subst e
    rw [List.drop_length] at h'
    exact .inl ⟨w.stops H' g', h' σ' H' F' rel' fi' st' sub'⟩
def whileS (c : M Bool) (fb : S) : Nat → S
  | 0 => fun _ => none
  | n + 1 => fun e => match c e with
    | none => none
    | some (false, e1) => some (.nx, e1)
    | some (true, e1) => match fb e1 with
      | some (.nx, e2) => whileS c fb n e2
      | some (.ct, e2) => whileS c fb n e2
      | some (.bk, e2) => some (.nx, e2)
      | some (.rt o, e2) => some (.rt o, e2)
      | none => none
theorem ss_while {c : Expr} {body : List Stmt} {k : M Bool} {fb : S} {pos : Pos} (n : Nat) (hp : PassesOwn (model X.prog X.w) X.A X.env X.xe) (hc : BE X c k) (hb : SB X fx body fb) : SS X fx (.While c body [] pos) (whileS k fb n) := by
  refine PS.imp (ps_while hp hc hb) fun D σ H ⟨env, F, rel, h⟩ => ?_
  refine ⟨fun m σ' H' => ∃ env' F', RelE X.K H' env' σ' F' ∧ Fix fx σ σ' ∧ Step F H H' ∧ Sub F' F H ∧ PSo X fx D σ H F (whileS k fb m env'), ⟨n, env, F, rel, .refl, .refl, .refl, h⟩, ?_⟩
  rintro m σ1 H1 ⟨env1, F1, rel1, fi1, st1, sub1, h⟩
  cases m with
  | zero => exact h.elim
  | succ m =>
    refine ⟨env1, F1, rel1, ?_⟩
    unfold whileS at h
    cases q : k env1 with
    | none => rw [q] at h; exact h
    | some r =>
      obtain ⟨b, e1⟩ := r
      rw [q] at h
      intro H2 F2 rel2 st2 sub2
      have st02 : Step F H H2 := st1.trans st2 sub1
      have sub02 : Sub F2 F H := fun x p => (sub2 x p).elim (sub1 x) fun n => .inr (st1.free n)
      cases b with
      | false => exact iteF (h σ1 H2 F2 rel2 fi1 st02 sub02)
      | true =>
        refine iteT ⟨fun σ' H' => ∃ env' F', RelE X.K H' env' σ' F' ∧ Fix fx σ σ' ∧ Step F H H' ∧ Sub F' F H ∧ PSo X fx D σ H F (whileS k fb m env'), fun σ' H' q => ⟨m, Nat.lt_succ_self _, q⟩, e1, F2, rel2, ?_⟩
        dsimp only at h
        have go : ∀ {e2 : Env} {σ4 : L2.St} {H4 : Hp} {F4 : Fp}, PSo X fx D σ H F (whileS k fb m e2) → RelE X.K H4 e2 σ4 F4 → Fix fx σ1 σ4 → Step F2 H2 H4 → Sub F4 F2 H2 →
            ∃ env' F', RelE X.K H4 env' σ4 F' ∧ Fix fx σ σ4 ∧ Step F H H4 ∧ Sub F' F H ∧ PSo X fx D σ H F (whileS k fb m env') :=
          fun {e2 σ4 H4 F4} hh r4 f4 s4 b4 => ⟨e2, F4, r4, fi1.trans f4, st02.trans s4 sub02, fun x p => (b4 x p).elim (sub02 x) fun n => .inr (st02.free n), hh⟩
        cases q2 : fb e1 with
        | none => rw [q2] at h; exact h.elim
        | some r =>
          obtain ⟨o, e2⟩ := r
          rw [q2] at h
          cases o with
          | nx => exact fun σ4 H4 F4 r4 f4 s4 b4 => go h r4 f4 s4 b4
          | ct => exact fun σ4 H4 F4 r4 f4 s4 b4 => go h r4 f4 s4 b4
          | bk => exact fun σ4 H4 F4 r4 f4 s4 b4 => h σ4 H4 F4 r4 (fi1.trans f4) (st02.trans s4 sub02) fun x p => (b4 x p).elim (sub02 x) fun n => .inr (st02.free n)
          | rt o => exact fun v σ4 H4 G1 G2 ro4 r4 d4 f4 s4 b4 => h v σ4 H4 G1 G2 ro4 r4 d4 (fi1.trans f4) (st02.trans s4 sub02) fun x p => (b4 x p).elim (sub02 x) fun n => .inr (st02.free n)
end
end TL

set_option maxHeartbeats 1000000
namespace TL
open PySem L2

section
variable {X : Cx}
/-! ### comprehensions -/
def wipeE (e : Env) : List Nat → Env
  | [] => e
  | v :: vs => (wipeE e vs).set v none
theorem RelE.wipe {K : PySem.W.Frag} {H : Hp} {env : Env} {σ : L2.St} {F : Fp} (r : RelE K H env σ F) : ∀ vs : List Nat, RelE K H (wipeE env vs) (L2.wipe σ vs) F
  | [] => r
  | v :: vs => by
    have q := RelE.wipe r vs
    unfold wipeE L2.wipe
    have h : ∀ {env : Env} {σ : L2.St} {F : Fp} {i : Nat}, RelE K H env σ F → RelE K H (env.set i none) (σ.set i none) F := by
      intro env σ F i r
      induction i generalizing env σ F with
      | zero => cases r with
        | nil => exact .nil
        | no r => exact .no r
        | so F1 F2 h r a b d => exact .no (r.mono b)
      | succ i ih => cases r with
        | nil => exact .nil
        | no r => exact .no (ih r)
        | so F1 F2 h r a b d => exact .so F1 F2 h (ih r) a b d
    exact h q
theorem RelE.patch {K : PySem.W.Frag} {H : Hp} : ∀ {e e' : Env} {σ σ' : L2.St} {F : Fp}, RelE K H e σ F → e'.length = e.length → σ'.length = σ.length →
    (∀ i, i < e.length → (e'[i]? = e[i]? ∧ σ'[i]? = σ[i]?) ∨ e'[i]? = some none ∨ ∃ x v, e'[i]? = some (some (.d x)) ∧ σ'[i]? = some (some v) ∧ RD K H x v) → RelE K H e' σ' F
  | _, e', _, σ', F, .nil, h1, h2, _ => by
    have h1 : e'.length = 0 := h1
    have h2 : σ'.length = 0 := h2
    rw [List.length_eq_zero_iff.mp h1, List.length_eq_zero_iff.mp h2]
    exact .nil
  | _ :: env, e', s :: σ, σ', F, r, h1, h2, h => by
    cases e' with
    | nil => cases h1
    | cons y e' =>
      cases σ' with
      | nil => cases h2
      | cons s' σ' =>
        have h0 := h 0 (by simp)
        have ht : ∀ i, i < env.length → (e'[i]? = env[i]? ∧ σ'[i]? = σ[i]?) ∨ e'[i]? = some none ∨ ∃ x v, e'[i]? = some (some (.d x)) ∧ σ'[i]? = some (some v) ∧ RD K H x v := fun i hi => by simpa using h (i + 1) (by simpa using hi)
        simp only [List.getElem?_cons_zero, Option.some.injEq] at h0
        have l1 : e'.length = env.length := by simpa using h1
        have l2 : σ'.length = σ.length := by simpa using h2
        cases r with
        | no r =>
          have q := RelE.patch r l1 l2 ht
          rcases h0 with ⟨a, b⟩ | a | ⟨x, v, a, b, c⟩
          · subst a; exact .no q
          · subst a; exact .no q
          · subst a b; exact .so nof F (.d c) q (fun _ z => z.elim) (fun _ z => z) fun _ z _ => z
        | so F1 F2 g r a1 b1 d1 =>
          have q := RelE.patch r l1 l2 ht
          rcases h0 with ⟨a, b⟩ | a | ⟨x, v, a, b, c⟩
          · subst a b; exact .so F1 F2 g q a1 b1 d1
          · subst a; exact .no (q.mono b1)
          · subst a b; exact .so nof F2 (.d c) q (fun _ z => z.elim) b1 fun _ z _ => z
/-- the comprehension's own places are as they were -/
def backE (e1 e2 : Env) : List Nat → Env
  | [] => e2
  | v :: vs => (backE e1 e2 vs).set v (e1.getD v none)
theorem backE_len (e1 e2 : Env) : ∀ vs, (backE e1 e2 vs).length = e2.length
  | [] => rfl
  | v :: vs => by unfold backE; rw [List.length_set, backE_len e1 e2 vs]
theorem backE_get {e1 e2 : Env} : ∀ {vs : List Nat} {i : Nat}, i < e2.length → (backE e1 e2 vs)[i]? = if i ∈ vs then some (e1.getD i none) else e2[i]?
  | [], i, h => by simp [backE]
  | v :: vs, i, h => by
    unfold backE
    by_cases c : v = i
    · subst c
      rw [List.getElem?_set_self (by rw [backE_len]; exact h)]
      simp
    · rw [List.getElem?_set_ne c, backE_get h]
      have : i ≠ v := fun e => c e.symm
      simp [this]
theorem wipe_get {σ : L2.St} : ∀ {vs : List Nat} {i : Nat}, i < σ.length → (L2.wipe σ vs)[i]? = if i ∈ vs then some none else σ[i]?
  | [], i, h => by simp [L2.wipe]
  | v :: vs, i, h => by
    unfold L2.wipe
    by_cases c : v = i
    · subst c
      rw [List.getElem?_set_self (by rw [wipe_length]; exact h)]
      simp
    · rw [List.getElem?_set_ne c, wipe_get h]
      have : i ≠ v := fun e => c e.symm
      simp [this]
/-- no place of these is owned -/
def ownOk (e : Env) (vs : List Nat) : Bool := vs.all fun v => match e[v]? with
  | some (some (.d _)) => true
  | some (some _) => false
  | _ => true
theorem RelE.recover {K : PySem.W.Frag} {H H' : Hp} {e1 e2 : Env} {σ : L2.St} {F F' : Fp} {vs : List Nat} (r1 : RelE K H e1 σ F) (ok : ownOk e1 vs = true) (p : ∀ a o, H a = some o → ¬ MutO o → H' a = some o) (r2 : RelE K H' e2 (L2.wipe σ vs) F') :
    RelE K H' (backE e1 e2 vs) σ F' := by
  have l2 : e2.length = σ.length := by rw [r2.length, wipe_length]
  refine r2.patch (backE_len _ _ _) (by rw [wipe_length]) fun i hi => ?_
  rw [backE_get hi, wipe_get (by omega)]
  by_cases c : i ∈ vs
  · rw [if_pos c, if_pos c]
    unfold ownOk at ok
    have q := List.all_eq_true.mp ok i c
    rw [List.getD_eq_getElem?_getD]
    cases e : e1[i]? with
    | none => exact .inr (.inl rfl)
    | some o =>
      cases o with
      | none => exact .inr (.inl rfl)
      | some o =>
        rw [e] at q
        cases o with
        | d x =>
          obtain ⟨v, e3, rd⟩ := r1.getD e
          exact .inr (.inr ⟨x, v, rfl, e3, rd.keep p⟩)
        | _ => cases q
  · rw [if_neg c, if_neg c]
    exact .inl ⟨rfl, rfl⟩
def compL (g : G) (t : M Bool) (f : M O) (vs : List Nat) : List D → M (List O)
  | [] => ret []
  | d :: ds => fun e => match g (.d d) e with
    | none => none
    | some e1 => match t e1 with
      | none => none
      | some (false, e2) => compL g t f vs ds (wipeE e2 vs)
      | some (true, e2) => match f e2 with
        | none => none
        | some (o, e3) => match compL g t f vs ds (wipeE e3 vs) with
          | none => none
          | some (os, e4) => some (o :: os, e4)
def compM (src : M (List D × (O × Option Nat))) (g : G) (t : M Bool) (f : M O) (vs : List Nat) : M O := fun e => match src e with
  | none => none
  | some ((ds, x), e1) => if ownOk e1 vs then match compL g t f vs ds (wipeE e1 vs) with
      | none => none
      | some (os, e2) => if os.length ≤ sizeLine then bnd (rst x.2 x.1) (fun _ => ret (.lst os)) (backE e1 e2 vs) else none
    else none
variable (X) in
/-- a clause's tests -/
def TsE (ifs : List Expr) (t : M Bool) : Prop := PTs X ifs (tBf X t)
theorem PTs.imp {e : List Expr} {t t' : TT} (h : PTs X e t) (k : ∀ σ H Q, t' σ H Q → t σ H Q) : PTs X e t' := ⟨fun pins s σ H Q I q => h.run pins s σ H Q I (k _ _ _ q)⟩
theorem ts_nil : TsE X [] (ret true) := PTs.imp pts_nil fun σ H Q ⟨env, F, rel, h⟩ => h H F rel .refl .refl
theorem ts_one {c : Expr} {t : M Bool} (h : BE X c t) : TsE X [c] t := pts_one h
def fxOf (vs : List Nat) : Nat → Bool := fun i => !vs.contains i
theorem wipe_fix {σ σ2 : L2.St} {vs : List Nat} (h : Fix (fxOf vs) (L2.wipe σ vs) σ2) : L2.wipe σ2 vs = L2.wipe σ vs := by
  have hl : σ2.length = σ.length := by rw [h.len, wipe_length]
  apply List.ext_getElem?
  intro i
  by_cases hi : i < σ.length
  · rw [wipe_get (by omega), wipe_get hi]
    by_cases c : i ∈ vs
    · rw [if_pos c, if_pos c]
    · rw [if_neg c, if_neg c, h.at_ i (by unfold fxOf; simp [c]), wipe_get hi, if_neg c]
  · rw [List.getElem?_eq_none (by rw [wipe_length]; omega), List.getElem?_eq_none (by rw [wipe_length]; omega)]
theorem wipe_wipe {σ σ2 : L2.St} {vs : List Nat} (h : L2.wipe σ2 vs = L2.wipe σ vs) (K : PySem.W.Frag) {H : Hp} {e : Env} {F : Fp} (r : RelE K H e σ2 F) : RelE K H (wipeE e vs) (L2.wipe σ vs) F := by
  rw [← h]; exact r.wipe vs
/-- the state of a comprehension ahead of a turn: its list at Da so far, what is held (Fh), the places (F') -/
structure Lc (X : Cx) (F0 : Fp) (H0 : Hp) (Da : Addr) (Fh : Fp) (acc : List O) (av : List V) (Fa F' : Fp) (H : Hp) : Prop where
  hD : H Da = some (.lst av)
  ra : ROs X.K H acc av Fa
  dA : Disj Fa F'
  dH : Disj Fh (Or Fa F')
  nA : ¬ Fa Da
  nE : ¬ F' Da
  nH : ¬ Fh Da
  st : Step F0 H0 H
  sb : Sub (Or Fa F') F0 H0
  mH : Dom Fh H
  mA : Dom Fa H
  h0 : H0 Da = none
theorem Lc.adv {F0 : Fp} {H0 : Hp} {Da : Addr} {Fh : Fp} {acc : List O} {av : List V} {Fa F' F2 : Fp} {H H' : Hp} (c : Lc X F0 H0 Da Fh acc av Fa F' H) (st : Step F' H H') (sub : Sub F2 F' H) : Lc X F0 H0 Da Fh acc av Fa F2 H' where
  hD := st.keep _ _ c.hD c.nE
  ra := c.ra.step st c.dA
  dA := disj_new c.dA c.mA sub
  dH := fun x p q => q.elim (fun q => c.dH x p (.inl q)) fun q => disj_new (fun x p q => c.dH x p (.inr q)) c.mH sub x p q
  nA := c.nA
  nE := fun z => (sub _ z).elim c.nE fun e => by rw [c.hD] at e; cases e
  nH := c.nH
  st := c.st.trans st fun x p => c.sb x (.inr p)
  sb := fun x p => p.elim (fun p => c.sb x (.inl p)) fun p => (sub x p).elim (fun p => c.sb x (.inr p)) fun n => .inr (c.st.free n)
  mH := c.mH.step st
  mA := c.mA.step st
  h0 := c.h0
theorem Lc.push {F0 : Fp} {H0 : Hp} {Da : Addr} {Fh : Fp} {acc : List O} {av : List V} {Fa F6 F7 : Fp} {H : Hp} {o : O} {v : V} (c : Lc X F0 H0 Da Fh acc av Fa (Or F6 F7) H) (ro : RO X.K H o v F6) (d : Disj F6 F7) (m6 : Dom F6 H) (n0 : ¬ F0 Da) :
    Lc X F0 H0 Da Fh (acc ++ [o]) (av ++ [v]) (Or Fa F6) F7 (upd H Da (.lst (av ++ [v]))) ∧ Step (fun z => z = Da) H (upd H Da (.lst (av ++ [v]))) := by
  have w : Step (fun z => z = Da) H (upd H Da (.lst (av ++ [v]))) := Step.wr c.hD trivial rfl
  refine ⟨⟨upd_same, ?_, fun x p q => p.elim (fun p => c.dA x p (.inr q)) fun p => d x p q, fun x p q => c.dH x p (q.elim (fun q => q.elim .inl fun q => .inr (.inl q)) fun q => .inr (.inr q)), fun z => z.elim c.nA fun z => c.nE (.inl z), fun z => c.nE (.inr z), c.nH, ?_, fun x p => c.sb x (p.elim (fun p => p.elim .inl fun p => .inr (.inl p)) fun p => .inr (.inr p)), c.mH.step w, fun x p => p.elim (fun p => c.mA.step w x p) fun p => m6.step w x p, c.h0⟩, w⟩
  · exact ROs.append (c.ra.step w fun z m n => c.nA (n ▸ m)) ((ROs.cons F6 nof ro .nil (fun _ p => p) (fun _ p => p.elim) fun _ _ p => p).step w fun z m n => c.nE (.inl (n ▸ m))) fun x p q => c.dA x p (.inl q)
  · exact ⟨fun a o e n => by rw [upd_ne (fun z => by subst z; rw [c.h0] at e; cases e)]; exact c.st.keep a o e n, fun a o e n => by rw [upd_ne (fun z => by subst z; rw [c.h0] at e; cases e)]; exact c.st.pers a o e n, fun a o e => by rw [upd_ne (fun z => by subst z; rw [c.h0] at e; cases e)]; exact c.st.there a o e⟩
theorem lc_ok {src : M (List D × (O × Option Nat))} {g : G} {t : M Bool} {f : M O} {vs : List Nat} {σ : L2.St} {H : Hp} {Q : VK} (h : tOf X (compM src g t f vs) σ H Q) :
    tLc (tIf X src) (tGf X (fxOf vs) g) (tBf X t) (tOf X f) vs σ H Q := by
  obtain ⟨env, F0, rel0, h⟩ := h
  refine ⟨env, fun a => F0 a ∧ ∃ o, H a = some o, rel0.dom, ?_⟩
  unfold compM at h
  cases q0 : src env with
  | none => rw [q0] at h; exact h
  | some r =>
    obtain ⟨⟨ds, x⟩, e1⟩ := r
    rw [q0] at h
    dsimp only at h
    intro J H1 vh Fh F2 Gd ro gi it gs stb rel1 dj st sub dm Da hDa
    obtain ⟨Y, w, hY⟩ := it
    dsimp only at ro gi w hY
    split at h
    · rename_i ok
      cases q1 : compL g t f vs ds (wipeE e1 vs) with
      | none => rw [q1] at h; exact h.elim
      | some r =>
        obtain ⟨os, ef⟩ := r
        rw [q1] at h
        dsimp only at h
        split at h
        · rename_i hz
          have hDn : H Da = none := st.free hDa
          have nF : ¬ (F0 Da ∧ ∃ o, H Da = some o) := fun z => by obtain ⟨_, o, e⟩ := z; rw [hDn] at e; cases e
          refine lc_it w (Pv := fun i H' => Gd H' ∧ ∃ acc env' os' av Fa F', Lc X (fun a => F0 a ∧ ∃ o, H a = some o) H Da Fh acc av Fa F' H' ∧ RelE X.K H' env' (L2.wipe σ vs) F' ∧ RO X.K H' x.1 vh Fh ∧ (∀ a o, H1 a = some o → ¬ MutO o → H' a = some o) ∧ compL g t f vs (ds.drop i) env' = some (os', ef) ∧ acc ++ os' = os) ?_ (fun i H' _ p => p.1) ?_ ?_
          · -- start
            have s1 : Step nof H1 (upd H1 Da (.lst [])) := .new hDa
            refine ⟨stb _ _ nof gs s1 fun _ _ z => z, [], wipeE e1 vs, os, [], nof, _, ⟨upd_same, .nil, fun _ p _ => p, fun a p q => q.elim False.elim fun q => dj a p q.1, fun z => z, fun z => ?_, fun z => ?_, st.trans s1 fun _ z => z.elim, fun a p => p.elim False.elim fun p => (sub a (.inr p.1)), dm.step s1, fun _ p => p.elim, hDn⟩, (rel1.dom.wipe vs).step s1 fun _ _ z => z, ro.step s1 fun _ _ z => z, s1.pers, by rw [List.drop_zero]; exact q1, rfl⟩
            · obtain ⟨_, o, e⟩ := z; rw [hDa] at e; cases e
            · obtain ⟨o, e⟩ := dm _ z; rw [hDa] at e; cases e
          · -- a turn
            rintro i xv H2 H3 hi ⟨gd, acc, env', os', av, Fa, F', c, rel', rh, pp, hc, happ⟩ y
            obtain ⟨d, hd, rd, st23⟩ := hY i H2 xv H3 hi gd y
            have ed : ds.drop i = d :: ds.drop (i + 1) := by
              rw [List.drop_eq_getElem_cons hi]
              have : ds[i]? = some ds[i] := by simp [hi]
              rw [this] at hd; cases hd; rfl
            rw [ed] at hc
            unfold compL at hc
            cases p1 : g (.d d) env' with
            | none => rw [p1] at hc; cases hc
            | some ea =>
              rw [p1] at hc
              dsimp only at hc
              have mf : ∀ {G1 : Fp} {Hx Hy : Hp}, Step nof Hx Hy → Step G1 Hx Hy := fun s => s.mono fun _ z => z.elim
              have c3 := c.adv (mf st23) .refl
              refine ⟨.d d, env', nof, F', .d rd, rel'.step st23 fun _ _ z => z, fun _ p _ => p, ea, p1, fun σ4 H4 F4 rel4 fi4 st4 sub4 => ?_⟩
              have st4' : Step F' H3 H4 := st4.mono fun x p => .inl (p.elim False.elim id)
              have sub4' : Sub F4 F' H3 := fun x p => (sub4 x p).imp (fun p => p.elim False.elim id) id
              have c4 := c3.adv st4' sub4'
              have hwp := wipe_fix fi4
              have g4 := stb _ _ _ (stb _ _ nof gd st23 fun _ _ z => z) st4' fun x p q => c3.dH x p (.inr q)
              have r4 := (rh.step st23 fun _ _ z => z).step st4' fun x p q => c3.dH x p (.inr q)
              refine ⟨hwp, ea, F4, rel4, ?_⟩
              cases p2 : t ea with
              | none => rw [p2] at hc; cases hc
              | some r =>
                obtain ⟨b, e2⟩ := r
                rw [p2] at hc
                intro H5 F5 rel5 st5 sub5
                have c5 := c4.adv st5 sub5
                have g5 := stb _ _ _ g4 st5 fun x p q => c4.dH x p (.inr q)
                have r5 := r4.step st5 fun x p q => c4.dH x p (.inr q)
                have pp5 : ∀ a o, H1 a = some o → ¬ MutO o → H5 a = some o := fun a o e n => st5.pers _ _ (st4.pers _ _ (st23.pers _ _ (pp a o e n) n) n) n
                cases b with
                | false =>
                  dsimp only at hc
                  exact iteF ⟨g5, acc, wipeE e2 vs, os', av, Fa, F5, c5, wipe_wipe hwp X.K rel5, r5, pp5, hc, happ⟩
                | true =>
                  dsimp only at hc
                  refine iteT ⟨e2, F5, rel5, ?_⟩
                  cases p3 : f e2 with
                  | none => rw [p3] at hc; cases hc
                  | some r =>
                    obtain ⟨o, e3⟩ := r
                    rw [p3] at hc
                    dsimp only at hc
                    cases p4 : compL g t f vs (ds.drop (i + 1)) (wipeE e3 vs) with
                    | none => rw [p4] at hc; cases hc
                    | some r =>
                      obtain ⟨ot, e4⟩ := r
                      rw [p4] at hc
                      cases hc
                      intro v H6 F6 F7 ro6 rel7 d67 st6 sub6
                      have c6 := c5.adv st6 (F2 := Or (fun a => F6 a ∧ ∃ o, H6 a = some o) F7) fun x p => sub6 x (p.imp And.left id)
                      obtain ⟨c7, w7⟩ := c6.push ro6.dom (fun x p q => d67 x p.1 q) (fun x p => p.2) nF
                      have la := c6.ra.length
                      have g6 := stb _ _ _ g5 st6 fun x p q => c5.dH x p (.inr q)
                      have r6 := r5.step st6 fun x p q => c5.dH x p (.inr q)
                      refine ⟨av, c6.hD, ?_, stb _ _ _ g6 w7 fun x p q => c6.nH (q ▸ p), acc ++ [o], wipeE e3 vs, ot, _, _, F7, c7, (wipe_wipe hwp X.K rel7).step w7 fun x p q => c6.nE (.inr (q ▸ p)), r6.step w7 fun x p q => c6.nH (q ▸ p), fun a u e n => w7.pers _ _ (st6.pers _ _ (pp5 a u e n) n) n, p4, by rw [List.append_assoc]; exact happ⟩
                      have := congrArg List.length happ
                      rw [List.length_append, List.length_cons] at this
                      omega
          · -- the end
            rintro H2 ⟨gd, acc, env', os', av, Fa, F', c, rel', rh, pp, hc, happ⟩
            rw [List.drop_length] at hc
            cases hc
            rw [List.append_nil] at happ
            subst happ
            have fin := RelE.recover (vs := vs) rel1 ok pp rel'
            obtain ⟨ee, rele, hh⟩ := rst_ok fin rh (fun a p q => c.dH a p (.inr q)) gi h
            have stF : Step F0 H H2 := c.st.mono fun a p => .inl p.1
            refine hh (.ref Da) H2 (Or (fun z => z = Da) Fa) _ (.lst c.hD (.inl rfl) (c.ra.mono fun a p => ⟨.inr p, fun z => c.nA (z ▸ p)⟩)) rele (fun a p q => ?_) stF fun a p => ?_
            · rcases p with p | p
              · subst p; exact q.elim c.nH c.nE
              · exact q.elim (fun q => c.dH a q (.inl p)) fun q => c.dA a p q
            · rcases p with (p | p) | (p | p)
              · subst p; exact .inr hDn
              · exact (c.sb a (.inl p)).imp And.left id
              · exact (sub a (.inl p)).imp And.left id
              · exact (c.sb a (.inr p)).imp And.left id
        · exact h.elim
    · exact h.elim
theorem se_lc {elt tg iter : Expr} {ifs : List Expr} {scope : Scope} {own : List (Str × Nat)} {pos : Pos} {src : M (List D × (O × Option Nat))} {g : G} {t : M Bool} {f : M O} (hc : X.calm = true) (hN : X.N.Nodup) (ok : BlkOk X.N X.env.scope scope own) (hi : IE X tg iter src)
    (hg : ∀ (s : Shared) (H : Hp) (C : Addr) (cl : List (Str × Addr)) (fp : List Addr), TG' (X.blk s H scope (compEnvC scope cl C X.env) fp) (fxOf (own.map (·.2))) tg g) (ht : ∀ (s : Shared) (H : Hp) (C : Addr) (cl : List (Str × Addr)) (fp : List Addr), TsE (X.blk s H scope (compEnvC scope cl C X.env) fp) ifs t)
    (he : ∀ (s : Shared) (H : Hp) (C : Addr) (cl : List (Str × Addr)) (fp : List Addr), SE (X.blk s H scope (compEnvC scope cl C X.env) fp) elt f) (hs : ∀ x, foldedSetIterable iter X.env x = pure x := by intro _; rfl) :
    SE X (.ListComp elt [⟨tg, iter, ifs, 0⟩] scope pos) (compM src g t f (own.map (·.2))) := PE.imp (pe_lc (wi := tIf X src) (g := tGf X (fxOf (own.map Prod.snd)) g) (tt := tBf X t) (te := tOf X f) hc hN hi ok hg ht he hs) fun _ _ _ h => lc_ok h
theorem ss_setLc {fx : Nat → Bool} (i : Nat) {y : Str} {py : Pos} {elt tg iter : Expr} {ifs : List Expr} {scope : Scope} {own : List (Str × Nat)} {pos spos : Pos} {src : M (List D × (O × Option Nat))} {g : G} {t : M Bool} {f : M O} (hc : X.calm = true) (hN : X.N.Nodup) (ok : BlkOk X.N X.env.scope scope own) (hi : IE X tg iter src)
    (hg : ∀ (s : Shared) (H : Hp) (C : Addr) (cl : List (Str × Addr)) (fp : List Addr), TG' (X.blk s H scope (compEnvC scope cl C X.env) fp) (fxOf (own.map (·.2))) tg g) (ht : ∀ (s : Shared) (H : Hp) (C : Addr) (cl : List (Str × Addr)) (fp : List Addr), TsE (X.blk s H scope (compEnvC scope cl C X.env) fp) ifs t)
    (he : ∀ (s : Shared) (H : Hp) (C : Addr) (cl : List (Str × Addr)) (fp : List Addr), SE (X.blk s H scope (compEnvC scope cl C X.env) fp) elt f) (hsw : swapsWith (.ListComp elt [⟨tg, iter, ifs, 0⟩] scope pos) (some (.Name y py)) spos.line X.env = pure true) (hy : X.N[i]? = some y := by rfl) (hyl : X.env.scope.names.lookup y = some .local := by rfl) (hfx : fx i = false := by rfl)
    (hs : ∀ x, foldedSetIterable iter X.env x = pure x := by intro _; rfl) : SS X fx (.Assign [.Name y py] (.ListComp elt [⟨tg, iter, ifs, 0⟩] scope pos) spos) (bndS (compM src g t f (own.map (·.2))) (asgS (setV i))) :=
  PS.imp (ps_setLc (wi := tIf X src) (g := tGf X (fxOf (own.map Prod.snd)) g) (tt := tBf X t) (te := tOf X f) hc hN hy hyl hsw hi ok hg ht he hs) fun D σ H ⟨env, F, rel, h⟩ => lc_ok (Post.tof rel (bndS_ok h) fun o env1 v H1 F1 F2 ro a h => by
    obtain ⟨o', env', G1, G2, ro', rel', d', env2, e, k⟩ := asg_end ro a h
    exact k _ _ (Or G1 G2) (setV_ok e ro' rel' d') (.set hfx) .refl .refl)
end
end TL

set_option maxHeartbeats 1000000
namespace TL
open PySem L2 PySem.Spec PyProof.Rows

/-! ### defs -/
/-- a def's promise where nothing that is shown stands around -/
structure FnG (P : Program) (w : World) (K : PySem.W.Frag) (mg : Str → Option Value) (base : Heap) (CX : CXT) (k : Nat) (f : Addr) (fd : FuncData) (ps : List Str) (sp : Sp) : Prop where
  len : ∀ vs H Q E, sp vs H Q E → vs.length = ps.length
  run : ∀ (A : Around) (outer : List PySem.Env) (s : Shared) (H : Hp) (args : Args) (us : List Value) (vs : List V) (Q : VK) (E : XK), Room k A → A.guards = some [] → Env0 P w K mg base A outer s H → BindsTo s fd args (ps.zip us) → Vals vs us → sp vs H Q E →
    codeAny (model P w) A (.call (.ref f) args) (CR CX outer P w H s Q E) s
theorem FnG.mono {P : Program} {w : World} {K : PySem.W.Frag} {mg : Str → Option Value} {base : Heap} {CX : CXT} {j k : Nat} {f : Addr} {fd : FuncData} {ps : List Str} {sp : Sp} (F : FnG P w K mg base CX j f fd ps sp) (h : j ≤ k) : FnG P w K mg base CX k f fd ps sp :=
  ⟨F.len, fun A outer s H args us vs Q E hr => F.run A outer s H args us vs Q E (hr.mono h)⟩
theorem guards_deeper {A : Around} {env : PySem.Env} (h : A.guards = some []) : (A.deeper env).guards = some [] := by
  have : (A.deeper env).guards = A.guards := by
    simp [Around.deeper, Around.under, Around.in1, Code.guards, Code.isGuard, pushGuards]
  rw [this]; exact h
/-- a def of the text, by its body -/
theorem fng_of {CX : CXT} {P : Program} {w : World} {K : PySem.W.Frag} {mg : Str → Option Value} {base : Heap} {k : Nat} {f : Addr} {name qual : Str} {params : Arguments} {body : List Stmt} {scope : Scope} {dV kV doc pm cdv ct oc : Value} {an od : Option Addr}
    {osl : Array (Option Value)} {N ps : List Str} {sp : Sp} (lk : K.lookup f = some ⟨oc, od, .func (PySem.W.fnOf name qual params body scope dV kV doc pm an cdv ct), osl⟩) (hcd : PySem.W.codeIn K cdv qual = true) (S : FnScope N ps scope)
    (len : ∀ vs H Q E, sp vs H Q E → vs.length = ps.length)
    (hbody : ∀ (A : Around) (outer : List PySem.Env) (s : Shared) (H : Hp) (vs : List V) (Q : VK) (E : XK), Room k (A.deeper (envOfC qual scope s.heap.objs.size f cdv)) → (A.deeper (envOfC qual scope s.heap.objs.size f cdv)).guards = some [] → sp vs H Q E →
      ∃ t, PSs (cxOf CX P w K mg base N qual scope f cdv A outer s H E) body t ∧ t { nx := fun _ H' => Q .non H', rt := Q } (L2.start N vs) H) :
    FnG P w K mg base CX (k + 1) f (PySem.W.fnOf name qual params body scope dV kV doc pm an cdv ct) ps sp := by
  refine ⟨len, fun A outer s H args us vs Q E hr hgd e0 hb r hsp => ?_⟩
  have KIn : K.In s.heap := e0.mod.kin.keeps fun b o e => (e0.bs b o e).1
  refine codeAny_call_function hr.depth (KIn _ _ lk) rfl S.co S.gen rfl (PySem.W.codeRec_of KIn hcd) (hb _ _ _ _ ?_)
  refine wpAny_newFunctionEnv_cells S.kind (fun y hy => ?_) fun env he s1 x => ?_
  · obtain ⟨n, v⟩ := y
    exact (S.par n (List.of_mem_zip hy).1).imp id fun q => ⟨q, PySem.W.cellsFrom_some _ _ _ (.inl q)⟩
  · subst he
    refine ⟨(e0.mod.nolimit.keeps fun b o e => (e0.bs b o e).1).keeps x.toInCall.keep, codeAny_func ?_⟩
    obtain ⟨t, ht, hq⟩ := hbody A outer s H vs Q E (hr.deeper _) (guards_deeper hgd) hsp
    refine wpAny_mono (ht.run [] s1 (L2.start N vs) H _ (inv_start S hr.hd e0 (len _ _ _ _ hsp) r x) hq) (fun fl s' hs => ?_) fun e s' hs => hs
    cases fl with
    | ret u => obtain ⟨v, σ', H', J, rv, q⟩ := hs; exact ⟨v, H', J.os, J.bare, J.base, J.hok, rv, q⟩
    | next => obtain ⟨σ', H', J, q⟩ := hs; exact ⟨.non, H', J.os, J.bare, J.base, J.hok, rfl, q⟩
    | brk => obtain ⟨_, _, _, q⟩ := hs; exact False.elim q
    | cont => obtain ⟨_, _, _, q⟩ := hs; exact False.elim q
section
variable {X : Cx} {CX : CXT} {k : Nat} {f C : Addr} {fd : FuncData} {ps : List Str} {sp : Sp} {dvs : List V} {ds : List Value} {E : XK} {x m : Str} {p pos apos : Pos} {e o : Expr} {es : List Expr} {ta : TE} {t : TA}
/-- the callee runs -/
theorem run_fng {pins : List (Addr × Obj)} {σ : L2.St} {H : Hp} {s : Shared} {Q : VK} {us : List Value} {vs : List V} (F : FnG X.prog X.w X.K X.mg X.base CX k f fd ps sp) (hr : Room k X.A) (hgd : X.A.guards = some []) (hb : Binds X.K fd ps ds) (hd : Vals dvs ds) (hx : Passes CX X E)
    (I : Inv X pins σ H s) (r : Vals vs us) (h : sp (vs ++ dvs) H Q E) : wpAny (model X.prog X.w) X.A (call (.ref f) us) (EP X pins σ Q) X.xe s := by
  have r2 := r.append hd
  have hl : (us ++ ds).length = ps.length := by rw [← r2.length]; exact F.len _ _ _ _ h
  refine wpAny_call (codeAny_mono (F.run X.A X.stack s H ⟨us, []⟩ (us ++ ds) (vs ++ dvs) Q E hr hgd I.env0 (hb s us I.kIn hl) r2 h) fun r s' hq => ?_)
  cases r with
  | error e => exact hx pins σ H s e s' I hq
  | ok fl => cases fl with
    | ret u => exact I.after hq
    | next => exact False.elim hq
    | brk => exact False.elim hq
    | cont => exact False.elim hq
theorem pe_callG (F : FnG X.prog X.w X.K X.mg X.base CX k f fd ps sp) (hr : Room k X.A) (hgd : X.A.guards = some []) (hg : Gl X x) (hm : X.mg x = some (.ref f)) (hk : PySem.W.keepIn X.K (.ref f) = true) (hb : Binds X.K fd ps ds) (hd : Vals dvs ds) (hx : Passes CX X E)
    (ha : PA X (e :: es) t) (hdb : (x == ("__debug__" : Str)) = false := by decide) (he : starEach (e :: es) X.env = (false, eval e X.env) :: starEach es X.env := by rfl) (hpl : (backTo pos (starEach es X.env)).any (·.1) = false := by rfl) :
    PE X (.Call (.Name x p) (e :: es) [] pos) (tCall sp dvs E t) := by
  refine ⟨fun pins s σ H Q I h => wpAny_Call_Name_kw (ld_glob I hg hm ?_ hdb)⟩
  exact PySem.W.callWith_K (h₀ := X.base) I.ok.mod.kin hk (thn (ha.run pos pins s σ H _ I h) fun us s1 ⟨vs, H1, I1, r, q⟩ => ⟨I1.kIn, run_fng F hr hgd hb hd hx I1 r q⟩) he hpl
theorem pe_callG0 (F : FnG X.prog X.w X.K X.mg X.base CX k f fd ps sp) (hr : Room k X.A) (hgd : X.A.guards = some []) (hg : Gl X x) (hm : X.mg x = some (.ref f)) (hk : PySem.W.keepIn X.K (.ref f) = true) (hb : Binds X.K fd ps ds) (hd : Vals dvs ds) (hx : Passes CX X E)
    (hdb : (x == ("__debug__" : Str)) = false := by decide) : PE X (.Call (.Name x p) [] [] pos) (tCall sp dvs E tNil) :=
  ⟨fun pins s σ H Q I h => wpAny_Call_Name_kw (ld_glob I hg hm (PySem.W.callWith_K0 I.kIn hk (run_fng (us := []) F hr hgd hb hd hx I .nil h)) hdb)⟩
end
/-! ### a def as a function of what it is given -/
/-- places: the arguments, then nothing yet -/
def startE (N : Nat) (os : List O) : Env := os.map some ++ List.replicate (N - os.length) none
/-- what is given back: the lent arguments -/
def keepE (fx : Nat → Bool) (n : Nat) (e : Env) : Env := (List.range n).map fun i => if fx i = true then e.getD i none else none
def fnG (n N : Nat) (fx : Nat → Bool) (f : S) : List O → Option (O × Env) := fun os => if os.length = n then match f (startE N os) with
    | some (.rt o, e) => some (o, keepE fx n e)
    | some (.nx, e) => some (.d .non, keepE fx n e)
    | _ => none
  else none
def spG (K : PySem.W.Frag) (g : List O → Option (O × Env)) : Sp := fun vs H Q E => ∃ os F r outs, ROs K H os vs F ∧ g os = some (r, outs) ∧
  ∀ z H' F1 F2, RO K H' r z F1 → RelE K H' outs (vs.map some) F2 → Disj F1 F2 → Step F H H' → Sub (Or F1 F2) F H → Q z H'
section
variable {K : PySem.W.Frag} {H H' : Hp}
theorem relE_none : ∀ (n : Nat) {F : Fp}, RelE K H (List.replicate n none) (List.replicate n none) F
  | 0, _ => .nil
  | n + 1, _ => .no (relE_none n)
theorem relE_args : ∀ {os : List O} {vs : List V} {F : Fp} {n : Nat}, ROs K H os vs F → RelE K H (os.map some ++ List.replicate n none) (vs.map some ++ List.replicate n none) F
  | _, _, _, n, .nil => relE_none n
  | _, _, _, n, .cons F1 F2 h r a b d => .so F1 F2 h (relE_args r) a b d
theorem RelE.pre : ∀ {e : Env} {σ : L2.St} {F : Fp} (n : Nat), RelE K H e σ F → RelE K H (e.take n) (σ.take n) F
  | _, _, _, 0, _ => by rw [List.take_zero, List.take_zero]; exact .nil
  | _, _, _, n + 1, .nil => .nil
  | _, _, _, n + 1, .no r => .no (RelE.pre n r)
  | _, _, _, n + 1, .so F1 F2 h r a b d => .so F1 F2 h (RelE.pre n r) a b d
theorem keep_ok {fx : Nat → Bool} {N : List Str} {vs : List V} {e : Env} {σ : L2.St} {F : Fp} (r : RelE K H e σ F) (fi : Fix fx (L2.start N vs) σ) (hl : vs.length ≤ N.length) : RelE K H (keepE fx vs.length e) (vs.map some) F := by
  have hs : (L2.start N vs).length = N.length := by unfold L2.start; rw [List.length_append, List.length_map, List.length_replicate]; omega
  have le : e.length = N.length := by rw [r.length, fi.len, hs]
  refine (r.pre vs.length).patch ?_ ?_ fun i hi => ?_
  · unfold keepE; rw [List.length_map, List.length_range, List.length_take]; omega
  · rw [List.length_map, List.length_take, fi.len, hs]; omega
  · have hi : i < vs.length := by rw [List.length_take] at hi; omega
    have ek : (keepE fx vs.length e)[i]? = some (if fx i = true then e.getD i none else none) := by
      unfold keepE; rw [List.getElem?_map, List.getElem?_range hi]; rfl
    rw [ek]
    by_cases c : fx i = true
    · rw [if_pos c]
      refine .inl ⟨?_, ?_⟩
      · rw [List.getElem?_take_of_lt hi, List.getD_eq_getElem?_getD, List.getElem?_eq_getElem (by omega)]; rfl
      · rw [List.getElem?_take_of_lt hi, fi.at_ i c]
        unfold L2.start
        rw [List.getElem?_append_left (by simpa using hi)]
    · rw [if_neg c]; exact .inr (.inl rfl)
end
theorem fng_body {CX : CXT} {P : Program} {w : World} {K : PySem.W.Frag} {mg : Str → Option Value} {base : Heap} {k : Nat} {f : Addr} {name qual : Str} {params : Arguments} {body : List Stmt} {scope : Scope} {dV kV doc pm cdv ct oc : Value} {an od : Option Addr}
    {osl : Array (Option Value)} {N ps : List Str} {fx : Nat → Bool} {g : S} (n m : Nat) (lk : K.lookup f = some ⟨oc, od, .func (PySem.W.fnOf name qual params body scope dV kV doc pm an cdv ct), osl⟩) (hcd : PySem.W.codeIn K cdv qual = true) (S : FnScope N ps scope)
    (hn : ps.length = n) (hm : N.length = m)
    (hbody : ∀ (A : Around) (outer : List PySem.Env) (s : Shared) (H : Hp) (E : XK), Room k (A.deeper (envOfC qual scope s.heap.objs.size f cdv)) → (A.deeper (envOfC qual scope s.heap.objs.size f cdv)).guards = some [] → SB (cxOf CX P w K mg base N qual scope f cdv A outer s H E) fx body g) :
    FnG P w K mg base CX (k + 1) f (PySem.W.fnOf name qual params body scope dV kV doc pm an cdv ct) ps (spG K (fnG n m fx g)) := by
  subst hn hm
  have hpl : ps.length ≤ N.length := by have := congrArg List.length S.pre; rw [List.length_take] at this; omega
  refine fng_of lk hcd S (fun vs H Q E ⟨os, F, r, outs, ro, e, q⟩ => ?_) fun A outer s H vs Q E hr hgd ⟨os, F, r, outs, ro, e, q⟩ => ⟨_, hbody A outer s H E hr hgd, ?_⟩
  · unfold fnG at e
    split at e
    · rename_i c; rw [← ro.length, c]
    · cases e
  · unfold fnG at e
    split at e
    · rename_i c
      have lv : vs.length = ps.length := by rw [← ro.length, c]
      have re : RelE K H (startE N.length os) (L2.start N vs) F := by
        unfold startE L2.start
        rw [ro.length]
        exact relE_args ro
      refine ⟨startE N.length os, F, re, ?_⟩
      cases p : g (startE N.length os) with
      | none => rw [p] at e; cases e
      | some z =>
        obtain ⟨ou, e2⟩ := z
        rw [p] at e
        cases ou with
        | nx =>
          cases e
          intro σ' H' F' rel fi st sub
          have kk := keep_ok rel fi (by omega)
          rw [lv] at kk
          exact q .non H' nof F' (.d .non) kk (fun _ z _ => z) st fun a z => z.elim False.elim (sub a)
        | rt o =>
          cases e
          intro v σ' H' F1 F2 ro' rel dj fi st sub
          have kk := keep_ok rel fi (by omega)
          rw [lv] at kk
          exact q v H' F1 F2 ro' kk dj st sub
        | bk => cases e
        | ct => cases e
    · cases e
/-! ### calls -/
def rst1 : Option Nat → Option O → Env → Env
  | some i, some o, e => e.set i (some o)
  | _, _, e => e
def rstO : List (O × Option Nat) → Env → Env → Env
  | r :: rs, o :: outs, e => rstO rs outs (rst1 r.2 o e)
  | _, _, e => e
section
variable {X : Cx}
theorem rstO_ok {σ : L2.St} {H : Hp} : ∀ {rs : List (O × Option Nat)} {outs : Env} {vs : List V} {env : Env} {F G : Fp}, RelE X.K H env σ F → RelE X.K H outs (vs.map some) G → Disj G F →
    (∀ (k : Nat) (r : O × Option Nat) (i : Nat), rs[k]? = some r → r.2 = some i → ∃ v, vs[k]? = some v ∧ σ[i]? = some (some v)) → RelE X.K H (rstO rs outs env) σ (Or G F)
  | [], outs, _, env, F, G, rel, _, _, _ => by unfold rstO; exact rel.mono fun _ p => .inr p
  | r :: rs, [], _, env, F, G, rel, _, _, _ => by unfold rstO; exact rel.mono fun _ p => .inr p
  | r :: rs, o :: outs, [], env, F, G, rel, ro, _, _ => by cases ro
  | r :: rs, none :: outs, v :: vs, env, F, G, rel, ro, dj, g => by
    cases ro with
    | no ro =>
      have e : rst1 r.2 none env = env := by unfold rst1; cases r.2 <;> rfl
      unfold rstO
      rw [e]
      exact rstO_ok (vs := vs) rel ro dj fun k r' i e1 e2 => by obtain ⟨w, q1, q2⟩ := g (k + 1) r' i (by simpa using e1) e2; exact ⟨w, by simpa using q1, q2⟩
  | r :: rs, some o :: outs, v :: vs, env, F, G, rel, ro, dj, g => by
    cases ro with
    | so F1 F2 h ro a b d =>
      unfold rstO
      have g' : ∀ (k : Nat) (r : O × Option Nat) (i : Nat), rs[k]? = some r → r.2 = some i → ∃ v, vs[k]? = some v ∧ σ[i]? = some (some v) := fun k r' i e1 e2 => by obtain ⟨w, q1, q2⟩ := g (k + 1) r' i (by simpa using e1) e2; exact ⟨w, by simpa using q1, q2⟩
      have r1 : RelE X.K H (rst1 r.2 (some o) env) σ (Or F1 F) := by
        cases e : r.2 with
        | none => unfold rst1; exact rel.mono fun _ p => .inr p
        | some i =>
          obtain ⟨w, q1, q2⟩ := g 0 r i rfl e
          simp at q1; subst q1
          unfold rst1
          exact rel.back q2 h fun x p q => dj x (a x p) q
      exact (rstO_ok (vs := vs) r1 ro (fun x p q => q.elim (fun q => d x q p) fun q => dj x (b x p) q) g').mono fun x p => p.elim (fun p => .inl (b x p)) fun p => p.elim (fun p => .inl (a x p)) .inr
def cFn (g : List O → Option (O × Env)) (fa : M (List (O × Option Nat))) : M O := bnd fa fun rs => bnd (lift (g (rs.map (·.1)))) fun r e => some (r.1, rstO rs r.2 e)
theorem fn_ok {g : List O → Option (O × Env)} {fa : M (List (O × Option Nat))} {σ : L2.St} {H : Hp} {Q : VK} {E : XK} (h : tOf X (cFn g fa) σ H Q) : tCall (spG X.K g) [] E (tLOf X fa) σ H Q := by
  obtain ⟨env, F, rel, h⟩ := h
  refine tLO_bind rel h fun rs env1 vs H1 F1 F2 ro a g1 h => ?_
  obtain ⟨r, e, h⟩ := h.lift
  rw [List.append_nil]
  refine ⟨rs.map (·.1), F1, r.1, r.2, ro, e, fun z H' F3 F4 rz rel' dj st' sub' => ?_⟩
  have d34 : Disj F2 (Or F3 F4) := disj_new (fun x p q => a.dj x q p) a.d2 sub'
  have rel2 := rstO_ok (rs := rs) (a.rel.step st' fun x p q => a.dj x q p) rel' (fun x p q => d34 x q (.inr p)) g1
  refine h z H' F3 _ rz rel2 (fun x p q => q.elim (dj x p) fun q => d34 x q (.inl p)) (a.st.trans st' fun x p => a.sub x (.inl p)) fun x p => ?_
  have s2 : ∀ {x}, Or F3 F4 x → F x ∨ H x = none := fun {x} p => (sub' x p).elim (fun p => a.sub x (.inl p)) fun n => .inr (a.st.free n)
  rcases p with p | p | p
  · exact s2 (.inl p)
  · exact s2 (.inr p)
  · exact a.sub x (.inr p)
theorem se_fn {CX : CXT} {k : Nat} {f : Addr} {fd : FuncData} {ps : List Str} {x : Str} {p pos : Pos} {e : Expr} {es : List Expr} {g : List O → Option (O × Env)} {fa : M (List (O × Option Nat))} {E : XK} (F : FnG X.prog X.w X.K X.mg X.base CX k f fd ps (spG X.K g)) (hr : Room k X.A) (hgd : X.A.guards = some []) (hg : Gl X x) (hm : X.mg x = some (.ref f)) (hk : PySem.W.keepIn X.K (.ref f) = true) (hb : Binds X.K fd ps []) (hx : Passes CX X E)
    (ha : AO X (e :: es) fa) (hdb : (x == ("__debug__" : Str)) = false := by decide) (he : starEach (e :: es) X.env = (false, eval e X.env) :: starEach es X.env := by rfl) (hpl : (backTo pos (starEach es X.env)).any (·.1) = false := by rfl) :
    SE X (.Call (.Name x p) (e :: es) [] pos) (cFn g fa) := PE.imp (pe_callG F hr hgd hg hm hk hb .nil hx ha hdb he hpl) fun _ _ _ h => fn_ok h
theorem se_fn0 {CX : CXT} {k : Nat} {f : Addr} {fd : FuncData} {ps : List Str} {x : Str} {p pos : Pos} {g : List O → Option (O × Env)} {E : XK} (F : FnG X.prog X.w X.K X.mg X.base CX k f fd ps (spG X.K g)) (hr : Room k X.A) (hgd : X.A.guards = some []) (hg : Gl X x) (hm : X.mg x = some (.ref f)) (hk : PySem.W.keepIn X.K (.ref f) = true) (hb : Binds X.K fd ps []) (hx : Passes CX X E)
    (hdb : (x == ("__debug__" : Str)) = false := by decide) : SE X (.Call (.Name x p) [] [] pos) (cFn g nilO) :=
  PE.imp (pe_callG0 F hr hgd hg hm hk hb .nil hx hdb) fun σ H Q ⟨env, F, rel, h⟩ => by
    have rel := rel.dom
    obtain ⟨r, e, h⟩ := (show Post (PV X F σ H Q) (bnd (lift (g [])) (fun r e => some (r.1, rstO [] r.2 e)) env) from h).lift
    refine ⟨[], nof, r.1, r.2, .nil, e, fun z H' F3 F4 rz rel' dj st' sub' => ?_⟩
    refine h z H' F3 _ rz (rel.step st' fun _ _ z => z) (fun x p q => ?_) (st'.mono fun _ z => z.elim) fun x p => p.elim (fun p => .inr ((sub' x (.inl p)).elim False.elim id)) fun p => .inl p.1
    obtain ⟨_, o, eo⟩ := q
    rcases sub' x (.inl p) with n | n
    · exact n.elim
    · rw [n] at eo; cases eo
end
/-- no def raises -/
def NoX : CXT := fun _ _ _ _ _ _ => False
theorem noX_passes {X : Cx} {E : XK} : Passes NoX X E := fun _ _ _ _ _ _ _ h => h.elim
end TL

set_option maxHeartbeats 1000000
namespace TL
open PySem L2

section
variable {X : Cx}
/-! ### a name that is never changed from now on -/
def nf (i : Nat) : M O := fun e => match e[i]? with
  | some (some o) => some (.d o.shr, e.set i (some (.d o.shr)))
  | _ => none
theorem se_nf (i : Nat) {x : Str} {pos : Pos} (hN : X.N[i]? = some x := by rfl) (hv : Vis X.env.scope x := by first | exact Or.inl rfl | exact Or.inr (Or.inl rfl) | exact Or.inr (Or.inr rfl)) (hd : (x == ("__debug__" : Str)) = false := by decide)
    (hcd : (x == ("__classdict__" : Str)) = false := by decide) : SE X (.Name x pos) (nf i) := by
  refine PE.imp (pe_gh (G := GFz X) (pe_var hN hv hd hcd) fun pins σ s v H Q I ⟨o, F, r, q⟩ => ?_) fun σ H Q ⟨env, F, rel, h⟩ => ?_
  · obtain ⟨H', I', r', z⟩ := frz_ok I r
    exact ⟨H', I', q H' r' z⟩
  · unfold nf at h
    split at h
    · rename_i o e
      obtain ⟨v, F1, F2, e1, r, rel', a, b, d⟩ := rel.take e
      refine ⟨v, e1, o, F1, r, fun H' r' z => ?_⟩
      have rel2 := (rel'.step z.step fun x p q => d x q p).back (F1 := nof) e1 (RO.d r') (fun _ z _ => z)
      rw [List.set_set] at rel2
      refine h v H' nof _ (.d r') rel2 (fun _ p _ => p) (z.step.mono fun x p => .inl (a x p)) fun x p => .inl ?_
      rcases p with p | p | p
      · exact p.elim
      · exact p.elim
      · exact b x p
    · exact h.elim

/-! ### a text some times -/
theorem foldl_cat : ∀ (n : Nat) (c acc : Array Nat), ((List.replicate n c).foldl (· ++ ·) acc).toList = acc.toList ++ (List.replicate n c.toList).flatten
  | 0, c, acc => by simp
  | n + 1, c, acc => by
    rw [List.replicate_succ, List.foldl_cons, foldl_cat n c (acc ++ c), List.replicate_succ, List.flatten_cons, Array.toList_append, List.append_assoc]
theorem os_mulS : OpS X (binaryOp .Mult) gMulS := by
  intro pins s σ H x y v u ox oy o F G I rx ry r1 r2 e
  unfold gMulS at e
  split at e
  · rename_i i n
    split at e
    · rename_i c
      obtain ⟨c1, c2, c3⟩ := c
      cases e
      cases r1.od
      cases r2.od
      obtain ⟨t, rfl⟩ := rx
      obtain ⟨t', rfl⟩ := ry
      have res : ∀ {z : Str} {tk tk'}, z.cps.toList = (List.replicate n.toNat i.cps.toList).flatten → EP X pins σ (New X.K H (.d (.str ⟨(List.replicate n.toNat i.cps.toList).flatten.toArray⟩))) (.str z tk) { s with toks := tk' } := fun {z tk tk'} h => by
        have ez : z = ⟨(List.replicate n.toNat i.cps.toList).flatten.toArray⟩ := by
          apply Str.ext'
          apply Array.toList_inj.mp
          rw [h]
        exact ⟨.str z, H, I.tok tk', ⟨tk, rfl⟩, by rw [ez]; exact .d (.str _)⟩
      have lo : ¬ n < -(2 ^ 63 : Int) := by omega
      have hi : ¬ n ≥ 2 ^ 63 := by omega
      refine PySem.P.mul_str (by rw [decide_eq_false lo, decide_eq_false hi]; rfl) (fun h1 h2 h3 => ?_) (fun h1 h2 => ?_) ?_
      · rw [Bool.or_eq_false_iff] at h2
        have hn : 0 < n := by omega
        have hm : (i.length : Int) * n ≤ 2 ^ 63 - 1 := by
          have : ((i.length * n.toNat : Nat) : Int) = (i.length : Int) * n := by rw [Int.natCast_mul, Int.toNat_of_nonneg c1]
          have h4 : sizeLine ≤ 2 ^ 62 := by rw [sizeLine_eq]; decide
          have h5 : ((i.length * n.toNat : Nat) : Int) ≤ (sizeLine : Int) := by exact_mod_cast c3
          rw [← this]
          have h6 : (sizeLine : Int) ≤ 2 ^ 62 := by exact_mod_cast h4
          omega
        have := (Int.le_ediv_iff_mul_le hn).mpr hm
        omega
      · unfold Builtin.Str.tooLong
        simp; exact c3
      · split
        · rename_i h1
          have : n.toNat = 0 := by omega
          exact ⟨by decide, res (by rw [this]; rfl)⟩
        · split
          · rename_i h1 h2
            rw [Bool.or_eq_true] at h2
            have e0 : i.cps.toList = (List.replicate n.toNat i.cps.toList).flatten := by
              rcases h2 with h2 | h2
              · have : n.toNat = 1 := by have := eq_of_beq h2; omega
                rw [this]; simp
              · have : i.cps.toList = [] := by
                  have q : i.length = 0 := eq_of_beq h2
                  have q2 : i.cps.size = 0 := q
                  exact List.eq_nil_of_length_eq_zero (by rw [Array.length_toList]; exact q2)
                rw [this]; simp
            have q := res (z := i) (tk := t) (tk' := s.toks) e0
            exact q
          · refine ⟨?_, res (by rw [foldl_cat]; rfl)⟩
            show Array.size _ ≤ _
            rw [← Array.length_toList, foldl_cat]
            simp only [List.nil_append, List.length_flatten, List.map_replicate, Array.length_toList]
            rw [List.sum_replicate_nat, Nat.mul_comm]
            exact c3
    · cases e
  · cases e
/-! ### a dict's display -/
def prsM : List (M O × M O) → M (List (D × D))
  | [] => ret []
  | (fk, fv) :: r => bnd fk fun k => bnd fv fun v => match k, v with
    | .d k, .d v => bnd (prsM r) fun ds => ret ((k, v) :: ds)
    | _, _ => lift none
theorem prs_ok {β : Type} {P : β → Env → Prop} {σ : L2.St} : ∀ {fs : List (M O × M O)} {k : List (D × D) → M β} {H : Hp} {Q : List (V × V) → Hp → Prop} {env : Env} {F : Fp}, RelE X.K H env σ F → Post P (bnd (prsM fs) k env) →
    (∀ ds env' ps H' F2, RDs X.K H' (ds.map (·.1)) (ps.map (·.1)) → RDs X.K H' (ds.map (·.2)) (ps.map (·.2)) → RelE X.K H' env' σ F2 → Step F H H' → Sub F2 F H → Post P (k ds env') → Q ps H') → tPairs (fs.map fun p => (tOf X p.1, tOf X p.2)) σ H Q
  | [], k, H, Q, env, F, rel, h, c => c [] env [] H F .nil .nil rel .refl .refl h
  | (fk, fv) :: r, k, H, Q, env, F, rel, h, c => by
    have h' : Post P (bnd fk (fun x => bnd fv fun y => bnd (match x, y with | .d a, .d b => bnd (prsM r) fun ds => ret ((a, b) :: ds) | _, _ => lift none) k) env) := by
      unfold prsM at h
      unfold bnd at h ⊢
      cases q : fk env with
      | none => rw [q] at h; exact h
      | some z =>
        rw [q] at h
        dsimp only at h ⊢
        cases q2 : fv z.2 with
        | none => rw [q2] at h; exact h
        | some z2 => rw [q2] at h; exact h
    refine tOf_bind rel h' fun x env1 v H1 F1 F2 ro a h1 => ?_
    refine tOf_bind a.rel h1 fun y env2 u H2 F3 F4 ro2 b h2 => ?_
    obtain ⟨st, sub, d13, d14, dm⟩ := a.next b
    cases x with
    | d x =>
      cases y with
      | d y =>
        have h3 : Post P (bnd (prsM r) (fun ds => k ((x, y) :: ds)) env2) := by
          dsimp only at h2
          unfold bnd at h2 ⊢
          cases q : prsM r env2 with
          | none => rw [q] at h2; exact h2
          | some z => rw [q] at h2; exact h2
        refine prs_ok b.rel h3 fun ds env' ps H' F5 r1 r2 rel' st' sub' hk => ?_
        exact c ((x, y) :: ds) env' ((v, u) :: ps) H' F5 (.cons ((ro.od.keep b.st.pers).keep st'.pers) r1) (.cons (ro2.od.keep st'.pers) r2) rel' (st.trans st' fun z p => sub z (.inr (.inr p)))
          (fun z p => (sub' z p).elim (fun p => sub z (.inr (.inr p))) fun n => .inr (st.free n)) hk
      | _ => exact h2.elim
    | _ => exact h2.elim
variable (X) in
/-- the pairs that are written -/
def DsE (pos : Pos) (ks : List (Option Expr)) (vs : List Expr) (fs : List (M O × M O)) : Prop := PPs X pos ks vs (fs.map fun p => (tOf X p.1, tOf X p.2))
theorem ds_nil {pos : Pos} : DsE X pos [] [] [] := pps_nil
theorem ds_cons {pos : Pos} {k v : Expr} {ks : List (Option Expr)} {vs : List Expr} {fk fv : M O} {fs : List (M O × M O)} (hk : SE X k fk) (hv : SE X v fv) (hr : DsE X pos ks vs fs) : DsE X pos (some k :: ks) (v :: vs) ((fk, fv) :: fs) := pps_cons hk hv hr
/-- the table of pairs, from the left -/
def tabK : List (D × D) → List (Key × O) → Option (List (Key × O))
  | [], m => some m
  | (k, v) :: r, m => match keyD k with
    | some k => tabK r (setK m k (.d v))
    | none => none
def cDisp (fs : List (M O × M O)) : M O := bnd (prsM fs) fun ds => bnd (lift (if ds.length ≤ 15 then tabK ds [] else none)) fun m => ret (.dct m)
theorem nodup_put {kvs : List (Key × V)} {k : Key} {v : V} (nd : (kvs.map (·.1)).Nodup) : ((putK kvs k v).map (·.1)).Nodup := by
  have hp : putK kvs k v = if hasK kvs k then kvs.map fun p => if p.1 = k then (p.1, v) else p else kvs ++ [(k, v)] := rfl
  rw [hp]
  cases q : hasK kvs k with
  | true =>
    have : (kvs.map fun p => if p.1 = k then (p.1, v) else p).map (·.1) = kvs.map (·.1) := by
      rw [List.map_map]; apply List.map_congr_left; intro p _; dsimp only [Function.comp]; split <;> rfl
    simp only [if_true]; rw [this]; exact nd
  | false =>
    simp only [Bool.false_eq_true, if_false, List.map_append, List.map_cons, List.map_nil]
    refine List.nodup_append.mpr ⟨nd, by simp, fun x hx y hy e => ?_⟩
    have hy : y = k := by simpa using hy
    subst hy; subst e
    obtain ⟨p, hpm, rfl⟩ := List.mem_map.mp hx
    have : hasK kvs p.1 = true := List.any_eq_true.mpr ⟨p, hpm, decide_eq_true rfl⟩
    rw [q] at this; cases this
theorem tab_ok {H : Hp} : ∀ {ds : List (D × D)} {ps : List (V × V)} {m m' : List (Key × O)} {kvs : List (Key × V)}, RDs X.K H (ds.map (·.1)) (ps.map (·.1)) → RDs X.K H (ds.map (·.2)) (ps.map (·.2)) → tabK ds m = some m' →
    kvs.map (·.1) = m.map (·.1) → (kvs.map (·.1)).Nodup → ROs X.K H (m.map (·.2)) (kvs.map (·.2)) nof →
    ∃ more : List (Key × V), ps = more.map (fun kv => (kV kv.1, kv.2)) ∧ (mergeK kvs more).map (·.1) = m'.map (·.1) ∧ ROs X.K H (m'.map (·.2)) ((mergeK kvs more).map (·.2)) nof
  | [], ps, m, m', kvs, r1, r2, e, hk, nd, ro => by
    cases e
    have : ps = [] := by
      have := r1.length
      exact List.eq_nil_of_length_eq_zero (by simpa using this.symm)
    subst this
    exact ⟨[], rfl, hk, ro⟩
  | (k, v) :: ds, [], m, m', kvs, r1, r2, e, hk, nd, ro => by cases r1
  | (k, v) :: ds, (x, y) :: ps, m, m', kvs, r1, r2, e, hk, nd, ro => by
    cases r1 with
    | cons r1 r1' =>
      cases r2 with
      | cons r2 r2' =>
        unfold tabK at e
        cases q : keyD k with
        | none => rw [q] at e; cases e
        | some key =>
          rw [q] at e
          dsimp only at e
          have ex : x = kV key := keyO_ok (F := nof) (.d r1) (show keyO (.d k) = some key from q)
          subst ex
          obtain ⟨a1, a2⟩ := put_ro (k := key) hk nd ro (RO.d (F := nof) r2) fun _ z _ => z
          have a2 : ROs X.K H ((setK m key (.d v)).map (·.2)) ((putK kvs key y).map (·.2)) nof := a2.mono fun _ z => z.elim id id
          obtain ⟨more, b1, b2, b3⟩ := tab_ok r1' r2' e a1 (nodup_put nd) a2
          exact ⟨(key, y) :: more, by rw [b1]; rfl, b2, b3⟩
theorem tab_len : ∀ {ds : List (D × D)} {m m' : List (Key × O)}, tabK ds m = some m' → True := fun _ => trivial
theorem se_disp {ks : List (Option Expr)} {vs : List Expr} {fs : List (M O × M O)} {pos : Pos} (h : DsE X pos ks vs fs) (hall : ks.all (·.isSome) = true := by rfl) (hl : ks.length = vs.length := by rfl) (h0 : ks ≠ [] := by intro e; cases e) (h15 : ks.length ≤ 15 := by decide) : SE X (.Dict ks vs pos) (cDisp fs) := by
  refine PE.imp (pe_disp h hall hl h0 h15) fun σ H Q ⟨env, F, rel, h⟩ => ?_
  intro p hp
  have rel := rel.dom
  have s1 : Step nof H (upd H p (.dK [])) := .new hp
  refine prs_ok (rel.step s1 fun _ _ z => z) h fun ds env' ps H' F2 r1 r2 rel' st sub hk => ?_
  have np : ¬ (fun a => F a ∧ ∃ o, H a = some o) p := fun z => by obtain ⟨_, o, e⟩ := z; rw [hp] at e; cases e
  have e1 := st.keep _ _ (upd_same (H := H) (a := p) (o := .dK [])) np
  obtain ⟨m, e, hk⟩ := hk.lift
  split at e
  · rename_i hz
    obtain ⟨more, b1, b2, b3⟩ := tab_ok (kvs := []) r1 r2 e rfl (by simp) .nil
    refine ⟨e1, more, b1, ?_, ?_⟩
    · have := r1.length
      rw [List.length_map, List.length_map, b1, List.length_map] at this
      omega
    · have w : Step (fun z => z = p) H' (upd H' p (.dK (mergeK [] more))) := .wr e1 trivial rfl
      have n2 : ¬ F2 p := fun z => (sub _ z).elim np fun n => by rw [upd_same] at n; cases n
      refine hk (.ref p) _ (fun z => z = p) F2 (.dct upd_same rfl b2 ((b3.step w fun _ z => z.elim).mono fun _ z => z.elim)) (rel'.step w fun x p q => n2 (q ▸ p)) (fun x p q => n2 (p ▸ q)) ?_ fun x q => ?_
      · refine ⟨fun a o ea n => ?_, fun a o ea n => ?_, fun a o ea => ?_⟩
        · rw [upd_ne (ne_of_none ea hp)]
          exact st.keep a o (by rw [upd_ne (ne_of_none ea hp)]; exact ea) fun z => n z.1
        · rw [upd_ne (ne_of_none ea hp)]
          exact st.pers a o (by rw [upd_ne (ne_of_none ea hp)]; exact ea) n
        · rw [upd_ne (ne_of_none ea hp)]
          exact st.there a o (by rw [upd_ne (ne_of_none ea hp)]; exact ea)
      · rcases q with q | q
        · subst q; exact .inr hp
        · exact (sub x q).imp And.left fun n => s1.free n
  · cases e
def cNewD : M O := ret (.dct [])
theorem se_newD {pos : Pos} : SE X (.Dict [] [] pos) cNewD := PE.imp pe_dnewK fun σ H Q ⟨env, F, rel, h⟩ => fun p hp => by
  have rel := rel.dom
  have s1 : Step nof H (upd H p (.dK [])) := .new hp
  refine h (.ref p) _ (fun z => z = p) _ (.dct upd_same rfl rfl .nil) (rel.step s1 fun _ _ z => z) (fun x p q => ?_) (s1.mono fun _ z => z.elim) fun x q => ?_
  · subst p; obtain ⟨_, o, e⟩ := q; rw [hp] at e; cases e
  · rcases q with q | q
    · subst q; exact .inr hp
    · exact .inl q.1
/-! ### repr of data -/
def isSeqD : PyData → Bool
  | .list _ => true
  | .tuple _ => true
  | _ => false
def gRepr : List O → Option O := g1 fun x => match x.shr.py with
  | some d => if (isSeqD d && d.showable && !d.hasDict && decide (d.depth ≤ 50) && decide (d.shown.length ≤ sizeLine)) = true then some (.d (.str d.shown)) else none
  | none => none
theorem cs_repr (hgd : X.A.guards = some []) (hu : X.A.units + 64 < cLine) : CallS X (.builtin "repr") gRepr := by
  intro pins s σ H xs us os o F I rv r e
  obtain ⟨x, v, G, rfl, rfl, h, q⟩ := g1_of r e
  obtain ⟨u, rfl, rx⟩ := vals1 rv
  split at q
  · rename_i d hd
    split at q
    · rename_i c
      simp only [Bool.and_eq_true, Bool.not_eq_true', decide_eq_true_eq] at c
      obtain ⟨⟨⟨⟨c1, c2⟩, c3⟩, c4⟩, c5⟩ := c
      cases q
      have dp := h.dp hd
      obtain ⟨as, rd⟩ := Dp.reads I d v u dp rx
      have ref : ∃ a, u = .ref a := by
        cases dp with
        | lst _ _ => cases rx; exact ⟨_, rfl⟩
        | tup _ _ => cases rx; exact ⟨_, rfl⟩
        | _ => cases c1
      obtain ⟨a, rfl⟩ := ref
      exact repr_of_reads' rd c2 (fun z => by rw [c3] at z; cases z) hgd (by omega) (fun _ _ e => e) (fun h' u tk k => ⟨.str d.shown, H, I.kept k, ⟨u, rfl⟩, .d (.str _)⟩) c5
    · cases q
  · cases q
/-! ### sorted -/
def encD (d : D) : PyData := (d.py).getD .none
def sortD (xs : List D) : List D := xs.mergeSort (PySem.W.dataLe false encD)
def canSort (ds : List PyData) : Bool := (ds.all fun d => ds.all fun d' => PySem.W.alike d d') && (ds.all (fun d => match d with | .tuple (_ :: _) => true | _ => false) || ds.all fun d => match d with | .none => false | .tuple _ => false | _ => true) && ds.all fun d => decide (d.depth ≤ 40)
def gSorted : List O → Option O := g1 fun x => match asL x with
  | some xs => match pys xs with
    | some ds => if (canSort ds && decide (xs.length ≤ sizeLine)) = true then some (.lst ((sortD xs).map O.d)) else none
    | none => none
  | none => none
theorem pys_map : ∀ {xs : List D} {ds : List PyData}, pys xs = some ds → xs.map encD = ds
  | [], _, e => by rw [pys] at e; cases e; rfl
  | x :: xs, _, e => by
    rw [pys] at e
    cases q : x.py with
    | none => rw [q] at e; cases e
    | some d =>
      cases q2 : pys xs with
      | none => rw [q, q2] at e; cases e
      | some ds =>
        rw [q, q2] at e; cases e
        rw [List.map_cons, pys_map q2]
        unfold encD; rw [q]; rfl
theorem pys_py : ∀ {xs : List D} {ds : List PyData}, pys xs = some ds → ∀ x ∈ xs, x.py = some (encD x)
  | [], _, _, x, h => nomatch h
  | y :: xs, _, e, x, h => by
    rw [pys] at e
    cases q : y.py with
    | none => rw [q] at e; cases e
    | some d =>
      cases q2 : pys xs with
      | none => rw [q, q2] at e; cases e
      | some ds =>
        rcases List.mem_cons.mp h with h | h
        · subst h; unfold encD; rw [q]; rfl
        · exact pys_py q2 x h
def RVD (X : Cx) (H : Hp) (u : Value) (d : D) : Prop := ∃ v, RelV v u ∧ RD X.K H d v
theorem each_rvd {H : Hp} : ∀ {xs : List D} {vs : List V} {us : List Value}, RDs X.K H xs vs → Vals vs us → PySem.W.EachIs (RVD X H) us xs
  | _, _, _, .nil, h => by cases h; exact .nil
  | _, _, _, .cons r rs, h => by
    cases h with
    | cons h hs => exact .cons ⟨_, h, r⟩ (each_rvd rs hs)
theorem each_back {H : Hp} : ∀ {us : List Value} {xs : List D}, PySem.W.EachIs (RVD X H) us xs → ∃ vs, Vals vs us ∧ RDs X.K H xs vs
  | _, _, .nil => ⟨[], .nil, .nil⟩
  | _, _, .cons ⟨v, h, r⟩ t => let ⟨vs, a, b⟩ := each_back t; ⟨v :: vs, .cons h a, .cons r b⟩
theorem each_and {α β : Type} {R R' : α → β → Prop} {P : β → Prop} (k : ∀ a b, P b → R a b → R' a b) : ∀ {as : List α} {bs : List β}, (∀ b ∈ bs, P b) → PySem.W.EachIs R as bs → PySem.W.EachIs R' as bs
  | _, _, _, .nil => .nil
  | _, _, h, .cons r t => .cons (k _ _ (h _ (by simp)) r) (each_and k (fun b hb => h b (by simp [hb])) t)
theorem canSort_ok {ds : List PyData} (h : canSort ds = true) : PySem.W.AllAlike ds ∧ PySem.W.Sortable ds ∧ ∀ d ∈ ds, d.depth ≤ 40 := by
  unfold canSort at h
  simp only [Bool.and_eq_true, Bool.or_eq_true] at h
  obtain ⟨⟨h1, h2⟩, h3⟩ := h
  refine ⟨fun d hd d' hd' => List.all_eq_true.mp (List.all_eq_true.mp h1 d hd) d' hd', ?_, fun d hd => of_decide_eq_true (List.all_eq_true.mp h3 d hd)⟩
  rcases h2 with h2 | h2
  · refine .inl fun d hd => ?_
    have q := List.all_eq_true.mp h2 d hd
    split at q
    · exact ⟨_, _, rfl⟩
    · cases q
  · refine .inr fun d hd => ?_
    have q := List.all_eq_true.mp h2 d hd
    refine ⟨fun e => ?_, fun xs e => ?_⟩
    · subst e; cases q
    · subst e; cases q
theorem cs_sorted (hu : X.A.units + 64 < cLine) : CallS X (.builtin "sorted") gSorted := by
  intro pins s σ H xs us os o F I rv r e
  obtain ⟨x, v, G, rfl, rfl, h, q⟩ := g1_of r e
  obtain ⟨u, rfl, rx⟩ := vals1 rv
  split at q
  · rename_i ys hy
    split at q
    · rename_i ds hd
      split at q
      · rename_i c
        rw [Bool.and_eq_true, decide_eq_true_eq] at c
        cases q
        obtain ⟨a, vs, rfl, hs, rd⟩ := asL_ok h hy
        obtain ⟨its, rvs, hl, _⟩ := I.list hs
        obtain rfl : u = Value.ref a := rx
        obtain ⟨c1, c2, c3⟩ := canSort_ok c.1
        have em := pys_map hd
        rw [← em] at c1 c2 c3
        have ee := each_rvd rd rvs
        have er := each_and (R' := fun u d => ∃ as, Reads s.heap u (encD d) as) (fun u d hp ⟨v, h1, h2⟩ => Dp.reads I (encD d) v u (h2.dp hp) h1) (pys_py hd) ee
        refine PySem.W.sorted_data hl.isList ee er c1 c2 c.2 (fun b hb => by have := c3 _ (List.mem_map.mpr ⟨b, hb, rfl⟩); omega) fun out ho eo => ?_
        obtain ⟨ep, he'⟩ := PyProof.Rows.sortedAll_at s.heap its out.toArray
        obtain ⟨vs', hv, rd'⟩ := each_back eo
        have hlen : vs'.length ≤ sizeLine := by rw [hv.length, ho]; exact c.2
        have hf := I.hok.fresh (Nat.le_succ s.heap.objs.size)
        have J := I.laid (a := s.heap.objs.size + 1) (o := .lst vs') (h' := PyProof.Rows.sortedAll s.heap its out.toArray) (t' := s.toks) (fun _ _ => PyProof.Rows.sortedAll_old) (Nat.le_succ _) ⟨hlen, out, ep, hv, he'⟩
        refine ⟨.ref _, _, J, rfl, fun z => z = s.heap.objs.size + 1, .lst upd_same rfl ((rd'.keep (Step.new (F := nof) hf).pers).os), .new hf, fun z e => .inr (e ▸ hf)⟩
      · cases q
    · cases q
  · cases q
end
end TL

set_option maxHeartbeats 4000000
namespace TL
open PySem L2 PySem.Spec PyProof.Rows

/-! ### sets of keys, with all that a walk of them asks -/
section
variable {P : Program} {w : World} {κ : Type} [DecidableEq κ] {knd : KeyKind P w κ}
/-- the entry stands for the key -/
def EK (knd : KeyKind P w κ) (e : Int × Value) (k : κ) : Prop := knd.is k e.2 = true ∧ e.1 = knd.hash k ∧ e.2.scannable = true
inductive EKs (knd : KeyKind P w κ) : List (Int × Value) → List κ → Prop
  | nil : EKs knd [] []
  | cons {e k es ks} : EK knd e k → EKs knd es ks → EKs knd (e :: es) (k :: ks)
theorem EKs.length : ∀ {es : List (Int × Value)} {ks : List κ}, EKs knd es ks → es.length = ks.length
  | _, _, .nil => rfl
  | _, _, .cons _ r => by simp [EKs.length r]
theorem EKs.perm {es es' : List (Int × Value)} (p : es'.Perm es) : ∀ {ks : List κ}, EKs knd es ks → ∃ ks', EKs knd es' ks' ∧ ks'.Perm ks := by
  induction p with
  | nil => intro ks h; exact ⟨ks, h, .refl _⟩
  | cons x _ ih =>
    intro ks h
    cases h with
    | cons a b => obtain ⟨ks', c, d⟩ := ih b; exact ⟨_, .cons a c, d.cons _⟩
  | swap x y l =>
    intro ks h
    cases h with
    | cons a b => cases b with
      | cons c d => exact ⟨_, .cons c (.cons a d), .swap _ _ _⟩
  | trans _ _ ih1 ih2 =>
    intro ks h
    obtain ⟨k1, a, b⟩ := ih2 h
    obtain ⟨k2, c, d⟩ := ih1 a
    exact ⟨k2, c, d.trans b⟩
theorem EKs.append : ∀ {es fs : List (Int × Value)} {ks ls : List κ}, EKs knd es ks → EKs knd fs ls → EKs knd (es ++ fs) (ks ++ ls)
  | _, _, _, _, .nil, h => h
  | _, _, _, _, .cons a r, h => .cons a (EKs.append r h)
theorem EKs.elems : ∀ {es : List (Int × Value)} {ks : List κ}, EKs knd es ks → ElemsOf knd es
  | _, _, .nil => fun e he => nomatch he
  | _, _, .cons a r => fun e he => by
    rcases List.mem_cons.mp he with z | z
    · subst z; exact ⟨⟨_, a.1, a.2.1⟩, a.2.2⟩
    · exact r.elems e z
theorem EKs.find : ∀ {es : List (Int × Value)} {ks : List κ} (k : κ), EKs knd es ks → ((∃ e ∈ es, knd.is k e.2 = true) ↔ k ∈ ks)
  | _, _, k, .nil => by simp
  | _, _, k, .cons (e := e) (k := j) a r => by
    have ih := r.find k
    constructor
    · rintro ⟨x, hx, q⟩
      rcases List.mem_cons.mp hx with z | z
      · subst z; rw [knd.inj _ _ _ q a.1]; simp
      · exact List.mem_cons_of_mem _ (ih.mp ⟨x, z, q⟩)
    · intro h
      rcases List.mem_cons.mp h with z | z
      · subst z; exact ⟨e, by simp, a.1⟩
      · obtain ⟨x, hx, q⟩ := ih.mpr z; exact ⟨x, List.mem_cons_of_mem _ hx, q⟩
/-- the set of the keys ks at a -/
def SetG (knd : KeyKind P w κ) (h : Heap) (a : Addr) (ks : List κ) : Prop :=
  ∃ o es ep t ks', h.get? a = some o ∧ o.ExactSet ∧ o.data = .set es ep t ∧ EKs knd es.toList ks' ∧ ks'.Perm ks ∧ ks.Nodup ∧ es.size < scanBound ∧ t.fits es.size = true ∧ Ris t.place.toList ∧ (w.params.followText "set-order" = true ∨ t.led = true)
theorem SetG.at {h h' : Heap} {a : Addr} {ks : List κ} (R : SetG knd h a ks) (k : ∀ o, h.get? a = some o → h'.get? a = some o) : SetG knd h' a ks := by
  obtain ⟨o, es, ep, t, ks', ho, r⟩ := R
  exact ⟨o, es, ep, t, ks', k o ho, r⟩
theorem SetG.size {h : Heap} {a : Addr} {ks : List κ} (R : SetG knd h a ks) : ks.length < scanBound := by
  obtain ⟨o, es, ep, t, ks', ho, _, _, e, p, _, b, _⟩ := R
  rw [← p.length_eq, ← e.length, Array.length_toList]; exact b
variable {A : Around} {E : Value → Shared → Prop} {s : Shared} {a : Addr} {ks : List κ}
/-- a key more -/
def addK (ks : List κ) (k : κ) : List κ := if k ∈ ks then ks else ks ++ [k]
theorem setG_tail {g : Bool → Sem Unit} (hg : ∀ (b : Bool) (s₁ : Shared) (Q' : Unit → Shared → Prop), Q' () s₁ → wpAny (model P w) A (g b) Q' E s₁)
    {o : Obj} {es : Array (Int × Value)} {ep : Nat} {t : SetTable} (ho : s.heap.get? a = some o) (hex : o.ExactSet) (hd : o.data = .set es ep t)
    {es1 : Array (Int × Value)} {t2 : SetTable} {ks1 : List κ} (e1 : EKs knd es1.toList ks1) (pk : ks1.Perm ks) (nd : ks.Nodup)
    (hb1 : es1.size < scanBound) (hf2 : t2.fits es1.size = true) (hr : Ris t2.place.toList) (hl : w.params.followText "set-order" = true ∨ t2.led = true) {wasDummy : Bool} {R : Option Bool → Shared → Prop}
    (hR : ∀ h', Heap.SameBut a s.heap h' → SetG knd h' a ks → R (some true) { s with heap := h' }) :
    wpAny (model P w) A (do
        storeSet a es1 t2
        if (!wasDummy && t2.tooFull) = true then do
            g (relayAll t2 es1 (SetTable.grown es1.size)).2.2
            storeSet a (relayAll t2 es1 (SetTable.grown es1.size)).1 (relayAll t2 es1 (SetTable.grown es1.size)).2.1
            pure (some true)
          else pure (some true)) R E s := by
  refine wpAny_bind (wpAny_storeSet_of ho hd ?_ (fits_of_scanBound hb1))
  have ho1 := store_at (es' := es1) (t' := t2) ho hd
  have sb1 := Heap.SameBut.update s.heap a (Obj.putSet es1 t2)
  split
  · have pm := relayAll_perm t2 es1 (SetTable.grown es1.size)
    have hf3 := relayAll_fits t2 es1 (SetTable.grown es1.size)
    have hr3 := relayAll_ris t2 es1 (SetTable.grown es1.size)
    have hl3 := relayAll_led t2 es1 (SetTable.grown es1.size)
    generalize relayAll t2 es1 (SetTable.grown es1.size) = Z at pm hf3 hr3 hl3 ⊢
    obtain ⟨es2, t3, gave⟩ := Z
    dsimp only at pm hf3 hr3 hl3 ⊢
    have hsz : es2.size = es1.size := by rw [← Array.length_toList, pm.length_eq, Array.length_toList]
    have hb2 : es2.size < scanBound := by rw [hsz]; exact hb1
    obtain ⟨ks2, e2, p2⟩ := e1.perm pm
    refine wpAny_bind (hg _ _ _ (wpAny_bind (wpAny_storeSet_of ho1 rfl ?_ (fits_of_scanBound hb2))))
    have ho2 := store_at (es' := es2) (t' := t3) ho1 rfl
    exact wpAny_pure (hR _ (sb1.trans (Heap.SameBut.update _ a _)) ⟨_, es2, _, t3, ks2, ho2, hex, rfl, e2, p2.trans pk, nd, hb2, hf3, hr3, hl.imp id fun z => by rw [hl3]; exact z⟩)
  · exact wpAny_pure (hR _ sb1 ⟨_, es1, _, t2, ks1, ho1, hex, rfl, e1, pk, nd, hb1, hf2, hr, hl⟩)
theorem setG_add {k : κ} {x : Value} {Q : Bool → Shared → Prop} (hkey : knd.is k x = true) (hsc : x.scannable = true) (R : SetG knd s.heap a ks) (room : ks.length + 1 < scanBound)
    (hQ : ∀ b h', Heap.SameBut a s.heap h' → SetG knd h' a (addK ks k) → Q b { s with heap := h' }) :
    wpAny (model P w) A (setAddHashed a x (knd.hash k)) Q E s := by
  obtain ⟨o, es, ep, t, ks', ho, hex, hd, ek, pk, nd, hb, hf, hr, hl⟩ := R
  have hel : ElemsOf knd es.toList := ek.elems
  have hn : es.size = ks.length := by rw [← Array.length_toList, ek.length, pk.length_eq]
  unfold setAddHashed setAddHashedIn
  refine wpAny_holding (wpAny_bind (wpAny_setState_of ho hd hf ?_))
  dsimp only
  rw [byScan_of hsc hb hel]
  simp only [↓reduceIte]
  unfold setAddByScan
  refine wpAny_bind ?_
  refine wpAny_bind (wpAny_rule ?_)
  refine wpAny_bind (wpAny_setScan_of hkey ho hd hf hel ?_)
  cases hfi : List.findIdx? (fun e => knd.is k e.2) es.toList with
  | some j =>
    dsimp only
    obtain ⟨hj, pj, _⟩ := List.findIdx?_eq_some_iff_getElem.mp hfi
    have hk : k ∈ ks := pk.mem_iff.mp ((ek.find k).mp ⟨es.toList[j], List.getElem_mem hj, pj⟩)
    refine wpAny_pure (wpAny_pure ?_)
    refine hQ _ s.heap (Heap.SameBut.refl a s.heap) ?_
    unfold addK; rw [if_pos hk]
    exact ⟨o, es, ep, t, ks', ho, hex, hd, ek, pk, nd, hb, hf, hr, hl⟩
  | none =>
    dsimp only
    have hnk : k ∉ ks := fun z => by
      obtain ⟨e, he, q⟩ := (ek.find k).mpr (pk.mem_iff.mpr z)
      have c := List.findIdx?_eq_none_iff.mp hfi e he
      rw [q] at c
      cases c
    have hgw : ∀ (b : Bool) {s₁ : Shared} {Q' : Unit → Shared → Prop}, Q' () s₁ → wpAny (model P w) A (match b with | true => rule "set.scan.the-table-gave-way" | false => pure ()) Q' E s₁ :=
      fun b s₁ Q' q => by cases b <;> first | exact wpAny_pure q | exact wpAny_rule q
    have pm := layNew_perm t es (knd.hash k) x
    have hf1 := layNew_fits t es (knd.hash k) x
    have hr1 := layNew_ris t es (knd.hash k) x hr
    have hl1 := layNew_led t es (knd.hash k) x
    generalize layNew t es (knd.hash k) x = Z at pm hf1 hr1 hl1 ⊢
    obtain ⟨es1, t1, wasDummy, gave⟩ := Z
    dsimp only at pm hf1 hr1 hl1 ⊢
    rw [Array.toList_push] at pm
    obtain ⟨ks1, e1, p1⟩ := (ek.append (.cons ⟨hkey, rfl, hsc⟩ .nil)).perm pm
    have p1 : ks1.Perm (ks ++ [k]) := p1.trans (pk.append_right _)
    have nd1 : (ks ++ [k]).Nodup := List.nodup_append.mpr ⟨nd, by simp, fun x hx y hy e => by
      have hy : y = k := by simpa using hy
      subst hy; subst e; exact hnk hx⟩
    have hsz : es1.size = ks.length + 1 := by rw [← Array.length_toList, e1.length, p1.length_eq, List.length_append]; rfl
    have hb1 : es1.size < scanBound := by rw [hsz]; exact room
    have hled : w.params.followText "set-order" = true ∨ t1.led = true := hl.imp id fun z => by rw [hl1]; exact z
    have ea : addK ks k = ks ++ [k] := by unfold addK; rw [if_neg hnk]
    refine wpAny_bind (hgw _ ?_)
    split
    · refine wpAny_bind ?_
      rw [hashByValue_scannable 8 hsc]
      refine wpAny_pure ?_
      refine setG_tail ?_ ho hex hd e1 p1 nd1 hb1 ?_ ?_ ?_ ?_
      · intro b s₁ Q' q; cases b <;> first | exact wpAny_pure q | exact wpAny_rule q
      · first | (split <;> first | exact hf1 | exact SetTable.fits_plain_off hf1) | exact hf1
      · first | (split <;> exact hr1) | exact hr1
      · first | (split <;> exact hled) | exact hled
      · intro h' sb r; dsimp only; exact wpAny_pure (hQ _ _ sb (by rw [ea]; exact r))
    · refine wpAny_bind (wpAny_pure ?_)
      simp only [↓reduceIte]
      refine setG_tail ?_ ho hex hd e1 p1 nd1 hb1 hf1 hr1 hled ?_
      · intro b s₁ Q' q; cases b <;> first | exact wpAny_pure q | exact wpAny_rule q
      · intro h' sb r; dsimp only; exact wpAny_pure (hQ _ _ sb (by rw [ea]; exact r))
/-- the first of each -/
def dedupK (ks : List κ) : List κ := ks.foldl addK []
theorem addK_len (ks : List κ) (k : κ) : (addK ks k).length ≤ ks.length + 1 := by unfold addK; split <;> simp
theorem fold_len : ∀ (l ks : List κ), (l.foldl addK ks).length ≤ ks.length + l.length
  | [], ks => by simp
  | k :: l, ks => by
    have h1 := fold_len l (addK ks k)
    have h2 := addK_len ks k
    simp only [List.foldl_cons, List.length_cons]; omega
theorem setG_new_at {h : Heap} (ho : h.get? a = some { cls := .type "set", dict := none, data := .set #[] 0 (.fresh 0 0 (!w.params.followText "set-order")) }) : SetG knd h a [] :=
  ⟨_, #[], 0, _, [], ho, ⟨rfl, rfl, rfl⟩, rfl, .nil, .refl _, List.nodup_nil, by decide, by rfl, List.Pairwise.nil, by
    show _ ∨ (!w.params.followText "set-order") = true
    cases w.params.followText "set-order"
    · exact .inr rfl
    · exact .inl rfl⟩
theorem setG_update {I : Addr} {fp wr : List Addr} {G : Array GenState → Array GenState → Prop} {n : Nat} {Pv : Nat → Value → Prop} {St : Nat → Shared → Prop} {R : Result → Shared → Prop}
    (W : WalksS P w A.in1 I fp wr G n Pv St) (S : Addr) (hSf : S ∉ fp) (js : List κ) (hn : n = js.length) (hb : js.length + 1 < scanBound) (hval : ∀ i v, Pv i v → ∃ k, js[i]? = some k ∧ knd.is k v = true ∧ v.scannable = true) :
    ∀ (k i : Nat) (s : Shared), n - i = k → i ≤ n → St i s → SetG knd s.heap S (dedupK (js.take i)) →
      (∀ s', Moved (S :: wr) G s s' → SetG knd s'.heap S (dedupK js) → R (.ok (.ret .none)) s') →
      codeAny (model P w) A (.builtin "set.update.loop" ⟨[.ref S, .ref I], []⟩) R s := by
  have hSw : S ∉ wr := fun h => hSf (W.sub _ h)
  have hsub : ∀ b ∈ wr, b ∈ S :: wr := fun b hb => List.mem_cons_of_mem _ hb
  intro k
  induction k with
  | zero =>
    intro i s hk' hi hst hS hR
    have hin : i = n := by omega
    subst hin
    refine codeAny_builtin F.entry_set_update_loop ?_
    rw [Around.under_plainId F.plain_set_update_loop _]
    show wpAny _ A.in1 (pyNext (.ref I) >>= _) _ _ s
    refine wpAny_bind (W.done s _ _ hst fun s' hm => ?_)
    show wpAny _ A.in1 (PySem.ret Value.none) _ _ s'
    rw [show js.take i = js from List.take_of_length_le (by omega)] at hS
    exact wpAny_pure (hR s' (hm.mono hsub) (hS.at fun o e => hm.heap S o hSw e))
  | succ k ih =>
    intro i s hk' hi hst hS hR
    have hlt : i < n := by omega
    refine codeAny_builtin F.entry_set_update_loop ?_
    rw [Around.under_plainId F.plain_set_update_loop _]
    show wpAny _ A.in1 (pyNext (.ref I) >>= _) _ _ s
    refine wpAny_bind (W.item i s _ _ hlt hst fun v s' hP hst' hm => ?_)
    obtain ⟨z, hz, hkv, hsc⟩ := hval i v hP
    have hS' : SetG knd s'.heap S (dedupK (js.take i)) := hS.at fun o e => hm.heap S o hSw e
    show wpAny _ A.in1 (holding [v] (setAdd S v) >>= _) _ _ s'
    refine wpAny_bind (wpAny_holding ?_)
    unfold setAdd
    refine wpAny_holding ?_
    refine wpAny_bind (knd.pyHash hkv ?_)
    have hroom : (dedupK (js.take i)).length + 1 < scanBound := by
      have := fold_len (js.take i) []
      have h2 : (js.take i).length ≤ js.length := by rw [List.length_take]; omega
      unfold dedupK
      simp only [List.length_nil] at this
      omega
    refine setG_add (s := { s' with toks := s'.toks + 1 }) hkv hsc hS' hroom fun b h' hsb hS2 => ?_
    have hS3 : SetG knd h' S (dedupK (js.take (i + 1))) := by
      rw [List.take_add_one, hz]
      unfold dedupK
      rw [List.foldl_append]
      exact hS2
    refine wpAny_pure ⟨plainId_quiet F.plain_set_update_loop _, ih (i + 1) _ (by omega) hlt (W.frame _ s' _ _ hst' (Nat.le_succ _) fun b hb o e => ?_) hS3 fun s'' hm'' hS'' => ?_⟩
    · rw [hsb.2 b (fun h : b = S => hSf (by rw [← h]; exact hb))]; exact e
    · refine hR s'' (Moved.trans W.gtrans ((hm.mono hsub).then_heap (Nat.le_succ _) fun b o hb e => ?_) hm'') hS''
      rw [hsb.2 b (fun h : b = S => hb (by rw [h]; exact List.mem_cons_self))]; exact e

set_option maxHeartbeats 8000000 in
theorem call_setG_tuple {l : Addr} {items : Array Value} (js : List κ) {Q : Value → Shared → Prop} (hh : A.handled = none) (hl : s.heap.IsTuple l items) (hit : ∀ (i : Nat) (v : Value), items[i]? = some v → ∃ k, js[i]? = some k ∧ knd.is k v = true ∧ v.scannable = true) (hisz : items.size = js.length) (hb : js.length + 1 < scanBound)
    (h : ∀ (h' : Heap) (tk : Nat), SetG knd h' s.heap.objs.size (dedupK js) → (∀ b o, s.heap.get? b = some o → h'.get? b = some o) → Q (.ref s.heap.objs.size) { s with heap := h', toks := tk }) :
    wpAny (model P w) A (call (.type "set") [.ref l]) Q E s := by
  obtain ⟨c, tl, hmro⟩ := F.called_set.mro
  have hmade := F.called_set.made
  have hsub := F.called_set.sub
  refine wpAny_call (codeAny_of_tree ?_)
  show wpAny _ _ (callAny (.type "set") _) _ _ _
  refine wpAny_pure ⟨Code.quiet_builtin _ (by decide +kernel), codeAny_builtin F.entry_type_call ?_⟩
  rw [Around.under_plain (weight_type_call_type "set" [.ref l] []) rfl]
  have h1 := F.called_set.notType
  have h2 := F.called_set.canCreate
  have hct := F.typeCall_set_1 (.ref l)
  repeat (any_goals (first | assumption | wp_step))
  refine codeAny_mono (code_set_led1 (.ref l) (E := E) (Q₁ := fun obj s₁ => obj = .ref s.heap.objs.size ∧ s₁ = { s with heap := s.heap.push { cls := .type "set", dict := none, data := .set #[] 0 (.fresh 0 0 (!w.params.followText "set-order")) } }) ⟨rfl, rfl⟩) fun r s₁ hr => ?_
  cases r with
  | error e => exact hr
  | ok fl =>
    cases fl with
    | ret obj =>
      obtain ⟨rfl, rfl⟩ := hr
      have hS : (s.heap.push { cls := .type "set", dict := none, data := .set #[] 0 (.fresh 0 0 (!w.params.followText "set-order")) }).get? s.heap.objs.size = some { cls := .type "set", dict := none, data := .set #[] 0 (.fresh 0 0 (!w.params.followText "set-order")) } := Heap.get?_push_size _ rfl
      have hT : Shared.TypeIs { s with heap := s.heap.push { cls := .type "set", dict := none, data := .set #[] 0 (.fresh 0 0 (!w.params.followText "set-order")) } } (.ref s.heap.objs.size) "set" := ⟨_, hS, rfl⟩
      have hli := F.called_set.init.lookup
      have hbi := F.called_set.init.bind (.ref s.heap.objs.size)
      repeat (any_goals (first | assumption | wp_step))
      refine codeAny_mono (codeAny_call_builtin (R := wants (fun r s₂ => r = .none ∧ ∃ h' tk, s₂ = { s with heap := h', toks := tk } ∧ SetG knd h' s.heap.objs.size (dedupK js) ∧ (∀ b o, s.heap.get? b = some o → h'.get? b = some o)) E) F.called_set.init.plain F.entry_set_init (check_set_init_1 hT ?_)) fun r₂ s₂ hr₂ => ?_
      · obtain ⟨ol, hol, hcl, nl, hdl⟩ := hl
        obtain ⟨ocls, odict, odata, oslots⟩ := ol
        simp only at hcl hdl
        subst hcl; subst hdl
        have hol' : (s.heap.push { cls := .type "set", dict := none, data := .set #[] 0 (.fresh 0 0 (!w.params.followText "set-order")) }).get? l = some { cls := .type "tuple", dict := odict, data := .seq items nl, slots := oslots } := Heap.get?_push_of_some _ hol
        have hsls := F.sub_tuple_set
        have hslf := F.sub_tuple_frozenset
        have hne : (Value.type "tuple" == Value.type "dict") = false := by decide
        have hl1 : (s.heap.push { cls := .type "set", dict := none, data := .set #[] 0 (.fresh 0 0 (!w.params.followText "set-order")) }).IsTuple l items := ⟨_, hol', rfl, nl, rfl⟩
        unfold Builtin.«set.__init__» noKeywords Builtin.Frozenset.updateFrom
        generalize hPI : pyIter = PI
        wp_walk
        subst hPI
        refine wpAny_pyIter_tuple hl1 ?_
        refine wpAny_bind (wpAny_runValue ?_)
        have hlS : l < s.heap.objs.size := Heap.lt_size hol
        have hh3 : A.in1.in1.in1.handled = none := by simp [hh]
        have hneI : l ≠ (s.heap.push { cls := .type "set", dict := none, data := .set #[] 0 (.fresh 0 0 (!w.params.followText "set-order")) }).objs.size := by
          rw [Heap.size_push]; exact Nat.ne_of_lt (Nat.lt_succ_of_lt hlS)
        have hSf : s.heap.objs.size ∉ [(s.heap.push { cls := .type "set", dict := none, data := .set #[] 0 (.fresh 0 0 (!w.params.followText "set-order")) }).objs.size, l] := by
          rw [Heap.size_push]; simp only [List.mem_cons, List.mem_singleton, List.not_mem_nil, or_false, not_or]
          exact ⟨Nat.ne_of_lt (Nat.lt_succ_self _), Nat.ne_of_gt hlS⟩
        refine setG_update ((Walks.tuple hh3 _ l hneI items).toS) s.heap.objs.size hSf js hisz hb hit (items.size - 0) 0 _ (by omega) (Nat.zero_le _)
          ⟨⟨_, Heap.get?_push_size _ rfl, rfl, rfl⟩, (hl1.push _)⟩ ?hS0 ?hR
        case hS0 =>
          exact setG_new_at (Heap.get?_push_of_some _ hS)
        case hR =>
          intro s' hm hS'
          obtain ⟨h', g2, d', tk', os'⟩ := s'
          have eg : g2 = s.gens := hm.gens
          have ed : d' = s.drawn := hm.drawn
          have eo : os' = s.os := hm.os
          subst eg; subst ed; subst eo
          show wpAny _ _ _ _ _ _
          refine wpAny_pure ?_
          show wpAny _ _ (PySem.ret Value.none) _ _ _
          refine wpAny_pure ⟨rfl, h', tk', rfl, hS', fun b o e => ?_⟩
          have hb0 : b < s.heap.objs.size := Heap.lt_size e
          have hb1 : b ≠ s.heap.objs.size := Nat.ne_of_lt hb0
          have hb2 : b ≠ (s.heap.push { cls := .type "set", dict := none, data := .set #[] 0 (.fresh 0 0 (!w.params.followText "set-order")) }).objs.size := by
            rw [Heap.size_push]; exact Nat.ne_of_lt (Nat.lt_succ_of_lt hb0)
          exact hm.heap b o (by simp only [List.mem_cons, List.mem_singleton, List.not_mem_nil, or_false, not_or]; exact ⟨hb1, hb2⟩) (Heap.get?_push_of_some _ (Heap.get?_push_of_some _ e))
      · cases r₂ with
        | error e => exact hr₂
        | ok fl₂ =>
          cases fl₂ with
          | ret r =>
            obtain ⟨rfl, h', tk, rfl, hS', hk'⟩ := hr₂
            repeat (any_goals (first | assumption | wp_step))
            exact h _ _ hS' hk'
          | _ => exact hr₂.elim
    | _ => exact hr.elim

set_option maxHeartbeats 8000000 in
theorem call_setG_list {l : Addr} {items : Array Value} (js : List κ) {Q : Value → Shared → Prop} (hh : A.handled = none) (hl : s.heap.IsList l items) (hit : ∀ (i : Nat) (v : Value), items[i]? = some v → ∃ k, js[i]? = some k ∧ knd.is k v = true ∧ v.scannable = true) (hisz : items.size = js.length) (hb : js.length + 1 < scanBound)
    (h : ∀ (h' : Heap) (tk : Nat), SetG knd h' s.heap.objs.size (dedupK js) → (∀ b o, s.heap.get? b = some o → h'.get? b = some o) → Q (.ref s.heap.objs.size) { s with heap := h', toks := tk }) :
    wpAny (model P w) A (call (.type "set") [.ref l]) Q E s := by
  obtain ⟨c, tl, hmro⟩ := F.called_set.mro
  have hmade := F.called_set.made
  have hsub := F.called_set.sub
  refine wpAny_call (codeAny_of_tree ?_)
  show wpAny _ _ (callAny (.type "set") _) _ _ _
  refine wpAny_pure ⟨Code.quiet_builtin _ (by decide +kernel), codeAny_builtin F.entry_type_call ?_⟩
  rw [Around.under_plain (weight_type_call_type "set" [.ref l] []) rfl]
  have h1 := F.called_set.notType
  have h2 := F.called_set.canCreate
  have hct := F.typeCall_set_1 (.ref l)
  repeat (any_goals (first | assumption | wp_step))
  refine codeAny_mono (code_set_led1 (.ref l) (E := E) (Q₁ := fun obj s₁ => obj = .ref s.heap.objs.size ∧ s₁ = { s with heap := s.heap.push { cls := .type "set", dict := none, data := .set #[] 0 (.fresh 0 0 (!w.params.followText "set-order")) } }) ⟨rfl, rfl⟩) fun r s₁ hr => ?_
  cases r with
  | error e => exact hr
  | ok fl =>
    cases fl with
    | ret obj =>
      obtain ⟨rfl, rfl⟩ := hr
      have hS : (s.heap.push { cls := .type "set", dict := none, data := .set #[] 0 (.fresh 0 0 (!w.params.followText "set-order")) }).get? s.heap.objs.size = some { cls := .type "set", dict := none, data := .set #[] 0 (.fresh 0 0 (!w.params.followText "set-order")) } := Heap.get?_push_size _ rfl
      have hT : Shared.TypeIs { s with heap := s.heap.push { cls := .type "set", dict := none, data := .set #[] 0 (.fresh 0 0 (!w.params.followText "set-order")) } } (.ref s.heap.objs.size) "set" := ⟨_, hS, rfl⟩
      have hli := F.called_set.init.lookup
      have hbi := F.called_set.init.bind (.ref s.heap.objs.size)
      repeat (any_goals (first | assumption | wp_step))
      refine codeAny_mono (codeAny_call_builtin (R := wants (fun r s₂ => r = .none ∧ ∃ h' tk, s₂ = { s with heap := h', toks := tk } ∧ SetG knd h' s.heap.objs.size (dedupK js) ∧ (∀ b o, s.heap.get? b = some o → h'.get? b = some o)) E) F.called_set.init.plain F.entry_set_init (check_set_init_1 hT ?_)) fun r₂ s₂ hr₂ => ?_
      · obtain ⟨ol, hol, hcl, nl, hdl⟩ := hl
        obtain ⟨ocls, odict, odata, oslots⟩ := ol
        simp only at hcl hdl
        subst hcl; subst hdl
        have hol' : (s.heap.push { cls := .type "set", dict := none, data := .set #[] 0 (.fresh 0 0 (!w.params.followText "set-order")) }).get? l = some { cls := .type "list", dict := odict, data := .seq items nl, slots := oslots } := Heap.get?_push_of_some _ hol
        have hsls := F.sub_list_set
        have hslf := F.sub_list_frozenset
        have hne : (Value.type "list" == Value.type "dict") = false := by decide
        have hl1 : (s.heap.push { cls := .type "set", dict := none, data := .set #[] 0 (.fresh 0 0 (!w.params.followText "set-order")) }).IsList l items := ⟨_, hol', rfl, nl, rfl⟩
        unfold Builtin.«set.__init__» noKeywords Builtin.Frozenset.updateFrom
        generalize hPI : pyIter = PI
        wp_walk
        subst hPI
        refine wpAny_pyIter_list hl1 ?_
        refine wpAny_bind (wpAny_runValue ?_)
        have hlS : l < s.heap.objs.size := Heap.lt_size hol
        have hh3 : A.in1.in1.in1.handled = none := by simp [hh]
        have hneI : l ≠ (s.heap.push { cls := .type "set", dict := none, data := .set #[] 0 (.fresh 0 0 (!w.params.followText "set-order")) }).objs.size := by
          rw [Heap.size_push]; exact Nat.ne_of_lt (Nat.lt_succ_of_lt hlS)
        have hSf : s.heap.objs.size ∉ [(s.heap.push { cls := .type "set", dict := none, data := .set #[] 0 (.fresh 0 0 (!w.params.followText "set-order")) }).objs.size, l] := by
          rw [Heap.size_push]; simp only [List.mem_cons, List.mem_singleton, List.not_mem_nil, or_false, not_or]
          exact ⟨Nat.ne_of_lt (Nat.lt_succ_self _), Nat.ne_of_gt hlS⟩
        refine setG_update ((Walks.list hh3 _ l hneI items).toS) s.heap.objs.size hSf js hisz hb hit (items.size - 0) 0 _ (by omega) (Nat.zero_le _)
          ⟨⟨_, Heap.get?_push_size _ rfl, rfl, rfl⟩, (hl1.push _)⟩ ?hS0 ?hR
        case hS0 =>
          exact setG_new_at (Heap.get?_push_of_some _ hS)
        case hR =>
          intro s' hm hS'
          obtain ⟨h', g2, d', tk', os'⟩ := s'
          have eg : g2 = s.gens := hm.gens
          have ed : d' = s.drawn := hm.drawn
          have eo : os' = s.os := hm.os
          subst eg; subst ed; subst eo
          show wpAny _ _ _ _ _ _
          refine wpAny_pure ?_
          show wpAny _ _ (PySem.ret Value.none) _ _ _
          refine wpAny_pure ⟨rfl, h', tk', rfl, hS', fun b o e => ?_⟩
          have hb0 : b < s.heap.objs.size := Heap.lt_size e
          have hb1 : b ≠ s.heap.objs.size := Nat.ne_of_lt hb0
          have hb2 : b ≠ (s.heap.push { cls := .type "set", dict := none, data := .set #[] 0 (.fresh 0 0 (!w.params.followText "set-order")) }).objs.size := by
            rw [Heap.size_push]; exact Nat.ne_of_lt (Nat.lt_succ_of_lt hb0)
          exact hm.heap b o (by simp only [List.mem_cons, List.mem_singleton, List.not_mem_nil, or_false, not_or]; exact ⟨hb1, hb2⟩) (Heap.get?_push_of_some _ (Heap.get?_push_of_some _ e))
      · cases r₂ with
        | error e => exact hr₂
        | ok fl₂ =>
          cases fl₂ with
          | ret r =>
            obtain ⟨rfl, h', tk, rfl, hS', hk'⟩ := hr₂
            repeat (any_goals (first | assumption | wp_step))
            exact h _ _ hS' hk'
          | _ => exact hr₂.elim
    | _ => exact hr.elim

theorem each_perm {α β : Type} {R : α → β → Prop} {as as' : List α} (p : as'.Perm as) : ∀ {bs : List β}, PySem.W.EachIs R as bs → ∃ bs', PySem.W.EachIs R as' bs' ∧ bs'.Perm bs := by
  induction p with
  | nil => intro bs h; exact ⟨bs, h, .refl _⟩
  | cons x _ ih =>
    intro bs h
    cases h with
    | cons a b => obtain ⟨ks', c, d⟩ := ih b; exact ⟨_, .cons a c, d.cons _⟩
  | swap x y l =>
    intro bs h
    cases h with
    | cons a b => cases b with
      | cons c d => exact ⟨_, .cons c (.cons a d), .swap _ _ _⟩
  | trans _ _ ih1 ih2 =>
    intro bs h
    obtain ⟨k1, a, b⟩ := ih2 h
    obtain ⟨k2, c, d⟩ := ih1 a
    exact ⟨k2, c, d.trans b⟩
theorem EKs.vals : ∀ {es : List (Int × Value)} {ks : List κ}, EKs knd es ks → PySem.W.EachIs (fun v k => knd.is k v = true) (es.map (·.2)) ks
  | _, _, .nil => .nil
  | _, _, .cons a r => .cons a.1 r.vals
theorem each_imp {α β : Type} {R R' : α → β → Prop} : ∀ {as : List α} {bs : List β}, (∀ a b, b ∈ bs → R a b → R' a b) → PySem.W.EachIs R as bs → PySem.W.EachIs R' as bs
  | _, _, _, .nil => .nil
  | _, _, k, .cons r t => .cons (k _ _ (by simp) r) (each_imp (fun a b hb => k a b (by simp [hb])) t)
theorem setG_sorted {enc : κ → PyData} {Rb : Value → κ → Prop} {Q : Value → Shared → Prop} (R : SetG knd s.heap a ks) (hh : A.handled = none)
    (hr : ∀ k ∈ ks, ∀ v, knd.is k v = true → Rb v k ∧ ∀ h : Heap, Reads h v (enc k) []) (hal : ∀ ks' : List κ, ks'.Perm ks → PySem.W.AllAlike (ks'.map enc)) (hk : ∀ ks' : List κ, ks'.Perm ks → PySem.W.Sortable (ks'.map enc))
    (hu : ∀ k ∈ ks, A.units + 2 + (enc k).depth < cLine)
    (hQ : ∀ s' p (out : Array Value) (c : Nat) (ks' : List κ), ks'.Perm ks → (∀ b o, s.heap.get? b = some o → s'.heap.get? b = some o) → s'.gens = s.gens → s'.os = s.os → s.heap.objs.size ≤ p →
      s'.heap.get? p = some (seqObj "list" out c) → out.size = ks.length → PySem.W.EachIs Rb out.toList (ks'.mergeSort (PySem.W.dataLe false enc)) → Q (.ref p) s') :
    wpAny (model P w) A (call (.builtin "sorted") [.ref a]) Q E s := by
  have hlim := R.size
  obtain ⟨o, es, ep, t, ks1, ho, hex, hd, ek, pk, nd, hb, hf, hri, hl⟩ := R
  refine Calls.call_function_entry kind_sorted plain_sorted entry_sorted (args_sorted1 _) ?_
  unfold Builtin.«sorted»
  refine wpAny_bind (m := checkCount "sorted" 1 1 _) (wpAny_pure ?_)
  refine wpAny_bind (collect_set (A := A.in1) hh ⟨o, ho, hex.1, hd⟩ hf hb hri hl fun s1 vs k1 hz g1 o1 pm => ?_)
  obtain ⟨ks', ev, pk'⟩ := each_perm pm ek.vals
  have pk2 : ks'.Perm ks := pk'.trans pk
  have hvl : vs.length = ks.length := by rw [ev.length, pk2.length_eq]
  have hvs : vs.length ≤ sizeLine := by rw [hvl]; exact fits_of_scanBound hlim
  refine wpAny_bind (wpAny_newList ?_ hvs)
  have hoL : (s1.heap.push (seqObj "list" vs.toArray 0)).get? s1.heap.objs.size = some (seqObj "list" vs.toArray 0) := Heap.get?_push_size _ rfl
  have e1 : PySem.W.EachIs Rb vs ks' := each_imp (fun v k hk h => (hr k (pk2.mem_iff.mp hk) v h).1) ev
  have e2 : PySem.W.EachIs (fun v k => ∃ as, Reads (s1.heap.push (seqObj "list" vs.toArray 0)) v (enc k) as ∧ ¬ s1.heap.objs.size ∈ as) vs ks' := each_imp (fun v k hk h => ⟨[], (hr k (pk2.mem_iff.mp hk) v h).2 _, by simp⟩) ev
  refine wpAny_bind (wpAny_holding (PySem.W.list_sort_data (s := { s1 with heap := s1.heap.push (seqObj "list" vs.toArray 0) }) hoL e1 e2 (hal _ pk2) (hk _ pk2) (by rw [← ev.length]; exact hvs) (fun b hb => hu b (pk2.mem_iff.mp hb)) fun out ho2 eo => ?_))
  obtain ⟨c, hc⟩ := sortedHeap_at (vs := vs) (out := out.toArray) hoL
  refine wpAny_pure ⟨_, rfl, hQ _ s1.heap.objs.size out.toArray c ks' pk2 (fun b u e => ?_) g1 o1 hz hc (by rw [List.size_toArray, ho2, pk2.length_eq]) eo⟩
  have q := k1 b u e
  have hlt := Heap.lt_size q
  show (sortedHeap (s1.heap.push (seqObj "list" vs.toArray 0)) s1.heap.objs.size vs out.toArray).get? b = some u
  rw [sortedHeap_old (Nat.ne_of_lt hlt) (by rw [size_push']; exact Nat.lt_succ_of_lt hlt)]
  exact Heap.get?_push_of_some _ q
end
/-! ### sorted(set(xs)), len(set(xs)) of keys -/
def keyPy : Key → PyData
  | .inl i => .int i
  | .inr x => .str x
def keysO : List D → Option (List Key)
  | [] => some []
  | x :: xs => match keyD x, keysO xs with
    | some k, some ks => some (k :: ks)
    | _, _ => none
/-- all of one kind -/
def oneK : List Key → Bool
  | [] => true
  | .inl _ :: r => r.all fun k => match k with | .inl _ => true | _ => false
  | .inr _ :: r => r.all fun k => match k with | .inr _ => true | _ => false
def keyLe : Key → Key → Bool := PySem.W.dataLe false keyPy
def sortK (ks : List Key) : List Key := ks.mergeSort keyLe
section
variable {X : Cx}
theorem keysO_ok {K : PySem.W.Frag} {H : Hp} : ∀ {xs : List D} {vs : List V} {ks : List Key}, RDs K H xs vs → keysO xs = some ks → vs = ks.map kV
  | [], _, _, r, e => by cases r; cases e; rfl
  | x :: xs, _, _, .cons h r, e => by
    unfold keysO at e
    cases q : keyD x with
    | none => rw [q] at e; cases e
    | some k =>
      cases q2 : keysO xs with
      | none => rw [q, q2] at e; cases e
      | some ks =>
        rw [q, q2] at e; cases e
        rw [keysO_ok r q2, keyO_ok (F := nof) (.d h) (show keyO (.d x) = some k from q)]; rfl
theorem keyLe_antisymm {a b : Key} (h : ∀ i x, ¬ (a = .inl i ∧ b = .inr x)) (h' : ∀ i x, ¬ (a = .inr x ∧ b = .inl i)) (h1 : keyLe a b = true) (h2 : keyLe b a = true) : a = b := by
  cases a with
  | inl i =>
    cases b with
    | inl j =>
      have e := congrFun (congrFun (PySem.W.dataLe_int (id : Int → Int)) i) j
      have e' := congrFun (congrFun (PySem.W.dataLe_int (id : Int → Int)) j) i
      have q1 : decide (i ≤ j) = true := e ▸ h1
      have q2 : decide (j ≤ i) = true := e' ▸ h2
      have := of_decide_eq_true q1
      have := of_decide_eq_true q2
      rw [show i = j by omega]
    | inr y => exact absurd ⟨rfl, rfl⟩ (h i y)
  | inr x =>
    cases b with
    | inl j => exact absurd ⟨rfl, rfl⟩ (h' j x)
    | inr y =>
      have e := congrFun (congrFun (PySem.W.dataLe_str (id : Str → Str)) x) y
      have e' := congrFun (congrFun (PySem.W.dataLe_str (id : Str → Str)) y) x
      have q1 : decide (x.cps.toList ≤ y.cps.toList) = true := e ▸ h1
      have q2 : decide (y.cps.toList ≤ x.cps.toList) = true := e' ▸ h2
      have e3 : x.cps.toList = y.cps.toList := List.le_antisymm (of_decide_eq_true q1) (of_decide_eq_true q2)
      rw [show x = y from Str.ext' (Array.toList_inj.mp e3)]
theorem oneK_mem {ks : List Key} (h : oneK ks = true) {a b : Key} (ha : a ∈ ks) (hb : b ∈ ks) : (∀ i x, ¬ (a = .inl i ∧ b = .inr x)) ∧ (∀ i x, ¬ (a = .inr x ∧ b = .inl i)) := by
  have sides : (∀ k ∈ ks, ∃ i, k = .inl i) ∨ ∀ k ∈ ks, ∃ x, k = .inr x := by
    cases ks with
    | nil => exact .inl fun k hk => nomatch hk
    | cons k0 r =>
      cases k0 with
      | inl i =>
        refine .inl fun k hk => ?_
        rcases List.mem_cons.mp hk with z | z
        · exact ⟨i, z⟩
        · have q := List.all_eq_true.mp h k z
          cases k with
          | inl j => exact ⟨j, rfl⟩
          | inr x => cases q
      | inr i =>
        refine .inr fun k hk => ?_
        rcases List.mem_cons.mp hk with z | z
        · exact ⟨i, z⟩
        · have q := List.all_eq_true.mp h k z
          cases k with
          | inr j => exact ⟨j, rfl⟩
          | inl x => cases q
  rcases sides with s | s
  · obtain ⟨i, rfl⟩ := s a ha
    obtain ⟨j, rfl⟩ := s b hb
    exact ⟨fun _ _ z => (nomatch z.2), fun _ _ z => (nomatch z.1)⟩
  · obtain ⟨i, rfl⟩ := s a ha
    obtain ⟨j, rfl⟩ := s b hb
    exact ⟨fun _ _ z => (nomatch z.1), fun _ _ z => (nomatch z.2)⟩
theorem keyLe_total : PySem.W.TotalLe keyLe := by
  delta keyLe PySem.W.dataLe
  exact PySem.W.sortLe_total _ _ _
theorem sortK_perm {ks ks' : List Key} (h : oneK ks = true) (p : ks'.Perm ks) : sortK ks' = sortK ks := by
  refine List.Perm.eq_of_pairwise (le := fun a b => keyLe a b = true) (fun a b ha hb h1 h2 => ?_) (PySem.W.sort_pairwise keyLe_total ks') (PySem.W.sort_pairwise keyLe_total ks) (((List.mergeSort_perm _ _).trans p).trans (List.mergeSort_perm _ _).symm)
  have ha := p.mem_iff.mp ((List.mergeSort_perm ks' keyLe).mem_iff.mp ha)
  have hb := (List.mergeSort_perm ks keyLe).mem_iff.mp hb
  obtain ⟨x, y⟩ := oneK_mem h ha hb
  exact keyLe_antisymm x y h1 h2
/-- the set of the keys at a -/
def SetHO (P : Program) (w : World) (a : Addr) (ks : List Key) : HO := .ext fun h => SetG (mixKind P w) h a ks
theorem setHO_new {w : World} {P : Program} {H : Hp} {h : Heap} {a : Addr} {ks : List Key} (R : SetG (mixKind P w) h a ks) : ObjOk P w H h a (SetHO P w a ks) := by
  have ⟨o, _, _, _, _, ho, _⟩ := R
  exact ⟨R, ⟨o, ho⟩, fun h1 h2 p k => SetG.at p k⟩
def rSetG (K : PySem.W.Frag) (P : Program) (w : World) : List V → Hp → VK → Prop := fun xs H Q => ∃ a ks, xs = [V.ref a] ∧ (SqL K H a (ks.map kV) ∨ SqT K H a (ks.map kV)) ∧ ks.length + 1 < scanBound ∧ ∀ p, H p = none → Q (.ref p) (upd H p (SetHO P w p (dedupK ks)))
theorem valsK_at : ∀ {ks : List Key} {us : List Value}, Vals (ks.map kV) us → ∀ (i : Nat) (v : Value), us[i]? = some v → ∃ k, ks[i]? = some k ∧ (mixKind X.prog X.w).is k v = true ∧ v.scannable = true
  | [], _, r, i, v, h => by cases r; simp at h
  | k :: ks, _, r, 0, v, h => by
    cases r with
    | cons a b => simp at h; subst h; exact ⟨k, rfl, kV_is a, key_scan a⟩
  | k :: ks, _, r, i + 1, v, h => by
    cases r with
    | cons a b => simpa using valsK_at b i v (by simpa using h)
theorem cr_setG (hc : X.calm = true) : CallR X (.type "set") (rSetG X.K X.prog X.w) := by
  intro pins s σ H xs us Q I r h
  obtain ⟨a, ks, rfl, hs, room, q⟩ := h
  obtain ⟨u, rfl, rx⟩ := vals1 r
  obtain rfl : u = Value.ref a := rx
  have fin : ∀ (h' : Heap) (tk : Nat), SetG (mixKind X.prog X.w) h' s.heap.objs.size (dedupK ks) → (∀ b o, s.heap.get? b = some o → h'.get? b = some o) → EP X pins σ Q (.ref s.heap.objs.size) { s with heap := h', toks := tk } := fun h' tk g k =>
    ⟨.ref _, _, I.laid (t' := tk) k (Nat.le_refl _) (setHO_new g), rfl, q _ (I.hok.fresh (Nat.le_refl _))⟩
  rcases hs with hs | hs
  · obtain ⟨its, rv, hl, _⟩ := I.list hs
    have hz : its.toArray.size = ks.length := by rw [List.size_toArray, ← rv.length, List.length_map]
    exact call_setG_list (knd := mixKind X.prog X.w) ks (I.ok.hd hc) hl.isList (fun i v e => valsK_at rv i v (by simpa using e)) hz room fin
  · obtain ⟨its, rv, hl, _⟩ := I.tuple hs
    have hz : its.toArray.size = ks.length := by rw [List.size_toArray, ← rv.length, List.length_map]
    exact call_setG_tuple (knd := mixKind X.prog X.w) ks (I.ok.hd hc) hl (fun i v e => valsK_at rv i v (by simpa using e)) hz room fin
def rSortG (P : Program) (w : World) : List V → Hp → VK → Prop := fun xs H Q => ∃ a ks, xs = [V.ref a] ∧ H a = some (SetHO P w a ks) ∧ oneK ks = true ∧ ∀ p, H p = none → Q (.ref p) (upd H p (.lst ((sortK ks).map kV)))
theorem key_rel {k : Key} {v : Value} (h : (mixKind X.prog X.w).is k v = true) : RelV (kV k) v := by
  rcases keyIs_shape h with ⟨i, t, rfl, rfl⟩ | ⟨x, t, rfl, rfl⟩
  · exact ⟨t, rfl⟩
  · exact ⟨t, rfl⟩
theorem key_reads {k : Key} {v : Value} (h : (mixKind X.prog X.w).is k v = true) (hp : Heap) : Reads hp v (keyPy k) [] := by
  rcases keyIs_shape h with ⟨i, t, rfl, rfl⟩ | ⟨x, t, rfl, rfl⟩
  · exact .int i t
  · exact .str x t
theorem one_alike {ks : List Key} (h : oneK ks = true) : PySem.W.AllAlike (ks.map keyPy) := by
  intro d hd d' hd'
  obtain ⟨a, ha, rfl⟩ := List.mem_map.mp hd
  obtain ⟨b, hb, rfl⟩ := List.mem_map.mp hd'
  obtain ⟨x, y⟩ := oneK_mem h ha hb
  cases a with
  | inl i => cases b with
    | inl j => simp [keyPy, PySem.W.alike]
    | inr j => exact absurd ⟨rfl, rfl⟩ (x i j)
  | inr i => cases b with
    | inr j => simp [keyPy, PySem.W.alike]
    | inl j => exact absurd ⟨rfl, rfl⟩ (y j i)
theorem key_sortable (ks : List Key) : PySem.W.Sortable (ks.map keyPy) := .others fun k => by cases k <;> exact ⟨nofun, nofun⟩
theorem perm_alike {ks ks' : List Key} (p : ks'.Perm ks) (h : PySem.W.AllAlike (ks.map keyPy)) : PySem.W.AllAlike (ks'.map keyPy) := fun d hd d' hd' => h d ((p.map keyPy).mem_iff.mp hd) d' ((p.map keyPy).mem_iff.mp hd')
theorem vals_each : ∀ {us : List Value} {ks : List Key}, PySem.W.EachIs (fun v k => RelV (kV k) v) us ks → Vals (ks.map kV) us
  | _, _, .nil => .nil
  | _, _, .cons a r => .cons a (vals_each r)
theorem cr_sortG (hc : X.calm = true) (hu : X.A.units + 64 < cLine) : CallR X (.builtin "sorted") (rSortG X.prog X.w) := by
  intro pins s σ H xs us Q I r h
  obtain ⟨a, ks, rfl, ha, ho, q⟩ := h
  obtain ⟨u, rfl, rx⟩ := vals1 r
  obtain rfl : u = Value.ref a := rx
  have R : SetG (mixKind X.prog X.w) s.heap a ks := (I.hok a _ ha).1
  refine setG_sorted (enc := keyPy) (Rb := fun v k => RelV (kV k) v) R (I.ok.hd hc) (fun k hk v h => ⟨key_rel h, key_reads h⟩) (fun ks' p => perm_alike p (one_alike ho)) (fun ks' _ => key_sortable ks') (fun k _ => ?_) fun s' p out c ks' pk k g o hp hg hz eo => ?_
  · have : (keyPy k).depth ≤ 1 := by cases k <;> simp [keyPy, PyData.depth]
    omega
  · have eo' := vals_each eo
    rw [show ks'.mergeSort (PySem.W.dataLe false keyPy) = sortK ks from sortK_perm ho pk] at eo'
    have hlen : ((sortK ks).map kV).length ≤ sizeLine := by rw [eo'.length, Array.length_toList, hz]; exact fits_of_scanBound R.size
    have hn : H p = none := I.hok.fresh hp
    have J : Inv X pins σ (upd H p (.lst ((sortK ks).map kV))) { s with heap := s'.heap, gens := s'.gens, drawn := s'.drawn, toks := s'.toks } :=
      I.call (ch := []) (Un.laid k hp hn) (I.hok.laid k hp ⟨hlen, out.toList, c, eo', hg⟩) (by rw [g]; exact I.bare) (fun _ z => nomatch z)
    have e : s' = { s with heap := s'.heap, gens := s'.gens, drawn := s'.drawn, toks := s'.toks } := by
      cases s'; cases s; cases o; rfl
    rw [e]
    exact ⟨.ref p, _, J, rfl, q p hn⟩
def gSortSet (o : O) : Option O := match asQ o with
  | some xs => match keysO xs with
    | some ks => if (oneK (dedupK ks) && decide (ks.length + 1 < scanBound)) = true then some (.lst ((sortK (dedupK ks)).map fun k => .d (kD k))) else none
    | none => none
  | none => none
def cSortSet (fa : M (O × Option Nat)) : M O := bnd fa fun x => bnd (lift (gSortSet x.1)) fun r => bnd (rst x.2 x.1) fun _ => ret r
theorem keys_ro {K : PySem.W.Frag} {H : Hp} {F : Fp} : ∀ ks : List Key, ROs K H (ks.map fun k => .d (kD k)) (ks.map kV) F
  | [] => .nil
  | k :: ks => .cons nof nof (.d (kD_ok k)) (keys_ro ks) (fun _ z => z.elim) (fun _ z => z.elim) fun _ z _ => z
/-- sorted(set(e)) -/
theorem se_sortSet {e : Expr} {fa : M (O × Option Nat)} {p1 p2 pos1 pos2 : Pos} (hc : X.calm = true) (hu : X.A.units + 64 < cLine) (hg1 : Gl X "sorted") (hm1 : X.mg "sorted" = none) (hg2 : Gl X "set") (hm2 : X.mg "set" = none) (he : OE X e fa)
    (hs : starEach [e] X.env = (false, eval e X.env) :: starEach [] X.env := by rfl) (hs2 : starEach [.Call (.Name "set" p2) [e] [] pos2] X.env = (false, eval (.Call (.Name "set" p2) [e] [] pos2) X.env) :: starEach [] X.env := by rfl) :
    SE X (.Call (.Name "sorted" p1) [.Call (.Name "set" p2) [e] [] pos2] [] pos1) (cSortSet fa) := by
  refine PE.imp (pe_callB (cr_sortG hc hu) hg1 hm1 (by rfl) (pa_cons (pe_callTy (cr_setG hc) hg2 hm2 (by rfl) (pa_cons he pa_nil hs) (he := hs)) pa_nil hs2) (he := hs2)) fun σ H Q ⟨env, F, rel, h⟩ => ?_
  refine tOp_bind rel h fun x env1 v H1 F1 F2 ro a g1 h => ?_
  obtain ⟨r, e, h⟩ := h.lift
  unfold gSortSet at e
  split at e
  · rename_i xs hx
    split at e
    · rename_i ks hk
      split at e
      · rename_i c
        rw [Bool.and_eq_true, decide_eq_true_eq] at c
        cases e
        obtain ⟨b, vs, rfl, hs, rd⟩ := asQ_ok ro hx
        obtain rfl := keysO_ok rd hk
        refine ⟨b, ks, rfl, hs, c.2, fun p hp => ?_⟩
        refine ⟨p, dedupK ks, rfl, upd_same, c.1, fun l hl => ?_⟩
        have s1 : Step nof H1 (upd H1 p (SetHO X.prog X.w p (dedupK ks))) := .new hp
        have s2 : Step nof (upd H1 p (SetHO X.prog X.w p (dedupK ks))) (upd (upd H1 p (SetHO X.prog X.w p (dedupK ks))) l (.lst ((sortK (dedupK ks)).map kV))) := .new hl
        have st := s1.trans s2 fun _ z => z.elim
        obtain ⟨env2, rel2, h⟩ := rst_ok (a.rel.step st fun _ _ z => z) (ro.step st fun _ _ z => z) a.dj g1 h
        have hl1 : H1 l = none := s1.free hl
        refine h (.ref l) _ (fun z => z = l) _ (.lst upd_same rfl (keys_ro _)) rel2 (fun q m n => ?_) (a.st.trans st fun _ z => z.elim) fun q m => ?_
        · subst m
          rcases n with n | n
          · obtain ⟨o, eo⟩ := a.d1 _ n; rw [hl1] at eo; cases eo
          · obtain ⟨o, eo⟩ := a.d2 _ n; rw [hl1] at eo; cases eo
        · rcases m with m | m
          · subst m; exact .inr (a.st.free hl1)
          · exact a.sub q m
      · cases e
    · cases e
  · cases e
end
end TL

set_option maxHeartbeats 1000000
namespace TL
open PySem L2
section
variable {X : Cx}
/-- list(text) -/
def gListS : List O → Option O := g1 fun x => match x with
  | .d (.str z) => if z.cps.size ≤ sizeLine then some (.lst ((chars z).map O.d)) else none
  | _ => none
theorem signs_vals {z : Str} : ∀ {n : Nat} {us : List Value}, us.length = n → n ≤ z.cps.size → (∀ j v, us[j]? = some v → ∃ c u, z.cps.toList[z.cps.size - n + j]? = some c ∧ v = .str ⟨#[c]⟩ u) → Vals ((z.cps.toList.drop (z.cps.size - n)).map fun c => V.str ⟨#[c]⟩) us
  | 0, us, h, hn, k => by
    have : us = [] := List.eq_nil_of_length_eq_zero h
    subst this
    rw [List.drop_of_length_le (by rw [Array.length_toList]; omega)]
    exact .nil
  | n + 1, [], h, _, _ => by cases h
  | n + 1, u :: us, h, hn, k => by
    obtain ⟨c, t, e1, e2⟩ := k 0 u rfl
    rw [Nat.add_zero] at e1
    have e3 : z.cps.toList.drop (z.cps.size - (n + 1)) = c :: z.cps.toList.drop (z.cps.size - n) := by
      rw [List.drop_eq_getElem?_toList_append, e1]
      simp only [Option.toList_some, List.singleton_append]
      rw [show z.cps.size - (n + 1) + 1 = z.cps.size - n by omega]
    rw [e3]
    refine .cons ⟨t, e2⟩ (signs_vals (by simpa using h) (by omega) fun j v e => ?_)
    obtain ⟨c', t', a, b⟩ := k (j + 1) v (by simpa using e)
    exact ⟨c', t', by rw [← a]; congr 1; omega, b⟩
theorem chars_rd {K : PySem.W.Frag} {H : Hp} : ∀ l : List Nat, RDs K H (l.map fun c => .str ⟨#[c]⟩) (l.map fun c => V.str ⟨#[c]⟩)
  | [] => .nil
  | c :: l => .cons (.str _) (chars_rd l)
theorem cs_listS (hc : X.calm = true) : CallS X (.type "list") gListS := by
  intro pins s σ H xs us os o F I rv r e
  obtain ⟨x, v, G, rfl, rfl, h, q⟩ := g1_of r e
  obtain ⟨u, rfl, rx⟩ := vals1 rv
  split at q
  · rename_i z
    split at q
    · rename_i hz
      cases q
      cases h.od
      obtain ⟨t, rfl⟩ := rx
      refine PySem.call_list_str (I.ok.hd hc) z t (fun h' tk acc c k e1 it => ?_) hz
      have hv : Vals (z.cps.toList.map fun c => V.str ⟨#[c]⟩) acc.toList := by
        have q := signs_vals (z := z) (n := z.cps.size) (us := acc.toList) (by rw [Array.length_toList]; exact it.1) (Nat.le_refl _) fun j v e => by
          obtain ⟨c, u, a, b⟩ := it.2 j v (by rw [← Array.getElem?_toList]; exact e)
          exact ⟨c, u, by rw [Nat.sub_self, Nat.zero_add, Array.getElem?_toList]; exact a, b⟩
        rw [Nat.sub_self, List.drop_zero] at q
        exact q
      have hl : (z.cps.toList.map fun c => V.str ⟨#[c]⟩).length ≤ sizeLine := by rw [List.length_map, Array.length_toList]; exact hz
      have hf := I.hok.fresh (Nat.le_refl s.heap.objs.size)
      have J := I.laid (a := s.heap.objs.size) (o := .lst (z.cps.toList.map fun c => V.str ⟨#[c]⟩)) (h' := h') (t' := tk) k (Nat.le_refl _) ⟨hl, acc.toList, c, hv, e1⟩
      exact ⟨.ref _, _, J, rfl, fun y => y = s.heap.objs.size, .lst upd_same rfl (chars_rd _).os, .new hf, fun y e => .inr (e ▸ hf)⟩
    · cases q
  · cases q
end
end TL

set_option maxHeartbeats 1000000
namespace TL
open PySem L2 PySem.Spec PyProof.Rows
section
variable {X : Cx}
/-! ### the operators in short -/
theorem os_add : OpS X (binaryOp .Add) gAdd := (os_int0 op_add).or ((OpS.of op_add_str fun H x y ox oy F G o r1 r2 e => by
    obtain ⟨i, j, d, rfl, rfl, q, rfl⟩ := gS_of r1 r2 e
    split at q
    · rename_i c; cases q; exact ⟨i, j, rfl, rfl, c, .d (.str _)⟩
    · cases q).or (os_catL.or os_catT))
def gSub : O → O → Option O := gI fun i j => some (.int (i - j))
theorem os_sub : OpS X (binaryOp .Sub) gSub := os_int0 op_sub
def gMul : O → O → Option O := orO (gI fun i j => if CMulW i j then some (.int (i * j)) else none) gMulS
theorem os_mul : OpS X (binaryOp .Mult) gMul := (os_int op_mulW).or os_mulS
def gMod : O → O → Option O := gI fun i j => if 0 < j then some (.int (i % j)) else none
theorem os_mod : OpS X (binaryOp .Mod) gMod := os_int op_mod
def gDiv : O → O → Option O := gI fun i j => if CDivW i j then some (.int (i / j)) else none
theorem os_div : OpS X (binaryOp .FloorDiv) gDiv := os_int op_fdivW
def gPow : O → O → Option O := gI fun i j => if CPowW i j then some (.int (i ^ j.toNat)) else none
theorem os_pow : OpS X (binaryOp .Pow) gPow := os_int op_powW
def gIn (neg : Bool) : O → O → Option O := orO (gInS neg) (gInD neg)
theorem os_in (hu : X.A.units + 64 < cLine) : OpS X (compareOp .In) (gIn false) := os_inS.or (os_inD' (by omega) false)
theorem os_notIn (hu : X.A.units + 64 < cLine) : OpS X (compareOp .NotIn) (gIn true) := os_notInS.or (os_inD' (by omega) true)
def gListA : List O → Option O := orC gListS gList
theorem cs_listA (hc : X.calm = true) : CallS X (.type "list") gListA := (cs_listS hc).or cs_list
theorem is_ix' (hu : X.A.units + 64 < cLine) : IxS X gIx := is_ix (by omega)
theorem ss_uSet' (hu : X.A.units + 64 < cLine) : SetS X uSet := ss_uSet (by omega)
/-! ### methods in short -/
theorem se_join {o e : Expr} {apos cpos : Pos} {fr : M (O × Option Nat)} {fa : M (List (O × Option Nat))} (ho : OE X o fr) (ha : AO X [e] fa)
    (hbase : attributeBase o "join" X.env (eval o X.env) = eval o X.env := by rfl)
    (hfew : ((backTo cpos (starEach [e] X.env)).all (fun x => !x.1) && (backToKw cpos (keywordEach [] X.env)).all (fun x => x.1.isSome) && decide ([e].length + ([] : List Keyword).length + (if ([] : List Keyword).isEmpty then 0 else 1) < 30)) = true := by rfl)
    (hline : (apos.endLine == cpos.line) = true := by rfl) (hs : starEach [e] X.env = (false, eval e X.env) :: starEach [] X.env := by rfl) : SE X (.Call (.Attribute o "join" apos) [e] [] cpos) (cMt "str" gJoin fr fa) :=
  se_mt (by decide) PySem.F.plainAttrs_str PySem.F.slot_str_join PySem.F.type_str_join ms_join ho ha hbase hfew hline hs
theorem se_append {o e : Expr} {apos cpos : Pos} {fr : M (O × Option Nat)} {fa : M (List O)} (ho : OE X o fr) (ha : AE X [e] fa)
    (hbase : attributeBase o "append" X.env (eval o X.env) = eval o X.env := by rfl)
    (hfew : ((backTo cpos (starEach [e] X.env)).all (fun x => !x.1) && (backToKw cpos (keywordEach [] X.env)).all (fun x => x.1.isSome) && decide ([e].length + ([] : List Keyword).length + (if ([] : List Keyword).isEmpty then 0 else 1) < 30)) = true := by rfl)
    (hline : (apos.endLine == cpos.line) = true := by rfl) (hs : starEach [e] X.env = (false, eval e X.env) :: starEach [] X.env := by rfl) : SE X (.Call (.Attribute o "append" apos) [e] [] cpos) (cMu "list" uAppend fr fa) :=
  se_mu (by decide) PySem.F.plainAttrs_list PySem.F.slot_list_append PySem.F.type_list_append mu_append ho ha hbase hfew hline hs
theorem se_pop1 {o e : Expr} {apos cpos : Pos} {fr : M (O × Option Nat)} {fa : M (List O)} (ho : OE X o fr) (ha : AE X [e] fa)
    (hbase : attributeBase o "pop" X.env (eval o X.env) = eval o X.env := by rfl)
    (hfew : ((backTo cpos (starEach [e] X.env)).all (fun x => !x.1) && (backToKw cpos (keywordEach [] X.env)).all (fun x => x.1.isSome) && decide ([e].length + ([] : List Keyword).length + (if ([] : List Keyword).isEmpty then 0 else 1) < 30)) = true := by rfl)
    (hline : (apos.endLine == cpos.line) = true := by rfl) (hs : starEach [e] X.env = (false, eval e X.env) :: starEach [] X.env := by rfl) : SE X (.Call (.Attribute o "pop" apos) [e] [] cpos) (cMu "list" uPop fr fa) :=
  se_mu (by decide) PySem.F.plainAttrs_list PySem.F.slot_list_pop PySem.F.type_list_pop mu_pop ho ha hbase hfew hline hs
theorem se_pop0 {o : Expr} {apos cpos : Pos} {fr : M (O × Option Nat)} (ho : OE X o fr)
    (hbase : attributeBase o "pop" X.env (eval o X.env) = eval o X.env := by rfl) (hline : (apos.endLine == cpos.line) = true := by rfl) : SE X (.Call (.Attribute o "pop" apos) [] [] cpos) (cMu "list" uPop fr nilM) :=
  se_mu0 (by decide) PySem.F.plainAttrs_list PySem.F.slot_list_pop PySem.F.type_list_pop mu_pop ho hbase hline
end
section
variable {X : Cx}
/-! ### a changing method of a name: its arguments may still read it -/
def peek (T : String) (i : Nat) : M Unit := fun e => match e[i]? with
  | some (some o) => if tyO o = some T then some ((), e) else none
  | _ => none
def cMuN (T : String) (g : O → List O → Option (O × O)) (i : Nat) (fa : M (List O)) : M O :=
  bnd (peek T i) fun _ => bnd fa fun os e => match e[i]? with
    | some (some o) => bnd (lift (g o os)) (fun r => bnd (rst (some i) r.2) fun _ => TL.ret r.1) (e.set i none)
    | _ => none
theorem se_muN {x : Str} {px : Pos} {e : Expr} {es : List Expr} {name : Str} {apos cpos : Pos} {T id : String} {g : O → List O → Option (O × O)} {fa : M (List O)} (i : Nat) (hT : T ∈ ["str", "list", "dict"]) (pa : PlainAttrs T) (slot : Slot T name id) (hty : typeOf (.builtin id) = pure (.type "method_descriptor")) (hm : MuS X id g) (ha : AE X (e :: es) fa)
    (hN : X.N[i]? = some x) (hv : Vis X.env.scope x) (hd : (x == ("__debug__" : Str)) = false) (hcd : (x == ("__classdict__" : Str)) = false)
    (hbase : attributeBase (.Name x px) name X.env (eval (.Name x px) X.env) = eval (.Name x px) X.env)
    (hfew : ((backTo cpos (starEach (e :: es) X.env)).all (fun x => !x.1) && (backToKw cpos (keywordEach [] X.env)).all (fun x => x.1.isSome)
      && decide ((e :: es).length + ([] : List Keyword).length + (if ([] : List Keyword).isEmpty then 0 else 1) < 30)) = true)
    (hline : (apos.endLine == cpos.line) = true) (hs : starEach (e :: es) X.env = (false, eval e X.env) :: starEach es X.env) (hplain : (backTo cpos (starEach es X.env)).any (·.1) = false) :
    SE X (.Call (.Attribute (.Name x px) name apos) (e :: es) [] cpos) (cMuN T g i fa) :=
  PE.imp (pe_bmG pa slot hty hm.rule (pe_var hN hv hd hcd) ha hbase hfew hline hs hplain) fun σ H Q ⟨env, F, rel, h⟩ => by
    have h := h.bnd
    unfold peek at h
    split at h
    · rename_i o e0
      split at h
      · rename_i ht
        obtain ⟨v, F1, F2, e1, r, rel', a, b, d⟩ := rel.take e0
        refine ⟨v, e1, tyB_of r ht hT, ?_⟩
        refine tLf_bind rel h fun os env2 us H2 F3 F4 ro2 b h => ?_
        split at h
        · rename_i o2 e2
          obtain ⟨v2, G1, G2, q1, r2, rel2, a2, b2, d2⟩ := b.rel.take e2
          rw [e1] at q1
          cases q1
          have m1 : Dom G1 H2 := fun x p => b.d2 x (a2 x p)
          exact mu_end (x := (o2, some i)) r2 ro2 rel2 (fun x p q => b.dj x q (a2 x p)) d2 (fun x p q => b.dj x p (b2 x q)) m1 b.d1 (fun x p => b.d2 x (b2 x p)) b.st (fun x p => b.sub x (p.elim (fun p => .inr (a2 x p)) fun p => p.elim .inl fun p => .inr (b2 x p)))
            (fun j z => by cases z; exact e1) h
        · exact h.elim
      · exact h.elim
    · exact h.elim
theorem se_appendN {x : Str} {px : Pos} {e : Expr} {apos cpos : Pos} {fa : M (List O)} (i : Nat) (ha : AE X [e] fa)
    (hN : X.N[i]? = some x := by rfl) (hv : Vis X.env.scope x := by first | exact Or.inl rfl | exact Or.inr (Or.inl rfl) | exact Or.inr (Or.inr rfl)) (hd : (x == ("__debug__" : Str)) = false := by decide) (hcd : (x == ("__classdict__" : Str)) = false := by decide)
    (hbase : attributeBase (.Name x px) "append" X.env (eval (.Name x px) X.env) = eval (.Name x px) X.env := by rfl)
    (hfew : ((backTo cpos (starEach [e] X.env)).all (fun x => !x.1) && (backToKw cpos (keywordEach [] X.env)).all (fun x => x.1.isSome) && decide ([e].length + ([] : List Keyword).length + (if ([] : List Keyword).isEmpty then 0 else 1) < 30)) = true := by rfl)
    (hline : (apos.endLine == cpos.line) = true := by rfl) (hs : starEach [e] X.env = (false, eval e X.env) :: starEach [] X.env := by rfl) : SE X (.Call (.Attribute (.Name x px) "append" apos) [e] [] cpos) (cMuN "list" uAppend i fa) :=
  se_muN i (by decide) PySem.F.plainAttrs_list PySem.F.slot_list_append PySem.F.type_list_append mu_append ha hN hv hd hcd hbase hfew hline hs rfl
theorem se_popN {x : Str} {px : Pos} {e : Expr} {apos cpos : Pos} {fa : M (List O)} (i : Nat) (ha : AE X [e] fa)
    (hN : X.N[i]? = some x := by rfl) (hv : Vis X.env.scope x := by first | exact Or.inl rfl | exact Or.inr (Or.inl rfl) | exact Or.inr (Or.inr rfl)) (hd : (x == ("__debug__" : Str)) = false := by decide) (hcd : (x == ("__classdict__" : Str)) = false := by decide)
    (hbase : attributeBase (.Name x px) "pop" X.env (eval (.Name x px) X.env) = eval (.Name x px) X.env := by rfl)
    (hfew : ((backTo cpos (starEach [e] X.env)).all (fun x => !x.1) && (backToKw cpos (keywordEach [] X.env)).all (fun x => x.1.isSome) && decide ([e].length + ([] : List Keyword).length + (if ([] : List Keyword).isEmpty then 0 else 1) < 30)) = true := by rfl)
    (hline : (apos.endLine == cpos.line) = true := by rfl) (hs : starEach [e] X.env = (false, eval e X.env) :: starEach [] X.env := by rfl) : SE X (.Call (.Attribute (.Name x px) "pop" apos) [e] [] cpos) (cMuN "list" uPop i fa) :=
  se_muN i (by decide) PySem.F.plainAttrs_list PySem.F.slot_list_pop PySem.F.type_list_pop mu_pop ha hN hv hd hcd hbase hfew hline hs rfl
end
section
variable {X : Cx} {fx : Nat → Bool}
/-! ### (a, b, ..) = a tuple or a list -/
theorem PG.or {e : Expr} {t t' : TG} (h : PG X e t) (h' : PG X e t') : PG X e (fun v σ H Q => t v σ H Q ∨ t' v σ H Q) := ⟨fun pins s σ H v u Q I r q => q.elim (h.run pins s σ H v u Q I r) (h'.run pins s σ H v u Q I r)⟩
def unpG (gs : Gs) : G := fun o e => match asQ o with
  | some xs => gs xs e
  | none => none
theorem tg_unp {es : List Expr} {k : Nat} {gs : Gs} {pos : Pos} {n : Nat} (hc : X.calm = true) (h : TGs' X fx es gs) (hl : ∀ xs e e', gs xs e = some e' → xs.length = n) (hn : (assignEach es X.env).length = n := by rfl) (hst : (assignEach es X.env).findIdx? (·.1) = none := by rfl) : TG' X fx (.Tuple es k pos) (unpG gs) :=
  PG.imp (PG.or (pg_tup hc h hn hst) (pg_unl hc h hn hst)) fun v σ H Q ⟨o, env, F1, F2, ro, rel, d, env', e, kk⟩ => by
    unfold unpG at e
    split at e
    · rename_i xs hx
      have fin : ∀ {vs : List V}, RDs X.K H xs vs → tGs X fx gs vs σ H Q := fun {vs} rd => ⟨xs, env, F2, rd, rel, env', e, fun σ' H' F' rel' fi st sub => kk σ' H' F' rel' fi (st.mono fun x p => .inl (.inr p)) fun x p => (sub x p).imp .inr id⟩
      obtain ⟨a, vs, rfl, hs, rd⟩ := asQ_ok ro hx
      rcases hs with hs | hs
      · exact .inr ⟨a, vs, rfl, hs, by rw [← rd.length]; exact hl _ _ _ e, fin rd⟩
      · exact .inl ⟨a, vs, rfl, hs, by rw [← rd.length]; exact hl _ _ _ e, fin rd⟩
    · cases e
end
/-! ### defs of a text -/
/-- a constant of the module -/
def ConAt (K : PySem.W.Frag) (mg : Str → Option Value) (x : Str) (d : D) : Prop := ∃ u v, mg x = some u ∧ RelV v u ∧ ∀ H, RD K H d v
theorem se_gl {X : Cx} {x : Str} {d : D} {pos : Pos} (h : ConAt X.K X.mg x d) (hg : Gl X x := by rfl) (hb : (x == ("__debug__" : Str)) = false := by decide) : SE X (.Name x pos) (con d) := by
  obtain ⟨u, v, hm, r, hd⟩ := h
  exact se_glob hg hm r hd hb
theorem own_cx {CX : CXT} {P : Program} {w : World} {K : PySem.W.Frag} {mg : Str → Option Value} {base : Heap} {N : List Str} {qual : Str} {scope : Scope} {f : Addr} {cd : Value} {A : Around} {outer : List PySem.Env} {s : Shared} {H : Hp} {E : XK} :
    PassesOwn (model (cxOf CX P w K mg base N qual scope f cd A outer s H E).prog (cxOf CX P w K mg base N qual scope f cd A outer s H E).w) (cxOf CX P w K mg base N qual scope f cd A outer s H E).A (cxOf CX P w K mg base N qual scope f cd A outer s H E).env (cxOf CX P w K mg base N qual scope f cd A outer s H E).xe :=
  passes_of (K := fun e s'' => CX outer H s E e s'') rfl
/-- the def x of the text is known -/
def FnAt (K : PySem.W.Frag) (mg : Str → Option Value) (x : Str) (st : Stmt) : Prop := ∃ f fd, mg x = some (.ref f) ∧ L2.Fun K x x st f fd
/-- .. and does what g tells -/
def OkF (P : Program) (w : World) (K : PySem.W.Frag) (mg : Str → Option Value) (base : Heap) (k : Nat) (x : Str) (ps : List Str) (g : List O → Option (O × Env)) : Prop :=
  ∃ f fd, mg x = some (.ref f) ∧ PySem.W.keepIn K (.ref f) = true ∧ Binds K fd ps [] ∧ FnG P w K mg base NoX k f fd ps (spG K g)
def fxL (l : List Nat) : Nat → Bool := fun i => l.contains i
section
variable {P : Program} {w : World} {K : PySem.W.Frag} {mg : Str → Option Value} {base : Heap}
theorem okf_mk {k : Nat} {x : Str} {st : Stmt} {N ps : List Str} {fx : Nat → Bool} {g : S} (n m : Nat) (F : FnAt K mg x st) (sc : FnScope N ps (defScope st)) (hn : ps.length = n) (hm : N.length = m)
    (hb : ∀ (kV doc pm : Value) (an : Option Addr) (cdv ct : Value) (us : List Value), us.length = ps.length → bindArgs (PySem.W.fnOf x x (defArgs st) (defBody st) (defScope st) .none kV doc pm an cdv ct) ⟨us, []⟩ = pure (ps.zip us))
    (hbody : ∀ (f : Addr) (cdv : Value) (A : Around) (outer : List PySem.Env) (s : Shared) (H : Hp) (E : XK), Room k (A.deeper (envOfC x (defScope st) s.heap.objs.size f cdv)) → (A.deeper (envOfC x (defScope st) s.heap.objs.size f cdv)).guards = some [] →
      SB (cxOf NoX P w K mg base N x (defScope st) f cdv A outer s H E) fx (defBody st) g) : OkF P w K mg base (k + 1) x ps (fnG n m fx g) := by
  obtain ⟨f, fd, hf, ⟨oc, od, kV, doc, pm, an, cdv, ct, osl, rfl, lk, hcd⟩, kp⟩ := F
  exact ⟨f, _, hf, kp, Binds.all (hb kV doc pm an cdv ct), fng_body n m lk hcd sc hn hm fun A outer s H E hr hgd => hbody f cdv A outer s H E hr hgd⟩
end
section
variable {X : Cx}
theorem se_ok {j : Nat} {x : Str} {ps : List Str} {p pos : Pos} {e : Expr} {es : List Expr} {g : List O → Option (O × Env)} {fa : M (List (O × Option Nat))} (h : OkF X.prog X.w X.K X.mg X.base j x ps g) (hr : Room j X.A) (hgd : X.A.guards = some [])
    (ha : AO X (e :: es) fa) (hg : Gl X x := by rfl) (hdb : (x == ("__debug__" : Str)) = false := by decide) (he : starEach (e :: es) X.env = (false, eval e X.env) :: starEach es X.env := by rfl) (hpl : (backTo pos (starEach es X.env)).any (·.1) = false := by rfl) :
    SE X (.Call (.Name x p) (e :: es) [] pos) (cFn g fa) := by
  obtain ⟨f, fd, hm, hk, hb, F⟩ := h
  exact se_fn (E := fun _ _ _ => False) F hr hgd hg hm hk hb noX_passes ha hdb he hpl
theorem se_ok0 {j : Nat} {x : Str} {ps : List Str} {p pos : Pos} {g : List O → Option (O × Env)} (h : OkF X.prog X.w X.K X.mg X.base j x ps g) (hr : Room j X.A) (hgd : X.A.guards = some [])
    (hg : Gl X x := by rfl) (hdb : (x == ("__debug__" : Str)) = false := by decide) : SE X (.Call (.Name x p) [] [] pos) (cFn g nilO) := by
  obtain ⟨f, fd, hm, hk, hb, F⟩ := h
  exact se_fn0 (E := fun _ _ _ => False) F hr hgd hg hm hk hb noX_passes hdb
end
end TL

set_option maxHeartbeats 1000000
namespace TL
open PySem L2 PySem.Spec PyProof.Rows
theorem ints_rd {K : PySem.W.Frag} {H : Hp} : ∀ ns : List Int, RDs K H (ns.map D.int) (ns.map V.int)
  | [] => .nil
  | n :: ns => .cons (.int n) (ints_rd ns)
theorem scr_of {K : PySem.W.Frag} {H : Hp} {a : Addr} {ns : List Int} (hO : L2.Only H) (hS : SqL K H a (ns.map V.int)) : RD K H (.scr (ns.map D.int)) (.ref a) := by
  refine .scr ?_ (ints_rd ns)
  rcases hS with (h | ⟨o, h⟩) | h
  · rcases hO a with z | ⟨o, xs, z⟩
    · rw [h] at z; cases z
    · rw [h] at z; cases z
  · exact .inl ⟨o, h⟩
  · exact .inr h
/-- the call of the law at a heap in which nothing but the script is tracked -/
theorem law_core {P : Program} {w : World} {K : PySem.W.Frag} {mg mb : Str → Option Value} {k : Nat} {fa a : Addr} {x : Str} {sp : Sp} {s₁ : Shared} {vs : List Value} {ns : List Int} {H : Hp}
    (KX : K.In s₁.heap) (hns : s₁.heap.Ns mainGlobals mg) (hb : s₁.heap.Ns builtinsNs mb) (hbb : ∀ x : Str, x ≠ "__name__" → mb x = bootBuiltins x) (hlim : s₁.heap.NoLimit) (hg : s₁.gens = #[])
    (ha : s₁.heap.get? a = some { cls := .type "list", data := .seq vs.toArray }) (hr : Room k callerA)
    (F : ∀ base : Heap, K.In base → base.Ns mainGlobals mg → ∃ fd : FuncData, Binds K fd [x] [] ∧ FnG P w K mg base NoX k fa fd [x] sp)
    (hO : L2.Only H) (hS : SqL K H a (ns.map V.int)) (hok : HOk P w H s₁.heap) (hA : ∀ b, H b ≠ none → b = a) (hK : H a ≠ none → K.lookup a = none)
    (hsp : sp [.ref a] H (fun v _ => v = .bl true) fun _ _ _ => False) :
    codeAny (model P w) callerA (.call (.ref fa) ⟨[.ref a], []⟩) (fun r s' => r = .ok (.ret (.bool true)) ∧ OldK s₁.heap s'.heap ∧ s'.os = s₁.os ∧ AllBare s'.gens) s₁ := by
  have is_a : ∀ {b : Addr} {u : HO}, H b = some u → b = a := fun {b u} q => hA b (by rw [q]; simp)
  have nod : ∀ {b : Addr} {o : Obj} {es : Array DictEntry} {ep : Nat}, s₁.heap.get? b = some o → o.data = .dict es ep → H b = none := fun {b o es ep} e d => by
    cases q : H b with
    | none => rfl
    | some u =>
      have z := is_a q
      subst z
      rw [ha] at e; cases e
      have d' : Data.seq vs.toArray _ = Data.dict es ep := d
      cases d'
  have nsK : ∀ {b : Addr} {m : Str → Option Value}, s₁.heap.Ns b m → (hidT s₁.heap H).Ns b m := fun {b m} ⟨o, es, ep, e, d, r⟩ => ⟨o, es, ep, hidT_get e (nod e d), d, r⟩
  have hKb : K.In (hidT s₁.heap H) := fun b o e => hidT_get (KX b o e) (by
    cases q : H b with
    | none => rfl
    | some u =>
      have z := is_a q
      subst z
      rw [hK (by rw [q]; simp)] at e; cases e)
  have hM : Mod K mg (hidT s₁.heap H) := ⟨hKb, nsK hns, ⟨mb, nsK hb, hbb⟩, let ⟨mc, h1, h2⟩ := hlim; ⟨mc, nsK h1, h2⟩⟩
  have e0 : Env0 P w K mg (hidT s₁.heap H) callerA [] s₁ H := ⟨rfl, hM, fun b o e => of_hidT e, Nat.le_of_eq (hidT_size _ _), trivial, fun b hb => (nomatch (show b ∈ ([] : List Addr) from hb)), hok, .of_eq hg⟩
  obtain ⟨fd, hbind, FF⟩ := F _ hKb (nsK hns)
  refine codeAny_mono (FF.run callerA [] s₁ H ⟨[.ref a], []⟩ [.ref a] [.ref a] _ _ hr rfl e0 (hbind s₁ [.ref a] KX rfl) (.cons rfl .nil) hsp) fun r s' h => ?_
  cases r with
  | error e => exact (show False from h).elim
  | ok fl =>
    cases fl with
    | next => exact False.elim h
    | brk => exact False.elim h
    | cont => exact False.elim h
    | ret u =>
      obtain ⟨v, H', os, bare, un, hok', r', q⟩ := h
      have q' : v = .bl true := q
      subst q'
      obtain rfl : u = Value.bool true := r'
      refine ⟨rfl, OldK.of_keep fun b o e => ?_, os, bare⟩
      cases q : H b with
      | none => exact un.keep b o e q (fun z => (nomatch (show b ∈ ([] : List Addr) from z))) (by simp)
      | some u =>
        rcases hO b with z | ⟨ob, xs, z⟩
        · rw [q] at z; cases z
        · have z2 := un.frzs b ob _ z
          obtain ⟨e1, _⟩ := hok b _ z
          obtain ⟨e2, _⟩ := hok' b _ z2
          rw [e] at e1; cases e1
          exact e2
theorem law_callG {P : Program} {w : World} {K : PySem.W.Frag} {mg mb : Str → Option Value} {k : Nat} {fa a : Addr} {x : Str} {sp : Sp} {s₁ : Shared} {vs : List Value} {ns : List Int}
    (KX : K.In s₁.heap) (hns : s₁.heap.Ns mainGlobals mg) (hb : s₁.heap.Ns builtinsNs mb) (hbb : ∀ x : Str, x ≠ "__name__" → mb x = bootBuiltins x) (hlim : s₁.heap.NoLimit) (hg : s₁.gens = #[])
    (ha : s₁.heap.get? a = some { cls := .type "list", data := .seq vs.toArray }) (hi : IntsAre vs ns) (hl : ns.length ≤ sizeLine) (hr : Room k callerA)
    (F : ∀ base : Heap, K.In base → base.Ns mainGlobals mg → ∃ fd : FuncData, Binds K fd [x] [] ∧ FnG P w K mg base NoX k fa fd [x] sp)
    (hsp : ∀ H : Hp, L2.Only H → SqL K H a (ns.map V.int) → sp [.ref a] H (fun v _ => v = .bl true) fun _ _ _ => False) :
    codeAny (model P w) callerA (.call (.ref fa) ⟨[.ref a], []⟩) (fun r s' => r = .ok (.ret (.bool true)) ∧ OldK s₁.heap s'.heap ∧ s'.os = s₁.os ∧ AllBare s'.gens) s₁ := by
  have rv := vals_ints hi
  have lenV := hi.length
  cases hk : K.lookup a with
  | some o =>
    have e := KX a o hk
    rw [ha] at e
    cases e
    have hO : L2.Only fun _ => none := fun _ => .inl rfl
    have hS : SqL K (fun _ => none) a (ns.map V.int) := .inr ⟨_, vs.toArray, _, hk, rfl, rfl, rfl, by rw [List.size_toArray, lenV]; exact hl, by simpa using rv⟩
    exact law_core KX hns hb hbb hlim hg ha hr F hO hS (fun b u z => by have z' : (none : Option HO) = some u := z; cases z') (fun b z => absurd rfl z) (fun z => absurd rfl z) (hsp _ hO hS)
  | none =>
    let H : Hp := fun b => if b = a then some (.frz { cls := .type "list", data := .seq vs.toArray } (.lst (ns.map V.int))) else none
    have hH : H a = some (.frz { cls := .type "list", data := .seq vs.toArray } (.lst (ns.map V.int))) := if_pos rfl
    have hN : ∀ b, b ≠ a → H b = none := fun b h => if_neg h
    have hO : L2.Only H := fun b => by
      by_cases h : b = a
      · subst h; exact .inr ⟨_, _, hH⟩
      · exact .inl (hN b h)
    have hS : SqL K H a (ns.map V.int) := .inl (.inr ⟨_, hH⟩)
    refine law_core KX hns hb hbb hlim hg ha hr F hO hS (fun b u z => ?_) (fun b z => ?_) (fun _ => hk) (hsp _ hO hS)
    · by_cases h : b = a
      · subst h
        rw [hH] at z; cases z
        exact ⟨ha, by rw [List.length_map]; exact hl, vs, _, rv, ha⟩
      · rw [hN b h] at z; cases z
    · exact Classical.byContradiction fun h => z (hN b h)
/-- a law's walk, from its function over places -/
theorem walk_G {l : PySem.W.OpenLaw} {n k : Nat} {q : Program} {loose : List Str} {XP : (Str → Option Value) → Heap → Prop} {YP : World → Heap → Prop} {d : DefRec} {x : Str} {g : List O → Option (O × Env)}
    (hn : l.most = some n) (hn2 : n ≤ sizeLine) (hdf : d.params.defaults = []) (hr : Room k callerA)
    (F : ∀ (w : World) (mg : Str → Option Value) (h : Heap), YP w h → h.Ns mainGlobals mg → ∃ K : PySem.W.Frag, K.In h ∧ ∀ base : Heap, K.In base → base.Ns mainGlobals mg → OkF l.prog w K mg base k d.name [x] g)
    (law : ∀ ns : List Int, ns.length ≤ n → (∀ z ∈ ns, Builtin.Int.intBits z ≤ 1048576) → ∃ e, g [.d (.scr (ns.map D.int))] = some (.d (.bl true), e)) :
    PySem.W.WalkO q loose XP YP l.row.toRowW d [] (fun f vs => PySem.call f vs) := by
  refine Att.attach_callB hn hdf fun w s₀ s₁ mg mb fa o pm cd doc a vs ns G Y ho hd hcd hmg hobj hints hlen hbits hg => ?_
  obtain ⟨K, KX, hF⟩ := F w mg _ Y G.T.g
  obtain ⟨e, hlaw⟩ := law ns hlen hbits
  refine law_callG (x := x) (sp := spG K g) KX G.T.g G.T.b G.T.builtins G.T.nolimit hg hobj hints (Nat.le_trans hlen hn2) hr (fun base h1 h2 => ?_) fun H hO hS => ?_
  · obtain ⟨f, fd, hf, _, hb, F2⟩ := hF base h1 h2
    obtain rfl : fa = f := by rw [hmg] at hf; cases hf; rfl
    exact ⟨fd, hb, F2⟩
  · exact ⟨[.d (.scr (ns.map D.int))], nof, _, e, .cons nof nof (.d (scr_of hO hS)) .nil (fun _ z => z) (fun _ z => z) (fun _ z _ => z), hlaw, fun z H' F1 F2 rz _ _ _ _ => by cases rz.od; rfl⟩
end TL

set_option maxHeartbeats 4000000
namespace K00
open PySem L2 TL PySem.Spec PyProof.Rows
def topS (i : Nat) : Stmt := PySem.Challenge.pw_eachshare_k00_integers_names_and_sets.main.body.getD i (.Pass ⟨0, 0, 0, 0⟩)
abbrev s_is_integer : Stmt := topS 3
abbrev s_is_name : Stmt := topS 4
abbrev s_are_ascending : Stmt := topS 5
abbrev s_is_names : Stmt := topS 6
abbrev s_is_set : Stmt := topS 7
abbrev s__law_jar : Stmt := topS 9
abbrev s__law_sip : Stmt := topS 10
abbrev s__law_which : Stmt := topS 11
abbrev s__law_mixed : Stmt := topS 12
abbrev s__law_letter : Stmt := topS 13
abbrev s__law_many_names : Stmt := topS 14
abbrev s__law_spelled : Stmt := topS 15
abbrev s__law_is_name_row : Stmt := topS 16
abbrev s__law_is_name_set : Stmt := topS 17
abbrev s__law_is_short : Stmt := topS 18
abbrev s__law_numbers : Stmt := topS 19
abbrev s__law_texts : Stmt := topS 20
abbrev s__law_tuples : Stmt := topS 21
abbrev s__law_cell_right : Stmt := topS 22
abbrev s_law : Stmt := topS 23
def c_GREATEST : D := (.int 999999999999999999999999999999999999999999999999999999999999)
def c_MAX_LETTERS : D := (.int 8)
/-- what the text has written -/
structure Txt (K : PySem.W.Frag) (mg : Str → Option Value) : Prop where
  b_abs : mg "abs" = none
  b_all : mg "all" = none
  b_bool : mg "bool" = none
  b_int : mg "int" = none
  b_isinstance : mg "isinstance" = none
  b_len : mg "len" = none
  b_list : mg "list" = none
  b_max : mg "max" = none
  b_min : mg "min" = none
  b_range : mg "range" = none
  b_repr : mg "repr" = none
  b_set : mg "set" = none
  b_sorted : mg "sorted" = none
  b_str : mg "str" = none
  b_tuple : mg "tuple" = none
  b_zip : mg "zip" = none
  c_GREATEST : ConAt K mg "GREATEST" c_GREATEST
  c_MAX_LETTERS : ConAt K mg "MAX_LETTERS" c_MAX_LETTERS
  f_is_integer : FnAt K mg "is_integer" s_is_integer
  f_is_name : FnAt K mg "is_name" s_is_name
  f_are_ascending : FnAt K mg "are_ascending" s_are_ascending
  f_is_names : FnAt K mg "is_names" s_is_names
  f_is_set : FnAt K mg "is_set" s_is_set
  f__law_jar : FnAt K mg "_law_jar" s__law_jar
  f__law_sip : FnAt K mg "_law_sip" s__law_sip
  f__law_which : FnAt K mg "_law_which" s__law_which
  f__law_mixed : FnAt K mg "_law_mixed" s__law_mixed
  f__law_letter : FnAt K mg "_law_letter" s__law_letter
  f__law_many_names : FnAt K mg "_law_many_names" s__law_many_names
  f__law_spelled : FnAt K mg "_law_spelled" s__law_spelled
  f__law_is_name_row : FnAt K mg "_law_is_name_row" s__law_is_name_row
  f__law_is_name_set : FnAt K mg "_law_is_name_set" s__law_is_name_set
  f__law_is_short : FnAt K mg "_law_is_short" s__law_is_short
  f__law_numbers : FnAt K mg "_law_numbers" s__law_numbers
  f__law_texts : FnAt K mg "_law_texts" s__law_texts
  f__law_tuples : FnAt K mg "_law_tuples" s__law_tuples
  f__law_cell_right : FnAt K mg "_law_cell_right" s__law_cell_right
  f_law : FnAt K mg "law" s_law
variable {P : Program} {w : World} {K : PySem.W.Frag} {mg : Str → Option Value} {base : Heap}
theorem sc_is_integer : FnScope ["value"] ["value"] (defScope s_is_integer) := ⟨rfl, rfl, rfl, by decide +kernel, rfl, by decide +kernel, by decide +kernel⟩
def b_is_integer : S :=
  (bndS (vAnd (cCall gIsi (consO (tmp (nf 0)) (consO (tmp (con (.ty "int"))) nilO))) (vAnd (vB (cNot (asB (cCall gIsi (consO (tmp (nf 0)) (consO (tmp (con (.ty "bool"))) nilO)))))) (cChain gLe gLe (cNeg (con c_GREATEST)) (nf 0) (con c_GREATEST)))) retS)
def g_is_integer : List O → Option (O × TL.Env) := fnG 1 1 (fxL []) b_is_integer
theorem ok_is_integer (T : Txt K mg) : OkF P w K mg base 1 "is_integer" ["value"] g_is_integer := by
  refine okf_mk 1 1 T.f_is_integer sc_is_integer rfl rfl (fun _ _ _ _ _ _ us hl => match us, hl with | [_], _ => rfl) fun f cdv A outer s H E hr hgd => ?_
  exact (sb_one (ss_ret (se_and (se_callB cs_isi rfl T.b_isinstance rfl (ao_cons (oe_of (se_nf 0)) (ao_cons (oe_of (se_bltn rfl T.b_int rfl)) ao_nil))) (se_and (se_not (se_callB cs_isi rfl T.b_isinstance rfl (ao_cons (oe_of (se_nf 0)) (ao_cons (oe_of (se_bltn rfl T.b_bool rfl)) ao_nil)))) (se_one (se_chain os_le os_le (se_neg (se_gl T.c_GREATEST)) (se_nf 0) (se_gl T.c_GREATEST)))))))
theorem sc_is_name : FnScope ["value", "letter"] ["value"] (defScope s_is_name) := ⟨rfl, rfl, rfl, by decide +kernel, rfl, by decide +kernel, by decide +kernel⟩
def q_is_name_0 : M O := (compM (cIt (tmp (nf 0))) (setV 1) (ret true) (cChain gLe gLe (con (.str "a")) (nf 1) (con (.str "z"))) [1])
def b_is_name : S :=
  (seqS (ifS (cOr (cNot (asB (cCall gIsi (consO (tmp (nf 0)) (consO (tmp (con (.ty "str"))) nilO))))) (cNot (asB (cChain gLe gLe (con (.int 1)) (cCall gLen (consO (tmp (nf 0)) nilO)) (con c_MAX_LETTERS))))) (bndS (con (.bl false)) retS) nilS)
  (bndS (cCall gAll (consO (tmp q_is_name_0) nilO)) retS))
def g_is_name : List O → Option (O × TL.Env) := fnG 1 2 (fxL []) b_is_name
theorem ok_is_name (T : Txt K mg) : OkF P w K mg base 1 "is_name" ["value"] g_is_name := by
  refine okf_mk 1 2 T.f_is_name sc_is_name rfl rfl (fun _ _ _ _ _ _ us hl => match us, hl with | [_], _ => rfl) fun f cdv A outer s H E hr hgd => ?_
  exact (sb_cons (ss_if (be_bw (bw_or (be_not (be_val (se_callB cs_isi rfl T.b_isinstance rfl (ao_cons (oe_of (se_nf 0)) (ao_cons (oe_of (se_bltn rfl T.b_str rfl)) ao_nil))))) (bw_or1 (be_not (be_chain os_le os_le se_int (se_callB cs_len rfl T.b_len rfl (ao_cons (oe_of (se_nf 0)) ao_nil)) (se_gl T.c_MAX_LETTERS)))))) (sb_one (ss_ret se_bl)) sb_nil)
  (sb_one (ss_ret (se_callB (cs_all rfl) rfl T.b_all rfl (ao_cons (oe_of (se_lc (own := [("letter", 1)]) rfl sc_is_name.nd (blkOk_by (by kernel_rfl)) (ie_val (oe_of (se_nf 0))) (fun _ _ _ _ _ => (tg_name 1 sc_is_name.nd)) (fun _ _ _ _ _ => ts_nil) (fun _ _ _ _ _ => (se_chain os_le os_le se_str (se_nf 1) se_str)))) ao_nil)))))
theorem sc_are_ascending : FnScope ["values", "one", "other"] ["values"] (defScope s_are_ascending) := ⟨rfl, rfl, rfl, by decide +kernel, rfl, by decide +kernel, by decide +kernel⟩
def q_are_ascending_0 : M O := (compM (cZip (consM (nf 0) (consM (fz (cSl (tmp (nf 0)) (asI (con (.int 1))) (ret none))) nilM))) (unpG (consG (setV 1) (consG (setV 2) nilG))) (ret true) (cBin gLt (tmp (nf 1)) (tmp (nf 2))) [1, 2])
def b_are_ascending : S :=
  (bndS (cCall gAll (consO (tmp q_are_ascending_0) nilO)) retS)
def g_are_ascending : List O → Option (O × TL.Env) := fnG 1 3 (fxL []) b_are_ascending
theorem ok_are_ascending (T : Txt K mg) : OkF P w K mg base 1 "are_ascending" ["values"] g_are_ascending := by
  refine okf_mk 1 3 T.f_are_ascending sc_are_ascending rfl rfl (fun _ _ _ _ _ _ us hl => match us, hl with | [_], _ => rfl) fun f cdv A outer s H E hr hgd => ?_
  exact (sb_one (ss_ret (se_callB (cs_all rfl) rfl T.b_all rfl (ao_cons (oe_of (se_lc (own := [("one", 1), ("other", 2)]) rfl sc_are_ascending.nd (blkOk_by (by kernel_rfl)) (ie_zip rfl T.b_zip (ae_cons (se_nf 0) (ae_cons (se_fz (se_slice (oe_of (se_nf 0)) (pt_some se_int) pt_none')) ae_nil))) (fun _ _ _ _ _ => (tg_unp rfl (tgs_cons (tg_name 1 sc_are_ascending.nd) (tgs_cons (tg_name 2 sc_are_ascending.nd) tgs_nil)) (gs_lenS (gs_lenS gs_len0)))) (fun _ _ _ _ _ => ts_nil) (fun _ _ _ _ _ => (se_cmp os_lt (oe_of (se_nf 1)) (oe_of (se_nf 2)) (nomark _))))) ao_nil))))
theorem sc_is_names : FnScope ["value", "name"] ["value"] (defScope s_is_names) := ⟨rfl, rfl, rfl, by decide +kernel, rfl, by decide +kernel, by decide +kernel⟩
def q_is_names_0 : M O := (compM (cIt (tmp (nf 0))) (setV 1) (ret true) (fz (cFn g_is_name (consO (tmp (nf 1)) nilO))) [1])
def b_is_names : S :=
  (bndS (vAnd (cCall gIsi (consO (tmp (nf 0)) (consO (tmp (con (.ty "tuple"))) nilO))) (cCall gAll (consO (tmp q_is_names_0) nilO))) retS)
def g_is_names : List O → Option (O × TL.Env) := fnG 1 2 (fxL []) b_is_names
theorem ok_is_names (T : Txt K mg) : OkF P w K mg base 2 "is_names" ["value"] g_is_names := by
  refine okf_mk 1 2 T.f_is_names sc_is_names rfl rfl (fun _ _ _ _ _ _ us hl => match us, hl with | [_], _ => rfl) fun f cdv A outer s H E hr hgd => ?_
  exact (sb_one (ss_ret (se_and (se_callB cs_isi rfl T.b_isinstance rfl (ao_cons (oe_of (se_nf 0)) (ao_cons (oe_of (se_bltn rfl T.b_tuple rfl)) ao_nil))) (se_one (se_callB (cs_all rfl) rfl T.b_all rfl (ao_cons (oe_of (se_lc (own := [("name", 1)]) rfl sc_is_names.nd (blkOk_by (by kernel_rfl)) (ie_val (oe_of (se_nf 0))) (fun _ _ _ _ _ => (tg_name 1 sc_is_names.nd)) (fun _ _ _ _ _ => ts_nil) (fun _ _ _ _ _ => (se_fz (se_ok (ok_is_name T) (hr.mono (by decide)) hgd (ao_cons (oe_of (se_nf 1)) ao_nil)))))) ao_nil))))))
theorem sc_is_set : FnScope ["value"] ["value"] (defScope s_is_set) := ⟨rfl, rfl, rfl, by decide +kernel, rfl, by decide +kernel, by decide +kernel⟩
def b_is_set : S :=
  (bndS (vAnd (cFn g_is_names (consO (tmp (nf 0)) nilO)) (cFn g_are_ascending (consO (tmp (nf 0)) nilO))) retS)
def g_is_set : List O → Option (O × TL.Env) := fnG 1 1 (fxL []) b_is_set
theorem ok_is_set (T : Txt K mg) : OkF P w K mg base 3 "is_set" ["value"] g_is_set := by
  refine okf_mk 1 1 T.f_is_set sc_is_set rfl rfl (fun _ _ _ _ _ _ us hl => match us, hl with | [_], _ => rfl) fun f cdv A outer s H E hr hgd => ?_
  exact (sb_one (ss_ret (se_and (se_ok (ok_is_names T) (hr.mono (by decide)) hgd (ao_cons (oe_of (se_nf 0)) ao_nil)) (se_one (se_ok (ok_are_ascending T) (hr.mono (by decide)) hgd (ao_cons (oe_of (se_nf 0)) ao_nil))))))
theorem sc__law_jar : FnScope ["script", "at", "cell", "great", "mixed"] ["script", "at"] (defScope s__law_jar) := ⟨rfl, rfl, rfl, by decide +kernel, rfl, by decide +kernel, by decide +kernel⟩
def b__law_jar : S :=
  (seqS (bndS (cIf (asB (cBin gLt (tmp (nf 1)) (tmp (cCall gLen (consO (tmp (nf 0)) nilO))))) (cBin gIx (tmp (nf 0)) (tmp (nf 1))) (cBin gAdd (tmp (cBin gMul (tmp (con (.int 59))) (tmp (nf 1)))) (tmp (con (.int 29))))) (asgS (setV 2)))
  (seqS (bndS (cBin gMod (tmp (cCall gToInt (consO (tmp (cCall gAbs (consO (tmp (nf 2)) nilO))) nilO))) (tmp (cBin gPow (tmp (cBin gPow (tmp (con (.int 10))) (tmp (con (.int 59))))) (tmp (con (.int 11)))))) (asgS (setV 3)))
  (seqS (bndS (cBin gAdd (tmp (cBin gAdd (tmp (cBin gAdd (tmp (cBin gMul (tmp (cBin gMod (tmp (cCall gToInt (consO (tmp (nf 3)) nilO))) (tmp (con (.int 2147483323))))) (tmp (con (.int 94261))))) (tmp (cBin gMul (tmp (con (.int 9001))) (tmp (nf 1)))))) (tmp (cBin gMul (tmp (con (.int 41))) (tmp (cCall gToInt (consO (tmp (cBin gLt (tmp (nf 2)) (tmp (con (.int 0))))) nilO))))))) (tmp (con (.int 67)))) (asgS (setV 4)))
  (bndS (cLst (consM (fz (cCall gMax2 (consO (tmp (con (.int 0))) (consO (tmp (cBin gSub (tmp (nf 3)) (tmp (cBin gPow (tmp (con (.int 10))) (tmp (con (.int 18))))))) nilO)))) (consM (fz (cBin gMod (tmp (cCall gToInt (consO (tmp (nf 4)) nilO))) (tmp (con (.int 2305843009213693907))))) (consM (con (.int 0)) nilM)))) retS))))
def g__law_jar : List O → Option (O × TL.Env) := fnG 2 5 (fxL []) b__law_jar
theorem ok__law_jar (T : Txt K mg) : OkF P w K mg base 1 "_law_jar" ["script", "at"] g__law_jar := by
  refine okf_mk 2 5 T.f__law_jar sc__law_jar rfl rfl (fun _ _ _ _ _ _ us hl => match us, hl with | [_, _], _ => rfl) fun f cdv A outer s H E hr hgd => ?_
  exact (sb_cons (ss_set 2 sc__law_jar.nd (se_if (be_cmp os_lt (oe_of (se_nf 1)) (oe_of (se_callB cs_len rfl T.b_len rfl (ao_cons (oe_of (se_nf 0)) ao_nil))) (nomark _)) (se_ix (is_ix' hr.units) (oe_of (se_nf 0)) (oe_of (se_nf 1))) (se_bin os_add (oe_of (se_bin os_mul (oe_of se_int) (oe_of (se_nf 1)))) (oe_of se_int))))
  (sb_cons (ss_set 3 sc__law_jar.nd (se_bin os_mod (oe_of (se_callTy cs_int rfl T.b_int rfl (ao_cons (oe_of (se_callB cs_abs rfl T.b_abs rfl (ao_cons (oe_of (se_nf 2)) ao_nil))) ao_nil))) (oe_of (se_bin os_pow (oe_of (se_bin os_pow (oe_of se_int) (oe_of se_int))) (oe_of se_int)))))
  (sb_cons (ss_set 4 sc__law_jar.nd (se_bin os_add (oe_of (se_bin os_add (oe_of (se_bin os_add (oe_of (se_bin os_mul (oe_of (se_bin os_mod (oe_of (se_callTy cs_int rfl T.b_int rfl (ao_cons (oe_of (se_nf 3)) ao_nil))) (oe_of se_int))) (oe_of se_int))) (oe_of (se_bin os_mul (oe_of se_int) (oe_of (se_nf 1)))))) (oe_of (se_bin os_mul (oe_of se_int) (oe_of (se_callTy cs_int rfl T.b_int rfl (ao_cons (oe_of (se_cmp os_lt (oe_of (se_nf 2)) (oe_of se_int) (nomark _))) ao_nil))))))) (oe_of se_int)))
  (sb_one (ss_ret (se_lst (ae_cons (se_fz (se_callB (cs_max2 rfl) rfl T.b_max rfl (ao_cons (oe_of se_int) (ao_cons (oe_of (se_bin os_sub (oe_of (se_nf 3)) (oe_of (se_bin os_pow (oe_of se_int) (oe_of se_int))))) ao_nil)))) (ae_cons (se_fz (se_bin os_mod (oe_of (se_callTy cs_int rfl T.b_int rfl (ao_cons (oe_of (se_nf 4)) ao_nil))) (oe_of se_int))) (ae_cons se_int ae_nil)))))))))
theorem sc__law_sip : FnScope ["jar", "total", "found", "one", "two"] ["jar", "total"] (defScope s__law_sip) := ⟨rfl, rfl, rfl, by decide +kernel, rfl, by decide +kernel, by decide +kernel⟩
def b__law_sip : S :=
  (seqS (ifS (asB (cBin gGt (tmp (cBin gIx (op 0) (tmp (con (.int 0))))) (tmp (con (.int 0))))) (seqS (bndS (cBin gMod (tmp (cCall gToInt (consO (tmp (cBin gIx (op 0) (tmp (con (.int 0))))) nilO))) (tmp (nf 1))) (asgS (setV 2)))
  (seqS (bndS (cBin gDiv (tmp (cBin gIx (op 0) (tmp (con (.int 0))))) (tmp (nf 1))) (setS uSet (op 0) (con (.int 0))))
  (bndS (nf 2) retS))) nilS)
  (seqS (bndS (cBin gAdd (tmp (cBin gIx (op 0) (tmp (con (.int 2))))) (tmp (con (.int 1)))) (setS uSet (op 0) (con (.int 2))))
  (seqS (bndS (cBin gMod (tmp (cCall gToInt (consO (tmp (cBin gAdd (tmp (cBin gIx (op 0) (tmp (con (.int 1))))) (tmp (cBin gMul (tmp (con (.int 1000409))) (tmp (cBin gIx (op 0) (tmp (con (.int 2))))))))) nilO))) (tmp (con (.int 2305843009213693951)))) (asgS (setV 3)))
  (seqS (bndS (cBin gAdd (tmp (cBin gMul (tmp (cBin gMod (tmp (cCall gToInt (consO (tmp (cBin gMul (tmp (nf 3)) (tmp (nf 3)))) nilO))) (tmp (con (.int 2305843009213693921))))) (tmp (nf 3)))) (tmp (cBin gMul (tmp (con (.int 9067))) (tmp (cBin gIx (op 0) (tmp (con (.int 2)))))))) (asgS (setV 4)))
  (bndS (cBin gMod (tmp (cCall gToInt (consO (tmp (cBin gDiv (tmp (cBin gMod (tmp (cCall gToInt (consO (tmp (nf 4)) nilO))) (tmp (con (.int 2305843009213693907))))) (tmp (con (.int 16384))))) nilO))) (tmp (nf 1))) retS)))))
def g__law_sip : List O → Option (O × TL.Env) := fnG 2 5 (fxL [0]) b__law_sip
theorem ok__law_sip (T : Txt K mg) : OkF P w K mg base 1 "_law_sip" ["jar", "total"] g__law_sip := by
  refine okf_mk 2 5 T.f__law_sip sc__law_sip rfl rfl (fun _ _ _ _ _ _ us hl => match us, hl with | [_, _], _ => rfl) fun f cdv A outer s H E hr hgd => ?_
  exact (sb_cons (ss_if (be_cmp os_gt (oe_of (se_ix (is_ix' hr.units) (oe_name 0) (oe_of se_int))) (oe_of se_int) (nomark _)) (sb_cons (ss_set 2 sc__law_sip.nd (se_bin os_mod (oe_of (se_callTy cs_int rfl T.b_int rfl (ao_cons (oe_of (se_ix (is_ix' hr.units) (oe_name 0) (oe_of se_int))) ao_nil))) (oe_of (se_nf 1))))
  (sb_cons (ss_setIx (ss_uSet' hr.units) (se_bin os_div (oe_of (se_ix (is_ix' hr.units) (oe_name 0) (oe_of se_int))) (oe_of (se_nf 1))) (oe_name 0) se_int)
  (sb_one (ss_ret (se_nf 2))))) sb_nil)
  (sb_cons (ss_setIx (ss_uSet' hr.units) (se_bin os_add (oe_of (se_ix (is_ix' hr.units) (oe_name 0) (oe_of se_int))) (oe_of se_int)) (oe_name 0) se_int)
  (sb_cons (ss_set 3 sc__law_sip.nd (se_bin os_mod (oe_of (se_callTy cs_int rfl T.b_int rfl (ao_cons (oe_of (se_bin os_add (oe_of (se_ix (is_ix' hr.units) (oe_name 0) (oe_of se_int))) (oe_of (se_bin os_mul (oe_of se_int) (oe_of (se_ix (is_ix' hr.units) (oe_name 0) (oe_of se_int))))))) ao_nil))) (oe_of se_int)))
  (sb_cons (ss_set 4 sc__law_sip.nd (se_bin os_add (oe_of (se_bin os_mul (oe_of (se_bin os_mod (oe_of (se_callTy cs_int rfl T.b_int rfl (ao_cons (oe_of (se_bin os_mul (oe_of (se_nf 3)) (oe_of (se_nf 3)))) ao_nil))) (oe_of se_int))) (oe_of (se_nf 3)))) (oe_of (se_bin os_mul (oe_of se_int) (oe_of (se_ix (is_ix' hr.units) (oe_name 0) (oe_of se_int)))))))
  (sb_one (ss_ret (se_bin os_mod (oe_of (se_callTy cs_int rfl T.b_int rfl (ao_cons (oe_of (se_bin os_div (oe_of (se_bin os_mod (oe_of (se_callTy cs_int rfl T.b_int rfl (ao_cons (oe_of (se_nf 4)) ao_nil))) (oe_of se_int))) (oe_of se_int))) ao_nil))) (oe_of (se_nf 1)))))))))
theorem sc__law_which : FnScope ["jar", "items"] ["jar", "items"] (defScope s__law_which) := ⟨rfl, rfl, rfl, by decide +kernel, rfl, by decide +kernel, by decide +kernel⟩
def b__law_which : S :=
  (bndS (cBin gIx (tmp (nf 1)) (tmp (cFn g__law_sip (consO (op 0) (consO (tmp (cCall gLen (consO (tmp (nf 1)) nilO))) nilO))))) retS)
def g__law_which : List O → Option (O × TL.Env) := fnG 2 2 (fxL [0]) b__law_which
theorem ok__law_which (T : Txt K mg) : OkF P w K mg base 2 "_law_which" ["jar", "items"] g__law_which := by
  refine okf_mk 2 2 T.f__law_which sc__law_which rfl rfl (fun _ _ _ _ _ _ us hl => match us, hl with | [_, _], _ => rfl) fun f cdv A outer s H E hr hgd => ?_
  exact (sb_one (ss_ret (se_ix (is_ix' hr.units) (oe_of (se_nf 1)) (oe_of (se_ok (ok__law_sip T) (hr.mono (by decide)) hgd (ao_cons (oe_name 0) (ao_cons (oe_of (se_callB cs_len rfl T.b_len rfl (ao_cons (oe_of (se_nf 1)) ao_nil))) ao_nil)))))))
theorem sc__law_mixed : FnScope ["jar", "items", "waits", "turn"] ["jar", "items"] (defScope s__law_mixed) := ⟨rfl, rfl, rfl, by decide +kernel, rfl, by decide +kernel, by decide +kernel⟩
def q__law_mixed_0 : M O := (compM (cRng1 (consM (fz (cCall gLen (consO (tmp (nf 1)) nilO))) nilM)) (setV 3) (ret true) (fz (cMuN "list" uPop 2 (consM (fz (cFn g__law_sip (consO (op 0) (consO (tmp (cCall gLen (consO (op 2) nilO))) nilO)))) nilM))) [3])
def b__law_mixed : S :=
  (seqS (bndS (cCall gListA (consO (tmp (nf 1)) nilO)) (asgS (setV 2)))
  (bndS q__law_mixed_0 retS))
def g__law_mixed : List O → Option (O × TL.Env) := fnG 2 4 (fxL [0]) b__law_mixed
theorem ok__law_mixed (T : Txt K mg) : OkF P w K mg base 2 "_law_mixed" ["jar", "items"] g__law_mixed := by
  refine okf_mk 2 4 T.f__law_mixed sc__law_mixed rfl rfl (fun _ _ _ _ _ _ us hl => match us, hl with | [_, _], _ => rfl) fun f cdv A outer s H E hr hgd => ?_
  exact (sb_cons (ss_set 2 sc__law_mixed.nd (se_callTy (cs_listA rfl) rfl T.b_list rfl (ao_cons (oe_of (se_nf 1)) ao_nil)))
  (sb_one (ss_ret (se_lc (own := [("turn", 3)]) rfl sc__law_mixed.nd (blkOk_by (by kernel_rfl)) (ie_range1 rfl T.b_range (ae_cons (se_fz (se_callB cs_len rfl T.b_len rfl (ao_cons (oe_of (se_nf 1)) ao_nil))) ae_nil)) (fun _ _ _ _ _ => (tg_name 3 sc__law_mixed.nd)) (fun _ _ _ _ _ => ts_nil) (fun _ _ _ _ _ => (se_fz (se_popN 2 (ae_cons (se_fz (se_ok (ok__law_sip T) (hr.mono (by decide)) hgd (ao_cons (oe_name 0) (ao_cons (oe_of (se_callB cs_len rfl T.b_len rfl (ao_cons (oe_name 2) ao_nil))) ao_nil)))) ae_nil))))))))
theorem sc__law_letter : FnScope ["jar"] ["jar"] (defScope s__law_letter) := ⟨rfl, rfl, rfl, by decide +kernel, rfl, by decide +kernel, by decide +kernel⟩
def b__law_letter : S :=
  (bndS (cBin gIx (tmp (con (.str "abcdefghijklmnopqrstuvwxyz"))) (tmp (cFn g__law_sip (consO (op 0) (consO (tmp (con (.int 26))) nilO))))) retS)
def g__law_letter : List O → Option (O × TL.Env) := fnG 1 1 (fxL [0]) b__law_letter
theorem ok__law_letter (T : Txt K mg) : OkF P w K mg base 2 "_law_letter" ["jar"] g__law_letter := by
  refine okf_mk 1 1 T.f__law_letter sc__law_letter rfl rfl (fun _ _ _ _ _ _ us hl => match us, hl with | [_], _ => rfl) fun f cdv A outer s H E hr hgd => ?_
  exact (sb_one (ss_ret (se_ix (is_ix' hr.units) (oe_of se_str) (oe_of (se_ok (ok__law_sip T) (hr.mono (by decide)) hgd (ao_cons (oe_name 0) (ao_cons (oe_of se_int) ao_nil)))))))
theorem sc__law_many_names : FnScope ["jar", "much", "body", "lot", "found", "at", "spot", "sign"] ["jar", "much"] (defScope s__law_many_names) := ⟨rfl, rfl, rfl, by decide +kernel, rfl, by decide +kernel, by decide +kernel⟩
def q__law_many_names_0 : M O := (compM (cRng1 (consM (fz (cFn g__law_sip (consO (op 0) (consO (tmp (con (.int 8))) nilO)))) nilM)) (setV 5) (ret true) (fz (cFn g__law_letter (consO (op 0) nilO))) [5])
def lb__law_many_names_1 : S := (ifS (asB (cBin (gEqD false) (tmp (nf 3)) (tmp (con (.int 0))))) (bndS (cMuN "list" uAppend 4 (consM (fz (cBin gAdd (tmp (cBin gAdd (tmp (cSl (tmp (nf 2)) (ret none) (asI (nf 6)))) (tmp (nf 7)))) (tmp (cSl (tmp (nf 2)) (asI (nf 6)) (ret none))))) nilM)) dropS) (ifS (asB (cBin (gEqD false) (tmp (nf 3)) (tmp (con (.int 1))))) (bndS (cMuN "list" uAppend 4 (consM (fz (cBin gAdd (tmp (nf 7)) (tmp (cSl (tmp (nf 2)) (ret none) (asI (cFn g__law_sip (consO (op 0) (consO (tmp (cBin gAdd (tmp (cCall gLen (consO (tmp (nf 2)) nilO))) (tmp (con (.int 1))))) nilO)))))))) nilM)) dropS) (bndS (cMuN "list" uAppend 4 (consM (fz (cSl (tmp (cBin gMul (tmp (nf 7)) (tmp (con (.int 8))))) (ret none) (asI (cBin gAdd (tmp (con (.int 1))) (tmp (cFn g__law_sip (consO (op 0) (consO (tmp (con (.int 8))) nilO)))))))) nilM)) dropS)))
def l__law_many_names_2 : S := (forS (cIt (tmp (cSl (tmp (cFn g__law_mixed (consO (op 0) (consO (tmp (con (.str "abcdefghijklmnopqrstuvwxyz"))) nilO)))) (ret none) (asI (nf 1))))) (setV 7) lb__law_many_names_1)
def b__law_many_names : S :=
  (seqS (bndS (consM (cMt "str" gJoin (tmp (con (.str ""))) (consO (tmp q__law_many_names_0) nilO)) (consM (cFn g__law_sip (consO (op 0) (consO (tmp (con (.int 3))) nilO))) (consM (cLst nilM) nilM))) (par3S 2 3 4))
  (seqS (bndS (cFn g__law_sip (consO (op 0) (consO (tmp (cBin gAdd (tmp (cCall gLen (consO (tmp (nf 2)) nilO))) (tmp (con (.int 1))))) nilO))) (asgS (setV 6)))
  (seqS l__law_many_names_2
  (bndS (mv 4) retS))))
def g__law_many_names : List O → Option (O × TL.Env) := fnG 2 8 (fxL [0]) b__law_many_names
theorem ok__law_many_names (T : Txt K mg) : OkF P w K mg base 3 "_law_many_names" ["jar", "much"] g__law_many_names := by
  refine okf_mk 2 8 T.f__law_many_names sc__law_many_names rfl rfl (fun _ _ _ _ _ _ us hl => match us, hl with | [_, _], _ => rfl) fun f cdv A outer s H E hr hgd => ?_
  exact (sb_cons (ss_par3 2 3 4 rfl sc__law_many_names.nd (ae_cons (se_join (oe_of se_str) (ao_cons (oe_of (se_lc (own := [("at", 5)]) rfl sc__law_many_names.nd (blkOk_by (by kernel_rfl)) (ie_range1 rfl T.b_range (ae_cons (se_fz (se_ok (ok__law_sip T) (hr.mono (by decide)) hgd (ao_cons (oe_name 0) (ao_cons (oe_of se_int) ao_nil)))) ae_nil)) (fun _ _ _ _ _ => (tg_name 5 sc__law_many_names.nd)) (fun _ _ _ _ _ => ts_nil) (fun _ _ _ _ _ => (se_fz (se_ok (ok__law_letter T) (hr.mono (by decide)) hgd (ao_cons (oe_name 0) ao_nil)))))) ao_nil)) (ae_cons (se_ok (ok__law_sip T) (hr.mono (by decide)) hgd (ao_cons (oe_name 0) (ao_cons (oe_of se_int) ao_nil))) (ae_cons (se_lst ae_nil) ae_nil))))
  (sb_cons (ss_set 6 sc__law_many_names.nd (se_ok (ok__law_sip T) (hr.mono (by decide)) hgd (ao_cons (oe_name 0) (ao_cons (oe_of (se_bin os_add (oe_of (se_callB cs_len rfl T.b_len rfl (ao_cons (oe_of (se_nf 2)) ao_nil))) (oe_of se_int))) ao_nil))))
  (sb_cons (ss_for own_cx rfl (ie_val (oe_of (se_slice (oe_of (se_ok (ok__law_mixed T) (hr.mono (by decide)) hgd (ao_cons (oe_name 0) (ao_cons (oe_of se_str) ao_nil)))) pt_none' (pt_some (se_nf 1))))) (tg_name 7 sc__law_many_names.nd) (sb_one (ss_if (be_cmp (os_eqD hr.units) (oe_of (se_nf 3)) (oe_of se_int) (nomark _)) (sb_one (ss_expr (se_appendN 4 (ae_cons (se_fz (se_bin os_add (oe_of (se_bin os_add (oe_of (se_slice (oe_of (se_nf 2)) pt_none' (pt_some (se_nf 6)))) (oe_of (se_nf 7)))) (oe_of (se_slice (oe_of (se_nf 2)) (pt_some (se_nf 6)) pt_none')))) ae_nil)))) (sb_one (ss_if (be_cmp (os_eqD hr.units) (oe_of (se_nf 3)) (oe_of se_int) (nomark _)) (sb_one (ss_expr (se_appendN 4 (ae_cons (se_fz (se_bin os_add (oe_of (se_nf 7)) (oe_of (se_slice (oe_of (se_nf 2)) pt_none' (pt_some (se_ok (ok__law_sip T) (hr.mono (by decide)) hgd (ao_cons (oe_name 0) (ao_cons (oe_of (se_bin os_add (oe_of (se_callB cs_len rfl T.b_len rfl (ao_cons (oe_of (se_nf 2)) ao_nil))) (oe_of se_int))) ao_nil)))))))) ae_nil)))) (sb_one (ss_expr (se_appendN 4 (ae_cons (se_fz (se_slice (oe_of (se_bin os_mul (oe_of (se_nf 7)) (oe_of se_int))) pt_none' (pt_some (se_bin os_add (oe_of se_int) (oe_of (se_ok (ok__law_sip T) (hr.mono (by decide)) hgd (ao_cons (oe_name 0) (ao_cons (oe_of se_int) ao_nil)))))))) ae_nil)))))))))
  (sb_one (ss_ret (se_name 4))))))
theorem sc__law_spelled : FnScope ["value", "sign"] ["value"] (defScope s__law_spelled) := ⟨rfl, rfl, rfl, by decide +kernel, rfl, by decide +kernel, by decide +kernel⟩
def q__law_spelled_0 : M O := (compM (cIt (tmp (nf 0))) (setV 1) (asB (cBin (gIn true) (tmp (nf 1)) (tmp (con (.str "abcdefghijklmnopqrstuvwxyz"))))) (nf 1) [1])
def b__law_spelled : S :=
  (seqS (ifS (cOr (cNot (asB (cCall gIsi (consO (tmp (nf 0)) (consO (tmp (con (.ty "str"))) nilO))))) (cOr (asB (cBin (gEqD false) (tmp (cCall gLen (consO (tmp (nf 0)) nilO))) (tmp (con (.int 0))))) (asB (cBin gGt (tmp (cCall gLen (consO (tmp (nf 0)) nilO))) (tmp (con (.int 8))))))) (bndS (con (.bl false)) retS) nilS)
  (bndS (cBin (gEqD false) (tmp q__law_spelled_0) (tmp (cLst nilM))) retS))
def g__law_spelled : List O → Option (O × TL.Env) := fnG 1 2 (fxL []) b__law_spelled
theorem ok__law_spelled (T : Txt K mg) : OkF P w K mg base 1 "_law_spelled" ["value"] g__law_spelled := by
  refine okf_mk 1 2 T.f__law_spelled sc__law_spelled rfl rfl (fun _ _ _ _ _ _ us hl => match us, hl with | [_], _ => rfl) fun f cdv A outer s H E hr hgd => ?_
  exact (sb_cons (ss_if (be_bw (bw_or (be_not (be_val (se_callB cs_isi rfl T.b_isinstance rfl (ao_cons (oe_of (se_nf 0)) (ao_cons (oe_of (se_bltn rfl T.b_str rfl)) ao_nil))))) (bw_or (be_cmp (os_eqD hr.units) (oe_of (se_callB cs_len rfl T.b_len rfl (ao_cons (oe_of (se_nf 0)) ao_nil))) (oe_of se_int) (nomark _)) (bw_or1 (be_cmp os_gt (oe_of (se_callB cs_len rfl T.b_len rfl (ao_cons (oe_of (se_nf 0)) ao_nil))) (oe_of se_int) (nomark _)))))) (sb_one (ss_ret se_bl)) sb_nil)
  (sb_one (ss_ret (se_cmp (os_eqD hr.units) (oe_of (se_lc (own := [("sign", 1)]) rfl sc__law_spelled.nd (blkOk_by (by kernel_rfl)) (ie_val (oe_of (se_nf 0))) (fun _ _ _ _ _ => (tg_name 1 sc__law_spelled.nd)) (fun _ _ _ _ _ => (ts_one (be_cmp (os_notIn hr.units) (oe_of (se_nf 1)) (oe_of se_str) (by with_unfolding_all rfl)))) (fun _ _ _ _ _ => (se_nf 1)))) (oe_of (se_lst ae_nil)) (nomark _)))))
theorem sc__law_is_name_row : FnScope ["value", "name"] ["value"] (defScope s__law_is_name_row) := ⟨rfl, rfl, rfl, by decide +kernel, rfl, by decide +kernel, by decide +kernel⟩
def q__law_is_name_row_0 : M O := (compM (cIt (tmp (nf 0))) (setV 1) (cNot (asB (cFn g__law_spelled (consO (tmp (nf 1)) nilO)))) (nf 1) [1])
def b__law_is_name_row : S :=
  (bndS (vAnd (cCall gIsi (consO (tmp (nf 0)) (consO (tmp (con (.ty "tuple"))) nilO))) (cBin (gEqD false) (tmp q__law_is_name_row_0) (tmp (cLst nilM)))) retS)
def g__law_is_name_row : List O → Option (O × TL.Env) := fnG 1 2 (fxL []) b__law_is_name_row
theorem ok__law_is_name_row (T : Txt K mg) : OkF P w K mg base 2 "_law_is_name_row" ["value"] g__law_is_name_row := by
  refine okf_mk 1 2 T.f__law_is_name_row sc__law_is_name_row rfl rfl (fun _ _ _ _ _ _ us hl => match us, hl with | [_], _ => rfl) fun f cdv A outer s H E hr hgd => ?_
  exact (sb_one (ss_ret (se_and (se_callB cs_isi rfl T.b_isinstance rfl (ao_cons (oe_of (se_nf 0)) (ao_cons (oe_of (se_bltn rfl T.b_tuple rfl)) ao_nil))) (se_one (se_cmp (os_eqD hr.units) (oe_of (se_lc (own := [("name", 1)]) rfl sc__law_is_name_row.nd (blkOk_by (by kernel_rfl)) (ie_val (oe_of (se_nf 0))) (fun _ _ _ _ _ => (tg_name 1 sc__law_is_name_row.nd)) (fun _ _ _ _ _ => (ts_one (be_not (be_val (se_ok (ok__law_spelled T) (hr.mono (by decide)) hgd (ao_cons (oe_of (se_nf 1)) ao_nil)))))) (fun _ _ _ _ _ => (se_nf 1)))) (oe_of (se_lst ae_nil)) (nomark _))))))
theorem sc__law_is_name_set : FnScope ["value"] ["value"] (defScope s__law_is_name_set) := ⟨rfl, rfl, rfl, by decide +kernel, rfl, by decide +kernel, by decide +kernel⟩
def b__law_is_name_set : S :=
  (bndS (vAnd (cFn g__law_is_name_row (consO (tmp (nf 0)) nilO)) (cBin (gEqD false) (tmp (cCall gListA (consO (tmp (nf 0)) nilO))) (tmp (cSortSet (tmp (nf 0)))))) retS)
def g__law_is_name_set : List O → Option (O × TL.Env) := fnG 1 1 (fxL []) b__law_is_name_set
theorem ok__law_is_name_set (T : Txt K mg) : OkF P w K mg base 3 "_law_is_name_set" ["value"] g__law_is_name_set := by
  refine okf_mk 1 1 T.f__law_is_name_set sc__law_is_name_set rfl rfl (fun _ _ _ _ _ _ us hl => match us, hl with | [_], _ => rfl) fun f cdv A outer s H E hr hgd => ?_
  exact (sb_one (ss_ret (se_and (se_ok (ok__law_is_name_row T) (hr.mono (by decide)) hgd (ao_cons (oe_of (se_nf 0)) ao_nil)) (se_one (se_cmp (os_eqD hr.units) (oe_of (se_callTy (cs_listA rfl) rfl T.b_list rfl (ao_cons (oe_of (se_nf 0)) ao_nil))) (oe_of (se_sortSet rfl hr.units rfl T.b_sorted rfl T.b_set (oe_of (se_nf 0)))) (nomark _))))))
theorem sc__law_is_short : FnScope ["value"] ["value"] (defScope s__law_is_short) := ⟨rfl, rfl, rfl, by decide +kernel, rfl, by decide +kernel, by decide +kernel⟩
def b__law_is_short : S :=
  (bndS (vAnd (cCall gIsi (consO (tmp (nf 0)) (consO (tmp (con (.ty "int"))) nilO))) (vAnd (vB (cNot (asB (cCall gIsi (consO (tmp (nf 0)) (consO (tmp (con (.ty "bool"))) nilO)))))) (vAnd (cBin gLt (tmp (cBin gSub (tmp (con (.int 0))) (tmp (cBin gPow (tmp (con (.int 10))) (tmp (con (.int 60))))))) (tmp (nf 0))) (cBin gLt (tmp (nf 0)) (tmp (cBin gPow (tmp (con (.int 10))) (tmp (con (.int 60))))))))) retS)
def g__law_is_short : List O → Option (O × TL.Env) := fnG 1 1 (fxL []) b__law_is_short
theorem ok__law_is_short (T : Txt K mg) : OkF P w K mg base 1 "_law_is_short" ["value"] g__law_is_short := by
  refine okf_mk 1 1 T.f__law_is_short sc__law_is_short rfl rfl (fun _ _ _ _ _ _ us hl => match us, hl with | [_], _ => rfl) fun f cdv A outer s H E hr hgd => ?_
  exact (sb_one (ss_ret (se_and (se_callB cs_isi rfl T.b_isinstance rfl (ao_cons (oe_of (se_nf 0)) (ao_cons (oe_of (se_bltn rfl T.b_int rfl)) ao_nil))) (se_and (se_not (se_callB cs_isi rfl T.b_isinstance rfl (ao_cons (oe_of (se_nf 0)) (ao_cons (oe_of (se_bltn rfl T.b_bool rfl)) ao_nil)))) (se_and (se_cmp os_lt (oe_of (se_bin os_sub (oe_of se_int) (oe_of (se_bin os_pow (oe_of se_int) (oe_of se_int))))) (oe_of (se_nf 0)) (nomark _)) (se_one (se_cmp os_lt (oe_of (se_nf 0)) (oe_of (se_bin os_pow (oe_of se_int) (oe_of se_int))) (nomark _))))))))
theorem sc__law_numbers : FnScope ["jar", "cell", "great", "near"] ["jar", "cell"] (defScope s__law_numbers) := ⟨rfl, rfl, rfl, by decide +kernel, rfl, by decide +kernel, by decide +kernel⟩
def b__law_numbers : S :=
  (seqS (bndS (consM (cBin gMod (tmp (cCall gToInt (consO (tmp (nf 1)) nilO))) (tmp (cBin gMul (tmp (cBin gPow (tmp (con (.int 10))) (tmp (con (.int 60))))) (tmp (cBin gPow (tmp (con (.int 10))) (tmp (con (.int 30)))))))) (consM (cBin gSub (tmp (cBin gAdd (tmp (cBin gPow (tmp (con (.int 10))) (tmp (con (.int 60))))) (tmp (cFn g__law_sip (consO (op 0) (consO (tmp (con (.int 5))) nilO)))))) (tmp (con (.int 2)))) nilM)) (parS 2 3))
  (bndS (cLst (consM (nf 2) (consM (fz (cBin gSub (tmp (con (.int 0))) (tmp (nf 2)))) (consM (nf 3) (consM (fz (cBin gSub (tmp (con (.int 0))) (tmp (nf 3)))) (consM (fz (cBin gPow (tmp (con (.int 10))) (tmp (con (.int 60))))) (consM (fz (cBin gSub (tmp (con (.int 0))) (tmp (cBin gPow (tmp (con (.int 10))) (tmp (con (.int 60))))))) (consM (fz (cBin gSub (tmp (cBin gPow (tmp (con (.int 10))) (tmp (con (.int 60))))) (tmp (con (.int 1))))) (consM (fz (cBin gSub (tmp (con (.int 1))) (tmp (cBin gPow (tmp (con (.int 10))) (tmp (con (.int 60))))))) (consM (con (.int 0)) (consM (fz (cBin gSub (tmp (con (.int 0))) (tmp (con (.int 1))))) nilM))))))))))) retS))
def g__law_numbers : List O → Option (O × TL.Env) := fnG 2 4 (fxL [0]) b__law_numbers
theorem ok__law_numbers (T : Txt K mg) : OkF P w K mg base 2 "_law_numbers" ["jar", "cell"] g__law_numbers := by
  refine okf_mk 2 4 T.f__law_numbers sc__law_numbers rfl rfl (fun _ _ _ _ _ _ us hl => match us, hl with | [_, _], _ => rfl) fun f cdv A outer s H E hr hgd => ?_
  exact (sb_cons (ss_par 2 3 rfl sc__law_numbers.nd (ae_cons (se_bin os_mod (oe_of (se_callTy cs_int rfl T.b_int rfl (ao_cons (oe_of (se_nf 1)) ao_nil))) (oe_of (se_bin os_mul (oe_of (se_bin os_pow (oe_of se_int) (oe_of se_int))) (oe_of (se_bin os_pow (oe_of se_int) (oe_of se_int)))))) (ae_cons (se_bin os_sub (oe_of (se_bin os_add (oe_of (se_bin os_pow (oe_of se_int) (oe_of se_int))) (oe_of (se_ok (ok__law_sip T) (hr.mono (by decide)) hgd (ao_cons (oe_name 0) (ao_cons (oe_of se_int) ao_nil)))))) (oe_of se_int)) ae_nil)))
  (sb_one (ss_ret (se_lst (ae_cons (se_nf 2) (ae_cons (se_fz (se_bin os_sub (oe_of se_int) (oe_of (se_nf 2)))) (ae_cons (se_nf 3) (ae_cons (se_fz (se_bin os_sub (oe_of se_int) (oe_of (se_nf 3)))) (ae_cons (se_fz (se_bin os_pow (oe_of se_int) (oe_of se_int))) (ae_cons (se_fz (se_bin os_sub (oe_of se_int) (oe_of (se_bin os_pow (oe_of se_int) (oe_of se_int))))) (ae_cons (se_fz (se_bin os_sub (oe_of (se_bin os_pow (oe_of se_int) (oe_of se_int))) (oe_of se_int))) (ae_cons (se_fz (se_bin os_sub (oe_of se_int) (oe_of (se_bin os_pow (oe_of se_int) (oe_of se_int))))) (ae_cons se_int (ae_cons (se_fz (se_bin os_sub (oe_of se_int) (oe_of se_int))) ae_nil))))))))))))))
theorem sc__law_texts : FnScope ["jar", "found", "turn", "text", "at", "spot", "odd"] ["jar"] (defScope s__law_texts) := ⟨rfl, rfl, rfl, by decide +kernel, rfl, by decide +kernel, by decide +kernel⟩
def q__law_texts_0 : M O := (compM (cRng1 (consM (fz (cFn g__law_sip (consO (op 0) (consO (tmp (con (.int 11))) nilO)))) nilM)) (setV 4) (ret true) (fz (cFn g__law_letter (consO (op 0) nilO))) [4])
def lb__law_texts_1 : S := (seqS (bndS (cMt "str" gJoin (tmp (con (.str ""))) (consO (tmp q__law_texts_0) nilO)) (asgS (setV 3)))
  (seqS (bndS (cFn g__law_sip (consO (op 0) (consO (tmp (cBin gAdd (tmp (cCall gLen (consO (tmp (nf 3)) nilO))) (tmp (con (.int 1))))) nilO))) (asgS (setV 5)))
  (seqS (bndS (cFn g__law_which (consO (op 0) (consO (tmp (cLst (consM (con (.str "A")) (consM (con (.str "Z")) (consM (con (.str "7")) (consM (con (.str " ")) (consM (con (.str "_")) (consM (con (.str "\n")) (consM (con (.str "@")) (consM (con (.str "?")) (consM (con (.str "`")) (consM (con (.str "{")) (consM (con (.str ".")) (consM (con (.str "*")) nilM)))))))))))))) nilO))) (asgS (setV 6)))
  (bndS (cBin gAdd (tmp (nf 1)) (tmp (cLst (consM (nf 3) (consM (fz (cBin gAdd (tmp (cBin gAdd (tmp (cSl (tmp (nf 3)) (ret none) (asI (nf 5)))) (tmp (nf 6)))) (tmp (cSl (tmp (nf 3)) (asI (nf 5)) (ret none))))) (consM (fz (cBin gAdd (tmp (cBin gAdd (tmp (cSl (tmp (nf 3)) (ret none) (asI (nf 5)))) (tmp (nf 6)))) (tmp (cSl (tmp (nf 3)) (asI (cBin gAdd (tmp (nf 5)) (tmp (con (.int 1))))) (ret none))))) nilM)))))) (asgS (setV 1))))))
def l__law_texts_2 : S := (forS (cRng1 (consM (con (.int 4)) nilM)) (setV 2) lb__law_texts_1)
def b__law_texts : S :=
  (seqS (bndS (cLst nilM) (asgS (setV 1)))
  (seqS l__law_texts_2
  (bndS (nf 1) retS)))
def g__law_texts : List O → Option (O × TL.Env) := fnG 1 7 (fxL [0]) b__law_texts
theorem ok__law_texts (T : Txt K mg) : OkF P w K mg base 3 "_law_texts" ["jar"] g__law_texts := by
  refine okf_mk 1 7 T.f__law_texts sc__law_texts rfl rfl (fun _ _ _ _ _ _ us hl => match us, hl with | [_], _ => rfl) fun f cdv A outer s H E hr hgd => ?_
  exact (sb_cons (ss_set 1 sc__law_texts.nd (se_lst ae_nil))
  (sb_cons (ss_for own_cx rfl (ie_range1 rfl T.b_range (ae_cons se_int ae_nil)) (tg_name 2 sc__law_texts.nd) (sb_cons (ss_set 3 sc__law_texts.nd (se_join (oe_of se_str) (ao_cons (oe_of (se_lc (own := [("at", 4)]) rfl sc__law_texts.nd (blkOk_by (by kernel_rfl)) (ie_range1 rfl T.b_range (ae_cons (se_fz (se_ok (ok__law_sip T) (hr.mono (by decide)) hgd (ao_cons (oe_name 0) (ao_cons (oe_of se_int) ao_nil)))) ae_nil)) (fun _ _ _ _ _ => (tg_name 4 sc__law_texts.nd)) (fun _ _ _ _ _ => ts_nil) (fun _ _ _ _ _ => (se_fz (se_ok (ok__law_letter T) (hr.mono (by decide)) hgd (ao_cons (oe_name 0) ao_nil)))))) ao_nil)))
  (sb_cons (ss_set 5 sc__law_texts.nd (se_ok (ok__law_sip T) (hr.mono (by decide)) hgd (ao_cons (oe_name 0) (ao_cons (oe_of (se_bin os_add (oe_of (se_callB cs_len rfl T.b_len rfl (ao_cons (oe_of (se_nf 3)) ao_nil))) (oe_of se_int))) ao_nil))))
  (sb_cons (ss_set 6 sc__law_texts.nd (se_ok (ok__law_which T) (hr.mono (by decide)) hgd (ao_cons (oe_name 0) (ao_cons (oe_of (se_lst (ae_cons se_str (ae_cons se_str (ae_cons se_str (ae_cons se_str (ae_cons se_str (ae_cons se_str (ae_cons se_str (ae_cons se_str (ae_cons se_str (ae_cons se_str (ae_cons se_str (ae_cons se_str ae_nil)))))))))))))) ao_nil))))
  (sb_one (ss_set 1 sc__law_texts.nd (se_bin os_add (oe_of (se_nf 1)) (oe_of (se_lst (ae_cons (se_nf 3) (ae_cons (se_fz (se_bin os_add (oe_of (se_bin os_add (oe_of (se_slice (oe_of (se_nf 3)) pt_none' (pt_some (se_nf 5)))) (oe_of (se_nf 6)))) (oe_of (se_slice (oe_of (se_nf 3)) (pt_some (se_nf 5)) pt_none')))) (ae_cons (se_fz (se_bin os_add (oe_of (se_bin os_add (oe_of (se_slice (oe_of (se_nf 3)) pt_none' (pt_some (se_nf 5)))) (oe_of (se_nf 6)))) (oe_of (se_slice (oe_of (se_nf 3)) (pt_some (se_bin os_add (oe_of (se_nf 5)) (oe_of se_int))) pt_none')))) ae_nil))))))))))))
  (sb_one (ss_ret (se_nf 1)))))
theorem sc__law_tuples : FnScope ["jar", "one", "two", "last", "found", "odd"] ["jar"] (defScope s__law_tuples) := ⟨rfl, rfl, rfl, by decide +kernel, rfl, by decide +kernel, by decide +kernel⟩
def b__law_tuples : S :=
  (seqS (bndS (fz (cFn g__law_many_names (consO (op 0) (consO (tmp (con (.int 3))) nilO)))) (asgS (unpG (consG (setV 1) (consG (setV 2) (consG (setV 3) nilG))))))
  (seqS (bndS (cLst (consM (fz (cTup (consM (nf 1) (consM (nf 2) (consM (nf 3) nilM))))) (consM (fz (cTup (consM (nf 1) (consM (nf 3) (consM (nf 2) nilM))))) (consM (fz (cTup (consM (nf 2) (consM (nf 1) (consM (nf 3) nilM))))) (consM (fz (cTup (consM (nf 2) (consM (nf 3) (consM (nf 1) nilM))))) (consM (fz (cTup (consM (nf 3) (consM (nf 1) (consM (nf 2) nilM))))) (consM (fz (cTup (consM (nf 3) (consM (nf 2) (consM (nf 1) nilM))))) nilM))))))) (asgS (setV 4)))
  (seqS (bndS (cBin gAdd (tmp (nf 4)) (tmp (cLst (consM (fz (cTup (consM (nf 1) (consM (nf 1) nilM)))) (consM (fz (cTup (consM (nf 1) (consM (nf 2) (consM (nf 2) nilM))))) (consM (fz (cTup (consM (nf 1) nilM))) (consM (fz (cTup nilM)) (consM (fz (cTup (consM (nf 1) (consM (nf 2) nilM)))) (consM (fz (cTup (consM (nf 2) (consM (nf 1) nilM)))) (consM (fz (cLst (consM (nf 1) nilM))) (consM (fz (cLst (consM (nf 1) (consM (nf 2) nilM)))) (consM (fz (cDisp [((nf 1), (nf 2))])) nilM)))))))))))) (asgS (setV 4)))
  (seqS (bndS (cFn g__law_which (consO (op 0) (consO (tmp (cLst (consM (con (.str "")) (consM (con (.str "A")) (consM (fz (cBin gAdd (tmp (cBin gAdd (tmp (nf 1)) (tmp (nf 2)))) (tmp (con (.str "xxxxxxxx"))))) (consM (con .non) (consM (con (.int 0)) (consM (con (.bl true)) (consM (fz (cTup (consM (nf 1) nilM))) (consM (fz (cLst (consM (nf 1) nilM))) (consM (fz (cBin gAdd (tmp (con (.str " "))) (tmp (nf 1)))) nilM))))))))))) nilO))) (asgS (setV 5)))
  (bndS (cBin gAdd (tmp (nf 4)) (tmp (cLst (consM (fz (cTup (consM (nf 5) nilM))) (consM (fz (cBin gAdd (tmp (cCall gTuple (consO (tmp (cCall gSorted (consO (tmp (cLst (consM (nf 1) (consM (nf 2) nilM)))) nilO))) nilO))) (tmp (cTup (consM (nf 5) nilM))))) (consM (fz (cTup (consM (nf 1) (consM (fz (cTup (consM (nf 2) nilM))) nilM)))) (consM (fz (cTup (consM (fz (cTup nilM)) nilM))) (consM (fz (cTup (consM (nf 1) (consM (nf 2) (consM (nf 1) (consM (nf 2) nilM)))))) nilM)))))))) retS)))))
def g__law_tuples : List O → Option (O × TL.Env) := fnG 1 6 (fxL [0]) b__law_tuples
theorem ok__law_tuples (T : Txt K mg) : OkF P w K mg base 4 "_law_tuples" ["jar"] g__law_tuples := by
  refine okf_mk 1 6 T.f__law_tuples sc__law_tuples rfl rfl (fun _ _ _ _ _ _ us hl => match us, hl with | [_], _ => rfl) fun f cdv A outer s H E hr hgd => ?_
  exact (sb_cons (ss_asg (se_fz (se_ok (ok__law_many_names T) (hr.mono (by decide)) hgd (ao_cons (oe_name 0) (ao_cons (oe_of se_int) ao_nil)))) (tg_unp rfl (tgs_cons (tg_name 1 sc__law_tuples.nd) (tgs_cons (tg_name 2 sc__law_tuples.nd) (tgs_cons (tg_name 3 sc__law_tuples.nd) tgs_nil))) (gs_lenS (gs_lenS (gs_lenS gs_len0)))))
  (sb_cons (ss_set 4 sc__law_tuples.nd (se_lst (ae_cons (se_fz (se_tup (ae_cons (se_nf 1) (ae_cons (se_nf 2) (ae_cons (se_nf 3) ae_nil))))) (ae_cons (se_fz (se_tup (ae_cons (se_nf 1) (ae_cons (se_nf 3) (ae_cons (se_nf 2) ae_nil))))) (ae_cons (se_fz (se_tup (ae_cons (se_nf 2) (ae_cons (se_nf 1) (ae_cons (se_nf 3) ae_nil))))) (ae_cons (se_fz (se_tup (ae_cons (se_nf 2) (ae_cons (se_nf 3) (ae_cons (se_nf 1) ae_nil))))) (ae_cons (se_fz (se_tup (ae_cons (se_nf 3) (ae_cons (se_nf 1) (ae_cons (se_nf 2) ae_nil))))) (ae_cons (se_fz (se_tup (ae_cons (se_nf 3) (ae_cons (se_nf 2) (ae_cons (se_nf 1) ae_nil))))) ae_nil))))))))
  (sb_cons (ss_set 4 sc__law_tuples.nd (se_bin os_add (oe_of (se_nf 4)) (oe_of (se_lst (ae_cons (se_fz (se_tup (ae_cons (se_nf 1) (ae_cons (se_nf 1) ae_nil)))) (ae_cons (se_fz (se_tup (ae_cons (se_nf 1) (ae_cons (se_nf 2) (ae_cons (se_nf 2) ae_nil))))) (ae_cons (se_fz (se_tup (ae_cons (se_nf 1) ae_nil))) (ae_cons (se_fz (se_tup ae_nil)) (ae_cons (se_fz (se_tup (ae_cons (se_nf 1) (ae_cons (se_nf 2) ae_nil)))) (ae_cons (se_fz (se_tup (ae_cons (se_nf 2) (ae_cons (se_nf 1) ae_nil)))) (ae_cons (se_fz (se_lst (ae_cons (se_nf 1) ae_nil))) (ae_cons (se_fz (se_lst (ae_cons (se_nf 1) (ae_cons (se_nf 2) ae_nil)))) (ae_cons (se_fz (se_disp (ds_cons (se_nf 1) (se_nf 2) ds_nil))) ae_nil)))))))))))))
  (sb_cons (ss_set 5 sc__law_tuples.nd (se_ok (ok__law_which T) (hr.mono (by decide)) hgd (ao_cons (oe_name 0) (ao_cons (oe_of (se_lst (ae_cons se_str (ae_cons se_str (ae_cons (se_fz (se_bin os_add (oe_of (se_bin os_add (oe_of (se_nf 1)) (oe_of (se_nf 2)))) (oe_of se_str))) (ae_cons se_non (ae_cons se_int (ae_cons se_bl (ae_cons (se_fz (se_tup (ae_cons (se_nf 1) ae_nil))) (ae_cons (se_fz (se_lst (ae_cons (se_nf 1) ae_nil))) (ae_cons (se_fz (se_bin os_add (oe_of se_str) (oe_of (se_nf 1)))) ae_nil))))))))))) ao_nil))))
  (sb_one (ss_ret (se_bin os_add (oe_of (se_nf 4)) (oe_of (se_lst (ae_cons (se_fz (se_tup (ae_cons (se_nf 5) ae_nil))) (ae_cons (se_fz (se_bin os_add (oe_of (se_callTy cs_tuple rfl T.b_tuple rfl (ao_cons (oe_of (se_callB (cs_sorted hr.units) rfl T.b_sorted rfl (ao_cons (oe_of (se_lst (ae_cons (se_nf 1) (ae_cons (se_nf 2) ae_nil)))) ao_nil))) ao_nil))) (oe_of (se_tup (ae_cons (se_nf 5) ae_nil))))) (ae_cons (se_fz (se_tup (ae_cons (se_nf 1) (ae_cons (se_fz (se_tup (ae_cons (se_nf 2) ae_nil))) ae_nil)))) (ae_cons (se_fz (se_tup (ae_cons (se_fz (se_tup ae_nil)) ae_nil))) (ae_cons (se_fz (se_tup (ae_cons (se_nf 1) (ae_cons (se_nf 2) (ae_cons (se_nf 1) (ae_cons (se_nf 2) ae_nil)))))) ae_nil))))))))))))))
theorem sc__law_cell_right : FnScope ["script", "at", "jar", "cell", "values", "turn", "value", "found", "due"] ["script", "at"] (defScope s__law_cell_right) := ⟨rfl, rfl, rfl, by decide +kernel, rfl, by decide +kernel, by decide +kernel⟩
def lb__law_cell_right_0 : S := (seqS (bndS (cLst (consM (fz (cFn g_is_integer (consO (tmp (nf 6)) nilO))) (consM (fz (cFn g_is_name (consO (tmp (nf 6)) nilO))) (consM (fz (cFn g_is_set (consO (tmp (nf 6)) nilO))) (consM (fz (cFn g_is_names (consO (tmp (nf 6)) nilO))) nilM))))) (asgS (setV 7)))
  (seqS (bndS (cLst (consM (fz (cFn g__law_is_short (consO (tmp (nf 6)) nilO))) (consM (fz (cFn g__law_spelled (consO (tmp (nf 6)) nilO))) (consM (fz (cFn g__law_is_name_set (consO (tmp (nf 6)) nilO))) (consM (fz (cFn g__law_is_name_row (consO (tmp (nf 6)) nilO))) nilM))))) (asgS (setV 8)))
  (ifS (asB (cBin (gEqD true) (tmp (cCall gRepr (consO (tmp (nf 7)) nilO))) (tmp (cCall gRepr (consO (tmp (nf 8)) nilO))))) (bndS (con (.bl false)) retS) nilS)))
def l__law_cell_right_1 : S := (forS (cIt (tmp (nf 4))) (setV 6) lb__law_cell_right_0)
def lb__law_cell_right_2 : S := l__law_cell_right_1
def l__law_cell_right_3 : S := (forS (cRng1 (consM (con (.int 2)) nilM)) (setV 5) lb__law_cell_right_2)
def b__law_cell_right : S :=
  (seqS (bndS (consM (cFn g__law_jar (consO (tmp (nf 0)) (consO (tmp (nf 1)) nilO))) (consM (cBin gAdd (tmp (cBin gMul (tmp (con (.int 41))) (tmp (nf 1)))) (tmp (con (.int 7)))) nilM)) (parS 2 3))
  (seqS (ifS (asB (cBin gLt (tmp (nf 1)) (tmp (cCall gLen (consO (tmp (nf 0)) nilO))))) (bndS (cBin gIx (tmp (nf 0)) (tmp (nf 1))) (asgS (setV 3))) nilS)
  (seqS (bndS (cBin gAdd (tmp (cBin gAdd (tmp (cFn g__law_numbers (consO (op 2) (consO (tmp (nf 3)) nilO)))) (tmp (cFn g__law_texts (consO (op 2) nilO))))) (tmp (cFn g__law_tuples (consO (op 2) nilO)))) (asgS (setV 4)))
  (seqS (bndS (cBin gAdd (tmp (nf 4)) (tmp (cLst (consM (con (.bl true)) (consM (con (.bl false)) (consM (con .non) (consM (con (.str "1")) (consM (fz (cLst nilM)) (consM (fz cNewD) (consM (fz (cTup (consM (fz (cLst nilM)) nilM))) (consM (fz (cTup (consM (con (.int 0)) nilM))) (consM (fz (cTup (consM (con .non) nilM))) (consM (fz (cLst (consM (con (.int 1)) nilM))) (consM (fz (cDisp [((con (.str "a")), (con (.int 1)))])) (consM (con (.str "abcdefgh")) (consM (con (.str "abcdefghi")) nilM)))))))))))))))) (asgS (setV 4)))
  (seqS l__law_cell_right_3
  (bndS (con (.bl true)) retS))))))
def g__law_cell_right : List O → Option (O × TL.Env) := fnG 2 9 (fxL []) b__law_cell_right
theorem ok__law_cell_right (T : Txt K mg) : OkF P w K mg base 5 "_law_cell_right" ["script", "at"] g__law_cell_right := by
  refine okf_mk 2 9 T.f__law_cell_right sc__law_cell_right rfl rfl (fun _ _ _ _ _ _ us hl => match us, hl with | [_, _], _ => rfl) fun f cdv A outer s H E hr hgd => ?_
  exact (sb_cons (ss_par 2 3 rfl sc__law_cell_right.nd (ae_cons (se_ok (ok__law_jar T) (hr.mono (by decide)) hgd (ao_cons (oe_of (se_nf 0)) (ao_cons (oe_of (se_nf 1)) ao_nil))) (ae_cons (se_bin os_add (oe_of (se_bin os_mul (oe_of se_int) (oe_of (se_nf 1)))) (oe_of se_int)) ae_nil)))
  (sb_cons (ss_if (be_cmp os_lt (oe_of (se_nf 1)) (oe_of (se_callB cs_len rfl T.b_len rfl (ao_cons (oe_of (se_nf 0)) ao_nil))) (nomark _)) (sb_one (ss_set 3 sc__law_cell_right.nd (se_ix (is_ix' hr.units) (oe_of (se_nf 0)) (oe_of (se_nf 1))))) sb_nil)
  (sb_cons (ss_set 4 sc__law_cell_right.nd (se_bin os_add (oe_of (se_bin os_add (oe_of (se_ok (ok__law_numbers T) (hr.mono (by decide)) hgd (ao_cons (oe_name 2) (ao_cons (oe_of (se_nf 3)) ao_nil)))) (oe_of (se_ok (ok__law_texts T) (hr.mono (by decide)) hgd (ao_cons (oe_name 2) ao_nil))))) (oe_of (se_ok (ok__law_tuples T) (hr.mono (by decide)) hgd (ao_cons (oe_name 2) ao_nil)))))
  (sb_cons (ss_set 4 sc__law_cell_right.nd (se_bin os_add (oe_of (se_nf 4)) (oe_of (se_lst (ae_cons se_bl (ae_cons se_bl (ae_cons se_non (ae_cons se_str (ae_cons (se_fz (se_lst ae_nil)) (ae_cons (se_fz se_newD) (ae_cons (se_fz (se_tup (ae_cons (se_fz (se_lst ae_nil)) ae_nil))) (ae_cons (se_fz (se_tup (ae_cons se_int ae_nil))) (ae_cons (se_fz (se_tup (ae_cons se_non ae_nil))) (ae_cons (se_fz (se_lst (ae_cons se_int ae_nil))) (ae_cons (se_fz (se_disp (ds_cons se_str se_int ds_nil))) (ae_cons se_str (ae_cons se_str ae_nil)))))))))))))))))
  (sb_cons (ss_for own_cx rfl (ie_range1 rfl T.b_range (ae_cons se_int ae_nil)) (tg_name 5 sc__law_cell_right.nd) (sb_one (ss_for own_cx rfl (ie_val (oe_of (se_nf 4))) (tg_name 6 sc__law_cell_right.nd) (sb_cons (ss_set 7 sc__law_cell_right.nd (se_lst (ae_cons (se_fz (se_ok (ok_is_integer T) (hr.mono (by decide)) hgd (ao_cons (oe_of (se_nf 6)) ao_nil))) (ae_cons (se_fz (se_ok (ok_is_name T) (hr.mono (by decide)) hgd (ao_cons (oe_of (se_nf 6)) ao_nil))) (ae_cons (se_fz (se_ok (ok_is_set T) (hr.mono (by decide)) hgd (ao_cons (oe_of (se_nf 6)) ao_nil))) (ae_cons (se_fz (se_ok (ok_is_names T) (hr.mono (by decide)) hgd (ao_cons (oe_of (se_nf 6)) ao_nil))) ae_nil))))))
  (sb_cons (ss_set 8 sc__law_cell_right.nd (se_lst (ae_cons (se_fz (se_ok (ok__law_is_short T) (hr.mono (by decide)) hgd (ao_cons (oe_of (se_nf 6)) ao_nil))) (ae_cons (se_fz (se_ok (ok__law_spelled T) (hr.mono (by decide)) hgd (ao_cons (oe_of (se_nf 6)) ao_nil))) (ae_cons (se_fz (se_ok (ok__law_is_name_set T) (hr.mono (by decide)) hgd (ao_cons (oe_of (se_nf 6)) ao_nil))) (ae_cons (se_fz (se_ok (ok__law_is_name_row T) (hr.mono (by decide)) hgd (ao_cons (oe_of (se_nf 6)) ao_nil))) ae_nil))))))
  (sb_one (ss_if (be_cmp (os_neD hr.units) (oe_of (se_callB (cs_repr hgd hr.units) rfl T.b_repr rfl (ao_cons (oe_of (se_nf 7)) ao_nil))) (oe_of (se_callB (cs_repr hgd hr.units) rfl T.b_repr rfl (ao_cons (oe_of (se_nf 8)) ao_nil))) (nomark _)) (sb_one (ss_ret se_bl)) sb_nil)))))))
  (sb_one (ss_ret se_bl)))))))
theorem sc_law : FnScope ["script", "at"] ["script"] (defScope s_law) := ⟨rfl, rfl, rfl, by decide +kernel, rfl, by decide +kernel, by decide +kernel⟩
def lb_law_0 : S := (ifS (cNot (asB (cFn g__law_cell_right (consO (tmp (nf 0)) (consO (tmp (nf 1)) nilO))))) (bndS (con (.bl false)) retS) nilS)
def l_law_1 : S := (forS (cRng1 (consM (fz (cCall gMax2 (consO (tmp (con (.int 1))) (consO (tmp (cCall gMin2 (consO (tmp (con (.int 8))) (consO (tmp (cCall gLen (consO (tmp (nf 0)) nilO))) nilO)))) nilO)))) nilM)) (setV 1) lb_law_0)
def b_law : S :=
  (seqS (ifS (asB (cBin (gEqD true) (tmp (con c_MAX_LETTERS)) (tmp (con (.int 8))))) (bndS (con (.bl false)) retS) nilS)
  (seqS l_law_1
  (bndS (con (.bl true)) retS)))
def g_law : List O → Option (O × TL.Env) := fnG 1 2 (fxL []) b_law
theorem ok_law (T : Txt K mg) : OkF P w K mg base 6 "law" ["script"] g_law := by
  refine okf_mk 1 2 T.f_law sc_law rfl rfl (fun _ _ _ _ _ _ us hl => match us, hl with | [_], _ => rfl) fun f cdv A outer s H E hr hgd => ?_
  exact (sb_cons (ss_if (be_cmp (os_neD hr.units) (oe_of (se_gl T.c_MAX_LETTERS)) (oe_of se_int) (nomark _)) (sb_one (ss_ret se_bl)) sb_nil)
  (sb_cons (ss_for own_cx rfl (ie_range1 rfl T.b_range (ae_cons (se_fz (se_callB (cs_max2 rfl) rfl T.b_max rfl (ao_cons (oe_of se_int) (ao_cons (oe_of (se_callB (cs_min2 rfl) rfl T.b_min rfl (ao_cons (oe_of se_int) (ao_cons (oe_of (se_callB cs_len rfl T.b_len rfl (ao_cons (oe_of (se_nf 0)) ao_nil))) ao_nil)))) ao_nil)))) ae_nil)) (tg_name 1 sc_law.nd) (sb_one (ss_if (be_not (be_val (se_ok (ok__law_cell_right T) (hr.mono (by decide)) hgd (ao_cons (oe_of (se_nf 0)) (ao_cons (oe_of (se_nf 1)) ao_nil))))) (sb_one (ss_ret se_bl)) sb_nil)))
  (sb_one (ss_ret se_bl))))
theorem txt_mk {h : Heap} (X : K.In h) (G : h.Ns mainGlobals mg) {t_GREATEST : Tok} {t_MAX_LETTERS : Tok} {f3 : Addr} {od3 an3 : Option Addr} {sl3 : Array (Option Value)} {oc3 kV3 dc3 pm3 cd3 ct3 : Value} {f4 : Addr} {od4 an4 : Option Addr} {sl4 : Array (Option Value)} {oc4 kV4 dc4 pm4 cd4 ct4 : Value} {f5 : Addr} {od5 an5 : Option Addr} {sl5 : Array (Option Value)} {oc5 kV5 dc5 pm5 cd5 ct5 : Value} {f6 : Addr} {od6 an6 : Option Addr} {sl6 : Array (Option Value)} {oc6 kV6 dc6 pm6 cd6 ct6 : Value} {f7 : Addr} {od7 an7 : Option Addr} {sl7 : Array (Option Value)} {oc7 kV7 dc7 pm7 cd7 ct7 : Value} {f9 : Addr} {od9 an9 : Option Addr} {sl9 : Array (Option Value)} {oc9 kV9 dc9 pm9 cd9 ct9 : Value} {f10 : Addr} {od10 an10 : Option Addr} {sl10 : Array (Option Value)} {oc10 kV10 dc10 pm10 cd10 ct10 : Value} {f11 : Addr} {od11 an11 : Option Addr} {sl11 : Array (Option Value)} {oc11 kV11 dc11 pm11 cd11 ct11 : Value} {f12 : Addr} {od12 an12 : Option Addr} {sl12 : Array (Option Value)} {oc12 kV12 dc12 pm12 cd12 ct12 : Value} {f13 : Addr} {od13 an13 : Option Addr} {sl13 : Array (Option Value)} {oc13 kV13 dc13 pm13 cd13 ct13 : Value} {f14 : Addr} {od14 an14 : Option Addr} {sl14 : Array (Option Value)} {oc14 kV14 dc14 pm14 cd14 ct14 : Value} {f15 : Addr} {od15 an15 : Option Addr} {sl15 : Array (Option Value)} {oc15 kV15 dc15 pm15 cd15 ct15 : Value} {f16 : Addr} {od16 an16 : Option Addr} {sl16 : Array (Option Value)} {oc16 kV16 dc16 pm16 cd16 ct16 : Value} {f17 : Addr} {od17 an17 : Option Addr} {sl17 : Array (Option Value)} {oc17 kV17 dc17 pm17 cd17 ct17 : Value} {f18 : Addr} {od18 an18 : Option Addr} {sl18 : Array (Option Value)} {oc18 kV18 dc18 pm18 cd18 ct18 : Value} {f19 : Addr} {od19 an19 : Option Addr} {sl19 : Array (Option Value)} {oc19 kV19 dc19 pm19 cd19 ct19 : Value} {f20 : Addr} {od20 an20 : Option Addr} {sl20 : Array (Option Value)} {oc20 kV20 dc20 pm20 cd20 ct20 : Value} {f21 : Addr} {od21 an21 : Option Addr} {sl21 : Array (Option Value)} {oc21 kV21 dc21 pm21 cd21 ct21 : Value} {f22 : Addr} {od22 an22 : Option Addr} {sl22 : Array (Option Value)} {oc22 kV22 dc22 pm22 cd22 ct22 : Value} {f23 : Addr} {od23 an23 : Option Addr} {sl23 : Array (Option Value)} {oc23 kV23 dc23 pm23 cd23 ct23 : Value}
    (z_abs : PySem.W.nsIn K mainGlobals "abs" = some none) (z_all : PySem.W.nsIn K mainGlobals "all" = some none) (z_bool : PySem.W.nsIn K mainGlobals "bool" = some none) (z_int : PySem.W.nsIn K mainGlobals "int" = some none) (z_isinstance : PySem.W.nsIn K mainGlobals "isinstance" = some none) (z_len : PySem.W.nsIn K mainGlobals "len" = some none) (z_list : PySem.W.nsIn K mainGlobals "list" = some none) (z_max : PySem.W.nsIn K mainGlobals "max" = some none) (z_min : PySem.W.nsIn K mainGlobals "min" = some none) (z_range : PySem.W.nsIn K mainGlobals "range" = some none) (z_repr : PySem.W.nsIn K mainGlobals "repr" = some none) (z_set : PySem.W.nsIn K mainGlobals "set" = some none) (z_sorted : PySem.W.nsIn K mainGlobals "sorted" = some none) (z_str : PySem.W.nsIn K mainGlobals "str" = some none) (z_tuple : PySem.W.nsIn K mainGlobals "tuple" = some none) (z_zip : PySem.W.nsIn K mainGlobals "zip" = some none) (c_GREATEST : PySem.W.nsIn K mainGlobals "GREATEST" = some (some (.int 999999999999999999999999999999999999999999999999999999999999 t_GREATEST))) (c_MAX_LETTERS : PySem.W.nsIn K mainGlobals "MAX_LETTERS" = some (some (.int 8 t_MAX_LETTERS))) (a3 : PySem.W.nsIn K mainGlobals "is_integer" = some (some (.ref f3))) (l3 : K.lookup f3 = some ⟨oc3, od3, .func (PySem.W.fnOf "is_integer" "is_integer" (defArgs s_is_integer) (defBody s_is_integer) (defScope s_is_integer) .none kV3 dc3 pm3 an3 cd3 ct3), sl3⟩) (e3 : PySem.W.codeIn K cd3 "is_integer" = true) (k3 : PySem.W.keepIn K (.ref f3) = true) (a4 : PySem.W.nsIn K mainGlobals "is_name" = some (some (.ref f4))) (l4 : K.lookup f4 = some ⟨oc4, od4, .func (PySem.W.fnOf "is_name" "is_name" (defArgs s_is_name) (defBody s_is_name) (defScope s_is_name) .none kV4 dc4 pm4 an4 cd4 ct4), sl4⟩) (e4 : PySem.W.codeIn K cd4 "is_name" = true) (k4 : PySem.W.keepIn K (.ref f4) = true) (a5 : PySem.W.nsIn K mainGlobals "are_ascending" = some (some (.ref f5))) (l5 : K.lookup f5 = some ⟨oc5, od5, .func (PySem.W.fnOf "are_ascending" "are_ascending" (defArgs s_are_ascending) (defBody s_are_ascending) (defScope s_are_ascending) .none kV5 dc5 pm5 an5 cd5 ct5), sl5⟩) (e5 : PySem.W.codeIn K cd5 "are_ascending" = true) (k5 : PySem.W.keepIn K (.ref f5) = true) (a6 : PySem.W.nsIn K mainGlobals "is_names" = some (some (.ref f6))) (l6 : K.lookup f6 = some ⟨oc6, od6, .func (PySem.W.fnOf "is_names" "is_names" (defArgs s_is_names) (defBody s_is_names) (defScope s_is_names) .none kV6 dc6 pm6 an6 cd6 ct6), sl6⟩) (e6 : PySem.W.codeIn K cd6 "is_names" = true) (k6 : PySem.W.keepIn K (.ref f6) = true) (a7 : PySem.W.nsIn K mainGlobals "is_set" = some (some (.ref f7))) (l7 : K.lookup f7 = some ⟨oc7, od7, .func (PySem.W.fnOf "is_set" "is_set" (defArgs s_is_set) (defBody s_is_set) (defScope s_is_set) .none kV7 dc7 pm7 an7 cd7 ct7), sl7⟩) (e7 : PySem.W.codeIn K cd7 "is_set" = true) (k7 : PySem.W.keepIn K (.ref f7) = true) (a9 : PySem.W.nsIn K mainGlobals "_law_jar" = some (some (.ref f9))) (l9 : K.lookup f9 = some ⟨oc9, od9, .func (PySem.W.fnOf "_law_jar" "_law_jar" (defArgs s__law_jar) (defBody s__law_jar) (defScope s__law_jar) .none kV9 dc9 pm9 an9 cd9 ct9), sl9⟩) (e9 : PySem.W.codeIn K cd9 "_law_jar" = true) (k9 : PySem.W.keepIn K (.ref f9) = true) (a10 : PySem.W.nsIn K mainGlobals "_law_sip" = some (some (.ref f10))) (l10 : K.lookup f10 = some ⟨oc10, od10, .func (PySem.W.fnOf "_law_sip" "_law_sip" (defArgs s__law_sip) (defBody s__law_sip) (defScope s__law_sip) .none kV10 dc10 pm10 an10 cd10 ct10), sl10⟩) (e10 : PySem.W.codeIn K cd10 "_law_sip" = true) (k10 : PySem.W.keepIn K (.ref f10) = true) (a11 : PySem.W.nsIn K mainGlobals "_law_which" = some (some (.ref f11))) (l11 : K.lookup f11 = some ⟨oc11, od11, .func (PySem.W.fnOf "_law_which" "_law_which" (defArgs s__law_which) (defBody s__law_which) (defScope s__law_which) .none kV11 dc11 pm11 an11 cd11 ct11), sl11⟩) (e11 : PySem.W.codeIn K cd11 "_law_which" = true) (k11 : PySem.W.keepIn K (.ref f11) = true) (a12 : PySem.W.nsIn K mainGlobals "_law_mixed" = some (some (.ref f12))) (l12 : K.lookup f12 = some ⟨oc12, od12, .func (PySem.W.fnOf "_law_mixed" "_law_mixed" (defArgs s__law_mixed) (defBody s__law_mixed) (defScope s__law_mixed) .none kV12 dc12 pm12 an12 cd12 ct12), sl12⟩) (e12 : PySem.W.codeIn K cd12 "_law_mixed" = true) (k12 : PySem.W.keepIn K (.ref f12) = true) (a13 : PySem.W.nsIn K mainGlobals "_law_letter" = some (some (.ref f13))) (l13 : K.lookup f13 = some ⟨oc13, od13, .func (PySem.W.fnOf "_law_letter" "_law_letter" (defArgs s__law_letter) (defBody s__law_letter) (defScope s__law_letter) .none kV13 dc13 pm13 an13 cd13 ct13), sl13⟩) (e13 : PySem.W.codeIn K cd13 "_law_letter" = true) (k13 : PySem.W.keepIn K (.ref f13) = true) (a14 : PySem.W.nsIn K mainGlobals "_law_many_names" = some (some (.ref f14))) (l14 : K.lookup f14 = some ⟨oc14, od14, .func (PySem.W.fnOf "_law_many_names" "_law_many_names" (defArgs s__law_many_names) (defBody s__law_many_names) (defScope s__law_many_names) .none kV14 dc14 pm14 an14 cd14 ct14), sl14⟩) (e14 : PySem.W.codeIn K cd14 "_law_many_names" = true) (k14 : PySem.W.keepIn K (.ref f14) = true) (a15 : PySem.W.nsIn K mainGlobals "_law_spelled" = some (some (.ref f15))) (l15 : K.lookup f15 = some ⟨oc15, od15, .func (PySem.W.fnOf "_law_spelled" "_law_spelled" (defArgs s__law_spelled) (defBody s__law_spelled) (defScope s__law_spelled) .none kV15 dc15 pm15 an15 cd15 ct15), sl15⟩) (e15 : PySem.W.codeIn K cd15 "_law_spelled" = true) (k15 : PySem.W.keepIn K (.ref f15) = true) (a16 : PySem.W.nsIn K mainGlobals "_law_is_name_row" = some (some (.ref f16))) (l16 : K.lookup f16 = some ⟨oc16, od16, .func (PySem.W.fnOf "_law_is_name_row" "_law_is_name_row" (defArgs s__law_is_name_row) (defBody s__law_is_name_row) (defScope s__law_is_name_row) .none kV16 dc16 pm16 an16 cd16 ct16), sl16⟩) (e16 : PySem.W.codeIn K cd16 "_law_is_name_row" = true) (k16 : PySem.W.keepIn K (.ref f16) = true) (a17 : PySem.W.nsIn K mainGlobals "_law_is_name_set" = some (some (.ref f17))) (l17 : K.lookup f17 = some ⟨oc17, od17, .func (PySem.W.fnOf "_law_is_name_set" "_law_is_name_set" (defArgs s__law_is_name_set) (defBody s__law_is_name_set) (defScope s__law_is_name_set) .none kV17 dc17 pm17 an17 cd17 ct17), sl17⟩) (e17 : PySem.W.codeIn K cd17 "_law_is_name_set" = true) (k17 : PySem.W.keepIn K (.ref f17) = true) (a18 : PySem.W.nsIn K mainGlobals "_law_is_short" = some (some (.ref f18))) (l18 : K.lookup f18 = some ⟨oc18, od18, .func (PySem.W.fnOf "_law_is_short" "_law_is_short" (defArgs s__law_is_short) (defBody s__law_is_short) (defScope s__law_is_short) .none kV18 dc18 pm18 an18 cd18 ct18), sl18⟩) (e18 : PySem.W.codeIn K cd18 "_law_is_short" = true) (k18 : PySem.W.keepIn K (.ref f18) = true) (a19 : PySem.W.nsIn K mainGlobals "_law_numbers" = some (some (.ref f19))) (l19 : K.lookup f19 = some ⟨oc19, od19, .func (PySem.W.fnOf "_law_numbers" "_law_numbers" (defArgs s__law_numbers) (defBody s__law_numbers) (defScope s__law_numbers) .none kV19 dc19 pm19 an19 cd19 ct19), sl19⟩) (e19 : PySem.W.codeIn K cd19 "_law_numbers" = true) (k19 : PySem.W.keepIn K (.ref f19) = true) (a20 : PySem.W.nsIn K mainGlobals "_law_texts" = some (some (.ref f20))) (l20 : K.lookup f20 = some ⟨oc20, od20, .func (PySem.W.fnOf "_law_texts" "_law_texts" (defArgs s__law_texts) (defBody s__law_texts) (defScope s__law_texts) .none kV20 dc20 pm20 an20 cd20 ct20), sl20⟩) (e20 : PySem.W.codeIn K cd20 "_law_texts" = true) (k20 : PySem.W.keepIn K (.ref f20) = true) (a21 : PySem.W.nsIn K mainGlobals "_law_tuples" = some (some (.ref f21))) (l21 : K.lookup f21 = some ⟨oc21, od21, .func (PySem.W.fnOf "_law_tuples" "_law_tuples" (defArgs s__law_tuples) (defBody s__law_tuples) (defScope s__law_tuples) .none kV21 dc21 pm21 an21 cd21 ct21), sl21⟩) (e21 : PySem.W.codeIn K cd21 "_law_tuples" = true) (k21 : PySem.W.keepIn K (.ref f21) = true) (a22 : PySem.W.nsIn K mainGlobals "_law_cell_right" = some (some (.ref f22))) (l22 : K.lookup f22 = some ⟨oc22, od22, .func (PySem.W.fnOf "_law_cell_right" "_law_cell_right" (defArgs s__law_cell_right) (defBody s__law_cell_right) (defScope s__law_cell_right) .none kV22 dc22 pm22 an22 cd22 ct22), sl22⟩) (e22 : PySem.W.codeIn K cd22 "_law_cell_right" = true) (k22 : PySem.W.keepIn K (.ref f22) = true) (a23 : PySem.W.nsIn K mainGlobals "law" = some (some (.ref f23))) (l23 : K.lookup f23 = some ⟨oc23, od23, .func (PySem.W.fnOf "law" "law" (defArgs s_law) (defBody s_law) (defScope s_law) .none kV23 dc23 pm23 an23 cd23 ct23), sl23⟩) (e23 : PySem.W.codeIn K cd23 "law" = true) (k23 : PySem.W.keepIn K (.ref f23) = true) : Txt K mg :=
  ⟨PySem.W.mg_none_of X G z_abs,
    PySem.W.mg_none_of X G z_all,
    PySem.W.mg_none_of X G z_bool,
    PySem.W.mg_none_of X G z_int,
    PySem.W.mg_none_of X G z_isinstance,
    PySem.W.mg_none_of X G z_len,
    PySem.W.mg_none_of X G z_list,
    PySem.W.mg_none_of X G z_max,
    PySem.W.mg_none_of X G z_min,
    PySem.W.mg_none_of X G z_range,
    PySem.W.mg_none_of X G z_repr,
    PySem.W.mg_none_of X G z_set,
    PySem.W.mg_none_of X G z_sorted,
    PySem.W.mg_none_of X G z_str,
    PySem.W.mg_none_of X G z_tuple,
    PySem.W.mg_none_of X G z_zip,
    ⟨_, .int 999999999999999999999999999999999999999999999999999999999999, PySem.W.mg_of X G c_GREATEST, ⟨_, rfl⟩, fun _ => .int _⟩,
    ⟨_, .int 8, PySem.W.mg_of X G c_MAX_LETTERS, ⟨_, rfl⟩, fun _ => .int _⟩,
    ⟨_, _, PySem.W.mg_of X G a3, fun_mk (st := s_is_integer) l3 e3 k3⟩,
    ⟨_, _, PySem.W.mg_of X G a4, fun_mk (st := s_is_name) l4 e4 k4⟩,
    ⟨_, _, PySem.W.mg_of X G a5, fun_mk (st := s_are_ascending) l5 e5 k5⟩,
    ⟨_, _, PySem.W.mg_of X G a6, fun_mk (st := s_is_names) l6 e6 k6⟩,
    ⟨_, _, PySem.W.mg_of X G a7, fun_mk (st := s_is_set) l7 e7 k7⟩,
    ⟨_, _, PySem.W.mg_of X G a9, fun_mk (st := s__law_jar) l9 e9 k9⟩,
    ⟨_, _, PySem.W.mg_of X G a10, fun_mk (st := s__law_sip) l10 e10 k10⟩,
    ⟨_, _, PySem.W.mg_of X G a11, fun_mk (st := s__law_which) l11 e11 k11⟩,
    ⟨_, _, PySem.W.mg_of X G a12, fun_mk (st := s__law_mixed) l12 e12 k12⟩,
    ⟨_, _, PySem.W.mg_of X G a13, fun_mk (st := s__law_letter) l13 e13 k13⟩,
    ⟨_, _, PySem.W.mg_of X G a14, fun_mk (st := s__law_many_names) l14 e14 k14⟩,
    ⟨_, _, PySem.W.mg_of X G a15, fun_mk (st := s__law_spelled) l15 e15 k15⟩,
    ⟨_, _, PySem.W.mg_of X G a16, fun_mk (st := s__law_is_name_row) l16 e16 k16⟩,
    ⟨_, _, PySem.W.mg_of X G a17, fun_mk (st := s__law_is_name_set) l17 e17 k17⟩,
    ⟨_, _, PySem.W.mg_of X G a18, fun_mk (st := s__law_is_short) l18 e18 k18⟩,
    ⟨_, _, PySem.W.mg_of X G a19, fun_mk (st := s__law_numbers) l19 e19 k19⟩,
    ⟨_, _, PySem.W.mg_of X G a20, fun_mk (st := s__law_texts) l20 e20 k20⟩,
    ⟨_, _, PySem.W.mg_of X G a21, fun_mk (st := s__law_tuples) l21 e21 k21⟩,
    ⟨_, _, PySem.W.mg_of X G a22, fun_mk (st := s__law_cell_right) l22 e22 k22⟩,
    ⟨_, _, PySem.W.mg_of X G a23, fun_mk (st := s_law) l23 e23 k23⟩⟩
end K00

set_option maxHeartbeats 4000000
namespace K00
open PySem L2 TL
theorem isi_ok (v : D) (n : String) (m : String) (h : tyO (.d v) = some n) (hn : n ∈ kTys) (hm : m ∈ ["int", "bool", "str", "tuple", "list", "dict"]) : gIsi [.d v, .d (.ty m)] = some (.d (.bl (isTy n m))) := by
  show g2 _ [.d v, .d (.ty m)] = _
  simp only [g2, h]
  rw [if_pos ⟨hn, hm⟩]
/-- values of known classes -/
def kn : D → Bool
  | .non => true | .bl _ => true | .int _ => true | .str _ => true | .tup _ => true | .lst _ => true | .dct _ => true
  | _ => false
def isI : D → Bool
  | .int _ => true | .bl _ => true | _ => false
def isB : D → Bool
  | .bl _ => true | _ => false
def isS : D → Bool
  | .str _ => true | _ => false
def isT : D → Bool
  | .tup _ => true | _ => false
def tyN : D → String
  | .non => "NoneType" | .bl _ => "bool" | .int _ => "int" | .str _ => "str" | .tup _ => "tuple" | .lst _ => "list" | .dct _ => "dict"
  | _ => ""
theorem ty_kn {v : D} (h : kn v = true) : tyO (.d v) = some (tyN v) := by
  cases v <;> first | (cases h; done) | rfl
theorem ty_mem {v : D} (h : kn v = true) : tyN v ∈ kTys := by
  cases v <;> first | (cases h; done) | simp [tyN, kTys]
theorem i_int {v : D} (h : kn v = true) : gIsi [.d v, .d (.ty "int")] = some (.d (.bl (isI v))) :=
  (isi_ok v _ "int" (ty_kn h) (ty_mem h) (by decide)).trans (by cases v <;> first | (cases h; done) | rfl)
theorem i_bool {v : D} (h : kn v = true) : gIsi [.d v, .d (.ty "bool")] = some (.d (.bl (isB v))) :=
  (isi_ok v _ "bool" (ty_kn h) (ty_mem h) (by decide)).trans (by cases v <;> first | (cases h; done) | rfl)
theorem i_str {v : D} (h : kn v = true) : gIsi [.d v, .d (.ty "str")] = some (.d (.bl (isS v))) :=
  (isi_ok v _ "str" (ty_kn h) (ty_mem h) (by decide)).trans (by cases v <;> first | (cases h; done) | rfl)
theorem i_tup {v : D} (h : kn v = true) : gIsi [.d v, .d (.ty "tuple")] = some (.d (.bl (isT v))) :=
  (isi_ok v _ "tuple" (ty_kn h) (ty_mem h) (by decide)).trans (by cases v <;> first | (cases h; done) | rfl)
def isInt : D → Bool
  | .int i => decide (-999999999999999999999999999999999999999999999999999999999999 ≤ i) && decide (i ≤ 999999999999999999999999999999999999999999999999999999999999)
  | _ => false
theorem le_int (i j : Int) : gLe (.d (.int i)) (.d (.int j)) = some (.d (.bl (decide (i ≤ j)))) := rfl
theorem lt_int (i j : Int) : gLt (.d (.int i)) (.d (.int j)) = some (.d (.bl (decide (i < j)))) := rfl
theorem gt_int (i j : Int) : gGt (.d (.int i)) (.d (.int j)) = some (.d (.bl (decide (j < i)))) := rfl
theorem add_int (i j : Int) : gAdd (.d (.int i)) (.d (.int j)) = some (.d (.int (i + j))) := rfl
theorem sub_int (i j : Int) : TL.gSub (.d (.int i)) (.d (.int j)) = some (.d (.int (i - j))) := rfl
theorem mul_int {i j : Int} (h : CMulW i j) : gMul (.d (.int i)) (.d (.int j)) = some (.d (.int (i * j))) := by
  show orO (gI _) gMulS _ _ = _
  simp [orO, gI, h]
theorem mod_int {i j : Int} (h : 0 < j) : gMod (.d (.int i)) (.d (.int j)) = some (.d (.int (i % j))) := by
  simp [gMod, gI, h]
theorem div_int {i j : Int} (h : CDivW i j) : gDiv (.d (.int i)) (.d (.int j)) = some (.d (.int (i / j))) := by
  simp [gDiv, gI, h]
theorem int_int (i : Int) : gToInt [.d (.int i)] = some (.d (.int i)) := rfl
theorem int_bl (b : Bool) : gToInt [.d (.bl b)] = some (.d (.int (if b then 1 else 0))) := rfl
theorem abs_int (i : Int) : gAbs [.d (.int i)] = some (.d (.int (if i < 0 then -i else i))) := rfl
theorem max_int (i j : Int) : gMax2 [.d (.int i), .d (.int j)] = some (.d (.int (if j > i then j else i))) := rfl
theorem min_int (i j : Int) : gMin2 [.d (.int i), .d (.int j)] = some (.d (.int (if j < i then j else i))) := rfl
theorem p60 : gPow (.d (.int 10)) (.d (.int 60)) = some (.d (.int 1000000000000000000000000000000000000000000000000000000000000)) := by kernel_rfl
theorem one_int (v : D) (h : kn v = true) : g_is_integer [.d v] = some (.d (.bl (isInt v)), [none]) := by
  cases v with
  | int i =>
    by_cases c : -999999999999999999999999999999999999999999999999999999999999 ≤ i
    · simp [bndS, bnd, TL.ret, lift, rstAll, rst, startE, retS, keepE, fxL, O.shr, cCall, consO, nilO, tmp, nf, con, cBin, cChain, vAnd, vOr, vB, cNot, asB, cAnd, cOr, cNeg, seqS, nilS, ifS, mv, op, fz, consM, nilM, cLst, cTup, asgS, setV, dropS, forS, cIt, cFn, rstO, rst1, g1, g2, cIf, shrs, fnG, cMt, cMu, wipeE, backE, List.getD, peek, cMuN, List.range_succ, g_is_integer, b_is_integer, i_int h, i_bool h, isI, isB, isInt, c_GREATEST, le_int, c]
    · simp [bndS, bnd, TL.ret, lift, rstAll, rst, startE, retS, keepE, fxL, O.shr, cCall, consO, nilO, tmp, nf, con, cBin, cChain, vAnd, vOr, vB, cNot, asB, cAnd, cOr, cNeg, seqS, nilS, ifS, mv, op, fz, consM, nilM, cLst, cTup, asgS, setV, dropS, forS, cIt, cFn, rstO, rst1, g1, g2, cIf, shrs, fnG, cMt, cMu, wipeE, backE, List.getD, peek, cMuN, List.range_succ, g_is_integer, b_is_integer, i_int h, i_bool h, isI, isB, isInt, c_GREATEST, le_int, c]
  | _ => first | (cases h; done) | simp [bndS, bnd, TL.ret, lift, rstAll, rst, startE, retS, keepE, fxL, O.shr, cCall, consO, nilO, tmp, nf, con, cBin, cChain, vAnd, vOr, vB, cNot, asB, cAnd, cOr, cNeg, seqS, nilS, ifS, mv, op, fz, consM, nilM, cLst, cTup, asgS, setV, dropS, forS, cIt, cFn, rstO, rst1, g1, g2, cIf, shrs, fnG, cMt, cMu, wipeE, backE, List.getD, peek, cMuN, List.range_succ, g_is_integer, b_is_integer, i_int h, i_bool h, isI, isB, isInt]
theorem two_int (v : D) (h : kn v = true) : g__law_is_short [.d v] = some (.d (.bl (isInt v)), [none]) := by
  cases v with
  | int i =>
    have e1 : (-999999999999999999999999999999999999999999999999999999999999 ≤ i) = (-1000000000000000000000000000000000000000000000000000000000000 < i) := by rw [eq_iff_iff]; omega
    have e2 : (i ≤ 999999999999999999999999999999999999999999999999999999999999) = (i < 1000000000000000000000000000000000000000000000000000000000000) := by rw [eq_iff_iff]; omega
    simp only [isInt, e1, e2]
    by_cases c : -1000000000000000000000000000000000000000000000000000000000000 < i
    · simp [bndS, bnd, TL.ret, lift, rstAll, rst, startE, retS, keepE, fxL, O.shr, cCall, consO, nilO, tmp, nf, con, cBin, cChain, vAnd, vOr, vB, cNot, asB, cAnd, cOr, cNeg, seqS, nilS, ifS, mv, op, fz, consM, nilM, cLst, cTup, asgS, setV, dropS, forS, cIt, cFn, rstO, rst1, g1, g2, cIf, shrs, fnG, cMt, cMu, wipeE, backE, List.getD, peek, cMuN, List.range_succ, g__law_is_short, b__law_is_short, i_int h, i_bool h, isI, isB, sub_int, p60, lt_int, c]
    · simp [bndS, bnd, TL.ret, lift, rstAll, rst, startE, retS, keepE, fxL, O.shr, cCall, consO, nilO, tmp, nf, con, cBin, cChain, vAnd, vOr, vB, cNot, asB, cAnd, cOr, cNeg, seqS, nilS, ifS, mv, op, fz, consM, nilM, cLst, cTup, asgS, setV, dropS, forS, cIt, cFn, rstO, rst1, g1, g2, cIf, shrs, fnG, cMt, cMu, wipeE, backE, List.getD, peek, cMuN, List.range_succ, g__law_is_short, b__law_is_short, i_int h, i_bool h, isI, isB, sub_int, p60, lt_int, c]
  | _ => first | (cases h; done) | simp [bndS, bnd, TL.ret, lift, rstAll, rst, startE, retS, keepE, fxL, O.shr, cCall, consO, nilO, tmp, nf, con, cBin, cChain, vAnd, vOr, vB, cNot, asB, cAnd, cOr, cNeg, seqS, nilS, ifS, mv, op, fz, consM, nilM, cLst, cTup, asgS, setV, dropS, forS, cIt, cFn, rstO, rst1, g1, g2, cIf, shrs, fnG, cMt, cMu, wipeE, backE, List.getD, peek, cMuN, List.range_succ, g__law_is_short, b__law_is_short, i_int h, i_bool h, isI, isB, isInt]
/-! ### comprehensions -/
theorem compL_map {g : G} {t : M Bool} {f : M O} {vs : List Nat} {e0 : TL.Env} (F : D → O) : ∀ ds : List D, (∀ d ∈ ds, ∃ e1 e2 e3, g (.d d) e0 = some e1 ∧ t e1 = some (true, e2) ∧ f e2 = some (F d, e3) ∧ wipeE e3 vs = e0) → compL g t f vs ds e0 = some (ds.map F, e0)
  | [], _ => rfl
  | d :: ds, h => by
    obtain ⟨e1, e2, e3, h1, h2, h3, h4⟩ := h d (by simp)
    have ih := compL_map F ds fun d hd => h d (by simp [hd])
    simp [compL, h1, h2, h3, h4, ih]
theorem compL_filter {g : G} {t : M Bool} {f : M O} {vs : List Nat} {e0 : TL.Env} (T : D → Bool) (F : D → O) : ∀ ds : List D, (∀ d ∈ ds, ∃ e1 e2, g (.d d) e0 = some e1 ∧ t e1 = some (T d, e2) ∧ (T d = true → ∃ e3, f e2 = some (F d, e3) ∧ wipeE e3 vs = e0) ∧ (T d = false → wipeE e2 vs = e0)) → compL g t f vs ds e0 = some ((ds.filter T).map F, e0)
  | [], _ => rfl
  | d :: ds, h => by
    obtain ⟨e1, e2, h1, h2, h3, h4⟩ := h d (by simp)
    have ih := compL_filter T F ds fun d hd => h d (by simp [hd])
    cases c : T d with
    | true =>
      obtain ⟨e3, h5, h6⟩ := h3 c
      rw [c] at h2
      simp [compL, h1, h2, h5, h6, ih, c]
    | false =>
      rw [c] at h2
      simp [compL, h1, h2, h4 c, ih, c]
theorem compM_ok {src : M (List D × (O × Option Nat))} {g : G} {t : M Bool} {f : M O} {vs : List Nat} {e e1 e2 : TL.Env} {ds : List D} {x : O × Option Nat} {os : List O} {r : O × TL.Env} (h1 : src e = some ((ds, x), e1)) (h2 : ownOk e1 vs = true) (h3 : compL g t f vs ds (wipeE e1 vs) = some (os, e2))
    (h4 : os.length ≤ sizeLine) (h5 : bnd (rst x.2 x.1) (fun _ => TL.ret (.lst os)) (backE e1 e2 vs) = some r) : compM src g t f vs e = some r := by
  unfold compM
  simp only [h1, h2, h3, h4, if_true, h5]
theorem blsO_map (F : D → Bool) : ∀ ds : List D, blsO (ds.map fun d => .bl (F d)) = some (ds.map F)
  | [] => rfl
  | d :: ds => by simp [blsO, blsO_map F ds]
theorem dOnly_map {α : Type} (F : α → D) : ∀ xs : List α, dOnly (xs.map fun x => O.d (F x)) = some (xs.map F)
  | [] => rfl
  | x :: xs => by simp [dOnly, dOnly_map F xs]
theorem all_map (F : D → Bool) (ds : List D) : gAll [.lst (ds.map fun d => .d (.bl (F d)))] = some (.d (.bl (ds.all F))) := by
  show g1 _ _ = _
  simp only [g1, asL]
  rw [dOnly_map (fun d => .bl (F d)) ds]
  simp only [blsO_map]
  simp
/-! ### names -/
def low (c : Nat) : Bool := decide (97 ≤ c) && decide (c ≤ 122)
def nameS (x : Str) : Bool := decide (1 ≤ x.length) && decide (x.length ≤ 8) && x.cps.toList.all low
def isName : D → Bool
  | .str x => nameS x
  | _ => false
theorem le_a (c : Nat) : gLe (.d (.str "a")) (.d (.str ⟨#[c]⟩)) = some (.d (.bl (decide (97 ≤ c)))) := by
  have : gLe (.d (.str "a")) (.d (.str ⟨#[c]⟩)) = some (.d (.bl (!decide ([c] < [97])))) := rfl
  rw [this]
  have e : ([c] < [97]) = (c < 97) := by simp [List.cons_lt_cons_iff]
  simp only [e]
  congr 3
  by_cases h : c < 97 <;> simp [h] <;> omega
theorem le_z (c : Nat) : gLe (.d (.str ⟨#[c]⟩)) (.d (.str "z")) = some (.d (.bl (decide (c ≤ 122)))) := by
  have : gLe (.d (.str ⟨#[c]⟩)) (.d (.str "z")) = some (.d (.bl (!decide ([122] < [c])))) := rfl
  rw [this]
  have e : ([122] < [c]) = (122 < c) := by simp [List.cons_lt_cons_iff]
  simp only [e]
  congr 3
  by_cases h : 122 < c <;> simp [h] <;> omega
theorem len_str {x : Str} (h : x.length ≤ sizeLine) : gLen [.d (.str x)] = some (.d (.int x.length)) := by
  show g1 _ _ = _
  simp [g1, lenO, h]
theorem chars_len (x : Str) : (chars x).length = x.length := by simp [chars, Str.length]
def lowD : D → Bool
  | .str z => match z.cps.toList with | [c] => low c | _ => false
  | _ => false
theorem chars_all (x : Str) : (chars x).all lowD = x.cps.toList.all low := by
  unfold chars
  rw [List.all_map]
  rfl
theorem str_chars (x : Str) (h : x.length ≤ sizeLine) : (chars x).length ≤ sizeLine := by rw [chars_len]; exact h
theorem q_name (x : Str) (h : x.length ≤ sizeLine) : q_is_name_0 [some (.d (.str x)), none] = some (.lst ((chars x).map fun d => .d (.bl (lowD d))), [some (.d (.str x)), none]) := by
  have cm : compL (setV 1) (TL.ret true) (cChain gLe gLe (con (.str "a")) (nf 1) (con (.str "z"))) [1] (chars x) [some (.d (.str x)), none] = some ((chars x).map fun d => .d (.bl (lowD d)), [some (.d (.str x)), none]) := by
    refine compL_map (fun d => .d (.bl (lowD d))) _ fun d hd => ?_
    obtain ⟨c, _, rfl⟩ := List.mem_map.mp hd
    by_cases c3 : 97 ≤ c
    · exact ⟨_, _, _, rfl, rfl, by simp [bndS, bnd, TL.ret, lift, rstAll, rst, startE, retS, keepE, fxL, O.shr, cCall, consO, nilO, tmp, nf, con, cBin, cChain, vAnd, vOr, vB, cNot, asB, cAnd, cOr, cNeg, seqS, nilS, ifS, mv, op, fz, consM, nilM, cLst, cTup, asgS, setV, dropS, forS, cIt, cFn, rstO, rst1, g1, g2, cIf, shrs, fnG, cMt, cMu, wipeE, backE, List.getD, peek, cMuN, List.range_succ, le_a, le_z, c3, lowD, low]; rfl, rfl⟩
    · exact ⟨_, _, _, rfl, rfl, by simp [bndS, bnd, TL.ret, lift, rstAll, rst, startE, retS, keepE, fxL, O.shr, cCall, consO, nilO, tmp, nf, con, cBin, cChain, vAnd, vOr, vB, cNot, asB, cAnd, cOr, cNeg, seqS, nilS, ifS, mv, op, fz, consM, nilM, cLst, cTup, asgS, setV, dropS, forS, cIt, cFn, rstO, rst1, g1, g2, cIf, shrs, fnG, cMt, cMu, wipeE, backE, List.getD, peek, cMuN, List.range_succ, le_a, le_z, c3, lowD, low]; rfl, rfl⟩
  have e0 : cIt (tmp (nf 0)) [some (.d (.str x)), none] = some ((chars x, (.d (.str x), none)), [some (.d (.str x)), none]) := by simp [bndS, bnd, TL.ret, lift, rstAll, rst, startE, retS, keepE, fxL, O.shr, cCall, consO, nilO, tmp, nf, con, cBin, cChain, vAnd, vOr, vB, cNot, asB, cAnd, cOr, cNeg, seqS, nilS, ifS, mv, op, fz, consM, nilM, cLst, cTup, asgS, setV, dropS, forS, cIt, cFn, rstO, rst1, g1, g2, cIf, shrs, fnG, cMt, cMu, wipeE, backE, List.getD, peek, cMuN, List.range_succ, itO]
  exact compM_ok e0 rfl cm (by rw [List.length_map]; exact str_chars x h) (by simp [bndS, bnd, TL.ret, lift, rstAll, rst, startE, retS, keepE, fxL, O.shr, cCall, consO, nilO, tmp, nf, con, cBin, cChain, vAnd, vOr, vB, cNot, asB, cAnd, cOr, cNeg, seqS, nilS, ifS, mv, op, fz, consM, nilM, cLst, cTup, asgS, setV, dropS, forS, cIt, cFn, rstO, rst1, g1, g2, cIf, shrs, fnG, cMt, cMu, wipeE, backE, List.getD, peek, cMuN, List.range_succ, ])
theorem one_name (v : D) (h : kn v = true) (hs : ∀ x, v = .str x → x.length ≤ sizeLine) : g_is_name [.d v] = some (.d (.bl (isName v)), [none]) := by
  cases v with
  | str x =>
    have hx := hs x rfl
    have hl := len_str hx
    by_cases c1 : (1 : Int) ≤ x.length
    · have c1' : 1 ≤ x.length := by omega
      by_cases c2 : (x.length : Int) ≤ 8
      · have c2' : x.length ≤ 8 := by omega
        simp [bndS, bnd, TL.ret, lift, rstAll, rst, startE, retS, keepE, fxL, O.shr, cCall, consO, nilO, tmp, nf, con, cBin, cChain, vAnd, vOr, vB, cNot, asB, cAnd, cOr, cNeg, seqS, nilS, ifS, mv, op, fz, consM, nilM, cLst, cTup, asgS, setV, dropS, forS, cIt, cFn, rstO, rst1, g1, g2, cIf, shrs, fnG, cMt, cMu, wipeE, backE, List.getD, peek, cMuN, List.range_succ, g_is_name, b_is_name, i_str h, isS, c_MAX_LETTERS, hl, le_int, c1, c2, q_name x hx, all_map, chars_all, isName, nameS, c1', c2']
      · have c2' : ¬ x.length ≤ 8 := by omega
        simp [bndS, bnd, TL.ret, lift, rstAll, rst, startE, retS, keepE, fxL, O.shr, cCall, consO, nilO, tmp, nf, con, cBin, cChain, vAnd, vOr, vB, cNot, asB, cAnd, cOr, cNeg, seqS, nilS, ifS, mv, op, fz, consM, nilM, cLst, cTup, asgS, setV, dropS, forS, cIt, cFn, rstO, rst1, g1, g2, cIf, shrs, fnG, cMt, cMu, wipeE, backE, List.getD, peek, cMuN, List.range_succ, g_is_name, b_is_name, i_str h, isS, c_MAX_LETTERS, hl, le_int, c1, c2, isName, nameS, c2']
    · have c1' : ¬ 1 ≤ x.length := by omega
      simp [bndS, bnd, TL.ret, lift, rstAll, rst, startE, retS, keepE, fxL, O.shr, cCall, consO, nilO, tmp, nf, con, cBin, cChain, vAnd, vOr, vB, cNot, asB, cAnd, cOr, cNeg, seqS, nilS, ifS, mv, op, fz, consM, nilM, cLst, cTup, asgS, setV, dropS, forS, cIt, cFn, rstO, rst1, g1, g2, cIf, shrs, fnG, cMt, cMu, wipeE, backE, List.getD, peek, cMuN, List.range_succ, g_is_name, b_is_name, i_str h, isS, c_MAX_LETTERS, hl, le_int, c1, isName, nameS, c1']
  | _ => first | (cases h; done) | simp [bndS, bnd, TL.ret, lift, rstAll, rst, startE, retS, keepE, fxL, O.shr, cCall, consO, nilO, tmp, nf, con, cBin, cChain, vAnd, vOr, vB, cNot, asB, cAnd, cOr, cNeg, seqS, nilS, ifS, mv, op, fz, consM, nilM, cLst, cTup, asgS, setV, dropS, forS, cIt, cFn, rstO, rst1, g1, g2, cIf, shrs, fnG, cMt, cMu, wipeE, backE, List.getD, peek, cMuN, List.range_succ, g_is_name, b_is_name, i_str h, isS, isName]
/-! ### the law's own names -/
def itOk (d : D) : Prop := kn d = true ∧ (∀ x, d = .str x → x.length ≤ sizeLine ∧ PyData.strOk x = true) ∧ ∃ p, d.py = some p ∧ p.canLay0 = true ∧ p.depth ≤ 10
theorem py_list : ∀ ds : List D, (∀ d ∈ ds, ∃ p, d.py = some p ∧ p.canLay0 = true ∧ p.depth ≤ 10) → ∃ ps, pys ds = some ps ∧ PyData.canLayAll0 ps = true ∧ PyData.depthAll ps ≤ 10 ∧ ps.length = ds.length
  | [], _ => ⟨[], rfl, rfl, by simp [PyData.depthAll], rfl⟩
  | d :: ds, h => by
    obtain ⟨p, h1, h2, h3⟩ := h d (by simp)
    obtain ⟨ps, a1, a2, a3, a4⟩ := py_list ds fun d hd => h d (by simp [hd])
    refine ⟨p :: ps, by simp [pys, h1, a1], by simp [PyData.canLayAll0, h2, a2], ?_, by simp [a4]⟩
    simp only [PyData.depthAll]
    omega
theorem shrs_d (ds : List D) : shrs (ds.map O.d) = ds := by
  rw [shrs_map, List.map_map]
  have : (O.shr ∘ O.d) = id := by funext x; simp [O.shr]
  rw [this, List.map_id]
theorem eq_nil (ds : List D) (h : ∀ d ∈ ds, ∃ p, d.py = some p ∧ p.canLay0 = true ∧ p.depth ≤ 10) : gEqD false (.lst (ds.map O.d)) (.lst []) = some (.d (.bl ds.isEmpty)) := by
  obtain ⟨ps, a1, a2, a3, a4⟩ := py_list ds h
  have e1 : (O.lst (ds.map O.d)).shr.py = some (.list ps) := by rw [O.shr, shrs_d, D.py, a1]
  have e2 : (O.lst []).shr.py = some (.list []) := by simp [O.shr, shrs, D.py, pys]
  have s1 : SeqAt.shaped (.list ps) = true := by
    simp [SeqAt.shaped, PyData.canLay0, a2, PyData.depth]
    omega
  have s2 : SeqAt.shaped (.list []) = true := by decide
  unfold gEqD
  simp only [e1, e2, s1, s2, Bool.and_self, if_true, Bool.false_eq_true, if_false]
  cases ds with
  | nil => cases ps with | nil => rfl | cons _ _ => cases a4
  | cons _ _ => cases ps with | nil => cases a4 | cons _ _ => rfl
theorem eq_int (i j : Int) : gEqD false (.d (.int i)) (.d (.int j)) = some (.d (.bl (i == j))) := by
  unfold gEqD
  simp [O.shr, D.py, SeqAt.shaped, PyData.canLay0, PyData.depth, PyData.eqv]
theorem mem_alpha (c : Nat) : (c ∈ ("abcdefghijklmnopqrstuvwxyz" : Str).cps.toList) ↔ low c = true := by
  have : ("abcdefghijklmnopqrstuvwxyz" : Str).cps.toList = [97, 98, 99, 100, 101, 102, 103, 104, 105, 106, 107, 108, 109, 110, 111, 112, 113, 114, 115, 116, 117, 118, 119, 120, 121, 122] := by decide +kernel
  rw [this]
  simp only [List.mem_cons, List.not_mem_nil, or_false, low, Bool.and_eq_true, decide_eq_true_eq]
  omega
theorem notIn_alpha (c : Nat) : gIn true (.d (.str ⟨#[c]⟩)) (.d (.str "abcdefghijklmnopqrstuvwxyz")) = some (.d (.bl (!low c))) := by
  have : gIn true (.d (.str ⟨#[c]⟩)) (.d (.str "abcdefghijklmnopqrstuvwxyz")) = some (.d (.bl (!decide (c ∈ ("abcdefghijklmnopqrstuvwxyz" : Str).cps.toList)))) := rfl
  rw [this]
  congr 4
  rw [Bool.eq_iff_iff, decide_eq_true_eq, mem_alpha]
theorem q_spelled (x : Str) (h : x.length ≤ sizeLine) : q__law_spelled_0 [some (.d (.str x)), none] = some (.lst (((chars x).filter fun d => !lowD d).map O.d), [some (.d (.str x)), none]) := by
  have e0 : cIt (tmp (nf 0)) [some (.d (.str x)), none] = some ((chars x, (.d (.str x), none)), [some (.d (.str x)), none]) := by simp [bndS, bnd, TL.ret, lift, rstAll, rst, startE, retS, keepE, fxL, O.shr, cCall, consO, nilO, tmp, nf, con, cBin, cChain, vAnd, vOr, vB, cNot, asB, cAnd, cOr, cNeg, seqS, nilS, ifS, mv, op, fz, consM, nilM, cLst, cTup, asgS, setV, dropS, forS, cIt, cFn, rstO, rst1, g1, g2, cIf, shrs, fnG, cMt, cMu, wipeE, backE, List.getD, peek, cMuN, List.range_succ, itO]
  refine compM_ok e0 rfl (compL_filter (fun d => !lowD d) O.d (chars x) fun d hd => ?_) ?_ (by simp [bndS, bnd, TL.ret, lift, rstAll, rst, startE, retS, keepE, fxL, O.shr, cCall, consO, nilO, tmp, nf, con, cBin, cChain, vAnd, vOr, vB, cNot, asB, cAnd, cOr, cNeg, seqS, nilS, ifS, mv, op, fz, consM, nilM, cLst, cTup, asgS, setV, dropS, forS, cIt, cFn, rstO, rst1, g1, g2, cIf, shrs, fnG, cMt, cMu, wipeE, backE, List.getD, peek, cMuN, List.range_succ, ])
  · obtain ⟨c, _, rfl⟩ := List.mem_map.mp hd
    exact ⟨[some (.d (.str x)), some (.d (.str ⟨#[c]⟩))], [some (.d (.str x)), some (.d (.str ⟨#[c]⟩))], by simp [bndS, bnd, TL.ret, lift, rstAll, rst, startE, retS, keepE, fxL, O.shr, cCall, consO, nilO, tmp, nf, con, cBin, cChain, vAnd, vOr, vB, cNot, asB, cAnd, cOr, cNeg, seqS, nilS, ifS, mv, op, fz, consM, nilM, cLst, cTup, asgS, setV, dropS, forS, cIt, cFn, rstO, rst1, g1, g2, cIf, shrs, fnG, cMt, cMu, wipeE, backE, List.getD, peek, cMuN, List.range_succ, ], by simp [bndS, bnd, TL.ret, lift, rstAll, rst, startE, retS, keepE, fxL, O.shr, cCall, consO, nilO, tmp, nf, con, cBin, cChain, vAnd, vOr, vB, cNot, asB, cAnd, cOr, cNeg, seqS, nilS, ifS, mv, op, fz, consM, nilM, cLst, cTup, asgS, setV, dropS, forS, cIt, cFn, rstO, rst1, g1, g2, cIf, shrs, fnG, cMt, cMu, wipeE, backE, List.getD, peek, cMuN, List.range_succ, notIn_alpha, lowD], fun _ => ⟨[some (.d (.str x)), some (.d (.str ⟨#[c]⟩))], by simp [bndS, bnd, TL.ret, lift, rstAll, rst, startE, retS, keepE, fxL, O.shr, cCall, consO, nilO, tmp, nf, con, cBin, cChain, vAnd, vOr, vB, cNot, asB, cAnd, cOr, cNeg, seqS, nilS, ifS, mv, op, fz, consM, nilM, cLst, cTup, asgS, setV, dropS, forS, cIt, cFn, rstO, rst1, g1, g2, cIf, shrs, fnG, cMt, cMu, wipeE, backE, List.getD, peek, cMuN, List.range_succ, ], by simp [bndS, bnd, TL.ret, lift, rstAll, rst, startE, retS, keepE, fxL, O.shr, cCall, consO, nilO, tmp, nf, con, cBin, cChain, vAnd, vOr, vB, cNot, asB, cAnd, cOr, cNeg, seqS, nilS, ifS, mv, op, fz, consM, nilM, cLst, cTup, asgS, setV, dropS, forS, cIt, cFn, rstO, rst1, g1, g2, cIf, shrs, fnG, cMt, cMu, wipeE, backE, List.getD, peek, cMuN, List.range_succ, ]⟩, fun _ => by simp [bndS, bnd, TL.ret, lift, rstAll, rst, startE, retS, keepE, fxL, O.shr, cCall, consO, nilO, tmp, nf, con, cBin, cChain, vAnd, vOr, vB, cNot, asB, cAnd, cOr, cNeg, seqS, nilS, ifS, mv, op, fz, consM, nilM, cLst, cTup, asgS, setV, dropS, forS, cIt, cFn, rstO, rst1, g1, g2, cIf, shrs, fnG, cMt, cMu, wipeE, backE, List.getD, peek, cMuN, List.range_succ, ]⟩
  · rw [List.length_map]
    exact Nat.le_trans (List.length_filter_le _ _) (str_chars x h)
theorem isEmpty_filter {α : Type} (p : α → Bool) : ∀ xs : List α, (xs.filter fun x => !p x).isEmpty = xs.all p
  | [] => rfl
  | x :: xs => by
    cases c : p x with
    | true => simp [c, isEmpty_filter p xs]
    | false => simp [c]
theorem one_spelled (v : D) (h : kn v = true) (hs : ∀ x, v = .str x → x.length ≤ sizeLine ∧ PyData.strOk x = true) : g__law_spelled [.d v] = some (.d (.bl (isName v)), [none]) := by
  cases v with
  | str x =>
    obtain ⟨hx, hk⟩ := hs x rfl
    have hl := len_str hx
    have en : gEqD false (.lst (((chars x).filter fun d => !lowD d).map O.d)) (.lst []) = some (.d (.bl (x.cps.toList.all low))) := by
      rw [eq_nil, isEmpty_filter, chars_all]
      intro d hd
      obtain ⟨c, _, rfl⟩ := List.mem_map.mp (List.mem_filter.mp hd).1
      refine ⟨.str ⟨#[c]⟩, by simp [D.py], ?_, by simp [PyData.depth]⟩
      have hc : c ∈ x.cps.toList := by
        obtain ⟨c', h1, h2⟩ := List.mem_map.mp (List.mem_filter.mp hd).1
        cases h2; exact h1
      have := Array.all_eq_true_iff_forall_mem.mp hk c (Array.mem_toList_iff.mp hc)
      simpa [PyData.canLay0, PyData.strOk] using this
    by_cases c0 : x.length = 0
    · simp [bndS, bnd, TL.ret, lift, rstAll, rst, startE, retS, keepE, fxL, O.shr, cCall, consO, nilO, tmp, nf, con, cBin, cChain, vAnd, vOr, vB, cNot, asB, cAnd, cOr, cNeg, seqS, nilS, ifS, mv, op, fz, consM, nilM, cLst, cTup, asgS, setV, dropS, forS, cIt, cFn, rstO, rst1, g1, g2, cIf, shrs, fnG, cMt, cMu, wipeE, backE, List.getD, peek, cMuN, List.range_succ, g__law_spelled, b__law_spelled, i_str h, isS, hl, eq_int, c0, isName, nameS]
    · have c0' : ¬ ((x.length : Int) = 0) := by omega
      have c1 : 1 ≤ x.length := by omega
      by_cases c2 : (8 : Int) < x.length
      · have c2' : ¬ x.length ≤ 8 := by omega
        simp [bndS, bnd, TL.ret, lift, rstAll, rst, startE, retS, keepE, fxL, O.shr, cCall, consO, nilO, tmp, nf, con, cBin, cChain, vAnd, vOr, vB, cNot, asB, cAnd, cOr, cNeg, seqS, nilS, ifS, mv, op, fz, consM, nilM, cLst, cTup, asgS, setV, dropS, forS, cIt, cFn, rstO, rst1, g1, g2, cIf, shrs, fnG, cMt, cMu, wipeE, backE, List.getD, peek, cMuN, List.range_succ, g__law_spelled, b__law_spelled, i_str h, isS, hl, eq_int, gt_int, c0, c2, isName, nameS, c2']
      · have c2' : x.length ≤ 8 := by omega
        simp [bndS, bnd, TL.ret, lift, rstAll, rst, startE, retS, keepE, fxL, O.shr, cCall, consO, nilO, tmp, nf, con, cBin, cChain, vAnd, vOr, vB, cNot, asB, cAnd, cOr, cNeg, seqS, nilS, ifS, mv, op, fz, consM, nilM, cLst, cTup, asgS, setV, dropS, forS, cIt, cFn, rstO, rst1, g1, g2, cIf, shrs, fnG, cMt, cMu, wipeE, backE, List.getD, peek, cMuN, List.range_succ, g__law_spelled, b__law_spelled, i_str h, isS, hl, eq_int, gt_int, c0, c2, isName, nameS, c1, c2', q_spelled x hx, en]
  | _ => first | (cases h; done) | simp [bndS, bnd, TL.ret, lift, rstAll, rst, startE, retS, keepE, fxL, O.shr, cCall, consO, nilO, tmp, nf, con, cBin, cChain, vAnd, vOr, vB, cNot, asB, cAnd, cOr, cNeg, seqS, nilS, ifS, mv, op, fz, consM, nilM, cLst, cTup, asgS, setV, dropS, forS, cIt, cFn, rstO, rst1, g1, g2, cIf, shrs, fnG, cMt, cMu, wipeE, backE, List.getD, peek, cMuN, List.range_succ, g__law_spelled, b__law_spelled, i_str h, isS, isName]
/-! ### rows -/
def rowB : D → Bool
  | .tup xs => xs.all isName
  | _ => false
theorem q_names (xs : List D) (h : ∀ d ∈ xs, itOk d) (hl : xs.length ≤ sizeLine) : q_is_names_0 [some (.d (.tup xs)), none] = some (.lst (xs.map fun d => .d (.bl (isName d))), [some (.d (.tup xs)), none]) := by
  have e0 : cIt (tmp (nf 0)) [some (.d (.tup xs)), none] = some ((xs, (.d (.tup xs), none)), [some (.d (.tup xs)), none]) := by simp [bndS, bnd, TL.ret, lift, rstAll, rst, startE, retS, keepE, fxL, O.shr, cCall, consO, nilO, tmp, nf, con, cBin, cChain, vAnd, vOr, vB, cNot, asB, cAnd, cOr, cNeg, seqS, nilS, ifS, mv, op, fz, consM, nilM, cLst, cTup, asgS, setV, dropS, forS, cIt, cFn, rstO, rst1, g1, g2, cIf, shrs, fnG, cMt, cMu, wipeE, backE, List.getD, peek, cMuN, List.range_succ, itO, asQ, asT]
  refine compM_ok e0 rfl (compL_map (fun d => .d (.bl (isName d))) xs fun d hd => ?_) (by rw [List.length_map]; exact hl) (by simp [bndS, bnd, TL.ret, lift, rstAll, rst, startE, retS, keepE, fxL, O.shr, cCall, consO, nilO, tmp, nf, con, cBin, cChain, vAnd, vOr, vB, cNot, asB, cAnd, cOr, cNeg, seqS, nilS, ifS, mv, op, fz, consM, nilM, cLst, cTup, asgS, setV, dropS, forS, cIt, cFn, rstO, rst1, g1, g2, cIf, shrs, fnG, cMt, cMu, wipeE, backE, List.getD, peek, cMuN, List.range_succ, ])
  have k := one_name d (h d hd).1 fun x e => ((h d hd).2.1 x e).1
  exact ⟨[some (.d (.tup xs)), some (.d d)], [some (.d (.tup xs)), some (.d d)], [some (.d (.tup xs)), some (.d d)], by simp [bndS, bnd, TL.ret, lift, rstAll, rst, startE, retS, keepE, fxL, O.shr, cCall, consO, nilO, tmp, nf, con, cBin, cChain, vAnd, vOr, vB, cNot, asB, cAnd, cOr, cNeg, seqS, nilS, ifS, mv, op, fz, consM, nilM, cLst, cTup, asgS, setV, dropS, forS, cIt, cFn, rstO, rst1, g1, g2, cIf, shrs, fnG, cMt, cMu, wipeE, backE, List.getD, peek, cMuN, List.range_succ, ], by simp [bndS, bnd, TL.ret, lift, rstAll, rst, startE, retS, keepE, fxL, O.shr, cCall, consO, nilO, tmp, nf, con, cBin, cChain, vAnd, vOr, vB, cNot, asB, cAnd, cOr, cNeg, seqS, nilS, ifS, mv, op, fz, consM, nilM, cLst, cTup, asgS, setV, dropS, forS, cIt, cFn, rstO, rst1, g1, g2, cIf, shrs, fnG, cMt, cMu, wipeE, backE, List.getD, peek, cMuN, List.range_succ, ], by simp [bndS, bnd, TL.ret, lift, rstAll, rst, startE, retS, keepE, fxL, O.shr, cCall, consO, nilO, tmp, nf, con, cBin, cChain, vAnd, vOr, vB, cNot, asB, cAnd, cOr, cNeg, seqS, nilS, ifS, mv, op, fz, consM, nilM, cLst, cTup, asgS, setV, dropS, forS, cIt, cFn, rstO, rst1, g1, g2, cIf, shrs, fnG, cMt, cMu, wipeE, backE, List.getD, peek, cMuN, List.range_succ, k], by simp [bndS, bnd, TL.ret, lift, rstAll, rst, startE, retS, keepE, fxL, O.shr, cCall, consO, nilO, tmp, nf, con, cBin, cChain, vAnd, vOr, vB, cNot, asB, cAnd, cOr, cNeg, seqS, nilS, ifS, mv, op, fz, consM, nilM, cLst, cTup, asgS, setV, dropS, forS, cIt, cFn, rstO, rst1, g1, g2, cIf, shrs, fnG, cMt, cMu, wipeE, backE, List.getD, peek, cMuN, List.range_succ, ]⟩
theorem q_row (xs : List D) (h : ∀ d ∈ xs, itOk d) (hl : xs.length ≤ sizeLine) : q__law_is_name_row_0 [some (.d (.tup xs)), none] = some (.lst ((xs.filter fun d => !isName d).map O.d), [some (.d (.tup xs)), none]) := by
  have e0 : cIt (tmp (nf 0)) [some (.d (.tup xs)), none] = some ((xs, (.d (.tup xs), none)), [some (.d (.tup xs)), none]) := by simp [bndS, bnd, TL.ret, lift, rstAll, rst, startE, retS, keepE, fxL, O.shr, cCall, consO, nilO, tmp, nf, con, cBin, cChain, vAnd, vOr, vB, cNot, asB, cAnd, cOr, cNeg, seqS, nilS, ifS, mv, op, fz, consM, nilM, cLst, cTup, asgS, setV, dropS, forS, cIt, cFn, rstO, rst1, g1, g2, cIf, shrs, fnG, cMt, cMu, wipeE, backE, List.getD, peek, cMuN, List.range_succ, itO, asQ, asT]
  refine compM_ok e0 rfl (compL_filter (fun d => !isName d) O.d xs fun d hd => ?_) ?_ (by simp [bndS, bnd, TL.ret, lift, rstAll, rst, startE, retS, keepE, fxL, O.shr, cCall, consO, nilO, tmp, nf, con, cBin, cChain, vAnd, vOr, vB, cNot, asB, cAnd, cOr, cNeg, seqS, nilS, ifS, mv, op, fz, consM, nilM, cLst, cTup, asgS, setV, dropS, forS, cIt, cFn, rstO, rst1, g1, g2, cIf, shrs, fnG, cMt, cMu, wipeE, backE, List.getD, peek, cMuN, List.range_succ, ])
  · have k := one_spelled d (h d hd).1 (h d hd).2.1
    exact ⟨[some (.d (.tup xs)), some (.d d)], [some (.d (.tup xs)), some (.d d)], by simp [bndS, bnd, TL.ret, lift, rstAll, rst, startE, retS, keepE, fxL, O.shr, cCall, consO, nilO, tmp, nf, con, cBin, cChain, vAnd, vOr, vB, cNot, asB, cAnd, cOr, cNeg, seqS, nilS, ifS, mv, op, fz, consM, nilM, cLst, cTup, asgS, setV, dropS, forS, cIt, cFn, rstO, rst1, g1, g2, cIf, shrs, fnG, cMt, cMu, wipeE, backE, List.getD, peek, cMuN, List.range_succ, ], by simp [bndS, bnd, TL.ret, lift, rstAll, rst, startE, retS, keepE, fxL, O.shr, cCall, consO, nilO, tmp, nf, con, cBin, cChain, vAnd, vOr, vB, cNot, asB, cAnd, cOr, cNeg, seqS, nilS, ifS, mv, op, fz, consM, nilM, cLst, cTup, asgS, setV, dropS, forS, cIt, cFn, rstO, rst1, g1, g2, cIf, shrs, fnG, cMt, cMu, wipeE, backE, List.getD, peek, cMuN, List.range_succ, k], fun _ => ⟨[some (.d (.tup xs)), some (.d d)], by simp [bndS, bnd, TL.ret, lift, rstAll, rst, startE, retS, keepE, fxL, O.shr, cCall, consO, nilO, tmp, nf, con, cBin, cChain, vAnd, vOr, vB, cNot, asB, cAnd, cOr, cNeg, seqS, nilS, ifS, mv, op, fz, consM, nilM, cLst, cTup, asgS, setV, dropS, forS, cIt, cFn, rstO, rst1, g1, g2, cIf, shrs, fnG, cMt, cMu, wipeE, backE, List.getD, peek, cMuN, List.range_succ, ], by simp [bndS, bnd, TL.ret, lift, rstAll, rst, startE, retS, keepE, fxL, O.shr, cCall, consO, nilO, tmp, nf, con, cBin, cChain, vAnd, vOr, vB, cNot, asB, cAnd, cOr, cNeg, seqS, nilS, ifS, mv, op, fz, consM, nilM, cLst, cTup, asgS, setV, dropS, forS, cIt, cFn, rstO, rst1, g1, g2, cIf, shrs, fnG, cMt, cMu, wipeE, backE, List.getD, peek, cMuN, List.range_succ, ]⟩, fun _ => by simp [bndS, bnd, TL.ret, lift, rstAll, rst, startE, retS, keepE, fxL, O.shr, cCall, consO, nilO, tmp, nf, con, cBin, cChain, vAnd, vOr, vB, cNot, asB, cAnd, cOr, cNeg, seqS, nilS, ifS, mv, op, fz, consM, nilM, cLst, cTup, asgS, setV, dropS, forS, cIt, cFn, rstO, rst1, g1, g2, cIf, shrs, fnG, cMt, cMu, wipeE, backE, List.getD, peek, cMuN, List.range_succ, ]⟩
  · rw [List.length_map]
    exact Nat.le_trans (List.length_filter_le _ _) hl
def valOk (v : D) : Prop := kn v = true ∧ (∀ x, v = .str x → x.length ≤ sizeLine ∧ PyData.strOk x = true) ∧ ∀ xs, v = .tup xs → xs.length ≤ 1000 ∧ ∀ d ∈ xs, itOk d
theorem sz {n : Nat} (h : n ≤ 1000) : n ≤ sizeLine := by rw [sizeLine_eq]; omega
theorem one_row (v : D) (h : valOk v) : g_is_names [.d v] = some (.d (.bl (rowB v)), [none]) := by
  have hk := h.1
  cases v with
  | tup xs =>
    obtain ⟨hl, hi⟩ := h.2.2 xs rfl
    simp [bndS, bnd, TL.ret, lift, rstAll, rst, startE, retS, keepE, fxL, O.shr, cCall, consO, nilO, tmp, nf, con, cBin, cChain, vAnd, vOr, vB, cNot, asB, cAnd, cOr, cNeg, seqS, nilS, ifS, mv, op, fz, consM, nilM, cLst, cTup, asgS, setV, dropS, forS, cIt, cFn, rstO, rst1, g1, g2, cIf, shrs, fnG, cMt, cMu, wipeE, backE, List.getD, peek, cMuN, List.range_succ, g_is_names, b_is_names, i_tup hk, isT, q_names xs hi (sz hl), all_map, rowB]
  | _ => first | (cases hk; done) | simp [bndS, bnd, TL.ret, lift, rstAll, rst, startE, retS, keepE, fxL, O.shr, cCall, consO, nilO, tmp, nf, con, cBin, cChain, vAnd, vOr, vB, cNot, asB, cAnd, cOr, cNeg, seqS, nilS, ifS, mv, op, fz, consM, nilM, cLst, cTup, asgS, setV, dropS, forS, cIt, cFn, rstO, rst1, g1, g2, cIf, shrs, fnG, cMt, cMu, wipeE, backE, List.getD, peek, cMuN, List.range_succ, g_is_names, b_is_names, i_tup hk, isT, rowB]
theorem two_row (v : D) (h : valOk v) : g__law_is_name_row [.d v] = some (.d (.bl (rowB v)), [none]) := by
  have hk := h.1
  cases v with
  | tup xs =>
    obtain ⟨hl, hi⟩ := h.2.2 xs rfl
    have en : gEqD false (.lst ((xs.filter fun d => !isName d).map O.d)) (.lst []) = some (.d (.bl (xs.all isName))) := by
      rw [eq_nil, isEmpty_filter]
      intro d hd
      exact (hi d (List.mem_filter.mp hd).1).2.2
    simp [bndS, bnd, TL.ret, lift, rstAll, rst, startE, retS, keepE, fxL, O.shr, cCall, consO, nilO, tmp, nf, con, cBin, cChain, vAnd, vOr, vB, cNot, asB, cAnd, cOr, cNeg, seqS, nilS, ifS, mv, op, fz, consM, nilM, cLst, cTup, asgS, setV, dropS, forS, cIt, cFn, rstO, rst1, g1, g2, cIf, shrs, fnG, cMt, cMu, wipeE, backE, List.getD, peek, cMuN, List.range_succ, g__law_is_name_row, b__law_is_name_row, i_tup hk, isT, q_row xs hi (sz hl), en, rowB]
  | _ => first | (cases hk; done) | simp [bndS, bnd, TL.ret, lift, rstAll, rst, startE, retS, keepE, fxL, O.shr, cCall, consO, nilO, tmp, nf, con, cBin, cChain, vAnd, vOr, vB, cNot, asB, cAnd, cOr, cNeg, seqS, nilS, ifS, mv, op, fz, consM, nilM, cLst, cTup, asgS, setV, dropS, forS, cIt, cFn, rstO, rst1, g1, g2, cIf, shrs, fnG, cMt, cMu, wipeE, backE, List.getD, peek, cMuN, List.range_succ, g__law_is_name_row, b__law_is_name_row, i_tup hk, isT, rowB]
/-! ### sets -/
def strsOf (ss : List Str) : List D := ss.map .str
theorem names_strs : ∀ xs : List D, xs.all isName = true → ∃ ss : List Str, xs = strsOf ss ∧ ∀ s ∈ ss, nameS s = true
  | [], _ => ⟨[], rfl, fun _ h => nomatch h⟩
  | d :: xs, h => by
    simp only [List.all_cons, Bool.and_eq_true] at h
    obtain ⟨ss, h1, h2⟩ := names_strs xs h.2
    cases d with
    | str x => exact ⟨x :: ss, by rw [h1]; rfl, fun s hs => by rcases List.mem_cons.mp hs with z | z; · subst z; exact h.1
                                                               · exact h2 s z⟩
    | _ => exact absurd h.1 (by simp [isName])
def ltS (a b : Str) : Bool := decide (a.cps.toList < b.cps.toList)
def ascS : List Str → Bool
  | a :: b :: r => ltS a b && ascS (b :: r)
  | _ => true
def ltD : D → Bool
  | .tup [.str a, .str b] => ltS a b
  | _ => true
theorem asc_all : ∀ ss : List Str, ((pairs (strsOf ss) (strsOf ss).tail).all ltD) = ascS ss
  | [] => rfl
  | [a] => rfl
  | a :: b :: r => by
    have ih := asc_all (b :: r)
    have e : pairs (strsOf (a :: b :: r)) (strsOf (a :: b :: r)).tail = .tup [.str a, .str b] :: pairs (strsOf (b :: r)) (strsOf (b :: r)).tail := rfl
    rw [e, List.all_cons, ih]
    rfl
theorem cut_tail {α : Type} (xs : List α) : cutD xs (some 1) none = xs.drop 1 := by
  unfold cutD
  rw [show HT.sIx xs.length 0 (some 1) = min 1 xs.length from HT.sIx_nat xs.length 0 1, HT.sIx_none]
  cases xs with
  | nil => rfl
  | cons x r =>
    have e : min 1 (x :: r).length = 1 := by simp
    rw [e]
    simp
theorem pair_mem : ∀ (as bs : List Str) (d : D), d ∈ pairs (strsOf as) (strsOf bs) → ∃ a b, d = .tup [.str a, .str b]
  | [], _, _, h => by cases h
  | _ :: _, [], _, h => by cases h
  | a :: as, b :: bs, d, h => by
    have h : d ∈ (D.tup [.str a, .str b] :: pairs (strsOf as) (strsOf bs)) := h
    rcases List.mem_cons.mp h with z | z
    · exact ⟨a, b, z⟩
    · exact pair_mem as bs d z
theorem drop_strs (ss : List Str) : (strsOf ss).tail = strsOf ss.tail := by cases ss <;> rfl
theorem q_asc (ss : List Str) (hl : ss.length ≤ sizeLine) : q_are_ascending_0 [some (.d (.tup (strsOf ss))), none, none] = some (.lst ((pairs (strsOf ss) (strsOf ss).tail).map fun d => .d (.bl (ltD d))), [some (.d (.tup (strsOf ss))), none, none]) := by
  have e0 : cZip (consM (nf 0) (consM (fz (cSl (tmp (nf 0)) (asI (con (.int 1))) (TL.ret none))) nilM)) [some (.d (.tup (strsOf ss))), none, none] = some ((pairs (strsOf ss) (strsOf ss).tail, noneO), [some (.d (.tup (strsOf ss))), none, none]) := by
    simp [bndS, bnd, TL.ret, lift, rstAll, rst, startE, retS, keepE, fxL, O.shr, cCall, consO, nilO, tmp, nf, con, cBin, cChain, vAnd, vOr, vB, cNot, asB, cAnd, cOr, cNeg, seqS, nilS, ifS, mv, op, fz, consM, nilM, cLst, cTup, asgS, setV, dropS, forS, cIt, cFn, rstO, rst1, g1, g2, cIf, shrs, fnG, cMt, cMu, wipeE, backE, List.getD, peek, cMuN, List.range_succ, cZip, cSl, asI, gSl, asT, zipO, cut_tail]
  refine compM_ok e0 rfl (compL_map (fun d => .d (.bl (ltD d))) _ fun d hd => ?_) ?_ (by simp [bndS, bnd, TL.ret, lift, rstAll, rst, startE, retS, keepE, fxL, O.shr, cCall, consO, nilO, tmp, nf, con, cBin, cChain, vAnd, vOr, vB, cNot, asB, cAnd, cOr, cNeg, seqS, nilS, ifS, mv, op, fz, consM, nilM, cLst, cTup, asgS, setV, dropS, forS, cIt, cFn, rstO, rst1, g1, g2, cIf, shrs, fnG, cMt, cMu, wipeE, backE, List.getD, peek, cMuN, List.range_succ, noneO])
  · rw [drop_strs] at hd
    obtain ⟨a, b, rfl⟩ := pair_mem _ _ _ hd
    have hlt : gLt (.d (.str a)) (.d (.str b)) = some (.d (.bl (ltS a b))) := rfl
    let e1 : TL.Env := [some (.d (.tup (strsOf ss))), some (.d (.str a)), some (.d (.str b))]
    exact ⟨e1, e1, e1, by simp [bndS, bnd, TL.ret, lift, rstAll, rst, startE, retS, keepE, fxL, O.shr, cCall, consO, nilO, tmp, nf, con, cBin, cChain, vAnd, vOr, vB, cNot, asB, cAnd, cOr, cNeg, seqS, nilS, ifS, mv, op, fz, consM, nilM, cLst, cTup, asgS, setV, dropS, forS, cIt, cFn, rstO, rst1, g1, g2, cIf, shrs, fnG, cMt, cMu, wipeE, backE, List.getD, peek, cMuN, List.range_succ, unpG, asQ, asT, consG, nilG, e1], by simp [bndS, bnd, TL.ret, lift, rstAll, rst, startE, retS, keepE, fxL, O.shr, cCall, consO, nilO, tmp, nf, con, cBin, cChain, vAnd, vOr, vB, cNot, asB, cAnd, cOr, cNeg, seqS, nilS, ifS, mv, op, fz, consM, nilM, cLst, cTup, asgS, setV, dropS, forS, cIt, cFn, rstO, rst1, g1, g2, cIf, shrs, fnG, cMt, cMu, wipeE, backE, List.getD, peek, cMuN, List.range_succ, ], by simp [bndS, bnd, TL.ret, lift, rstAll, rst, startE, retS, keepE, fxL, O.shr, cCall, consO, nilO, tmp, nf, con, cBin, cChain, vAnd, vOr, vB, cNot, asB, cAnd, cOr, cNeg, seqS, nilS, ifS, mv, op, fz, consM, nilM, cLst, cTup, asgS, setV, dropS, forS, cIt, cFn, rstO, rst1, g1, g2, cIf, shrs, fnG, cMt, cMu, wipeE, backE, List.getD, peek, cMuN, List.range_succ, hlt, ltD, e1], by simp [bndS, bnd, TL.ret, lift, rstAll, rst, startE, retS, keepE, fxL, O.shr, cCall, consO, nilO, tmp, nf, con, cBin, cChain, vAnd, vOr, vB, cNot, asB, cAnd, cOr, cNeg, seqS, nilS, ifS, mv, op, fz, consM, nilM, cLst, cTup, asgS, setV, dropS, forS, cIt, cFn, rstO, rst1, g1, g2, cIf, shrs, fnG, cMt, cMu, wipeE, backE, List.getD, peek, cMuN, List.range_succ, e1]⟩
  · rw [List.length_map]
    unfold pairs strsOf
    rw [List.length_zipWith, List.length_map]
    omega
theorem one_asc (ss : List Str) (hl : ss.length ≤ sizeLine) : g_are_ascending [.d (.tup (strsOf ss))] = some (.d (.bl (ascS ss)), [none]) := by
  simp [bndS, bnd, TL.ret, lift, rstAll, rst, startE, retS, keepE, fxL, O.shr, cCall, consO, nilO, tmp, nf, con, cBin, cChain, vAnd, vOr, vB, cNot, asB, cAnd, cOr, cNeg, seqS, nilS, ifS, mv, op, fz, consM, nilM, cLst, cTup, asgS, setV, dropS, forS, cIt, cFn, rstO, rst1, g1, g2, cIf, shrs, fnG, cMt, cMu, wipeE, backE, List.getD, peek, cMuN, List.range_succ, g_are_ascending, b_are_ascending, q_asc ss hl, all_map, asc_all]
def setB : D → Bool
  | .tup xs => xs.all isName && (pairs xs xs.tail).all ltD
  | _ => false
theorem one_set (v : D) (h : valOk v) : g_is_set [.d v] = some (.d (.bl (setB v)), [none]) := by
  have hr := one_row v h
  cases v with
  | tup xs =>
    obtain ⟨hl, hi⟩ := h.2.2 xs rfl
    cases c : xs.all isName with
    | false => simp [bndS, bnd, TL.ret, lift, rstAll, rst, startE, retS, keepE, fxL, O.shr, cCall, consO, nilO, tmp, nf, con, cBin, cChain, vAnd, vOr, vB, cNot, asB, cAnd, cOr, cNeg, seqS, nilS, ifS, mv, op, fz, consM, nilM, cLst, cTup, asgS, setV, dropS, forS, cIt, cFn, rstO, rst1, g1, g2, cIf, shrs, fnG, cMt, cMu, wipeE, backE, List.getD, peek, cMuN, List.range_succ, g_is_set, b_is_set, hr, rowB, setB, c]
    | true =>
      obtain ⟨ss, rfl, _⟩ := names_strs xs c
      have hl' : ss.length ≤ sizeLine := sz (by unfold strsOf at hl; rw [List.length_map] at hl; exact hl)
      simp [bndS, bnd, TL.ret, lift, rstAll, rst, startE, retS, keepE, fxL, O.shr, cCall, consO, nilO, tmp, nf, con, cBin, cChain, vAnd, vOr, vB, cNot, asB, cAnd, cOr, cNeg, seqS, nilS, ifS, mv, op, fz, consM, nilM, cLst, cTup, asgS, setV, dropS, forS, cIt, cFn, rstO, rst1, g1, g2, cIf, shrs, fnG, cMt, cMu, wipeE, backE, List.getD, peek, cMuN, List.range_succ, g_is_set, b_is_set, hr, rowB, setB, c, one_asc ss hl', asc_all]
  | _ => simp [bndS, bnd, TL.ret, lift, rstAll, rst, startE, retS, keepE, fxL, O.shr, cCall, consO, nilO, tmp, nf, con, cBin, cChain, vAnd, vOr, vB, cNot, asB, cAnd, cOr, cNeg, seqS, nilS, ifS, mv, op, fz, consM, nilM, cLst, cTup, asgS, setV, dropS, forS, cIt, cFn, rstO, rst1, g1, g2, cIf, shrs, fnG, cMt, cMu, wipeE, backE, List.getD, peek, cMuN, List.range_succ, g_is_set, b_is_set, hr, rowB, setB]
/-! ### sorted(set(..)) of names -/
theorem pys_strs : ∀ ss : List Str, pys (strsOf ss) = some (ss.map PyData.str)
  | [] => rfl
  | s :: ss => by
    have ih := pys_strs ss
    unfold strsOf at ih ⊢
    simp [pys, D.py, ih]
theorem lay_strs : ∀ ss : List Str, (∀ s ∈ ss, PyData.strOk s = true) → PyData.canLayAll0 (ss.map PyData.str) = true ∧ PyData.depthAll (ss.map PyData.str) = 0
  | [], _ => ⟨rfl, by simp [PyData.depthAll]⟩
  | s :: ss, h => by
    obtain ⟨a, b⟩ := lay_strs ss fun s hs => h s (by simp [hs])
    exact ⟨by simp [PyData.canLayAll0, PyData.canLay0, h s (by simp), a], by simp [PyData.depthAll, PyData.depth, b]⟩
theorem eqv_strs : ∀ a b : List Str, PyData.eqvAll (a.map PyData.str) (b.map PyData.str) = decide (a = b)
  | [], [] => by simp [PyData.eqvAll]
  | [], _ :: _ => by simp [PyData.eqvAll]
  | _ :: _, [] => by simp [PyData.eqvAll]
  | x :: a, y :: b => by
    simp only [List.map_cons, PyData.eqvAll, PyData.eqv, eqv_strs a b]
    rw [Bool.eq_iff_iff]
    simp
theorem eq_strs (a b : List Str) (ha : ∀ s ∈ a, PyData.strOk s = true) (hb : ∀ s ∈ b, PyData.strOk s = true) : gEqD false (.lst ((strsOf a).map O.d)) (.lst ((strsOf b).map O.d)) = some (.d (.bl (decide (a = b)))) := by
  obtain ⟨a1, a2⟩ := lay_strs a ha
  obtain ⟨b1, b2⟩ := lay_strs b hb
  have e1 : (O.lst ((strsOf a).map O.d)).shr.py = some (.list (a.map PyData.str)) := by rw [O.shr, shrs_d, D.py, pys_strs]
  have e2 : (O.lst ((strsOf b).map O.d)).shr.py = some (.list (b.map PyData.str)) := by rw [O.shr, shrs_d, D.py, pys_strs]
  have s1 : SeqAt.shaped (.list (a.map PyData.str)) = true := by simp [SeqAt.shaped, PyData.canLay0, a1, PyData.depth, a2]
  have s2 : SeqAt.shaped (.list (b.map PyData.str)) = true := by simp [SeqAt.shaped, PyData.canLay0, b1, PyData.depth, b2]
  unfold gEqD
  simp only [e1, e2, s1, s2, Bool.and_self, if_true, Bool.false_eq_true, if_false, PyData.eqv, eqv_strs]
def krs (ss : List Str) : List Key := ss.map Sum.inr
theorem keys_strs : ∀ ss : List Str, keysO (strsOf ss) = some (krs ss)
  | [] => rfl
  | s :: ss => by
    have ih := keys_strs ss
    unfold strsOf krs at ih ⊢
    simp [keysO, keyD, ih]
theorem one_krs (ss : List Str) : oneK (krs ss) = true := by
  cases ss with
  | nil => rfl
  | cons s ss =>
    show ((krs ss).all _) = true
    unfold krs
    rw [List.all_map]
    exact List.all_eq_true.mpr fun _ _ => rfl
theorem dedup_mem {κ : Type} [DecidableEq κ] (k : κ) : ∀ (l acc : List κ), k ∈ l.foldl addK acc ↔ k ∈ acc ∨ k ∈ l
  | [], acc => by simp
  | x :: l, acc => by
    rw [List.foldl_cons, dedup_mem k l (addK acc x)]
    unfold addK
    split
    · rename_i h
      constructor
      · rintro (h1 | h1)
        · exact .inl h1
        · exact .inr (by simp [h1])
      · rintro (h1 | h1)
        · exact .inl h1
        · rcases List.mem_cons.mp h1 with z | z
          · subst z; exact .inl h
          · exact .inr z
    · simp [or_assoc]
theorem dedup_nodup {κ : Type} [DecidableEq κ] : ∀ (l acc : List κ), acc.Nodup → (l.foldl addK acc).Nodup
  | [], acc, h => h
  | x :: l, acc, h => by
    refine dedup_nodup l _ ?_
    unfold addK
    split
    · exact h
    · rename_i hn
      exact List.nodup_append.mpr ⟨h, by simp, fun a ha b hb e => by
        have hb : b = x := by simpa using hb
        subst hb; subst e; exact hn ha⟩
theorem dedup_id {κ : Type} [DecidableEq κ] : ∀ (l acc : List κ), (acc ++ l).Nodup → l.foldl addK acc = acc ++ l
  | [], acc, _ => by simp
  | x :: l, acc, h => by
    have hn : x ∉ acc := fun hm => by
      rw [List.nodup_append] at h
      exact h.2.2 x hm x (by simp) rfl
    rw [List.foldl_cons]
    have e : addK acc x = acc ++ [x] := by unfold addK; rw [if_neg hn]
    rw [e, dedup_id l (acc ++ [x]) (by simpa using h)]
    simp
theorem inr_back : ∀ ks : List Key, (∀ k ∈ ks, ∃ s : Str, k = .inr s) → ∃ ts : List Str, ks = krs ts
  | [], _ => ⟨[], rfl⟩
  | k :: ks, h => by
    obtain ⟨s, rfl⟩ := h k (by simp)
    obtain ⟨ts, rfl⟩ := inr_back ks fun k hk => h k (by simp [hk])
    exact ⟨s :: ts, rfl⟩
theorem keyLe_str (a b : Str) : keyLe (.inr a) (.inr b) = decide (a.cps.toList ≤ b.cps.toList) := congrFun (congrFun (PySem.W.dataLe_str (id : Str → Str)) a) b
theorem asc_pair : ∀ ss : List Str, ascS ss = true ↔ (krs ss).Pairwise fun a b => keyLe a b = true ∧ a ≠ b
  | [] => by simp [ascS, krs]
  | [a] => by simp [ascS, krs]
  | a :: b :: r => by
    have ih := asc_pair (b :: r)
    show (ltS a b && ascS (b :: r)) = true ↔ ((Sum.inr a : Key) :: krs (b :: r)).Pairwise _
    rw [Bool.and_eq_true, ih, List.pairwise_cons]
    have lt_iff : ltS a b = true ↔ (keyLe (.inr a) (.inr b) = true ∧ (Sum.inr a : Key) ≠ .inr b) := by
      rw [keyLe_str, decide_eq_true_eq]
      unfold ltS
      rw [decide_eq_true_eq]
      constructor
      · intro h
        exact ⟨List.le_of_lt h, fun e => by cases e; exact List.lt_irrefl _ h⟩
      · rintro ⟨h1, h2⟩
        refine Classical.byContradiction fun hn => h2 ?_
        have h3 := List.not_lt.mp hn
        exact congrArg Sum.inr (Str.ext' (Array.toList_inj.mp (List.le_antisymm h1 h3)))
    constructor
    · rintro ⟨h1, h2⟩
      obtain ⟨h3, h4⟩ := lt_iff.mp h1
      refine ⟨fun k hk => ?_, h2⟩
      have hk : k ∈ (Sum.inr b : Key) :: krs r := hk
      rcases List.mem_cons.mp hk with z | z
      · subst z; exact ⟨h3, h4⟩
      · have h2' : ((Sum.inr b : Key) :: krs r).Pairwise fun a b => keyLe a b = true ∧ a ≠ b := h2
        have h5 := (List.pairwise_cons.mp h2').1 k z
        obtain ⟨c, _, rfl⟩ := List.mem_map.mp z
        refine ⟨keyLe_total.trans _ _ _ h3 h5.1, fun e => ?_⟩
        cases e
        exact h4 (keyLe_antisymm (fun _ _ z => nomatch z.1) (fun _ _ z => nomatch z.2) h3 h5.1)
    · rintro ⟨h1, h2⟩
      exact ⟨lt_iff.mpr (h1 _ (by simp [krs])), h2⟩
theorem sort_asc (ss : List Str) : decide (krs ss = sortK (dedupK (krs ss))) = ascS ss := by
  rw [Bool.eq_iff_iff, decide_eq_true_eq, asc_pair]
  constructor
  · intro h
    rw [h]
    have h1 := PySem.W.sort_pairwise keyLe_total (dedupK (krs ss))
    have h2 : (sortK (dedupK (krs ss))).Nodup := ((List.mergeSort_perm _ _).nodup_iff).mpr (dedup_nodup _ _ List.nodup_nil)
    exact h1.and h2
  · intro h
    have nd : (krs ss).Nodup := h.imp fun h => h.2
    have e : dedupK (krs ss) = krs ss := by
      have := dedup_id (krs ss) [] (by simpa using nd)
      simpa [dedupK] using this
    rw [e]
    refine List.Perm.eq_of_pairwise (le := fun a b => keyLe a b = true) (fun a b ha hb h1 h2 => ?_) (h.imp fun h => h.1) (PySem.W.sort_pairwise keyLe_total _) (List.mergeSort_perm _ _).symm
    have hb := (List.mergeSort_perm _ _).mem_iff.mp hb
    obtain ⟨x, y⟩ := oneK_mem (one_krs ss) ha hb
    exact keyLe_antisymm x y h1 h2
theorem dedup_krs (ss : List Str) : ∃ ts, dedupK (krs ss) = krs ts ∧ ts.length ≤ ss.length := by
  obtain ⟨ts, h⟩ := inr_back (dedupK (krs ss)) fun k hk => by
    have := (dedup_mem k (krs ss) []).mp hk
    rcases this with z | z
    · cases z
    · obtain ⟨c, _, rfl⟩ := List.mem_map.mp z
      exact ⟨c, rfl⟩
  refine ⟨ts, h, ?_⟩
  have := fold_len (krs ss) []
  have e : (dedupK (krs ss)).length = ts.length := by rw [h]; simp [krs]
  unfold dedupK at e
  rw [e] at this
  simpa [krs] using this
theorem sort_krs (ss : List Str) : ∃ ts, sortK (dedupK (krs ss)) = krs ts ∧ ∀ t ∈ ts, t ∈ ss := by
  have mem : ∀ k, k ∈ sortK (dedupK (krs ss)) → k ∈ krs ss := fun k hk => by
    have hk := (List.mergeSort_perm _ _).mem_iff.mp hk
    rcases (dedup_mem k (krs ss) []).mp hk with z | z
    · cases z
    · exact z
  obtain ⟨ts, h⟩ := inr_back (sortK (dedupK (krs ss))) fun k hk => by
    obtain ⟨c, _, rfl⟩ := List.mem_map.mp (mem k hk)
    exact ⟨c, rfl⟩
  refine ⟨ts, h, fun t ht => ?_⟩
  have := mem (.inr t) (by rw [h]; exact List.mem_map.mpr ⟨t, ht, rfl⟩)
  obtain ⟨c, hc, e⟩ := List.mem_map.mp this
  cases e; exact hc
theorem krs_inj {a b : List Str} (h : krs a = krs b) : a = b := by
  unfold krs at h
  exact (List.map_inj_right (fun x y e => Sum.inr.inj e)).mp h
theorem name_ok {s : Str} (h : nameS s = true) : PyData.strOk s = true := by
  unfold nameS at h
  simp only [Bool.and_eq_true] at h
  unfold PyData.strOk
  rw [Array.all_eq_true_iff_forall_mem]
  intro c hc
  have := List.all_eq_true.mp h.2 c (Array.mem_toList_iff.mpr hc)
  unfold low at this
  simp only [Bool.and_eq_true, decide_eq_true_eq] at this
  simp only [decide_eq_true_eq]
  omega
theorem two_set (v : D) (h : valOk v) : g__law_is_name_set [.d v] = some (.d (.bl (setB v)), [none]) := by
  have hr := two_row v h
  cases v with
  | tup xs =>
    obtain ⟨hl, hi⟩ := h.2.2 xs rfl
    cases c : xs.all isName with
    | false => simp [bndS, bnd, TL.ret, lift, rstAll, rst, startE, retS, keepE, fxL, O.shr, cCall, consO, nilO, tmp, nf, con, cBin, cChain, vAnd, vOr, vB, cNot, asB, cAnd, cOr, cNeg, seqS, nilS, ifS, mv, op, fz, consM, nilM, cLst, cTup, asgS, setV, dropS, forS, cIt, cFn, rstO, rst1, g1, g2, cIf, shrs, fnG, cMt, cMu, wipeE, backE, List.getD, peek, cMuN, List.range_succ, g__law_is_name_set, b__law_is_name_set, hr, rowB, setB, c]
    | true =>
      obtain ⟨ss, rfl, hn⟩ := names_strs xs c
      have hl2 : ss.length ≤ 1000 := by unfold strsOf at hl; rw [List.length_map] at hl; exact hl
      obtain ⟨ts, ht, _⟩ := dedup_krs ss
      obtain ⟨us, hu, hm⟩ := sort_krs ss
      have o1 : oneK (dedupK (krs ss)) = true := by rw [ht]; exact one_krs ts
      have e1 : gSortSet (.d (.tup (strsOf ss))) = some (.lst ((strsOf us).map O.d)) := by
        unfold gSortSet
        have eq : asQ (.d (.tup (strsOf ss))) = some (strsOf ss) := rfl
        simp only [eq, keys_strs, o1, Bool.true_and, decide_eq_true_eq]
        rw [if_pos (by unfold krs scanBound; rw [List.length_map]; omega), hu]
        unfold krs strsOf
        rw [List.map_map, List.map_map]
        rfl
      have e2 : gListA [.d (.tup (strsOf ss))] = some (.lst ((strsOf ss).map O.d)) := rfl
      have e3 := eq_strs ss us (fun s hs => name_ok (hn s hs)) (fun s hs => name_ok (hn s (hm s hs)))
      have e4 : decide (ss = us) = ascS ss := by
        rw [← sort_asc, hu, Bool.eq_iff_iff, decide_eq_true_eq, decide_eq_true_eq]
        exact ⟨fun e => by rw [e], krs_inj⟩
      simp [bndS, bnd, TL.ret, lift, rstAll, rst, startE, retS, keepE, fxL, O.shr, cCall, consO, nilO, tmp, nf, con, cBin, cChain, vAnd, vOr, vB, cNot, asB, cAnd, cOr, cNeg, seqS, nilS, ifS, mv, op, fz, consM, nilM, cLst, cTup, asgS, setV, dropS, forS, cIt, cFn, rstO, rst1, g1, g2, cIf, shrs, fnG, cMt, cMu, wipeE, backE, List.getD, peek, cMuN, List.range_succ, g__law_is_name_set, b__law_is_name_set, hr, rowB, setB, c, cSortSet, e1, e2, e3, e4, asc_all]
  | _ => simp [bndS, bnd, TL.ret, lift, rstAll, rst, startE, retS, keepE, fxL, O.shr, cCall, consO, nilO, tmp, nf, con, cBin, cChain, vAnd, vOr, vB, cNot, asB, cAnd, cOr, cNeg, seqS, nilS, ifS, mv, op, fz, consM, nilM, cLst, cTup, asgS, setV, dropS, forS, cIt, cFn, rstO, rst1, g1, g2, cIf, shrs, fnG, cMt, cMu, wipeE, backE, List.getD, peek, cMuN, List.range_succ, g__law_is_name_set, b__law_is_name_set, hr, rowB, setB]
/-! ### what is drawn -/
theorem jx0 (a b c : Int) : gIx (O.lst [.d (.int (a)), .d (.int ( b)), .d (.int ( c))]) (.d (.int 0)) = some (.d (.int a)) := rfl
theorem jx1 (a b c : Int) : gIx (O.lst [.d (.int (a)), .d (.int ( b)), .d (.int ( c))]) (.d (.int 1)) = some (.d (.int b)) := rfl
theorem jx2 (a b c : Int) : gIx (O.lst [.d (.int (a)), .d (.int ( b)), .d (.int ( c))]) (.d (.int 2)) = some (.d (.int c)) := rfl
theorem js0 (a b c x : Int) : uSet (O.lst [.d (.int (a)), .d (.int ( b)), .d (.int ( c))]) (.d (.int 0)) (.d (.int x)) = some (O.lst [.d (.int (x)), .d (.int ( b)), .d (.int ( c))]) := rfl
theorem js2 (a b c x : Int) : uSet (O.lst [.d (.int (a)), .d (.int ( b)), .d (.int ( c))]) (.d (.int 2)) (.d (.int x)) = some (O.lst [.d (.int (a)), .d (.int ( b)), .d (.int ( x))]) := rfl
theorem mul_small {i j : Int} (h1 : 0 ≤ i) (h2 : i < 2 ^ 64) (h3 : 0 ≤ j) (h4 : j < 2 ^ 200) : CMulW i j := by
  refine wide_mul (a := 64) (b := 200) ?_ ?_ (by decide) (by decide) (by decide)
  · have : ((i.natAbs : Nat) : Int) < 2 ^ 64 := by omega
    exact_mod_cast this
  · have : ((j.natAbs : Nat) : Int) < 2 ^ 200 := by
      have := Int.natAbs_of_nonneg h3
      omega
    exact_mod_cast this
def Jar (n : Nat) (o : O) : Prop := ∃ a b c : Int, o = (O.lst [.d (.int (a)), .d (.int ( b)), .d (.int ( c))]) ∧ 0 ≤ c ∧ c ≤ n
theorem sip_ok {n : Nat} {o : O} {t : Int} (h : Jar n o) (hn : n < 2 ^ 60) (ht : 0 < t) (ht2 : t < 2 ^ 62) : ∃ (r : Int) (o' : O), 0 ≤ r ∧ r < t ∧ Jar (n + 1) o' ∧ g__law_sip [o, .d (.int t)] = some (.d (.int r), [some o', none]) := by
  obtain ⟨a, b, c, rfl, h1, h2⟩ := h
  have hd : CDivW a t := wide_div (b := 62) ht (by
    have : ((t.natAbs : Nat) : Int) < 2 ^ 62 := by omega
    exact_mod_cast this) (by decide) (by decide)
  have hd2 : ∀ i : Int, CDivW i 16384 := fun i => wide_div (b := 62) (by decide) (by decide) (by decide) (by decide)
  by_cases ha : 0 < a
  · refine ⟨a % t, (O.lst [.d (.int (a / t)), .d (.int ( b)), .d (.int ( c))]), Int.emod_nonneg _ (by omega), Int.emod_lt_of_pos _ ht, ⟨_, _, _, rfl, h1, by omega⟩, ?_⟩
    simp [bndS, bnd, TL.ret, lift, rstAll, rst, startE, retS, keepE, fxL, O.shr, cCall, consO, nilO, tmp, nf, con, cBin, cChain, vAnd, vOr, vB, cNot, asB, cAnd, cOr, cNeg, seqS, nilS, ifS, mv, op, fz, consM, nilM, cLst, cTup, asgS, setV, dropS, forS, cIt, cFn, rstO, rst1, g1, g2, cIf, shrs, fnG, cMt, cMu, wipeE, backE, List.getD, peek, cMuN, List.range_succ, g__law_sip, b__law_sip, jx0, gt_int, ha, int_int, mod_int ht, div_int hd, setS, js0]
  · have hc : (c + 1 : Int) < 2 ^ 61 := by omega
    have e1 : CMulW 1000409 (c + 1) := mul_small (by decide) (by decide) (by omega) (by omega)
    have e2 : CMulW 9067 (c + 1) := mul_small (by decide) (by decide) (by omega) (by omega)
    generalize hx : (b + 1000409 * (c + 1)) % 2305843009213693951 = x
    have x1 : 0 ≤ x := by omega
    have x2 : x < 2305843009213693951 := by omega
    have e3 : CMulW x x := mul_small x1 (by omega) x1 (by omega)
    generalize hy : (x * x) % 2305843009213693921 = y
    have y1 : 0 ≤ y := by omega
    have y2 : y < 2305843009213693921 := by omega
    have e4 : CMulW y x := mul_small y1 (by omega) x1 (by omega)
    refine ⟨(y * x + 9067 * (c + 1)) % 2305843009213693907 / 16384 % t, (O.lst [.d (.int (a)), .d (.int ( b)), .d (.int ( c + 1))]), Int.emod_nonneg _ (by omega), Int.emod_lt_of_pos _ ht, ⟨_, _, _, rfl, by omega, by omega⟩, ?_⟩
    simp [bndS, bnd, TL.ret, lift, rstAll, rst, startE, retS, keepE, fxL, O.shr, cCall, consO, nilO, tmp, nf, con, cBin, cChain, vAnd, vOr, vB, cNot, asB, cAnd, cOr, cNeg, seqS, nilS, ifS, mv, op, fz, consM, nilM, cLst, cTup, asgS, setV, dropS, forS, cIt, cFn, rstO, rst1, g1, g2, cIf, shrs, fnG, cMt, cMu, wipeE, backE, List.getD, peek, cMuN, List.range_succ, g__law_sip, b__law_sip, jx0, jx1, jx2, gt_int, ha, int_int, mod_int, div_int (hd2 _), setS, js2, add_int, mul_int e1, mul_int e2, hx, mul_int e3, hy, mul_int e4, ht]
/-! ### texts that are right -/
def sOk (m : Nat) (x : Str) : Prop := x.length ≤ m ∧ ∀ c ∈ x.cps.toList, c < 1114112
theorem sOk.str {m : Nat} {x : Str} (h : sOk m x) : PyData.strOk x = true := by
  unfold PyData.strOk
  rw [Array.all_eq_true_iff_forall_mem]
  intro c hc
  exact decide_eq_true (h.2 c (Array.mem_toList_iff.mpr hc))
theorem sOk.mono {m n : Nat} {x : Str} (h : sOk m x) (l : m ≤ n) : sOk n x := ⟨Nat.le_trans h.1 l, h.2⟩
theorem sOk.cat {m n : Nat} {x y : Str} (h : sOk m x) (k : sOk n y) : sOk (m + n) (x ++ y) := by
  have e : (x ++ y).cps = x.cps ++ y.cps := rfl
  refine ⟨?_, fun c hc => ?_⟩
  · show (x ++ y).cps.size ≤ _
    rw [e, Array.size_append]
    exact Nat.add_le_add h.1 k.1
  · rw [e, Array.toList_append] at hc
    exact (List.mem_append.mp hc).elim (h.2 c) (k.2 c)
theorem sOk.cut {m : Nat} {x : Str} (h : sOk m x) (lo hi : Option Int) : sOk m (cutS x lo hi) := by
  refine ⟨?_, fun c hc => h.2 c ?_⟩
  · show (cutS x lo hi).cps.size ≤ m
    unfold cutS
    rw [List.size_toArray, List.length_take, List.length_drop, Array.length_toList]
    have : x.cps.size ≤ m := h.1
    omega
  · unfold cutS at hc
    exact List.mem_of_mem_drop (List.mem_of_mem_take hc)
theorem add_str {x y : Str} (h : x.length + y.length ≤ sizeLine) : gAdd (.d (.str x)) (.d (.str y)) = some (.d (.str (x ++ y))) := by
  show orO (gI _) (orO (gS _) _) _ _ = _
  simp [orO, gI, gS, h]
theorem sl_str {x : Str} (h : x.length ≤ sizeLine) (lo hi : Option Int) : gSl (.d (.str x)) lo hi = some (.d (.str (cutS x lo hi))) := by
  simp [gSl, asT, asL, h]
theorem ixL_ok {xs : List D} {r : Int} (h1 : 0 ≤ r) (h2 : r < xs.length) : ∃ x, x ∈ xs ∧ gIx (.d (.lst xs)) (.d (.int r)) = some (.d x) := by
  obtain ⟨j, rfl⟩ := Int.eq_ofNat_of_zero_le h1
  have hj : j < xs.length := by omega
  refine ⟨xs[j], List.getElem_mem hj, ?_⟩
  have e : atI xs (j : Int) = some xs[j] := atI_nat (by simp [hj])
  show orO gIxL _ _ _ = _
  simp [orO, gIxL, e]
theorem which_ok {n : Nat} {o : O} {os : List O} {xs : List D} (h : Jar n o) (hn : n < 2 ^ 60) (hos : shrs os = xs) (hne : 0 < xs.length) (hl : xs.length < 2 ^ 60) : ∃ x o', x ∈ xs ∧ Jar (n + 1) o' ∧ g__law_which [o, .lst os] = some (.d x, [some o', none]) := by
  obtain ⟨r, o', h1, h2, h3, h4⟩ := sip_ok (t := xs.length) h hn (by omega) (by omega)
  obtain ⟨x, hx, e⟩ := ixL_ok h1 h2
  refine ⟨x, o', hx, h3, ?_⟩
  obtain ⟨a, b, c, rfl, _⟩ := h
  simp [bndS, bnd, TL.ret, lift, rstAll, rst, startE, retS, keepE, fxL, O.shr, cCall, consO, nilO, tmp, nf, con, cBin, cChain, vAnd, vOr, vB, cNot, asB, cAnd, cOr, cNeg, seqS, nilS, ifS, mv, op, fz, consM, nilM, cLst, cTup, asgS, setV, dropS, forS, cIt, cFn, rstO, rst1, g1, g2, cIf, shrs, fnG, cMt, cMu, wipeE, backE, List.getD, peek, cMuN, List.range_succ, g__law_which, b__law_which, hos, gLen, lenO, h4, e]
theorem join_cps : ∀ (zs : List Str) (c : Nat), c ∈ (Str.join "" zs).cps.toList → ∃ z ∈ zs, c ∈ z.cps.toList
  | [], c, h => by cases h
  | [x], c, h => ⟨x, by simp, h⟩
  | x :: y :: r, c, h => by
    have e : (Str.join "" (x :: y :: r)).cps.toList = x.cps.toList ++ (Str.join "" (y :: r)).cps.toList := by
      have e1 : (Str.join "" (x :: y :: r)).cps = (x.cps ++ ("" : Str).cps) ++ (Str.join "" (y :: r)).cps := rfl
      rw [e1, Array.toList_append, Array.toList_append]
      have : ("" : Str).cps.toList = [] := rfl
      rw [this, List.append_nil]
    rw [e] at h
    rcases List.mem_append.mp h with h | h
    · exact ⟨x, by simp, h⟩
    · obtain ⟨z, hz, hc⟩ := join_cps (y :: r) c h
      exact ⟨z, by simp [hz], hc⟩
theorem sum_ones : ∀ zs : List Str, (∀ z ∈ zs, sOk 1 z) → (zs.map (·.length)).sum ≤ zs.length
  | [], _ => Nat.le_refl _
  | z :: zs, h => by
    have ih := sum_ones zs fun z hz => h z (by simp [hz])
    have := (h z (by simp)).1
    simp only [List.map_cons, List.sum_cons, List.length_cons]
    omega
theorem join_ok (zs : List Str) (h : ∀ z ∈ zs, sOk 1 z) : sOk zs.length (PySem.Txt.join "" zs) := by
  have e : PySem.Txt.join "" zs = Str.join "" zs := StrLaws.glued_eq_join _ _
  rw [e]
  have h0 : ("" : Str).length = 0 := rfl
  refine ⟨?_, fun c hc => ?_⟩
  · have := StrLaws.join_length_le "" zs
    rw [h0, Nat.mul_zero, Nat.add_zero] at this
    exact Nat.le_trans this (sum_ones zs h)
  · obtain ⟨z, hz, hc⟩ := join_cps zs c hc
    exact (h z hz).2 c hc
theorem strsO_strs : ∀ zs : List Str, strsO (strsOf zs) = some zs
  | [] => rfl
  | z :: zs => by
    have ih := strsO_strs zs
    unfold strsOf at ih ⊢
    simp [strsO, ih]
theorem join_list (zs : List Str) (h : ∀ z ∈ zs, sOk 1 z) (hl : zs.length ≤ 1000) : gJoin (.d (.str "")) [.lst ((strsOf zs).map O.d)] = some (.d (.str (PySem.Txt.join "" zs))) := by
  have eq : asQ (.lst ((strsOf zs).map O.d)) = some (strsOf zs) := by
    have := dOnly_map (fun d : D => d) (strsOf zs)
    rw [List.map_id'] at this
    exact this
  have hs := sum_ones zs h
  have h0 : ("" : Str).length = 0 := rfl
  simp only [gJoin, eq, strsO_strs, h0, Nat.mul_zero, Nat.add_zero]
  rw [if_pos (by omega)]
/-! ### comprehensions that change places -/
theorem compL_ind {g : G} {t : M Bool} {f : M O} {vs : List Nat} (N : Nat) (P : Nat → TL.Env → Prop) (R : O → Prop) : ∀ (ds : List D) (i : Nat) (e : TL.Env), (∀ d ∈ ds, ∀ j e, j < N → P j e → ∃ e1 e2 e3 o, g (.d d) e = some e1 ∧ t e1 = some (true, e2) ∧ f e2 = some (o, e3) ∧ R o ∧ P (j + 1) (wipeE e3 vs)) → P i e → i + ds.length ≤ N →
    ∃ os e', compL g t f vs ds e = some (os, e') ∧ os.length = ds.length ∧ (∀ o ∈ os, R o) ∧ P (i + ds.length) e'
  | [], i, e, _, p, _ => ⟨[], e, rfl, rfl, fun _ h => (nomatch h), p⟩
  | d :: ds, i, e, h, p, l => by
    rw [List.length_cons] at l
    obtain ⟨e1, e2, e3, o, h1, h2, h3, h4, h5⟩ := h d (by simp) i e (by omega) p
    obtain ⟨os, e', q1, q2, q3, q4⟩ := compL_ind N P R ds (i + 1) _ (fun d hd => h d (by simp [hd])) h5 (by omega)
    refine ⟨o :: os, e', by simp [compL, h1, h2, h3, q1], by simp [q2], fun x hx => ?_, by rw [List.length_cons, show i + (ds.length + 1) = i + 1 + ds.length by omega]; exact q4⟩
    rcases List.mem_cons.mp hx with z | z
    · subst z; exact h4
    · exact q3 x z
def oneS (o : O) : Prop := ∃ z, o = .d (.str z) ∧ sOk 1 z
theorem ones_strs : ∀ os : List O, (∀ o ∈ os, oneS o) → ∃ zs : List Str, os = (strsOf zs).map O.d ∧ (∀ z ∈ zs, sOk 1 z) ∧ zs.length = os.length
  | [], _ => ⟨[], rfl, fun _ h => (nomatch h), rfl⟩
  | o :: os, h => by
    obtain ⟨z, rfl, hz⟩ := h o (by simp)
    obtain ⟨zs, h1, h2, h3⟩ := ones_strs os fun o ho => h o (by simp [ho])
    refine ⟨z :: zs, by rw [h1]; rfl, fun y hy => ?_, by simp [h3]⟩
    rcases List.mem_cons.mp hy with e | e
    · subst e; exact hz
    · exact h2 y e
theorem alpha_at (r : Int) (h1 : 0 ≤ r) (h2 : r < 26) : ∃ c : Nat, low c = true ∧ gIx (.d (.str "abcdefghijklmnopqrstuvwxyz")) (.d (.int r)) = some (.d (.str ⟨#[c]⟩)) := by
  obtain ⟨j, rfl⟩ := Int.eq_ofNat_of_zero_le h1
  have hl : ("abcdefghijklmnopqrstuvwxyz" : Str).cps.toList.length = 26 := by decide +kernel
  have hj : j < ("abcdefghijklmnopqrstuvwxyz" : Str).cps.toList.length := by omega
  refine ⟨("abcdefghijklmnopqrstuvwxyz" : Str).cps.toList[j], (mem_alpha _).mp (List.getElem_mem hj), ?_⟩
  have e : atI ("abcdefghijklmnopqrstuvwxyz" : Str).cps.toList (j : Int) = some ("abcdefghijklmnopqrstuvwxyz" : Str).cps.toList[j] := atI_nat (by simp)
  have hz : ("abcdefghijklmnopqrstuvwxyz" : Str).length ≤ sizeLine := by decide +kernel
  show orO gIxL (orO gIxT (orO gIxS gIxD)) _ _ = _
  simp only [orO, gIxL, gIxT, gIxS, e, hz, if_true, Option.map]
theorem letter_ok {n : Nat} {o : O} (h : Jar n o) (hn : n < 2 ^ 60) : ∃ (c : Nat) (o' : O), low c = true ∧ Jar (n + 1) o' ∧ g__law_letter [o] = some (.d (.str ⟨#[c]⟩), [some o']) := by
  obtain ⟨r, o', h1, h2, h3, h4⟩ := sip_ok (t := 26) h hn (by decide) (by decide)
  obtain ⟨c, hc, e⟩ := alpha_at r h1 h2
  refine ⟨c, o', hc, h3, ?_⟩
  obtain ⟨a, b, c, rfl, _⟩ := h
  simp [bndS, bnd, TL.ret, lift, rstAll, rst, startE, retS, keepE, fxL, O.shr, cCall, consO, nilO, tmp, nf, con, cBin, cChain, vAnd, vOr, vB, cNot, asB, cAnd, cOr, cNeg, seqS, nilS, ifS, mv, op, fz, consM, nilM, cLst, cTup, asgS, setV, dropS, forS, cIt, cFn, rstO, rst1, g1, g2, cIf, shrs, fnG, cMt, cMu, wipeE, backE, List.getD, peek, cMuN, List.range_succ, g__law_letter, b__law_letter, h4, e]
theorem pop_ok {os : List O} {r : Int} (h1 : 0 ≤ r) (h2 : r < os.length) (h3 : os.length < 2 ^ 60) : ∃ o, o ∈ os ∧ uPop (.lst os) [.d (.int r)] = some (o, .lst (os.eraseIdx r.toNat)) := by
  obtain ⟨j, rfl⟩ := Int.eq_ofNat_of_zero_le h1
  have hj : j < os.length := by omega
  refine ⟨os[j], List.getElem_mem hj, ?_⟩
  have c : -(2 ^ 63) ≤ (j : Int) ∧ (j : Int) < 2 ^ 63 := by omega
  have e : seqIndex? (j : Int) os.length = some j := by
    unfold seqIndex?
    have : ¬ ((j : Int) < 0) := by omega
    simp [this, hj]
  unfold uPop
  simp only [c, and_self, if_true, e, List.getElem?_eq_getElem hj, Int.toNat_natCast]
abbrev alph : Str := "abcdefghijklmnopqrstuvwxyz"
theorem chars_one : ∀ o ∈ (chars alph).map O.d, oneS o := by
  intro o ho
  obtain ⟨d, hd, rfl⟩ := List.mem_map.mp ho
  obtain ⟨c, hc, rfl⟩ := List.mem_map.mp hd
  have := (mem_alpha c).mp hc
  unfold low at this
  simp only [Bool.and_eq_true, decide_eq_true_eq] at this
  refine ⟨_, rfl, Nat.le_refl _, fun x hx => ?_⟩
  have hx : x = c := by simpa using hx
  omega
def PMix (n : Nat) (j : Nat) (e : TL.Env) : Prop := ∃ o os, e = [some o, some (.d (.str alph)), some (.lst os), none] ∧ Jar (n + j) o ∧ os.length + j = 26 ∧ ∀ x ∈ os, oneS x
theorem mixed_ok {n : Nat} {o : O} (h : Jar n o) (hn : n < 2 ^ 59) : ∃ os o', os.length = 26 ∧ (∀ x ∈ os, oneS x) ∧ Jar (n + 26) o' ∧ g__law_mixed [o, .d (.str alph)] = some (.lst os, [some o', none]) := by
  have hl : (alph : Str).length = 26 := by decide +kernel
  have gl : gLen [.d (.str alph)] = some (.d (.int 26)) := by rw [len_str (by rw [hl]; decide)]; rw [hl]; rfl
  have rl : (rng 0 26).length = 26 := by unfold rng; simp
  have cl : ((chars alph).map O.d).length = 26 := by rw [List.length_map, chars_len, hl]
  let e0 : TL.Env := [some o, some (.d (.str alph)), some (.lst ((chars alph).map O.d)), none]
  have p0 : PMix n 0 e0 := ⟨o, _, rfl, h, by rw [cl], chars_one⟩
  obtain ⟨os, e', q1, q2, q3, q4⟩ := compL_ind (g := setV 3) (t := TL.ret true) (f := fz (cMuN "list" uPop 2 (consM (fz (cFn g__law_sip (consO (op 0) (consO (tmp (cCall gLen (consO (op 2) nilO))) nilO)))) nilM))) (vs := [3]) 26 (PMix n) oneS (rng 0 26) 0 e0 (fun d _ j e hj p => by
    obtain ⟨o1, os, rfl, hjar, ho, hone⟩ := p
    obtain ⟨r, o2, h1, h2, h3, h4⟩ := sip_ok (t := os.length) hjar (by omega) (by omega) (by omega)
    obtain ⟨x, hx, hp⟩ := pop_ok h1 h2 (by omega)
    obtain ⟨z, rfl, hz⟩ := hone x hx
    obtain ⟨a, b, c, rfl, _⟩ := hjar
    refine ⟨[some (O.lst [.d (.int (a)), .d (.int ( b)), .d (.int ( c))]), some (.d (.str alph)), some (.lst os), some (.d d)], [some (O.lst [.d (.int (a)), .d (.int ( b)), .d (.int ( c))]), some (.d (.str alph)), some (.lst os), some (.d d)], [some o2, some (.d (.str alph)), some (.lst (os.eraseIdx r.toNat)), some (.d d)], .d (.str z), by simp [bndS, bnd, TL.ret, lift, rstAll, rst, startE, retS, keepE, fxL, O.shr, cCall, consO, nilO, tmp, nf, con, cBin, cChain, vAnd, vOr, vB, cNot, asB, cAnd, cOr, cNeg, seqS, nilS, ifS, mv, op, fz, consM, nilM, cLst, cTup, asgS, setV, dropS, forS, cIt, cFn, rstO, rst1, g1, g2, cIf, shrs, fnG, cMt, cMu, wipeE, backE, List.getD, peek, cMuN, List.range_succ, ], by simp [bndS, bnd, TL.ret, lift, rstAll, rst, startE, retS, keepE, fxL, O.shr, cCall, consO, nilO, tmp, nf, con, cBin, cChain, vAnd, vOr, vB, cNot, asB, cAnd, cOr, cNeg, seqS, nilS, ifS, mv, op, fz, consM, nilM, cLst, cTup, asgS, setV, dropS, forS, cIt, cFn, rstO, rst1, g1, g2, cIf, shrs, fnG, cMt, cMu, wipeE, backE, List.getD, peek, cMuN, List.range_succ, ], by simp [bndS, bnd, TL.ret, lift, rstAll, rst, startE, retS, keepE, fxL, O.shr, cCall, consO, nilO, tmp, nf, con, cBin, cChain, vAnd, vOr, vB, cNot, asB, cAnd, cOr, cNeg, seqS, nilS, ifS, mv, op, fz, consM, nilM, cLst, cTup, asgS, setV, dropS, forS, cIt, cFn, rstO, rst1, g1, g2, cIf, shrs, fnG, cMt, cMu, wipeE, backE, List.getD, peek, cMuN, List.range_succ, tyO, gLen, lenO, h4, hp], ⟨z, rfl, hz⟩, o2, os.eraseIdx r.toNat, by simp [bndS, bnd, TL.ret, lift, rstAll, rst, startE, retS, keepE, fxL, O.shr, cCall, consO, nilO, tmp, nf, con, cBin, cChain, vAnd, vOr, vB, cNot, asB, cAnd, cOr, cNeg, seqS, nilS, ifS, mv, op, fz, consM, nilM, cLst, cTup, asgS, setV, dropS, forS, cIt, cFn, rstO, rst1, g1, g2, cIf, shrs, fnG, cMt, cMu, wipeE, backE, List.getD, peek, cMuN, List.range_succ, ], h3, ?_, fun y hy => hone y (List.mem_of_mem_eraseIdx hy)⟩
    rw [List.length_eraseIdx, if_pos (by omega)]
    omega) p0 (by omega)
  obtain ⟨o2, ws, rfl, j2, _, _⟩ := q4
  rw [rl] at q2 j2
  have cm : q__law_mixed_0 e0 = some (.lst os, [some o2, some (.d (.str alph)), some (.lst ws), none]) := by
    refine compM_ok (ds := rng 0 26) (x := noneO) (e1 := e0) ?_ rfl q1 (by rw [q2]; decide) (by simp [bndS, bnd, TL.ret, lift, rstAll, rst, startE, retS, keepE, fxL, O.shr, cCall, consO, nilO, tmp, nf, con, cBin, cChain, vAnd, vOr, vB, cNot, asB, cAnd, cOr, cNeg, seqS, nilS, ifS, mv, op, fz, consM, nilM, cLst, cTup, asgS, setV, dropS, forS, cIt, cFn, rstO, rst1, g1, g2, cIf, shrs, fnG, cMt, cMu, wipeE, backE, List.getD, peek, cMuN, List.range_succ, noneO, e0])
    simp [bndS, bnd, TL.ret, lift, rstAll, rst, startE, retS, keepE, fxL, O.shr, cCall, consO, nilO, tmp, nf, con, cBin, cChain, vAnd, vOr, vB, cNot, asB, cAnd, cOr, cNeg, seqS, nilS, ifS, mv, op, fz, consM, nilM, cLst, cTup, asgS, setV, dropS, forS, cIt, cFn, rstO, rst1, g1, g2, cIf, shrs, fnG, cMt, cMu, wipeE, backE, List.getD, peek, cMuN, List.range_succ, cRng1, gl, e0]
  refine ⟨os, o2, q2, q3, j2, ?_⟩
  obtain ⟨a, b, c, rfl, _⟩ := h
  have gla : gListA [.d (.str alph)] = some (.lst ((chars alph).map O.d)) := by
    have hz : (alph : Str).cps.size ≤ sizeLine := by rw [show (alph : Str).cps.size = 26 from hl]; decide
    simp [gListA, orC, gListS, g1, hz]
  simp [bndS, bnd, TL.ret, lift, rstAll, rst, startE, retS, keepE, fxL, O.shr, cCall, consO, nilO, tmp, nf, con, cBin, cChain, vAnd, vOr, vB, cNot, asB, cAnd, cOr, cNeg, seqS, nilS, ifS, mv, op, fz, consM, nilM, cLst, cTup, asgS, setV, dropS, forS, cIt, cFn, rstO, rst1, g1, g2, cIf, shrs, fnG, cMt, cMu, wipeE, backE, List.getD, peek, cMuN, List.range_succ, g__law_mixed, b__law_mixed, gla]
  rw [show ([some (O.lst [.d (.int (a)), .d (.int ( b)), .d (.int ( c))]), some (.d (.str alph)), some (.lst ((chars alph).map O.d)), none] : TL.Env) = e0 from rfl, cm]
  simp [bndS, bnd, TL.ret, lift, rstAll, rst, startE, retS, keepE, fxL, O.shr, cCall, consO, nilO, tmp, nf, con, cBin, cChain, vAnd, vOr, vB, cNot, asB, cAnd, cOr, cNeg, seqS, nilS, ifS, mv, op, fz, consM, nilM, cLst, cTup, asgS, setV, dropS, forS, cIt, cFn, rstO, rst1, g1, g2, cIf, shrs, fnG, cMt, cMu, wipeE, backE, List.getD, peek, cMuN, List.range_succ, ]
theorem Jar.mono {n m : Nat} {o : O} (h : Jar n o) (l : n ≤ m) : Jar m o := by
  obtain ⟨a, b, c, e, h1, h2⟩ := h
  exact ⟨a, b, c, e, h1, by omega⟩
theorem cr1 {f : M (List O)} {e e' : TL.Env} {r : Int} (hf : f e = some ([.d (.int r)], e')) (h : -(2 ^ 62) ≤ r ∧ r < 2 ^ 62) : cRng1 f e = some ((rng 0 r, noneO), e') := by
  show bnd f _ e = _
  simp only [bnd, hf, lift, if_pos h]
theorem letters_ok {n k : Nat} {rest : TL.Env} {o : O} (m : Int) (h : Jar n o) (hn : n < 2 ^ 50) (hm : 0 < m) (hm2 : m ≤ 100) (hk : rest[k]? = some none) : ∃ zs o', (∀ z ∈ zs, sOk 1 z) ∧ (zs.length : Int) < m ∧ Jar (n + 200) o' ∧
    compM (cRng1 (consM (fz (cFn g__law_sip (consO (op 0) (consO (tmp (con (.int m))) nilO)))) nilM)) (setV (k + 1)) (TL.ret true) (fz (cFn g__law_letter (consO (op 0) nilO))) [k + 1] (some o :: rest) = some (.lst ((strsOf zs).map O.d), some o' :: rest) := by
  obtain ⟨r, o1, h1, h2, h3, h4⟩ := sip_ok (t := m) h (by omega) hm (by omega)
  have hkl : k < rest.length := (List.getElem?_eq_some_iff.mp hk).1
  have hkv : rest[k] = none := (List.getElem?_eq_some_iff.mp hk).2
  have rl : (rng 0 r).length = r.toNat := by unfold rng; simp
  have self : ∀ x : Option O, (rest.set k x).set k none = rest := fun x => by
    rw [List.set_set]
    conv => lhs; rw [← hkv]
    exact List.set_getElem_self hkl
  obtain ⟨os, e', q1, q2, q3, q4⟩ := compL_ind (g := setV (k + 1)) (t := TL.ret true) (f := fz (cFn g__law_letter (consO (op 0) nilO))) (vs := [k + 1]) r.toNat (fun j e => ∃ o, e = some o :: rest ∧ Jar (n + 1 + j) o) oneS (rng 0 r) 0 (some o1 :: rest) (fun d _ j e hj p => by
    obtain ⟨o2, rfl, j2⟩ := p
    obtain ⟨c, o3, hc, j3, e3⟩ := letter_ok j2 (by omega)
    obtain ⟨a, b, c', rfl, _⟩ := j2
    have hc' : c < 1114112 := by
      unfold low at hc
      simp only [Bool.and_eq_true, decide_eq_true_eq] at hc
      omega
    refine ⟨some (O.lst [.d (.int (a)), .d (.int ( b)), .d (.int ( c'))]) :: rest.set k (some (.d d)), some (O.lst [.d (.int (a)), .d (.int ( b)), .d (.int ( c'))]) :: rest.set k (some (.d d)), some o3 :: rest.set k (some (.d d)), .d (.str ⟨#[c]⟩), by simp [bndS, bnd, TL.ret, lift, rstAll, rst, startE, retS, keepE, fxL, O.shr, cCall, consO, nilO, tmp, nf, con, cBin, cChain, vAnd, vOr, vB, cNot, asB, cAnd, cOr, cNeg, seqS, nilS, ifS, mv, op, fz, consM, nilM, cLst, cTup, asgS, setV, dropS, forS, cIt, cFn, rstO, rst1, g1, g2, cIf, shrs, fnG, cMt, cMu, wipeE, backE, List.getD, peek, cMuN, List.range_succ, hkl], by simp [bndS, bnd, TL.ret, lift, rstAll, rst, startE, retS, keepE, fxL, O.shr, cCall, consO, nilO, tmp, nf, con, cBin, cChain, vAnd, vOr, vB, cNot, asB, cAnd, cOr, cNeg, seqS, nilS, ifS, mv, op, fz, consM, nilM, cLst, cTup, asgS, setV, dropS, forS, cIt, cFn, rstO, rst1, g1, g2, cIf, shrs, fnG, cMt, cMu, wipeE, backE, List.getD, peek, cMuN, List.range_succ, ], by simp [bndS, bnd, TL.ret, lift, rstAll, rst, startE, retS, keepE, fxL, O.shr, cCall, consO, nilO, tmp, nf, con, cBin, cChain, vAnd, vOr, vB, cNot, asB, cAnd, cOr, cNeg, seqS, nilS, ifS, mv, op, fz, consM, nilM, cLst, cTup, asgS, setV, dropS, forS, cIt, cFn, rstO, rst1, g1, g2, cIf, shrs, fnG, cMt, cMu, wipeE, backE, List.getD, peek, cMuN, List.range_succ, e3], ⟨_, rfl, Nat.le_refl _, fun x hx => ?_⟩, o3, ?_, j3⟩
    · have hx : x = c := by simpa using hx
      omega
    · show some o3 :: ((rest.set k (some (.d d))).set k none) = _
      rw [self]) ⟨o1, rfl, h3⟩ (by omega)
  obtain ⟨o2, rfl, j2⟩ := q4
  obtain ⟨zs, rfl, z1, z2⟩ := ones_strs os q3
  refine ⟨zs, o2, z1, by rw [z2, q2, rl]; omega, j2.mono (by omega), ?_⟩
  obtain ⟨a, b, c, rfl, _⟩ := h
  refine compM_ok (ds := rng 0 r) (x := noneO) (e1 := some o1 :: rest) ?_ ?_ (e2 := some o2 :: rest) ?_ (by rw [q2, rl]; exact sz (by omega)) ?_
  · refine cr1 ?_ (by omega)
    simp [bndS, bnd, TL.ret, lift, rstAll, rst, startE, retS, keepE, fxL, O.shr, cCall, consO, nilO, tmp, nf, con, cBin, cChain, vAnd, vOr, vB, cNot, asB, cAnd, cOr, cNeg, seqS, nilS, ifS, mv, op, fz, consM, nilM, cLst, cTup, asgS, setV, dropS, forS, cIt, cFn, rstO, rst1, g1, g2, cIf, shrs, fnG, cMt, cMu, wipeE, backE, List.getD, peek, cMuN, List.range_succ, h4]
  · simp [ownOk, hk]
  · have : wipeE (some o1 :: rest) [k + 1] = some o1 :: rest := by
      show some o1 :: rest.set k none = _
      have := self none
      rw [List.set_set] at this
      rw [this]
    rw [this]
    exact q1
  · have : backE (some o1 :: rest) (some o2 :: rest) [k + 1] = some o2 :: rest := by
      show some o2 :: rest.set k ((some o1 :: rest).getD (k + 1) none) = _
      have e : (some o1 :: rest).getD (k + 1) none = none := by simp [List.getD, hk]
      rw [e]
      have := self none
      rw [List.set_set] at this
      rw [this]
    rw [this]
    rfl
theorem loop_ind {g : G} {fb : S} (N : Nat) (P : Nat → TL.Env → Prop) : ∀ (ds : List D) (i : Nat) (e : TL.Env), (∀ d ∈ ds, ∀ j e, j < N → P j e → ∃ e1 e2, g (.d d) e = some e1 ∧ fb e1 = some (.nx, e2) ∧ P (j + 1) e2) → P i e → i + ds.length ≤ N → ∃ e', loopS g fb ds e = some (.nx, e') ∧ P (i + ds.length) e'
  | [], i, e, _, p, _ => ⟨e, rfl, p⟩
  | d :: ds, i, e, h, p, l => by
    rw [List.length_cons] at l
    obtain ⟨e1, e2, h1, h2, h3⟩ := h d (by simp) i e (by omega) p
    obtain ⟨e', q1, q2⟩ := loop_ind N P ds (i + 1) e2 (fun d hd => h d (by simp [hd])) h3 (by omega)
    refine ⟨e', by simp [loopS, h1, h2, q1], by rw [List.length_cons, show i + (ds.length + 1) = i + 1 + ds.length by omega]; exact q2⟩
theorem app_strs {fs : List Str} {x : Str} (h : fs.length ≤ 1000) : uAppend (.lst ((strsOf fs).map O.d)) [.d (.str x)] = some (.d .non, .lst ((strsOf (fs ++ [x])).map O.d)) := by
  have hl : ((strsOf fs).map O.d).length < sizeLine := by
    unfold strsOf
    rw [List.length_map, List.length_map, sizeLine_eq]; omega
  unfold uAppend
  simp only [hl, if_true]
  unfold strsOf
  simp
theorem mul8 {z : Str} (h : sOk 1 z) : ∃ w, gMul (.d (.str z)) (.d (.int 8)) = some (.d (.str w)) ∧ sOk 8 w := by
  have hl : z.cps.size ≤ 1 := h.1
  refine ⟨⟨(List.replicate 8 z.cps.toList).flatten.toArray⟩, ?_, ?_, fun c hc => ?_⟩
  · have hz : z.length * (8 : Int).toNat ≤ sizeLine := by
      show z.cps.size * 8 ≤ _
      exact sz (by omega)
    show orO (gI _) gMulS _ _ = _
    simp only [orO, gI, gMulS]
    rw [if_pos ⟨by decide, by decide, hz⟩]
    rfl
  · show Array.size _ ≤ 8
    rw [List.size_toArray, List.length_flatten, List.map_replicate, List.sum_replicate_nat, Array.length_toList]
    omega
  · have hc : c ∈ (List.replicate 8 z.cps.toList).flatten := hc
    obtain ⟨l, hl, hc⟩ := List.mem_flatten.mp hc
    rw [(List.mem_replicate.mp hl).2] at hc
    exact h.2 c hc
def PMany (n : Nat) (body : Str) (lot spot : Int) (j : Nat) (e : TL.Env) : Prop := ∃ o fs sg, e = [some o, some (.d (.int 3)), some (.d (.str body)), some (.d (.int lot)), some (.lst ((strsOf fs).map O.d)), none, some (.d (.int spot)), sg] ∧ Jar (n + j) o ∧ fs.length = j ∧ ∀ s ∈ fs, sOk 20 s
theorem sOk.size {m : Nat} {x : Str} (h : sOk m x) (hm : m ≤ 1000) : x.length ≤ sizeLine := sz (Nat.le_trans h.1 hm)
theorem many_step {n : Nat} {body : Str} {lot spot : Int} (hb : sOk 8 body) (hn : n < 2 ^ 50) (d : D) (hd : oneS (.d d)) (j : Nat) (e : TL.Env) (hj : j ≤ 100) (p : PMany n body lot spot j e) :
    ∃ e1 e2, setV 7 (.d d) e = some e1 ∧ lb__law_many_names_1 e1 = some (.nx, e2) ∧ PMany n body lot spot (j + 1) e2 := by
  obtain ⟨z, hz, h1⟩ := hd
  cases hz
  obtain ⟨o, fs, sg, rfl, hjar, hl, hf⟩ := p
  have hbs := hb.size (by decide)
  have fin : ∀ {x : Str}, sOk 20 x → ∀ s ∈ fs ++ [x], sOk 20 s := fun {x} hx s hs => by
    rcases List.mem_append.mp hs with m | m
    · exact hf s m
    · have : s = x := by simpa using m
      subst this; exact hx
  have hfl : fs.length ≤ 1000 := by omega
  by_cases l0 : lot = 0
  · subst l0
    have c1 := hb.cut none (some spot)
    have c2 := hb.cut (some spot) none
    have x1 := c1.cat h1
    have x2 := x1.cat c2
    have a1 : (cutS body none (some spot)).length + z.length ≤ sizeLine := sz (by have := c1.1; have := h1.1; omega)
    have a2 : (cutS body none (some spot) ++ z).length + (cutS body (some spot) none).length ≤ sizeLine := sz (by have := x1.1; have := c2.1; omega)
    obtain ⟨a, b, c, rfl, hc⟩ := id hjar
    refine ⟨[some (O.lst [.d (.int (a)), .d (.int ( b)), .d (.int ( c))]), some (.d (.int 3)), some (.d (.str body)), some (.d (.int 0)), some (.lst ((strsOf fs).map O.d)), none, some (.d (.int spot)), some (.d (.str z))], [some (O.lst [.d (.int (a)), .d (.int ( b)), .d (.int ( c))]), some (.d (.int 3)), some (.d (.str body)), some (.d (.int 0)), some (.lst ((strsOf (fs ++ [cutS body none (some spot) ++ z ++ cutS body (some spot) none])).map O.d)), none, some (.d (.int spot)), some (.d (.str z))], by simp [bndS, bnd, TL.ret, lift, rstAll, rst, startE, retS, keepE, fxL, O.shr, cCall, consO, nilO, tmp, nf, con, cBin, cChain, vAnd, vOr, vB, cNot, asB, cAnd, cOr, cNeg, seqS, nilS, ifS, mv, op, fz, consM, nilM, cLst, cTup, asgS, setV, dropS, forS, cIt, cFn, rstO, rst1, g1, g2, cIf, shrs, fnG, cMt, cMu, wipeE, backE, List.getD, peek, cMuN, List.range_succ, ], ?_, _, _, _, rfl, hjar.mono (by omega), by simp [hl], fin (x2.mono (by decide))⟩
    simp [bndS, bnd, TL.ret, lift, rstAll, rst, startE, retS, keepE, fxL, O.shr, cCall, consO, nilO, tmp, nf, con, cBin, cChain, vAnd, vOr, vB, cNot, asB, cAnd, cOr, cNeg, seqS, nilS, ifS, mv, op, fz, consM, nilM, cLst, cTup, asgS, setV, dropS, forS, cIt, cFn, rstO, rst1, g1, g2, cIf, shrs, fnG, cMt, cMu, wipeE, backE, List.getD, peek, cMuN, List.range_succ, lb__law_many_names_1, eq_int, cSl, asI, sl_str hbs, add_str a1, add_str a2, tyO, app_strs hfl]
  · by_cases l1 : lot = 1
    · subst l1
      obtain ⟨r, o2, r1, r2, r3, r4⟩ := sip_ok (t := body.length + 1) hjar (by omega) (by omega) (by have := hb.1; omega)
      have c1 := hb.cut none (some r)
      have x1 := h1.cat c1
      have a1 : z.length + (cutS body none (some r)).length ≤ sizeLine := sz (by have := c1.1; have := h1.1; omega)
      obtain ⟨a, b, c, rfl, hc⟩ := id hjar
      refine ⟨[some (O.lst [.d (.int (a)), .d (.int ( b)), .d (.int ( c))]), some (.d (.int 3)), some (.d (.str body)), some (.d (.int 1)), some (.lst ((strsOf fs).map O.d)), none, some (.d (.int spot)), some (.d (.str z))], [some o2, some (.d (.int 3)), some (.d (.str body)), some (.d (.int 1)), some (.lst ((strsOf (fs ++ [z ++ cutS body none (some r)])).map O.d)), none, some (.d (.int spot)), some (.d (.str z))], by simp [bndS, bnd, TL.ret, lift, rstAll, rst, startE, retS, keepE, fxL, O.shr, cCall, consO, nilO, tmp, nf, con, cBin, cChain, vAnd, vOr, vB, cNot, asB, cAnd, cOr, cNeg, seqS, nilS, ifS, mv, op, fz, consM, nilM, cLst, cTup, asgS, setV, dropS, forS, cIt, cFn, rstO, rst1, g1, g2, cIf, shrs, fnG, cMt, cMu, wipeE, backE, List.getD, peek, cMuN, List.range_succ, ], ?_, _, _, _, rfl, r3, by simp [hl], fin (x1.mono (by decide))⟩
      simp [bndS, bnd, TL.ret, lift, rstAll, rst, startE, retS, keepE, fxL, O.shr, cCall, consO, nilO, tmp, nf, con, cBin, cChain, vAnd, vOr, vB, cNot, asB, cAnd, cOr, cNeg, seqS, nilS, ifS, mv, op, fz, consM, nilM, cLst, cTup, asgS, setV, dropS, forS, cIt, cFn, rstO, rst1, g1, g2, cIf, shrs, fnG, cMt, cMu, wipeE, backE, List.getD, peek, cMuN, List.range_succ, lb__law_many_names_1, eq_int, cSl, asI, sl_str hbs, len_str hbs, add_int, r4, add_str a1, tyO, app_strs hfl]
    · obtain ⟨w, w1, w2⟩ := mul8 h1
      obtain ⟨r, o2, r1, r2, r3, r4⟩ := sip_ok (t := 8) hjar (by omega) (by omega) (by omega)
      have c1 := w2.cut none (some (1 + r))
      obtain ⟨a, b, c, rfl, hc⟩ := id hjar
      refine ⟨[some (O.lst [.d (.int (a)), .d (.int ( b)), .d (.int ( c))]), some (.d (.int 3)), some (.d (.str body)), some (.d (.int lot)), some (.lst ((strsOf fs).map O.d)), none, some (.d (.int spot)), some (.d (.str z))], [some o2, some (.d (.int 3)), some (.d (.str body)), some (.d (.int lot)), some (.lst ((strsOf (fs ++ [cutS w none (some (1 + r))])).map O.d)), none, some (.d (.int spot)), some (.d (.str z))], by simp [bndS, bnd, TL.ret, lift, rstAll, rst, startE, retS, keepE, fxL, O.shr, cCall, consO, nilO, tmp, nf, con, cBin, cChain, vAnd, vOr, vB, cNot, asB, cAnd, cOr, cNeg, seqS, nilS, ifS, mv, op, fz, consM, nilM, cLst, cTup, asgS, setV, dropS, forS, cIt, cFn, rstO, rst1, g1, g2, cIf, shrs, fnG, cMt, cMu, wipeE, backE, List.getD, peek, cMuN, List.range_succ, ], ?_, _, _, _, rfl, r3, by simp [hl], fin (c1.mono (by decide))⟩
      simp [bndS, bnd, TL.ret, lift, rstAll, rst, startE, retS, keepE, fxL, O.shr, cCall, consO, nilO, tmp, nf, con, cBin, cChain, vAnd, vOr, vB, cNot, asB, cAnd, cOr, cNeg, seqS, nilS, ifS, mv, op, fz, consM, nilM, cLst, cTup, asgS, setV, dropS, forS, cIt, cFn, rstO, rst1, g1, g2, cIf, shrs, fnG, cMt, cMu, wipeE, backE, List.getD, peek, cMuN, List.range_succ, lb__law_many_names_1, eq_int, l0, l1, cSl, asI, w1, sl_str (w2.size (by decide)), add_int, r4, tyO, app_strs hfl]
theorem cut_take {α : Type} (xs : List α) (k : Nat) (h : k ≤ xs.length) : cutD xs none (some (k : Int)) = xs.take k := by
  unfold cutD
  rw [HT.sIx_none, HT.sIx_nat]
  rw [Nat.min_eq_left h]
  simp
theorem many_ok {n : Nat} {o : O} (h : Jar n o) (hn : n < 2 ^ 40) : ∃ s1 s2 s3 o', sOk 20 s1 ∧ sOk 20 s2 ∧ sOk 20 s3 ∧ Jar (n + 300) o' ∧ g__law_many_names [o, .d (.int 3)] = some (.lst [.d (.str s1), .d (.str s2), .d (.str s3)], [some o', none]) := by
  obtain ⟨zs, o1, z1, z2, j1, e1⟩ := letters_ok (k := 4) (rest := [some (.d (.int 3)), none, none, none, none, none, none]) 8 h (by omega) (by decide) (by decide) rfl
  have e1 : q__law_many_names_0 [some o, some (.d (.int 3)), none, none, none, none, none, none] = some (.lst ((strsOf zs).map O.d), [some o1, some (.d (.int 3)), none, none, none, none, none, none]) := e1
  have zl : zs.length ≤ 7 := by omega
  have jl := join_list zs z1 (by omega)
  have bo := (join_ok zs z1).mono (show zs.length ≤ 8 by omega)
  generalize hbody : PySem.Txt.join "" zs = body at jl bo
  have hbs := bo.size (by decide)
  obtain ⟨lot, o2, l1, l2, j2, e2⟩ := sip_ok (t := 3) j1 (by omega) (by decide) (by decide)
  obtain ⟨spot, o3, p1, p2, j3, e3⟩ := sip_ok (t := body.length + 1) j2 (by omega) (by omega) (by have := bo.1; omega)
  obtain ⟨os, o4, m1, m2, j4, e4⟩ := mixed_ok j3 (by omega)
  obtain ⟨ys, rfl, y1, y2⟩ := ones_strs os m2
  have e4 : g__law_mixed [o3, .d (.str "abcdefghijklmnopqrstuvwxyz")] = some (.lst ((strsOf ys).map O.d), [some o4, none]) := e4
  have y3 : (strsOf ys).length = 26 := by unfold strsOf; rw [List.length_map, y2, m1]
  have al : asL (.lst ((strsOf ys).map O.d)) = some (strsOf ys) := by
    have := dOnly_map (fun d : D => d) (strsOf ys)
    rw [List.map_id'] at this
    exact this
  have e5 : gSl (.lst ((strsOf ys).map O.d)) none (some 3) = some (.lst (((strsOf ys).take 3).map O.d)) := by
    have ht : asT (.lst ((strsOf ys).map O.d)) = none := rfl
    simp only [gSl, ht, al]
    rw [show (3 : Int) = ((3 : Nat) : Int) from rfl, cut_take _ 3 (by omega)]
  have e6 : itO (.lst (((strsOf ys).take 3).map O.d)) = some ((strsOf ys).take 3) := by
    have := dOnly_map (fun d : D => d) ((strsOf ys).take 3)
    rw [List.map_id'] at this
    exact this
  have tl : ((strsOf ys).take 3).length = 3 := by rw [List.length_take, y3]; rfl
  obtain ⟨e', q1, q2⟩ := loop_ind (g := setV 7) (fb := lb__law_many_names_1) 3 (PMany (n + 200 + 1 + 1 + 26) body lot spot) ((strsOf ys).take 3) 0 [some o4, some (.d (.int 3)), some (.d (.str body)), some (.d (.int lot)), some (.lst []), none, some (.d (.int spot)), none]
    (fun d hd j e hj p => many_step bo (by omega) d (m2 _ (List.mem_map.mpr ⟨d, List.mem_of_mem_take hd, rfl⟩)) j e (by omega) p) ⟨o4, [], none, rfl, j4, rfl, fun _ h => (nomatch h)⟩ (by omega)
  rw [tl] at q2
  obtain ⟨o5, fs, sg, rfl, j5, f1, f2⟩ := q2
  obtain ⟨s1, s2, s3, rfl⟩ : ∃ s1 s2 s3, fs = [s1, s2, s3] := by
    match fs, f1 with
    | [a, b, c], _ => exact ⟨a, b, c, rfl⟩
  refine ⟨s1, s2, s3, o5, f2 s1 (by simp), f2 s2 (by simp), f2 s3 (by simp), j5.mono (by omega), ?_⟩
  have hl : l__law_many_names_2 [some o3, some (.d (.int 3)), some (.d (.str body)), some (.d (.int lot)), some (.lst []), none, some (.d (.int spot)), none] = some (.nx, [some o5, some (.d (.int 3)), some (.d (.str body)), some (.d (.int lot)), some (.lst [.d (.str s1), .d (.str s2), .d (.str s3)]), none, some (.d (.int spot)), sg]) := by
    refine Eq.trans ?_ q1
    obtain ⟨a, b, c, rfl, _⟩ := id j3
    simp [bndS, bnd, TL.ret, lift, rstAll, rst, startE, retS, keepE, fxL, O.shr, cCall, consO, nilO, tmp, nf, con, cBin, cChain, vAnd, vOr, vB, cNot, asB, cAnd, cOr, cNeg, seqS, nilS, ifS, mv, op, fz, consM, nilM, cLst, cTup, asgS, setV, dropS, forS, cIt, cFn, rstO, rst1, g1, g2, cIf, shrs, fnG, cMt, cMu, wipeE, backE, List.getD, peek, cMuN, List.range_succ, l__law_many_names_2, cSl, asI, e4, e5, e6, -List.map_take]
  obtain ⟨a1, b1, c1, rfl, _⟩ := id j1
  obtain ⟨a2, b2, c2, rfl, _⟩ := id j2
  simp [bndS, bnd, TL.ret, lift, rstAll, rst, startE, retS, keepE, fxL, O.shr, cCall, consO, nilO, tmp, nf, con, cBin, cChain, vAnd, vOr, vB, cNot, asB, cAnd, cOr, cNeg, seqS, nilS, ifS, mv, op, fz, consM, nilM, cLst, cTup, asgS, setV, dropS, forS, cIt, cFn, rstO, rst1, g1, g2, cIf, shrs, fnG, cMt, cMu, wipeE, backE, List.getD, peek, cMuN, List.range_succ, g__law_many_names, b__law_many_names, e1, chk, tyO, jl, e2, par3S, len_str hbs, add_int, e3, hl]
theorem asL'_d (ds : List D) : asL' (.lst (ds.map O.d)) = some ds := by
  have := dOnly_map (fun d : D => d) ds
  rw [List.map_id'] at this
  exact this
theorem cat_ok {x y : O} {a b : List D} (hx : asL' x = some a) (hy : asL' y = some b) (h : a.length + b.length ≤ 1000) : gAdd x y = some (.lst ((a ++ b).map O.d)) := by
  have e1 : gI (fun i j => some (.int (i + j))) x y = none := by
    cases x with
    | d x => cases x <;> first | rfl | cases hx
    | _ => rfl
  have e2 : gS (fun a b => if a.length + b.length ≤ sizeLine then some (.str (a ++ b)) else none) x y = none := by
    cases x with
    | d x => cases x <;> first | rfl | cases hx
    | _ => rfl
  show orO (gI _) (orO (gS _) (orO gCatL gCatT)) _ _ = _
  simp only [orO, e1, e2, gCatL, hx, hy]
  rw [if_pos (sz h)]
def oneD : D → Bool
  | .str z => decide (z.length ≤ 1) && z.cps.toList.all fun c => decide (c < 1114112)
  | _ => false
theorem oneD_ok {d : D} (h : oneD d = true) : ∃ y, d = .str y ∧ sOk 1 y := by
  cases d with
  | str y =>
    simp only [oneD, Bool.and_eq_true, decide_eq_true_eq, List.all_eq_true] at h
    exact ⟨y, rfl, h⟩
  | _ => cases h
abbrev odds : List D := [.str "A", .str "Z", .str "7", .str " ", .str "_", .str "\n", .str "@", .str "?", .str "`", .str "{", .str ".", .str "*"]
def PText (n : Nat) (j : Nat) (e : TL.Env) : Prop := ∃ o fs x2 x3 x5 x6, e = [some o, some (.lst ((strsOf fs).map O.d)), x2, x3, none, x5, x6] ∧ Jar (n + 300 * j) o ∧ fs.length = 3 * j ∧ ∀ s ∈ fs, sOk 40 s
theorem text_step {n : Nat} (hn : n < 2 ^ 40) (d : D) (j : Nat) (e : TL.Env) (hj : j < 4) (p : PText n j e) :
    ∃ e1 e2, setV 2 (.d d) e = some e1 ∧ lb__law_texts_1 e1 = some (.nx, e2) ∧ PText n (j + 1) e2 := by
  obtain ⟨o, fs, x2, x3, x5, x6, rfl, hjar, hl, hf⟩ := p
  obtain ⟨zs, o1, z1, z2, j1, e1⟩ := letters_ok (k := 3) (rest := [some (.lst ((strsOf fs).map O.d)), some (.d d), x3, none, x5, x6]) 11 hjar (by omega) (by decide) (by decide) rfl
  have e1 : q__law_texts_0 [some o, some (.lst ((strsOf fs).map O.d)), some (.d d), x3, none, x5, x6] = some (.lst ((strsOf zs).map O.d), [some o1, some (.lst ((strsOf fs).map O.d)), some (.d d), x3, none, x5, x6]) := e1
  have jl := join_list zs z1 (by omega)
  have bo := (join_ok zs z1).mono (show zs.length ≤ 10 by omega)
  generalize hbody : PySem.Txt.join "" zs = body at jl bo
  have hbs := bo.size (by decide)
  obtain ⟨spot, o3, p1, p2, j3, e3⟩ := sip_ok (t := body.length + 1) j1 (by omega) (by omega) (by have := bo.1; omega)
  obtain ⟨w, o4, w1, j4, e4⟩ := which_ok (os := [.d (.str "A"), .d (.str "Z"), .d (.str "7"), .d (.str " "), .d (.str "_"), .d (.str "\n"), .d (.str "@"), .d (.str "?"), .d (.str "`"), .d (.str "{"), .d (.str "."), .d (.str "*")]) (xs := odds) j3 (by omega) (by simp [shrs, O.shr]) (by decide) (by decide)
  obtain ⟨y, rfl, hy⟩ := oneD_ok (List.all_eq_true.mp (show odds.all oneD = true by decide +kernel) w w1)
  have c1 := bo.cut none (some spot)
  have c2 := bo.cut (some spot) none
  have c3 := bo.cut (some (spot + 1)) none
  have t1 := c1.cat hy
  have t2 := t1.cat c2
  have t3 := t1.cat c3
  have a1 : (cutS body none (some spot)).length + y.length ≤ sizeLine := sz (by have := c1.1; have := hy.1; omega)
  have a2 : (cutS body none (some spot) ++ y).length + (cutS body (some spot) none).length ≤ sizeLine := sz (by have := t1.1; have := c2.1; omega)
  have a3 : (cutS body none (some spot) ++ y).length + (cutS body (some (spot + 1)) none).length ≤ sizeLine := sz (by have := t1.1; have := c3.1; omega)
  let fs' := fs ++ [body, cutS body none (some spot) ++ y ++ cutS body (some spot) none, cutS body none (some spot) ++ y ++ cutS body (some (spot + 1)) none]
  have fe : gAdd (.d (.lst (strsOf fs))) (.lst [.d (.str body), .d (.str (cutS body none (some spot) ++ y ++ cutS body (some spot) none)), .d (.str (cutS body none (some spot) ++ y ++ cutS body (some (spot + 1)) none))]) = some (.lst ((strsOf fs').map O.d)) := by
    have := cat_ok (x := .d (.lst (strsOf fs))) (y := .lst (([.str body, .str (cutS body none (some spot) ++ y ++ cutS body (some spot) none), .str (cutS body none (some spot) ++ y ++ cutS body (some (spot + 1)) none)] : List D).map O.d)) rfl (asL'_d _) (by unfold strsOf; rw [List.length_map]; simp; omega)
    refine Eq.trans this ?_
    congr 2
    show _ = (strsOf (fs ++ _)).map O.d
    unfold strsOf
    simp
  obtain ⟨ja, jb, jc, rfl, _⟩ := id hjar
  obtain ⟨a1', b1', c1', rfl, _⟩ := id j1
  obtain ⟨a3', b3', c3', rfl, _⟩ := id j3
  refine ⟨[some (O.lst [.d (.int (ja)), .d (.int ( jb)), .d (.int ( jc))]), some (.lst ((strsOf fs).map O.d)), some (.d d), x3, none, x5, x6], [some o4, some (.lst ((strsOf fs').map O.d)), some (.d d), some (.d (.str body)), none, some (.d (.int spot)), some (.d (.str y))], by simp [bndS, bnd, TL.ret, lift, rstAll, rst, startE, retS, keepE, fxL, O.shr, cCall, consO, nilO, tmp, nf, con, cBin, cChain, vAnd, vOr, vB, cNot, asB, cAnd, cOr, cNeg, seqS, nilS, ifS, mv, op, fz, consM, nilM, cLst, cTup, asgS, setV, dropS, forS, cIt, cFn, rstO, rst1, g1, g2, cIf, shrs, fnG, cMt, cMu, wipeE, backE, List.getD, peek, cMuN, List.range_succ, ], ?_, o4, fs', _, _, _, _, rfl, j4.mono (by omega), by simp [fs', hl]; omega, fun s hs => ?_⟩
  · have sl : sizeLine = 16777216 := sizeLine_eq
    simp [bndS, bnd, TL.ret, lift, rstAll, rst, startE, retS, keepE, fxL, O.shr, cCall, consO, nilO, tmp, nf, con, cBin, cChain, vAnd, vOr, vB, cNot, asB, cAnd, cOr, cNeg, seqS, nilS, ifS, mv, op, fz, consM, nilM, cLst, cTup, asgS, setV, dropS, forS, cIt, cFn, rstO, rst1, g1, g2, cIf, shrs, fnG, cMt, cMu, wipeE, backE, List.getD, peek, cMuN, List.range_succ, lb__law_texts_1, e1, chk, tyO, jl, len_str hbs, add_int, e3, e4, cSl, asI, sl_str hbs, add_str a1, add_str a2, add_str a3, shrs_d, fe, sl]
  · rcases List.mem_append.mp hs with m | m
    · exact hf s m
    · simp only [List.mem_cons, List.not_mem_nil, or_false] at m
      rcases m with rfl | rfl | rfl
      · exact bo.mono (by decide)
      · exact t2.mono (by decide)
      · exact t3.mono (by decide)
theorem forS_ok {src : M (List D × (O × Option Nat))} {g : G} {fb : S} {e e1 : TL.Env} {ds : List D} {x : O × Option Nat} {r : Option (Ou × TL.Env)} (h1 : src e = some ((ds, x), e1)) (h2 : loopS g fb ds e1 = r) : forS src g fb e = r := by
  simp only [forS, bndS, h1, h2]
theorem texts_ok {n : Nat} {o : O} (h : Jar n o) (hn : n < 2 ^ 30) : ∃ (fs : List Str) (o' : O), fs.length = 12 ∧ (∀ s ∈ fs, sOk 40 s) ∧ Jar (n + 1200) o' ∧ g__law_texts [o] = some (.d (.lst (strsOf fs)), [some o']) := by
  have rl : (rng 0 4).length = 4 := rfl
  obtain ⟨e', q1, q2⟩ := loop_ind (g := setV 2) (fb := lb__law_texts_1) 4 (PText n) (rng 0 4) 0 [some o, some (.lst []), none, none, none, none, none] (fun d hd j e hj p => text_step (by omega) d j e hj p) ⟨o, [], none, none, none, none, rfl, h, rfl, fun _ h => (nomatch h)⟩ (by rw [rl]; decide)
  rw [rl] at q2
  obtain ⟨o', fs, x2, x3, x5, x6, rfl, j2, hl, hf⟩ := q2
  refine ⟨fs, o', hl, hf, j2.mono (by omega), ?_⟩
  have e1 : l__law_texts_2 [some o, some (.lst []), none, none, none, none, none] = some (.nx, [some o', some (.lst ((strsOf fs).map O.d)), x2, x3, none, x5, x6]) := by
    have : cRng1 (consM (con (.int 4)) nilM) [some o, some (.lst []), none, none, none, none, none] = some ((rng 0 4, noneO), [some o, some (.lst []), none, none, none, none, none]) := rfl
    exact forS_ok this q1
  have sl : sizeLine = 16777216 := sizeLine_eq
  simp [bndS, bnd, TL.ret, lift, rstAll, rst, startE, retS, keepE, fxL, O.shr, cCall, consO, nilO, tmp, nf, con, cBin, cChain, vAnd, vOr, vB, cNot, asB, cAnd, cOr, cNeg, seqS, nilS, ifS, mv, op, fz, consM, nilM, cLst, cTup, asgS, setV, dropS, forS, cIt, cFn, rstO, rst1, g1, g2, cIf, shrs, fnG, cMt, cMu, wipeE, backE, List.getD, peek, cMuN, List.range_succ, g__law_texts, b__law_texts, e1, shrs_d]
theorem p30 : gPow (.d (.int 10)) (.d (.int 30)) = some (.d (.int 1000000000000000000000000000000)) := by kernel_rfl
theorem m90 : gMul (.d (.int 1000000000000000000000000000000000000000000000000000000000000)) (.d (.int 1000000000000000000000000000000)) = some (.d (.int 1000000000000000000000000000000000000000000000000000000000000000000000000000000000000000000)) := by kernel_rfl
def intsOf (ns : List Int) : List D := ns.map .int
theorem numbers_ok {n : Nat} {o : O} (cell : Int) (h : Jar n o) (hn : n < 2 ^ 30) : ∃ (ns : List Int) (o' : O), ns.length = 10 ∧ Jar (n + 1) o' ∧ g__law_numbers [o, .d (.int cell)] = some (.lst ((intsOf ns).map O.d), [some o', none]) := by
  obtain ⟨r, o2, r1, r2, r3, r4⟩ := sip_ok (t := 5) h (by omega) (by omega) (by omega)
  have sl : sizeLine = 16777216 := sizeLine_eq
  obtain ⟨a, b, c, rfl, _⟩ := id h
  have pm : (0 : Int) < 1000000000000000000000000000000000000000000000000000000000000000000000000000000000000000000 := by decide
  refine ⟨[cell % 1000000000000000000000000000000000000000000000000000000000000000000000000000000000000000000, 0 - cell % 1000000000000000000000000000000000000000000000000000000000000000000000000000000000000000000, 1000000000000000000000000000000000000000000000000000000000000 + r - 2, 0 - (1000000000000000000000000000000000000000000000000000000000000 + r - 2), 1000000000000000000000000000000000000000000000000000000000000, 0 - 1000000000000000000000000000000000000000000000000000000000000, 1000000000000000000000000000000000000000000000000000000000000 - 1, 1 - 1000000000000000000000000000000000000000000000000000000000000, 0, 0 - 1], o2, rfl, r3, ?_⟩
  simp [bndS, bnd, TL.ret, lift, rstAll, rst, startE, retS, keepE, fxL, O.shr, cCall, consO, nilO, tmp, nf, con, cBin, cChain, vAnd, vOr, vB, cNot, asB, cAnd, cOr, cNeg, seqS, nilS, ifS, mv, op, fz, consM, nilM, cLst, cTup, asgS, setV, dropS, forS, cIt, cFn, rstO, rst1, g1, g2, cIf, shrs, fnG, cMt, cMu, wipeE, backE, List.getD, peek, cMuN, List.range_succ, g__law_numbers, b__law_numbers, int_int, p60, p30, m90, mod_int pm, add_int, sub_int, r4, parS, sl, intsOf]
/-! ### values that are right -/
theorem vNon : valOk .non := ⟨rfl, fun _ e => (nomatch e), fun _ e => (nomatch e)⟩
theorem vBl (b : Bool) : valOk (.bl b) := ⟨rfl, fun _ e => (nomatch e), fun _ e => (nomatch e)⟩
theorem vInt (i : Int) : valOk (.int i) := ⟨rfl, fun _ e => (nomatch e), fun _ e => (nomatch e)⟩
theorem vLst (xs : List D) : valOk (.lst xs) := ⟨rfl, fun _ e => (nomatch e), fun _ e => (nomatch e)⟩
theorem vDct (m : List (Key × D)) : valOk (.dct m) := ⟨rfl, fun _ e => (nomatch e), fun _ e => (nomatch e)⟩
theorem vStr {m : Nat} {x : Str} (h : sOk m x) (hm : m ≤ 1000) : valOk (.str x) := ⟨rfl, fun y e => by cases e; exact ⟨h.size hm, h.str⟩, fun _ e => (nomatch e)⟩
theorem vTup {xs : List D} (hl : xs.length ≤ 1000) (h : ∀ d ∈ xs, itOk d) : valOk (.tup xs) := ⟨rfl, fun _ e => (nomatch e), fun ys e => by cases e; exact ⟨hl, h⟩⟩
theorem iStr {m : Nat} {x : Str} (h : sOk m x) (hm : m ≤ 1000) : itOk (.str x) := ⟨rfl, fun y e => by cases e; exact ⟨h.size hm, h.str⟩, .str x, rfl, h.str, by simp [PyData.depth]⟩
theorem iNon : itOk .non := ⟨rfl, fun _ e => (nomatch e), .none, rfl, rfl, by decide⟩
theorem iBl (b : Bool) : itOk (.bl b) := ⟨rfl, fun _ e => (nomatch e), .bool b, rfl, rfl, by simp [PyData.depth]⟩
theorem iInt (i : Int) : itOk (.int i) := ⟨rfl, fun _ e => (nomatch e), .int i, rfl, rfl, by simp [PyData.depth]⟩
theorem iNil : itOk (.tup []) := ⟨rfl, fun _ e => (nomatch e), .tuple [], rfl, rfl, by decide⟩
theorem iNilL : itOk (.lst []) := ⟨rfl, fun _ e => (nomatch e), .list [], rfl, rfl, by decide⟩
theorem iOne {m : Nat} {x : Str} (h : sOk m x) : itOk (.tup [.str x]) := ⟨rfl, fun _ e => (nomatch e), .tuple [.str x], by simp [D.py, pys], by simp [PyData.canLay0, PyData.canLayAll0, h.str], by simp [PyData.depth, PyData.depthAll]⟩
theorem iOneL {m : Nat} {x : Str} (h : sOk m x) : itOk (.lst [.str x]) := ⟨rfl, fun _ e => (nomatch e), .list [.str x], by simp [D.py, pys], by simp [PyData.canLay0, PyData.canLayAll0, h.str], by simp [PyData.depth, PyData.depthAll]⟩
theorem cat_tup (a b : List D) (h : a.length + b.length ≤ 1000) : gAdd (.d (.tup a)) (.d (.tup b)) = some (.d (.tup (a ++ b))) := by
  show orO (gI _) (orO (gS _) (orO gCatL gCatT)) _ _ = _
  have e3 : gCatL (.d (.tup a)) (.d (.tup b)) = none := rfl
  simp only [orO, gI, gS, e3, gCatT, asT]
  rw [if_pos (sz h)]
theorem sort_two (a b : Str) : gSorted [.lst [.d (.str a), .d (.str b)]] = some (.lst ((sortD [.str a, .str b]).map O.d)) := by
  have sl : sizeLine = 16777216 := sizeLine_eq
  have e1 : asL (.lst [.d (.str a), .d (.str b)]) = some [.str a, .str b] := rfl
  have e2 : pys [.str a, .str b] = some [.str a, .str b] := by simp [pys, D.py]
  have e3 : canSort [.str a, .str b] = true := by simp [canSort, PySem.W.alike, PyData.depth]
  show g1 _ _ = _
  simp [g1, e1, e2, e3, sl]
theorem sort_mem {a b : Str} {d : D} (h : d ∈ sortD [.str a, .str b]) : d = .str a ∨ d = .str b := by
  have := (List.mergeSort_perm _ _).mem_iff.mp h
  simpa using this
theorem sort_len (a b : Str) : (sortD [.str a, .str b]).length = 2 := (List.mergeSort_perm _ _).length_eq
theorem tup_of (ds : List D) : gTuple [.lst (ds.map O.d)] = some (.d (.tup ds)) := by
  show g1 _ _ = _
  have e1 : asT (.lst (ds.map O.d)) = none := rfl
  have e2 : asL (.lst (ds.map O.d)) = some ds := by
    have := dOnly_map (fun d : D => d) ds
    rw [List.map_id'] at this
    exact this
  simp [g1, e1, e2]
theorem eight : sOk 8 "xxxxxxxx" := ⟨by decide +kernel, by decide +kernel⟩
theorem blank : sOk 1 " " := ⟨by decide +kernel, by decide +kernel⟩
theorem empt : sOk 1 "" := ⟨by decide +kernel, by decide +kernel⟩
theorem letA : sOk 1 "A" := ⟨by decide +kernel, by decide +kernel⟩
theorem tuples_ok {n : Nat} {o : O} (h : Jar n o) (hn : n < 2 ^ 30) : ∃ (ds : List D) (o' : O), ds.length = 20 ∧ (∀ d ∈ ds, valOk d) ∧ Jar (n + 301) o' ∧ g__law_tuples [o] = some (.lst (ds.map O.d), [some o']) := by
  have sl : sizeLine = 16777216 := sizeLine_eq
  obtain ⟨a, b, c, o2, ha, hb, hc, j2, e2⟩ := many_ok h (by omega)
  have ab := ha.cat hb
  have abx := ab.cat eight
  have ba := blank.cat ha
  have l1 : a.length + b.length ≤ sizeLine := sz (by have := ha.1; have := hb.1; omega)
  have l2 : (a ++ b).length + ("xxxxxxxx" : Str).length ≤ sizeLine := sz (by have := ab.1; have := eight.1; omega)
  have l3 : (" " : Str).length + a.length ≤ sizeLine := sz (by have := ha.1; have := blank.1; omega)
  obtain ⟨w, o4, w1, j4, e4⟩ := which_ok (os := [.d (.str ""), .d (.str "A"), .d (.str (a ++ b ++ "xxxxxxxx")), .d .non, .d (.int 0), .d (.bl true), .d (.tup [.str a]), .d (.lst [.str a]), .d (.str (" " ++ a))]) (xs := [.str "", .str "A", .str (a ++ b ++ "xxxxxxxx"), .non, .int 0, .bl true, .tup [.str a], .lst [.str a], .str (" " ++ a)]) j2 (by omega) (by simp [shrs, O.shr]) (by simp) (by simp)
  have iw : itOk w := by
    simp only [List.mem_cons, List.not_mem_nil, or_false] at w1
    rcases w1 with rfl | rfl | rfl | rfl | rfl | rfl | rfl | rfl | rfl
    · exact iStr empt (by decide)
    · exact iStr letA (by decide)
    · exact iStr abx (by decide)
    · exact iNon
    · exact iInt 0
    · exact iBl true
    · exact iOne ha
    · exact iOneL ha
    · exact iStr ba (by decide)
  have ia := iStr ha (by decide)
  have ib := iStr hb (by decide)
  have ic := iStr hc (by decide)
  let A : List D := [.tup [.str a, .str b, .str c], .tup [.str a, .str c, .str b], .tup [.str b, .str a, .str c], .tup [.str b, .str c, .str a], .tup [.str c, .str a, .str b], .tup [.str c, .str b, .str a]]
  let B : List D := [.tup [.str a, .str a], .tup [.str a, .str b, .str b], .tup [.str a], .tup [], .tup [.str a, .str b], .tup [.str b, .str a], .lst [.str a], .lst [.str a, .str b], .dct [(.inr a, .str b)]]
  let C : List D := [.tup [w], .tup (sortD [.str a, .str b] ++ [w]), .tup [.str a, .tup [.str b]], .tup [.tup []], .tup [.str a, .str b, .str a, .str b]]
  have f1 : gAdd (.d (.lst A)) (.lst (B.map O.d)) = some (.lst ((A ++ B).map O.d)) := cat_ok rfl (asL'_d B) (by simp [A, B])
  have f2 : gAdd (.d (.lst (A ++ B))) (.lst (C.map O.d)) = some (.lst ((A ++ B ++ C).map O.d)) := cat_ok rfl (asL'_d C) (by simp [A, B, C])
  have f3 := cat_tup (sortD [.str a, .str b]) [w] (by rw [sort_len]; simp)
  refine ⟨A ++ B ++ C, o4, by simp [A, B, C], fun d hd => ?_, j4, ?_⟩
  · rcases List.mem_append.mp hd with hd | hd
    · rcases List.mem_append.mp hd with hd | hd
      · simp only [A, List.mem_cons, List.not_mem_nil, or_false] at hd
        rcases hd with rfl | rfl | rfl | rfl | rfl | rfl <;> refine vTup (by simp) fun d hd => ?_ <;> simp only [List.mem_cons, List.not_mem_nil, or_false] at hd <;> rcases hd with rfl | rfl | rfl <;> assumption
      · simp only [B, List.mem_cons, List.not_mem_nil, or_false] at hd
        rcases hd with rfl | rfl | rfl | rfl | rfl | rfl | rfl | rfl | rfl
        · refine vTup (by simp) fun d hd => ?_; simp only [List.mem_cons, List.not_mem_nil, or_false] at hd; rcases hd with rfl | rfl <;> assumption
        · refine vTup (by simp) fun d hd => ?_; simp only [List.mem_cons, List.not_mem_nil, or_false] at hd; rcases hd with rfl | rfl | rfl <;> assumption
        · refine vTup (by simp) fun d hd => ?_; simp only [List.mem_cons, List.not_mem_nil, or_false] at hd; rcases hd with rfl; assumption
        · exact vTup (by simp) fun d hd => (nomatch hd)
        · refine vTup (by simp) fun d hd => ?_; simp only [List.mem_cons, List.not_mem_nil, or_false] at hd; rcases hd with rfl | rfl <;> assumption
        · refine vTup (by simp) fun d hd => ?_; simp only [List.mem_cons, List.not_mem_nil, or_false] at hd; rcases hd with rfl | rfl <;> assumption
        · exact vLst _
        · exact vLst _
        · exact vDct _
    · simp only [C, List.mem_cons, List.not_mem_nil, or_false] at hd
      rcases hd with rfl | rfl | rfl | rfl | rfl
      · refine vTup (by simp) fun d hd => ?_; simp only [List.mem_cons, List.not_mem_nil, or_false] at hd; rcases hd with rfl; assumption
      · refine vTup (by rw [List.length_append, sort_len]; simp) fun d hd => ?_
        rcases List.mem_append.mp hd with m | m
        · rcases sort_mem m with rfl | rfl <;> assumption
        · simp only [List.mem_cons, List.not_mem_nil, or_false] at m; rcases m with rfl; assumption
      · refine vTup (by simp) fun d hd => ?_; simp only [List.mem_cons, List.not_mem_nil, or_false] at hd
        rcases hd with rfl | rfl
        · assumption
        · exact iOne hb
      · refine vTup (by simp) fun d hd => ?_; simp only [List.mem_cons, List.not_mem_nil, or_false] at hd; rcases hd with rfl; exact iNil
      · refine vTup (by simp) fun d hd => ?_; simp only [List.mem_cons, List.not_mem_nil, or_false] at hd; rcases hd with rfl | rfl | rfl | rfl <;> assumption
  · obtain ⟨x1, x2, x3, rfl, _⟩ := id h
    obtain ⟨y1, y2, y3, rfl, _⟩ := id j2
    have f1' : gAdd (.d (.lst [.tup [.str a, .str b, .str c], .tup [.str a, .str c, .str b], .tup [.str b, .str a, .str c], .tup [.str b, .str c, .str a], .tup [.str c, .str a, .str b], .tup [.str c, .str b, .str a]])) (.lst [.d (.tup [.str a, .str a]), .d (.tup [.str a, .str b, .str b]), .d (.tup [.str a]), .d (.tup []), .d (.tup [.str a, .str b]), .d (.tup [.str b, .str a]), .d (.lst [.str a]), .d (.lst [.str a, .str b]), .d (.dct [(.inr a, .str b)])]) = some (.lst ((A ++ B).map O.d)) := f1
    have f2' : gAdd (.d (.lst (A ++ B))) (.lst [.d (.tup [w]), .d (.tup (sortD [.str a, .str b] ++ [w])), .d (.tup [.str a, .tup [.str b]]), .d (.tup [.tup []]), .d (.tup [.str a, .str b, .str a, .str b])]) = some (.lst ((A ++ B ++ C).map O.d)) := f2
    have sh : shrs ((A ++ B).map O.d) = A ++ B := shrs_d _
    generalize A ++ B = AB at f1' f2' sh
    generalize AB ++ C = ABC at f2'
    simp [bndS, bnd, TL.ret, lift, rstAll, rst, startE, retS, keepE, fxL, O.shr, cCall, consO, nilO, tmp, nf, con, cBin, cChain, vAnd, vOr, vB, cNot, asB, cAnd, cOr, cNeg, seqS, nilS, ifS, mv, op, fz, consM, nilM, cLst, cTup, asgS, setV, dropS, forS, cIt, cFn, rstO, rst1, g1, g2, cIf, shrs, fnG, cMt, cMu, wipeE, backE, List.getD, peek, cMuN, List.range_succ, g__law_tuples, b__law_tuples, e2, unpG, asQ, asT, asL, dOnly, consG, nilG, sl, cDisp, prsM, tabK, keyD, setK, hasK, shrK, f1', sh, add_str l1, add_str l2, add_str l3, e4, sort_two, tup_of, f3, f2']
/-! ### one cell -/
def scrO (ns : List Int) : D := .scr (ns.map .int)
theorem len_scr (ns : List Int) : gLen [.d (scrO ns)] = some (.d (.int ns.length)) := by
  show g1 _ _ = _
  simp [g1, scrO, lenO]
theorem ix_scr {ns : List Int} {r : Int} (h1 : 0 ≤ r) (h2 : r < ns.length) : ∃ x, gIx (.d (scrO ns)) (.d (.int r)) = some (.d (.int x)) := by
  obtain ⟨j, rfl⟩ := Int.eq_ofNat_of_zero_le h1
  have hj : j < ns.length := by omega
  refine ⟨ns[j], ?_⟩
  have e : atI (ns.map D.int) (j : Int) = some (.int ns[j]) := atI_nat (by simp [hj])
  show orO gIxL _ _ _ = _
  simp [orO, gIxL, scrO, e]
theorem p59 : gPow (.d (.int 10)) (.d (.int 59)) = some (.d (.int 100000000000000000000000000000000000000000000000000000000000)) := by kernel_rfl
theorem pbig : gPow (.d (.int 100000000000000000000000000000000000000000000000000000000000)) (.d (.int 11)) = some (.d (.int 10000000000000000000000000000000000000000000000000000000000000000000000000000000000000000000000000000000000000000000000000000000000000000000000000000000000000000000000000000000000000000000000000000000000000000000000000000000000000000000000000000000000000000000000000000000000000000000000000000000000000000000000000000000000000000000000000000000000000000000000000000000000000000000000000000000000000000000000000000000000000000000000000000000000000000000000000000000000000000000000000000000000000000000000000000000000000000000000000000000000000000000000000000000000000000000000000000000000000000000000000000000000000000000000000000000000000000000000000)) := by kernel_rfl
theorem p18 : gPow (.d (.int 10)) (.d (.int 18)) = some (.d (.int 1000000000000000000)) := by kernel_rfl
theorem jar_ok (ns : List Int) (k : Int) (h0 : 0 ≤ k) (h8 : k ≤ 100) : ∃ o, Jar 0 o ∧ g__law_jar [.d (scrO ns), .d (.int k)] = some (o, [none, none]) := by
  have sl : sizeLine = 16777216 := sizeLine_eq
  have mk : ∀ j : Int, 0 ≤ j → j < 2 ^ 60 → ∀ c : Int, 0 ≤ c → c < 2 ^ 60 → CMulW j c := fun j a b c d e => mul_small a (by omega) d (by omega)
  have m1 : CMulW 59 k := mk _ (by decide) (by decide) _ h0 (by omega)
  have m2 : CMulW 9001 k := mk _ (by decide) (by decide) _ h0 (by omega)
  have m3 : CMulW 41 1 := mk _ (by decide) (by decide) _ (by decide) (by decide)
  have m4 : CMulW 41 0 := mk _ (by decide) (by decide) _ (by decide) (by decide)
  have pb : (0 : Int) < 10000000000000000000000000000000000000000000000000000000000000000000000000000000000000000000000000000000000000000000000000000000000000000000000000000000000000000000000000000000000000000000000000000000000000000000000000000000000000000000000000000000000000000000000000000000000000000000000000000000000000000000000000000000000000000000000000000000000000000000000000000000000000000000000000000000000000000000000000000000000000000000000000000000000000000000000000000000000000000000000000000000000000000000000000000000000000000000000000000000000000000000000000000000000000000000000000000000000000000000000000000000000000000000000000000000000000000000000000 := by decide +kernel
  have go : ∀ cell : Int, (0 ≤ (if cell < 0 then -cell else cell) % 10000000000000000000000000000000000000000000000000000000000000000000000000000000000000000000000000000000000000000000000000000000000000000000000000000000000000000000000000000000000000000000000000000000000000000000000000000000000000000000000000000000000000000000000000000000000000000000000000000000000000000000000000000000000000000000000000000000000000000000000000000000000000000000000000000000000000000000000000000000000000000000000000000000000000000000000000000000000000000000000000000000000000000000000000000000000000000000000000000000000000000000000000000000000000000000000000000000000000000000000000000000000000000000000000000000000000000000000000) := fun cell => Int.emod_nonneg _ (by decide +kernel)
  by_cases hk : k < (ns.length : Int)
  · obtain ⟨cell, hx⟩ := ix_scr h0 hk
    have g0 := go cell
    generalize hg : (if cell < 0 then -cell else cell) % 10000000000000000000000000000000000000000000000000000000000000000000000000000000000000000000000000000000000000000000000000000000000000000000000000000000000000000000000000000000000000000000000000000000000000000000000000000000000000000000000000000000000000000000000000000000000000000000000000000000000000000000000000000000000000000000000000000000000000000000000000000000000000000000000000000000000000000000000000000000000000000000000000000000000000000000000000000000000000000000000000000000000000000000000000000000000000000000000000000000000000000000000000000000000000000000000000000000000000000000000000000000000000000000000000000000000000000000000000 = great at g0
    have x1 : 0 ≤ great % 2147483323 := by omega
    have x2 : great % 2147483323 < 2147483323 := by omega
    have m5 : CMulW (great % 2147483323) 94261 := mk _ x1 (by omega) _ (by decide) (by decide)
    by_cases cn : cell < 0
    · rw [if_pos cn] at hg
      exact ⟨(O.lst [.d (.int (if 1000000000000000000 < great then great - 1000000000000000000 else 0)), .d (.int ( (great % 2147483323 * 94261 + 9001 * k + 41 + 67) % 2305843009213693907)), .d (.int ( 0))]), ⟨_, _, _, rfl, by decide, by decide⟩, by simp [bndS, bnd, TL.ret, lift, rstAll, rst, startE, retS, keepE, fxL, O.shr, cCall, consO, nilO, tmp, nf, con, cBin, cChain, vAnd, vOr, vB, cNot, asB, cAnd, cOr, cNeg, seqS, nilS, ifS, mv, op, fz, consM, nilM, cLst, cTup, asgS, setV, dropS, forS, cIt, cFn, rstO, rst1, g1, g2, cIf, shrs, fnG, cMt, cMu, wipeE, backE, List.getD, peek, cMuN, List.range_succ, g__law_jar, b__law_jar, len_scr, lt_int, hk, hx, abs_int, int_int, int_bl, p59, pbig, p18, mod_int pb, hg, mod_int, mul_int m5, mul_int m2, mul_int m3, cn, add_int, sub_int, max_int, sl]⟩
    · rw [if_neg cn] at hg
      exact ⟨(O.lst [.d (.int (if 1000000000000000000 < great then great - 1000000000000000000 else 0)), .d (.int ( (great % 2147483323 * 94261 + 9001 * k + 67) % 2305843009213693907)), .d (.int ( 0))]), ⟨_, _, _, rfl, by decide, by decide⟩, by simp [bndS, bnd, TL.ret, lift, rstAll, rst, startE, retS, keepE, fxL, O.shr, cCall, consO, nilO, tmp, nf, con, cBin, cChain, vAnd, vOr, vB, cNot, asB, cAnd, cOr, cNeg, seqS, nilS, ifS, mv, op, fz, consM, nilM, cLst, cTup, asgS, setV, dropS, forS, cIt, cFn, rstO, rst1, g1, g2, cIf, shrs, fnG, cMt, cMu, wipeE, backE, List.getD, peek, cMuN, List.range_succ, g__law_jar, b__law_jar, len_scr, lt_int, hk, hx, abs_int, int_int, int_bl, p59, pbig, p18, mod_int pb, hg, mod_int, mul_int m5, mul_int m2, mul_int m4, cn, add_int, sub_int, max_int, sl]⟩
  · have g0 := go (59 * k + 29)
    have cn : ¬ (59 * k + 29 < 0) := by omega
    generalize hg : (if 59 * k + 29 < 0 then -(59 * k + 29) else 59 * k + 29) % 10000000000000000000000000000000000000000000000000000000000000000000000000000000000000000000000000000000000000000000000000000000000000000000000000000000000000000000000000000000000000000000000000000000000000000000000000000000000000000000000000000000000000000000000000000000000000000000000000000000000000000000000000000000000000000000000000000000000000000000000000000000000000000000000000000000000000000000000000000000000000000000000000000000000000000000000000000000000000000000000000000000000000000000000000000000000000000000000000000000000000000000000000000000000000000000000000000000000000000000000000000000000000000000000000000000000000000000000000 = great at g0
    rw [if_neg cn] at hg
    have x1 : 0 ≤ great % 2147483323 := by omega
    have x2 : great % 2147483323 < 2147483323 := by omega
    have m5 : CMulW (great % 2147483323) 94261 := mk _ x1 (by omega) _ (by decide) (by decide)
    exact ⟨(O.lst [.d (.int (if 1000000000000000000 < great then great - 1000000000000000000 else 0)), .d (.int ( (great % 2147483323 * 94261 + 9001 * k + 67) % 2305843009213693907)), .d (.int ( 0))]), ⟨_, _, _, rfl, by decide, by decide⟩, by simp [bndS, bnd, TL.ret, lift, rstAll, rst, startE, retS, keepE, fxL, O.shr, cCall, consO, nilO, tmp, nf, con, cBin, cChain, vAnd, vOr, vB, cNot, asB, cAnd, cOr, cNeg, seqS, nilS, ifS, mv, op, fz, consM, nilM, cLst, cTup, asgS, setV, dropS, forS, cIt, cFn, rstO, rst1, g1, g2, cIf, shrs, fnG, cMt, cMu, wipeE, backE, List.getD, peek, cMuN, List.range_succ, g__law_jar, b__law_jar, len_scr, lt_int, hk, mul_int m1, abs_int, int_int, int_bl, p59, pbig, p18, mod_int pb, hg, mod_int, mul_int m5, mul_int m2, mul_int m4, cn, add_int, sub_int, max_int, sl]⟩
theorem repr_four (a b c d : Bool) : ∃ z, gRepr [.d (.lst [.bl a, .bl b, .bl c, .bl d])] = some (.d (.str z)) ∧ PyData.strOk z = true := by
  refine ⟨PyData.shown (.list [.bool a, .bool b, .bool c, .bool d]), ?_, ?_⟩
  · cases a <;> cases b <;> cases c <;> cases d <;> kernel_rfl
  · cases a <;> cases b <;> cases c <;> cases d <;> decide +kernel
theorem ne_same {z : Str} (h : PyData.strOk z = true) : gEqD true (.d (.str z)) (.d (.str z)) = some (.d (.bl false)) := by
  unfold gEqD
  simp [O.shr, D.py, SeqAt.shaped, PyData.canLay0, h, PyData.depth, PyData.eqv]
def PCell (ns : List Int) (k cell : Int) (j : O) (V : List D) (e : TL.Env) : Prop := ∃ x5 x6 x7 x8, e = [some (.d (scrO ns)), some (.d (.int k)), some j, some (.d (.int cell)), some (.d (.lst V)), x5, x6, x7, x8]
theorem cell_step {ns : List Int} {k cell : Int} {j : O} {V : List D} (v : D) (hv : valOk v) (e : TL.Env) (p : PCell ns k cell j V e) : ∃ e1 e2, setV 6 (.d v) e = some e1 ∧ lb__law_cell_right_0 e1 = some (.nx, e2) ∧ PCell ns k cell j V e2 := by
  obtain ⟨x5, x6, x7, x8, rfl⟩ := p
  obtain ⟨z, z1, z2⟩ := repr_four (isInt v) (isName v) (setB v) (rowB v)
  have sl : sizeLine = 16777216 := sizeLine_eq
  have a1 := one_int v hv.1
  have a2 := one_name v hv.1 fun x e => (hv.2.1 x e).1
  have a3 := one_set v hv
  have a4 := one_row v hv
  have b1 := two_int v hv.1
  have b2 := one_spelled v hv.1 hv.2.1
  have b3 := two_set v hv
  have b4 := two_row v hv
  have ne := ne_same z2
  refine ⟨[some (.d (scrO ns)), some (.d (.int k)), some j, some (.d (.int cell)), some (.d (.lst V)), x5, some (.d v), x7, x8], [some (.d (scrO ns)), some (.d (.int k)), some j, some (.d (.int cell)), some (.d (.lst V)), x5, some (.d v), some (.d (.lst [.bl (isInt v), .bl (isName v), .bl (setB v), .bl (rowB v)])), some (.d (.lst [.bl (isInt v), .bl (isName v), .bl (setB v), .bl (rowB v)]))], by simp [bndS, bnd, TL.ret, lift, rstAll, rst, startE, retS, keepE, fxL, O.shr, cCall, consO, nilO, tmp, nf, con, cBin, cChain, vAnd, vOr, vB, cNot, asB, cAnd, cOr, cNeg, seqS, nilS, ifS, mv, op, fz, consM, nilM, cLst, cTup, asgS, setV, dropS, forS, cIt, cFn, rstO, rst1, g1, g2, cIf, shrs, fnG, cMt, cMu, wipeE, backE, List.getD, peek, cMuN, List.range_succ, ], ?_, _, _, _, _, rfl⟩
  simp [bndS, bnd, TL.ret, lift, rstAll, rst, startE, retS, keepE, fxL, O.shr, cCall, consO, nilO, tmp, nf, con, cBin, cChain, vAnd, vOr, vB, cNot, asB, cAnd, cOr, cNeg, seqS, nilS, ifS, mv, op, fz, consM, nilM, cLst, cTup, asgS, setV, dropS, forS, cIt, cFn, rstO, rst1, g1, g2, cIf, shrs, fnG, cMt, cMu, wipeE, backE, List.getD, peek, cMuN, List.range_succ, lb__law_cell_right_0, a1, a2, a3, a4, b1, b2, b3, b4, sl, z1, ne]
def PC2 (ns : List Int) (k cell : Int) (j : O) (V : List D) (e : TL.Env) : Prop := ∃ f4 x5 x6 x7 x8, e = [some (.d (scrO ns)), some (.d (.int k)), some j, some (.d (.int cell)), some f4, x5, x6, x7, x8] ∧ (f4 = .d (.lst V) ∨ f4 = .lst (V.map O.d))
theorem cell_loop {ns : List Int} {k cell : Int} {j : O} {V : List D} (hV : ∀ d ∈ V, valOk d) (e : TL.Env) (p : PC2 ns k cell j V e) : ∃ e2, l__law_cell_right_1 e = some (.nx, e2) ∧ PC2 ns k cell j V e2 := by
  obtain ⟨f4, x5, x6, x7, x8, rfl, hf⟩ := p
  obtain ⟨e', q1, q2⟩ := loop_ind (g := setV 6) (fb := lb__law_cell_right_0) V.length (fun _ e => PCell ns k cell j V e) V 0 [some (.d (scrO ns)), some (.d (.int k)), some j, some (.d (.int cell)), some (.d (.lst V)), x5, x6, x7, x8] (fun d hd _ e _ p => cell_step d (hV d hd) e p) ⟨_, _, _, _, rfl⟩ (by omega)
  refine ⟨e', ?_, ?_⟩
  · refine forS_ok (x := (.d (.lst V), none)) ?_ q1
    rcases hf with rfl | rfl
    · simp [bndS, bnd, TL.ret, lift, rstAll, rst, startE, retS, keepE, fxL, O.shr, cCall, consO, nilO, tmp, nf, con, cBin, cChain, vAnd, vOr, vB, cNot, asB, cAnd, cOr, cNeg, seqS, nilS, ifS, mv, op, fz, consM, nilM, cLst, cTup, asgS, setV, dropS, forS, cIt, cFn, rstO, rst1, g1, g2, cIf, shrs, fnG, cMt, cMu, wipeE, backE, List.getD, peek, cMuN, List.range_succ, itO, asQ, asT, asL]
    · simp [bndS, bnd, TL.ret, lift, rstAll, rst, startE, retS, keepE, fxL, O.shr, cCall, consO, nilO, tmp, nf, con, cBin, cChain, vAnd, vOr, vB, cNot, asB, cAnd, cOr, cNeg, seqS, nilS, ifS, mv, op, fz, consM, nilM, cLst, cTup, asgS, setV, dropS, forS, cIt, cFn, rstO, rst1, g1, g2, cIf, shrs, fnG, cMt, cMu, wipeE, backE, List.getD, peek, cMuN, List.range_succ, itO, asQ, asT, asL, shrs_d]
  · obtain ⟨x5, x6, x7, x8, rfl⟩ := q2
    exact ⟨_, _, _, _, _, rfl, .inl rfl⟩
theorem cell_ok (ns : List Int) (k : Int) (h0 : 0 ≤ k) (h8 : k ≤ 100) : g__law_cell_right [.d (scrO ns), .d (.int k)] = some (.d (.bl true), [none, none]) := by
  have sl : sizeLine = 16777216 := sizeLine_eq
  obtain ⟨o0, j0, e0⟩ := jar_ok ns k h0 h8
  have m1 : CMulW 41 k := mul_small (by decide) (by decide) h0 (by omega)
  -- the cell
  have fin : ∀ cell : Int, ∃ (V : List D) (j : O), (∀ d ∈ V, valOk d) ∧ ∃ o1 o2 n1 t1 u1, g__law_numbers [o0, .d (.int cell)] = some (n1, [some o1, none]) ∧ g__law_texts [o1] = some (t1, [some o2]) ∧ g__law_tuples [o2] = some (u1, [some j]) ∧ (∃ a b c, o0 = (O.lst [.d (.int (a)), .d (.int ( b)), .d (.int ( c))])) ∧ (∃ a b c, o1 = (O.lst [.d (.int (a)), .d (.int ( b)), .d (.int ( c))])) ∧ (∃ a b c, o2 = (O.lst [.d (.int (a)), .d (.int ( b)), .d (.int ( c))])) ∧
      ∃ w, gAdd n1 t1 = some w ∧ ∃ w2 : List D, gAdd w u1 = some (.lst (w2.map O.d)) ∧ gAdd (.d (.lst w2)) (.lst [.d (.bl true), .d (.bl false), .d .non, .d (.str "1"), .d (.lst []), .d (.dct []), .d (.tup [.lst []]), .d (.tup [.int 0]), .d (.tup [.non]), .d (.lst [.int 1]), .d (.dct [(.inr "a", .int 1)]), .d (.str "abcdefgh"), .d (.str "abcdefghi")]) = some (.lst (V.map O.d)) := by
    intro cell
    obtain ⟨xs, o1, l1, j1, e1⟩ := numbers_ok cell j0 (by decide)
    obtain ⟨fs, o2, l2, s2, j2, e2⟩ := texts_ok j1 (by decide)
    obtain ⟨ds, o3, l3, s3, j3, e3⟩ := tuples_ok j2 (by decide)
    let L : List D := [.bl true, .bl false, .non, .str "1", .lst [], .dct [], .tup [.lst []], .tup [.int 0], .tup [.non], .lst [.int 1], .dct [(.inr "a", .int 1)], .str "abcdefgh", .str "abcdefghi"]
    have k1 : (intsOf xs).length = 10 := by unfold intsOf; rw [List.length_map, l1]
    have k2 : (strsOf fs).length = 12 := by unfold strsOf; rw [List.length_map, l2]
    have f1 : gAdd (.lst ((intsOf xs).map O.d)) (.d (.lst (strsOf fs))) = some (.lst ((intsOf xs ++ strsOf fs).map O.d)) := cat_ok (asL'_d _) rfl (by omega)
    have f2 : gAdd (.lst ((intsOf xs ++ strsOf fs).map O.d)) (.lst (ds.map O.d)) = some (.lst ((intsOf xs ++ strsOf fs ++ ds).map O.d)) := cat_ok (asL'_d _) (asL'_d _) (by rw [List.length_append]; omega)
    have f3 : gAdd (.d (.lst (intsOf xs ++ strsOf fs ++ ds))) (.lst (L.map O.d)) = some (.lst ((intsOf xs ++ strsOf fs ++ ds ++ L).map O.d)) := cat_ok rfl (asL'_d _) (by simp only [List.length_append, k1, k2, l3]; decide)
    refine ⟨intsOf xs ++ strsOf fs ++ ds ++ L, o3, fun d hd => ?_, o1, o2, _, _, _, e1, e2, e3, ?_, ?_, ?_, _, f1, _, f2, f3⟩
    · rcases List.mem_append.mp hd with hd | hd
      · rcases List.mem_append.mp hd with hd | hd
        · rcases List.mem_append.mp hd with hd | hd
          · obtain ⟨i, _, rfl⟩ := List.mem_map.mp hd
            exact vInt i
          · obtain ⟨s, hs, rfl⟩ := List.mem_map.mp hd
            exact vStr (s2 s hs) (by decide)
        · exact s3 d hd
      · simp only [L, List.mem_cons, List.not_mem_nil, or_false] at hd
        rcases hd with rfl | rfl | rfl | rfl | rfl | rfl | rfl | rfl | rfl | rfl | rfl | rfl | rfl
        · exact vBl _
        · exact vBl _
        · exact vNon
        · exact vStr (m := 1) ⟨by decide +kernel, by decide +kernel⟩ (by decide)
        · exact vLst _
        · exact vDct _
        · exact vTup (by simp) fun d hd => by simp only [List.mem_cons, List.not_mem_nil, or_false] at hd; subst hd; exact iNilL
        · exact vTup (by simp) fun d hd => by simp only [List.mem_cons, List.not_mem_nil, or_false] at hd; subst hd; exact iInt 0
        · exact vTup (by simp) fun d hd => by simp only [List.mem_cons, List.not_mem_nil, or_false] at hd; subst hd; exact iNon
        · exact vLst _
        · exact vDct _
        · exact vStr (m := 8) ⟨by decide +kernel, by decide +kernel⟩ (by decide)
        · exact vStr (m := 9) ⟨by decide +kernel, by decide +kernel⟩ (by decide)
    · obtain ⟨a, b, c, h, _⟩ := j0; exact ⟨a, b, c, h⟩
    · obtain ⟨a, b, c, h, _⟩ := j1; exact ⟨a, b, c, h⟩
    · obtain ⟨a, b, c, h, _⟩ := j2; exact ⟨a, b, c, h⟩
  have two : ∀ (cell : Int) (j : O) (V : List D), (∀ d ∈ V, valOk d) → ∃ e2, l__law_cell_right_3 [some (.d (scrO ns)), some (.d (.int k)), some j, some (.d (.int cell)), some (.lst (V.map O.d)), none, none, none, none] = some (.nx, e2) := by
    intro cell j V hV
    obtain ⟨e', q1, _⟩ := loop_ind (g := setV 5) (fb := lb__law_cell_right_2) 2 (fun _ e => PC2 ns k cell j V e) (rng 0 2) 0 [some (.d (scrO ns)), some (.d (.int k)), some j, some (.d (.int cell)), some (.lst (V.map O.d)), none, none, none, none] (fun d _ _ e _ p => by
      obtain ⟨f4, x5, x6, x7, x8, rfl, hf⟩ := p
      obtain ⟨e2, h1, h2⟩ := cell_loop (k := k) (cell := cell) (j := j) (ns := ns) hV [some (.d (scrO ns)), some (.d (.int k)), some j, some (.d (.int cell)), some f4, some (.d d), x6, x7, x8] ⟨_, _, _, _, _, rfl, hf⟩
      exact ⟨_, e2, by simp [bndS, bnd, TL.ret, lift, rstAll, rst, startE, retS, keepE, fxL, O.shr, cCall, consO, nilO, tmp, nf, con, cBin, cChain, vAnd, vOr, vB, cNot, asB, cAnd, cOr, cNeg, seqS, nilS, ifS, mv, op, fz, consM, nilM, cLst, cTup, asgS, setV, dropS, forS, cIt, cFn, rstO, rst1, g1, g2, cIf, shrs, fnG, cMt, cMu, wipeE, backE, List.getD, peek, cMuN, List.range_succ, ], h1, h2⟩) ⟨_, _, _, _, _, rfl, .inr rfl⟩ (by decide)
    exact ⟨e', forS_ok (x := noneO) rfl q1⟩
  by_cases hk : k < (ns.length : Int)
  · obtain ⟨cell, hx⟩ := ix_scr h0 hk
    obtain ⟨V, j, hV, o1, o2, n1, t1, u1, e1, e2, e3, ⟨a0, b0, c0, rfl⟩, ⟨a1, b1, c1, rfl⟩, ⟨a2, b2, c2, rfl⟩, w, f1, w2, f2, f3⟩ := fin cell
    obtain ⟨ee, hl⟩ := two cell j V hV
    simp [bndS, bnd, TL.ret, lift, rstAll, rst, startE, retS, keepE, fxL, O.shr, cCall, consO, nilO, tmp, nf, con, cBin, cChain, vAnd, vOr, vB, cNot, asB, cAnd, cOr, cNeg, seqS, nilS, ifS, mv, op, fz, consM, nilM, cLst, cTup, asgS, setV, dropS, forS, cIt, cFn, rstO, rst1, g1, g2, cIf, shrs, fnG, cMt, cMu, wipeE, backE, List.getD, peek, cMuN, List.range_succ, g__law_cell_right, b__law_cell_right, e0, mul_int m1, add_int, parS, len_scr, lt_int, hk, hx, e1, e2, e3, f1, f2, shrs_d, sl, cDisp, prsM, tabK, keyD, setK, hasK, shrK, cNewD, f3, hl]
  · obtain ⟨V, j, hV, o1, o2, n1, t1, u1, e1, e2, e3, ⟨a0, b0, c0, rfl⟩, ⟨a1, b1, c1, rfl⟩, ⟨a2, b2, c2, rfl⟩, w, f1, w2, f2, f3⟩ := fin (41 * k + 7)
    obtain ⟨ee, hl⟩ := two (41 * k + 7) j V hV
    simp [bndS, bnd, TL.ret, lift, rstAll, rst, startE, retS, keepE, fxL, O.shr, cCall, consO, nilO, tmp, nf, con, cBin, cChain, vAnd, vOr, vB, cNot, asB, cAnd, cOr, cNeg, seqS, nilS, ifS, mv, op, fz, consM, nilM, cLst, cTup, asgS, setV, dropS, forS, cIt, cFn, rstO, rst1, g1, g2, cIf, shrs, fnG, cMt, cMu, wipeE, backE, List.getD, peek, cMuN, List.range_succ, g__law_cell_right, b__law_cell_right, e0, mul_int m1, add_int, parS, len_scr, lt_int, hk, e1, e2, e3, f1, f2, shrs_d, sl, cDisp, prsM, tabK, keyD, setK, hasK, shrK, cNewD, f3, hl]
/-! ### the law -/
theorem rng_mem {m : Int} {d : D} (h : d ∈ rng 0 m) : ∃ i : Int, d = .int i ∧ 0 ≤ i ∧ i < m := by
  unfold rng at h
  obtain ⟨i, hi, rfl⟩ := List.mem_map.mp h
  have := List.mem_range.mp hi
  exact ⟨0 + (i : Nat), rfl, by omega, by omega⟩
theorem law_holds (ns : List Int) (h : ns.length ≤ 63) (hb : ∀ z ∈ ns, PySem.Builtin.Int.intBits z ≤ 1048576) : ∃ e, g_law [.d (.scr (ns.map TL.D.int))] = some (.d (.bl true), e) := by
  have sl : sizeLine = 16777216 := sizeLine_eq
  have e0 : gEqD true (.d c_MAX_LETTERS) (.d (.int 8)) = some (.d (.bl false)) := by kernel_rfl
  generalize hm : (if (if (ns.length : Int) < 8 then (ns.length : Int) else 8) > 1 then (if (ns.length : Int) < 8 then (ns.length : Int) else 8) else 1) = m
  have m1 : m ≤ 8 := by
    rw [← hm]
    split <;> split <;> omega
  have m0 : 0 ≤ m := by
    rw [← hm]
    split <;> split <;> omega
  have rl : (rng 0 m).length = m.toNat := by unfold rng; simp
  obtain ⟨e', q1, q2⟩ := loop_ind (g := setV 1) (fb := lb_law_0) m.toNat (fun _ e => ∃ x, e = [some (.d (scrO ns)), x]) (rng 0 m) 0 [some (.d (scrO ns)), none] (fun d hd _ e _ p => by
    obtain ⟨x, rfl⟩ := p
    obtain ⟨i, rfl, i0, i1⟩ := rng_mem hd
    have k := cell_ok ns i i0 (by omega)
    exact ⟨[some (.d (scrO ns)), some (.d (.int i))], [some (.d (scrO ns)), some (.d (.int i))], by simp [bndS, bnd, TL.ret, lift, rstAll, rst, startE, retS, keepE, fxL, O.shr, cCall, consO, nilO, tmp, nf, con, cBin, cChain, vAnd, vOr, vB, cNot, asB, cAnd, cOr, cNeg, seqS, nilS, ifS, mv, op, fz, consM, nilM, cLst, cTup, asgS, setV, dropS, forS, cIt, cFn, rstO, rst1, g1, g2, cIf, shrs, fnG, cMt, cMu, wipeE, backE, List.getD, peek, cMuN, List.range_succ, ], by simp [bndS, bnd, TL.ret, lift, rstAll, rst, startE, retS, keepE, fxL, O.shr, cCall, consO, nilO, tmp, nf, con, cBin, cChain, vAnd, vOr, vB, cNot, asB, cAnd, cOr, cNeg, seqS, nilS, ifS, mv, op, fz, consM, nilM, cLst, cTup, asgS, setV, dropS, forS, cIt, cFn, rstO, rst1, g1, g2, cIf, shrs, fnG, cMt, cMu, wipeE, backE, List.getD, peek, cMuN, List.range_succ, lb_law_0, k], _, rfl⟩) ⟨_, rfl⟩ (by omega)
  obtain ⟨x, rfl⟩ := q2
  have e1 : l_law_1 [some (.d (scrO ns)), none] = some (.nx, [some (.d (scrO ns)), x]) := by
    refine forS_ok (x := noneO) (cr1 ?_ (by omega)) q1
    simp [bndS, bnd, TL.ret, lift, rstAll, rst, startE, retS, keepE, fxL, O.shr, cCall, consO, nilO, tmp, nf, con, cBin, cChain, vAnd, vOr, vB, cNot, asB, cAnd, cOr, cNeg, seqS, nilS, ifS, mv, op, fz, consM, nilM, cLst, cTup, asgS, setV, dropS, forS, cIt, cFn, rstO, rst1, g1, g2, cIf, shrs, fnG, cMt, cMu, wipeE, backE, List.getD, peek, cMuN, List.range_succ, len_scr, min_int, max_int, hm]
  refine ⟨[none], ?_⟩
  show g_law [.d (scrO ns)] = _
  simp [bndS, bnd, TL.ret, lift, rstAll, rst, startE, retS, keepE, fxL, O.shr, cCall, consO, nilO, tmp, nf, con, cBin, cChain, vAnd, vOr, vB, cNot, asB, cAnd, cOr, cNeg, seqS, nilS, ifS, mv, op, fz, consM, nilM, cLst, cTup, asgS, setV, dropS, forS, cIt, cFn, rstO, rst1, g1, g2, cIf, shrs, fnG, cMt, cMu, wipeE, backE, List.getD, peek, cMuN, List.range_succ, g_law, b_law, e0, e1]
end K00

set_option maxHeartbeats 4000000
open PySem PySem.W PyProof.Rows
set_option maxHeartbeats 0 in
theorem PySem.Challenge.cw_eachshare_k00_integers_names_and_sets_holds : PySem.Challenge.rw_eachshare_k00_integers_names_and_sets.Holds := by
  w_on; o_law; k_head; (case hw => w_witness2)
  k_fill
  refine TL.walk_G (l := PySem.Challenge.rw_eachshare_k00_integers_names_and_sets) (n := 63) (k := 6) (x := "script") (g := K00.g_law) rfl (by decide) rfl ⟨rfl, by decide, by decide⟩ ?F (K00.law_holds)
  case F =>
    intro w mg h Y G
    have KX := PySem.W.kIn_of Y
    refine' (fun T => ⟨_, KX, fun base _ _ => K00.ok_law (P := PySem.Challenge.rw_eachshare_k00_integers_names_and_sets.prog) (w := w) (mg := mg) (base := base) T⟩) (K00.txt_mk KX G ?z_abs ?z_all ?z_bool ?z_int ?z_isinstance ?z_len ?z_list ?z_max ?z_min ?z_range ?z_repr ?z_set ?z_sorted ?z_str ?z_tuple ?z_zip ?c_GREATEST ?c_MAX_LETTERS ?a3 ?l3 ?e3 ?k3 ?a4 ?l4 ?e4 ?k4 ?a5 ?l5 ?e5 ?k5 ?a6 ?l6 ?e6 ?k6 ?a7 ?l7 ?e7 ?k7 ?a9 ?l9 ?e9 ?k9 ?a10 ?l10 ?e10 ?k10 ?a11 ?l11 ?e11 ?k11 ?a12 ?l12 ?e12 ?k12 ?a13 ?l13 ?e13 ?k13 ?a14 ?l14 ?e14 ?k14 ?a15 ?l15 ?e15 ?k15 ?a16 ?l16 ?e16 ?k16 ?a17 ?l17 ?e17 ?k17 ?a18 ?l18 ?e18 ?k18 ?a19 ?l19 ?e19 ?k19 ?a20 ?l20 ?e20 ?k20 ?a21 ?l21 ?e21 ?k21 ?a22 ?l22 ?e22 ?k22 ?a23 ?l23 ?e23 ?k23)
    (case z_abs => k_is); (case z_all => k_is); (case z_bool => k_is); (case z_int => k_is); (case z_isinstance => k_is); (case z_len => k_is); (case z_list => k_is); (case z_max => k_is); (case z_min => k_is); (case z_range => k_is); (case z_repr => k_is); (case z_set => k_is); (case z_sorted => k_is); (case z_str => k_is); (case z_tuple => k_is); (case z_zip => k_is); (case c_GREATEST => k_is); (case c_MAX_LETTERS => k_is); (case a3 => k_is); (case l3 => k_is); (case e3 => k_is); (case k3 => k_is); (case a4 => k_is); (case l4 => k_is); (case e4 => k_is); (case k4 => k_is); (case a5 => k_is); (case l5 => k_is); (case e5 => k_is); (case k5 => k_is); (case a6 => k_is); (case l6 => k_is); (case e6 => k_is); (case k6 => k_is); (case a7 => k_is); (case l7 => k_is); (case e7 => k_is); (case k7 => k_is); (case a9 => k_is); (case l9 => k_is); (case e9 => k_is); (case k9 => k_is); (case a10 => k_is); (case l10 => k_is); (case e10 => k_is); (case k10 => k_is); (case a11 => k_is); (case l11 => k_is); (case e11 => k_is); (case k11 => k_is); (case a12 => k_is); (case l12 => k_is); (case e12 => k_is); (case k12 => k_is); (case a13 => k_is); (case l13 => k_is); (case e13 => k_is); (case k13 => k_is); (case a14 => k_is); (case l14 => k_is); (case e14 => k_is); (case k14 => k_is); (case a15 => k_is); (case l15 => k_is); (case e15 => k_is); (case k15 => k_is); (case a16 => k_is); (case l16 => k_is); (case e16 => k_is); (case k16 => k_is); (case a17 => k_is); (case l17 => k_is); (case e17 => k_is); (case k17 => k_is); (case a18 => k_is); (case l18 => k_is); (case e18 => k_is); (case k18 => k_is); (case a19 => k_is); (case l19 => k_is); (case e19 => k_is); (case k19 => k_is); (case a20 => k_is); (case l20 => k_is); (case e20 => k_is); (case k20 => k_is); (case a21 => k_is); (case l21 => k_is); (case e21 => k_is); (case k21 => k_is); (case a22 => k_is); (case l22 => k_is); (case e22 => k_is); (case k22 => k_is); (case a23 => k_is); (case l23 => k_is); (case e23 => k_is); (case k23 => k_is)


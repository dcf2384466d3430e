import PyProof.Rows.All
import Wide.All
import OpenK.AllK
import Wide.FinOn
import HandS.ForMost
import HandS.Rev
import HandS.TupAny
import HandS.Conv
import HandS.DictComp
import HandS.SortInts
import HandS.Strs
import HandS.SetFor
import HandS.AnyAll
import HandS.EndTab
import HandS.Wide
import PySem.Challenge.RW_unweave_k33_whole_structure_and_back
import PyProof.ReprRoads
import PyProof.FitsInt
import HandS.Small
import HandS.WordsDict
import PyProof.P3Eq
section
/-! M1: shapes, what they run first, simplify keeps it. Plain Lean. -/
namespace K33
inductive AK where
  | row | ifr | sw
  deriving DecidableEq
inductive I where
  | act (t : AK) (n : Nat) (cs : List (List I))
  | scope (lp : Bool) (l : Nat) (b : List I)
  | jmp (ag : Bool) (l : Nat)
abbrev S := List I
abbrev T := Option Nat

/-! ### functions -/
mutual
def stI : I → List Nat
  | .act _ n cs => n :: stC cs
  | .scope _ _ b => stS b
  | .jmp _ _ => []
def stS : List I → List Nat
  | [] => []
  | i :: r => stI i ++ stS r
def stC : List (List I) → List Nat
  | [] => []
  | s :: r => stS s ++ stC r
end
mutual
/-- how often l is left; w: inside loops too -/
def cntI (w : Bool) (l : Nat) : I → Nat
  | .act _ _ cs => cntC w l cs
  | .scope true _ b => if w = true then cntS w l b else 0
  | .scope false l' b => if l' = l then 0 else cntS w l b
  | .jmp true _ => 0
  | .jmp false l' => if l' = l then 1 else 0
def cntS (w : Bool) (l : Nat) : List I → Nat
  | [] => 0
  | i :: r => cntI w l i + cntS w l r
def cntC (w : Bool) (l : Nat) : List (List I) → Nat
  | [] => 0
  | s :: r => cntS w l s + cntC w l r
end
mutual
def dropI (l : Nat) : I → List I
  | .act t n cs => [.act t n (dropC l cs)]
  | .scope true l' b => [.scope true l' (dropS l b)]
  | .scope false l' b => if l' = l then [.scope false l' b] else [.scope false l' (dropS l b)]
  | .jmp true l' => [.jmp true l']
  | .jmp false l' => if l' = l then [] else [.jmp false l']
def dropS (l : Nat) : List I → List I
  | [] => []
  | i :: r => match r with
    | [] => dropI l i
    | _ :: _ => i :: dropS l r
def dropC (l : Nat) : List (List I) → List (List I)
  | [] => []
  | s :: r => dropS l s :: dropC l r
end
mutual
def putI (l : Nat) (rest : List I) : I → List I
  | .act t n cs => [.act t n (putC l rest cs)]
  | .scope true l' b => [.scope true l' (putS l rest b)]
  | .scope false l' b => if l' = l then [.scope false l' b] else [.scope false l' (putS l rest b)]
  | .jmp true l' => [.jmp true l']
  | .jmp false l' => if l' = l then rest else [.jmp false l']
def putS (l : Nat) (rest : List I) : List I → List I
  | [] => []
  | i :: r => putI l rest i ++ putS l rest r
def putC (l : Nat) (rest : List I) : List (List I) → List (List I)
  | [] => []
  | s :: r => putS l rest s :: putC l rest r
end
def isJmp : I → Bool
  | .jmp _ _ => true
  | _ => false
def endsJmp : List I → Bool
  | [] => false
  | [i] => isJmp i
  | _ :: r => endsJmp r
def simpleBlock (l : Nat) (inner rest : List I) : List I :=
  if cntS true l inner = 1 ∧ cntS false l inner = 1 then putS l rest inner
  else if cntS true l (dropS l inner) > 0 then .scope false l (dropS l inner) :: rest
  else if endsJmp (dropS l inner) = true then dropS l inner
  else dropS l inner ++ rest
mutual
/-- an item, its simplified rest behind it -/
def simI : I → List I → List I
  | .act t n cs, r => .act t n (simC cs) :: r
  | .scope true l b, r => .scope true l (simS b) :: r
  | .scope false l b, r => simpleBlock l (simS b) r
  | .jmp a l, r => .jmp a l :: r
def simS : List I → List I
  | [] => []
  | i :: r => simI i (simS r)
def simC : List (List I) → List (List I)
  | [] => []
  | s :: r => simS s :: simC r
end

/-! ### what runs first -/
structure Env where
  lp : Nat → T
  bk : Nat → T
def Env.loop (e : Env) (l : Nat) (t : T) : Env := ⟨fun x => if x = l then t else e.lp x, e.bk⟩
def Env.block (e : Env) (l : Nat) (t : T) : Env := ⟨e.lp, fun x => if x = l then t else e.bk x⟩
mutual
def fstI : I → T → Env → T
  | .act _ n _, _, _ => some n
  | .scope true l b, a, e => fstS b a (e.loop l none)
  | .scope false l b, a, e => fstS b a (e.block l a)
  | .jmp true l, _, e => e.lp l
  | .jmp false l, _, e => e.bk l
def fstS : List I → T → Env → T
  | [], a, _ => a
  | i :: r, a, e => fstI i (fstS r a e) e
end
def fstC : List (List I) → T → Env → List T
  | [], _, _ => []
  | s :: r, a, e => fstS s a e :: fstC r a e
theorem fstC_map (cs : List (List I)) (a : T) (e : Env) : fstC cs a e = cs.map fun c => fstS c a e := by
  induction cs with
  | nil => rfl
  | cons s r ih => rw [fstC, ih, List.map_cons]
/-- an acting item's own nexts are right -/
def ActOk (nx : Nat → List Nat) (t : AK) (n : Nat) (cs : List (List I)) (a : T) (e : Env) : Prop :=
  match t with
  | .row => cs = [] ∧ (nx n = [] ∨ (nx n).map some = [a])
  | _ => (nx n).map some = fstC cs a e
mutual
def OkI (nx : Nat → List Nat) : I → T → Env → Prop
  | .act t n cs, a, e => ActOk nx t n cs a e ∧ OkC nx cs a e
  | .scope true l b, a, e => OkS nx b a (e.loop l (fstS b a (e.loop l none)))
  | .scope false l b, a, e => OkS nx b a (e.block l a)
  | .jmp _ _, _, _ => True
def OkS (nx : Nat → List Nat) : List I → T → Env → Prop
  | [], _, _ => True
  | i :: r, a, e => OkI nx i (fstS r a e) e ∧ OkS nx r a e
def OkC (nx : Nat → List Nat) : List (List I) → T → Env → Prop
  | [], _, _ => True
  | s :: r, a, e => OkS nx s a e ∧ OkC nx r a e
end
mutual
/-- can end -/
def ceI (nx : Nat → List Nat) : I → Bool
  | .act .row n _ => !(nx n).isEmpty
  | .act _ _ cs => ceC nx cs
  | .scope true _ b => ceS nx b
  | .scope false l b => ceS nx b || decide (0 < cntS true l b)
  | .jmp _ _ => false
def ceS (nx : Nat → List Nat) : List I → Bool
  | [] => true
  | i :: r => match r with
    | [] => ceI nx i
    | _ :: _ => ceS nx r
def ceC (nx : Nat → List Nat) : List (List I) → Bool
  | [] => false
  | s :: r => ceS nx s || ceC nx r
end
mutual
/-- the blocks' labels -/
def blI : I → List Nat
  | .act _ _ cs => blC cs
  | .scope true _ b => blS b
  | .scope false l b => l :: blS b
  | .jmp _ _ => []
def blS : List I → List Nat
  | [] => []
  | i :: r => blI i ++ blS r
def blC : List (List I) → List Nat
  | [] => []
  | s :: r => blS s ++ blC r
end
mutual
/-- jumps end their sequence -/
def jlI : I → Prop
  | .act _ _ cs => jlC cs
  | .scope _ _ b => jlS b
  | .jmp _ _ => True
def jlS : List I → Prop
  | [] => True
  | i :: r => (isJmp i = true → r = []) ∧ jlI i ∧ jlS r
def jlC : List (List I) → Prop
  | [] => True
  | s :: r => jlS s ∧ jlC r
end
mutual
/-- acting items, loops, blocks -/
def wtI : I → Nat
  | .act _ _ cs => 1 + wtC cs
  | .scope _ _ b => 1 + wtS b
  | .jmp _ _ => 0
def wtS : List I → Nat
  | [] => 0
  | i :: r => wtI i + wtS r
def wtC : List (List I) → Nat
  | [] => 0
  | s :: r => wtS s + wtC r
end
mutual
/-- all items -/
def szI : I → Nat
  | .act _ _ cs => 1 + szC cs
  | .scope _ _ b => 1 + szS b
  | .jmp _ _ => 1
def szS : List I → Nat
  | [] => 0
  | i :: r => szI i + szS r
def szC : List (List I) → Nat
  | [] => 0
  | s :: r => 1 + szS s + szC r
end
mutual
/-- what simplify asks of an outline -/
def hI (nx : Nat → List Nat) : I → Prop
  | .act _ _ cs => hC nx cs
  | .scope _ _ b => hS nx b
  | .jmp _ _ => True
def hS (nx : Nat → List Nat) : List I → Prop
  | [] => True
  | i :: r => (isJmp i = true → r = []) ∧ hI nx i ∧ hS nx r ∧
      (match i with
        | .scope false l b => 1 ≤ cntS true l b ∧ ceS nx b = false ∧ ceS nx r = false ∧ ∀ m ∈ blS b, cntS true m r = 0
        | _ => True)
def hC (nx : Nat → List Nat) : List (List I) → Prop
  | [] => True
  | s :: r => hS nx s ∧ hC nx r
end

/-! ### env: only what is left counts -/
structure Agr (m? : Nat → Prop) (e e' : Env) : Prop where
  lp : e.lp = e'.lp
  bk : ∀ m, m? m → e.bk m = e'.bk m
theorem Agr.loop {p : Nat → Prop} {e e' : Env} (h : Agr p e e') (l : Nat) (t : T) : Agr p (e.loop l t) (e'.loop l t) :=
  ⟨by unfold Env.loop; simp only [h.lp], fun m hm => h.bk m hm⟩
theorem Agr.block {p : Nat → Prop} {e e' : Env} (l : Nat) (t : T) (h : Agr (fun m => m ≠ l ∧ p m) e e') : Agr p (e.block l t) (e'.block l t) :=
  ⟨h.lp, fun m hm => by
    unfold Env.block
    by_cases q : m = l
    · simp [q]
    · simp only [q, if_false]
      exact h.bk m ⟨q, hm⟩⟩
theorem Agr.mono {p q : Nat → Prop} {e e' : Env} (h : Agr p e e') (k : ∀ m, q m → p m) : Agr q e e' := ⟨h.lp, fun m hm => h.bk m (k m hm)⟩
variable {nx : Nat → List Nat}
mutual
theorem fstI_agr : ∀ (i : I) (a : T) (e e' : Env), Agr (fun m => 0 < cntI true m i) e e' → fstI i a e = fstI i a e'
  | .act _ _ _, _, _, _, _ => by simp [fstI]
  | .scope true l b, a, e, e', h => by
    simp only [fstI]
    exact fstS_agr b a _ _ ((h.mono fun m hm => by simpa [cntI] using hm).loop l none)
  | .scope false l b, a, e, e', h => by
    simp only [fstI]
    refine fstS_agr b a _ _ (Agr.block l a (h.mono fun m hm => ?_))
    simp only [cntI]
    rw [if_neg (Ne.symm hm.1)]
    exact hm.2
  | .jmp true l, a, e, e', h => by simp [fstI, h.lp]
  | .jmp false l, a, e, e', h => by
    simp only [fstI]
    exact h.bk l (by simp [cntI])
theorem fstS_agr : ∀ (s : List I) (a : T) (e e' : Env), Agr (fun m => 0 < cntS true m s) e e' → fstS s a e = fstS s a e'
  | [], _, _, _, _ => by simp [fstS]
  | i :: r, a, e, e', h => by
    simp only [fstS]
    rw [fstS_agr r a e e' (h.mono fun m hm => by simp only [cntS]; omega)]
    exact fstI_agr i _ e e' (h.mono fun m hm => by simp only [cntS]; omega)
end
theorem fstC_agr : ∀ (s : List (List I)) (a : T) (e e' : Env), Agr (fun m => 0 < cntC true m s) e e' → fstC s a e = fstC s a e'
  | [], _, _, _, _ => rfl
  | s :: r, a, e, e', h => by
    simp only [fstC]
    rw [fstS_agr s a e e' (h.mono fun m hm => by simp only [cntC]; omega), fstC_agr r a e e' (h.mono fun m hm => by simp only [cntC]; omega)]
theorem ActOk_agr {t : AK} {n : Nat} {cs : List (List I)} {a : T} {e e' : Env} (h : Agr (fun m => 0 < cntC true m cs) e e') : ActOk nx t n cs a e ↔ ActOk nx t n cs a e' := by
  cases t <;> simp only [ActOk, fstC_agr cs a e e' h]
mutual
theorem OkI_agr : ∀ (i : I) (a : T) (e e' : Env), Agr (fun m => 0 < cntI true m i) e e' → (OkI nx i a e ↔ OkI nx i a e')
  | .act t n cs, a, e, e', h => by
    have h' : Agr (fun m => 0 < cntC true m cs) e e' := h.mono fun m hm => by simpa [cntI] using hm
    simp only [OkI]
    rw [ActOk_agr h', OkC_agr cs a e e' h']
  | .scope true l b, a, e, e', h => by
    have h' : Agr (fun m => 0 < cntS true m b) e e' := h.mono fun m hm => by simpa [cntI] using hm
    simp only [OkI]
    rw [fstS_agr b a _ _ (h'.loop l none)]
    exact OkS_agr b a _ _ (h'.loop l _)
  | .scope false l b, a, e, e', h => by
    simp only [OkI]
    refine OkS_agr b a _ _ (Agr.block l a (h.mono fun m hm => ?_))
    simp only [cntI]
    rw [if_neg (Ne.symm hm.1)]
    exact hm.2
  | .jmp _ _, a, e, e', h => by simp [OkI]
theorem OkS_agr : ∀ (s : List I) (a : T) (e e' : Env), Agr (fun m => 0 < cntS true m s) e e' → (OkS nx s a e ↔ OkS nx s a e')
  | [], _, _, _, _ => by simp [OkS]
  | i :: r, a, e, e', h => by
    have h2 : Agr (fun m => 0 < cntS true m r) e e' := h.mono fun m hm => by simp only [cntS]; omega
    simp only [OkS]
    rw [fstS_agr r a e e' h2, OkI_agr i _ e e' (h.mono fun m hm => by simp only [cntS]; omega), OkS_agr r a e e' h2]
theorem OkC_agr : ∀ (s : List (List I)) (a : T) (e e' : Env), Agr (fun m => 0 < cntC true m s) e e' → (OkC nx s a e ↔ OkC nx s a e')
  | [], _, _, _, _ => by simp [OkC]
  | s :: r, a, e, e', h => by
    simp only [OkC]
    rw [OkS_agr s a e e' (h.mono fun m hm => by simp only [cntC]; omega), OkC_agr r a e e' (h.mono fun m hm => by simp only [cntC]; omega)]
end

/-! ### what can't end does not ask what is behind -/
theorem ceS_cons {i j : I} {r : List I} : ceS nx (i :: j :: r) = ceS nx (j :: r) := by rw [ceS]
theorem ceS_one {i : I} : ceS nx [i] = ceI nx i := by rw [ceS]
theorem ce_block {l : Nat} {b : List I} (h : ceI nx (.scope false l b) = false) : ceS nx b = false ∧ cntS true l b = 0 := by
  simp only [ceI, Bool.or_eq_false_iff, decide_eq_false_iff_not] at h
  exact ⟨h.1, by omega⟩
theorem block_other {l : Nat} {e : Env} {a a' : T} {p : Nat → Prop} (h : ¬ p l) : Agr p (e.block l a) (e.block l a') :=
  ⟨rfl, fun m hm => by
    have : m ≠ l := fun q => h (q ▸ hm)
    simp [Env.block, this]⟩
mutual
theorem fstI_ce : ∀ (i : I) (a a' : T) (e : Env), ceI nx i = false → fstI i a e = fstI i a' e
  | .act _ _ _, _, _, _, _ => by simp [fstI]
  | .scope true l b, a, a', e, h => by
    simp only [fstI]
    exact fstS_ce b a a' _ (by simpa [ceI] using h)
  | .scope false l b, a, a', e, h => by
    simp only [fstI]
    obtain ⟨h1, h2⟩ := ce_block h
    rw [fstS_ce b a a' _ h1]
    exact fstS_agr b a' _ _ (block_other (by omega))
  | .jmp true l, _, _, _, _ => by simp [fstI]
  | .jmp false l, _, _, _, _ => by simp [fstI]
theorem fstS_ce : ∀ (s : List I) (a a' : T) (e : Env), ceS nx s = false → fstS s a e = fstS s a' e
  | [], _, _, _, h => by simp [ceS] at h
  | [i], a, a', e, h => by
    simp only [fstS]
    exact fstI_ce i a a' e (by rw [ceS_one] at h; exact h)
  | i :: j :: r, a, a', e, h => by
    have q := fstS_ce (j :: r) a a' e (by rw [ceS_cons] at h; exact h)
    rw [fstS, q]
    conv => rhs; rw [fstS]
end
theorem fstC_ce : ∀ (s : List (List I)) (a a' : T) (e : Env), ceC nx s = false → fstC s a e = fstC s a' e
  | [], _, _, _, _ => rfl
  | s :: r, a, a', e, h => by
    simp only [ceC, Bool.or_eq_false_iff] at h
    simp only [fstC]
    rw [fstS_ce s a a' e h.1, fstC_ce r a a' e h.2]
mutual
theorem OkI_ce : ∀ (i : I) (a a' : T) (e : Env), ceI nx i = false → (OkI nx i a e ↔ OkI nx i a' e)
  | .act .row n cs, a, a', e, h => by
    have hn : nx n = [] := by simpa [ceI] using h
    simp only [OkI, ActOk, hn]
    constructor
    · rintro ⟨⟨rfl, _⟩, _⟩
      exact ⟨⟨rfl, .inl trivial⟩, by simp [OkC]⟩
    · rintro ⟨⟨rfl, _⟩, _⟩
      exact ⟨⟨rfl, .inl trivial⟩, by simp [OkC]⟩
  | .act .ifr n cs, a, a', e, h => by
    have h' : ceC nx cs = false := by simpa [ceI] using h
    simp only [OkI, ActOk, fstC_ce cs a a' e h', OkC_ce cs a a' e h']
  | .act .sw n cs, a, a', e, h => by
    have h' : ceC nx cs = false := by simpa [ceI] using h
    simp only [OkI, ActOk, fstC_ce cs a a' e h', OkC_ce cs a a' e h']
  | .scope true l b, a, a', e, h => by
    have h' : ceS nx b = false := by simpa [ceI] using h
    simp only [OkI]
    rw [fstS_ce b a a' _ h', OkS_ce b a a' _ h']
  | .scope false l b, a, a', e, h => by
    obtain ⟨h1, h2⟩ := ce_block h
    simp only [OkI]
    rw [OkS_ce b a a' _ h1]
    exact OkS_agr b a' _ _ (block_other (by omega))
  | .jmp _ _, _, _, _, _ => by simp [OkI]
theorem OkS_ce : ∀ (s : List I) (a a' : T) (e : Env), ceS nx s = false → (OkS nx s a e ↔ OkS nx s a' e)
  | [], _, _, _, h => by simp [ceS] at h
  | [i], a, a', e, h => by
    simp only [OkS, fstS]
    rw [OkI_ce i a a' e (by rw [ceS_one] at h; exact h)]
  | i :: j :: r, a, a', e, h => by
    have h' : ceS nx (j :: r) = false := by rw [ceS_cons] at h; exact h
    have q := OkS_ce (j :: r) a a' e h'
    have q2 := fstS_ce (j :: r) a a' e h'
    rw [OkS, q, q2]
    conv => rhs; rw [OkS]
theorem OkC_ce : ∀ (s : List (List I)) (a a' : T) (e : Env), ceC nx s = false → (OkC nx s a e ↔ OkC nx s a' e)
  | [], _, _, _, _ => by simp [OkC]
  | s :: r, a, a', e, h => by
    simp only [ceC, Bool.or_eq_false_iff] at h
    simp only [OkC]
    rw [OkS_ce s a a' e h.1, OkC_ce r a a' e h.2]
end

/-! ### appending -/
theorem fstS_app : ∀ (s r : List I) (a : T) (e : Env), fstS (s ++ r) a e = fstS s (fstS r a e) e
  | [], r, a, e => by simp [fstS]
  | i :: s, r, a, e => by
    show fstS (i :: (s ++ r)) a e = _
    simp only [fstS, fstS_app s r a e]
theorem OkS_app : ∀ (s r : List I) (a : T) (e : Env), OkS nx (s ++ r) a e ↔ OkS nx s (fstS r a e) e ∧ OkS nx r a e
  | [], r, a, e => by simp [OkS]
  | i :: s, r, a, e => by
    show OkS nx (i :: (s ++ r)) a e ↔ _
    simp only [OkS, OkS_app s r a e, fstS_app s r a e, and_assoc]
theorem stS_app : ∀ (s r : List I), stS (s ++ r) = stS s ++ stS r
  | [], r => by simp [stS]
  | i :: s, r => by
    show stS (i :: (s ++ r)) = _
    simp only [stS, stS_app s r, List.append_assoc]
theorem cntS_app (w : Bool) (l : Nat) : ∀ (s r : List I), cntS w l (s ++ r) = cntS w l s + cntS w l r
  | [], r => by simp [cntS]
  | i :: s, r => by
    show cntS w l (i :: (s ++ r)) = _
    simp only [cntS, cntS_app w l s r, Nat.add_assoc]
theorem blS_app : ∀ (s r : List I), blS (s ++ r) = blS s ++ blS r
  | [], r => by simp [blS]
  | i :: s, r => by
    show blS (i :: (s ++ r)) = _
    simp only [blS, blS_app s r, List.append_assoc]
theorem wtS_app : ∀ (s r : List I), wtS (s ++ r) = wtS s + wtS r
  | [], r => by simp [wtS]
  | i :: s, r => by
    show wtS (i :: (s ++ r)) = _
    simp only [wtS, wtS_app s r, Nat.add_assoc]
theorem szS_app : ∀ (s r : List I), szS (s ++ r) = szS s + szS r
  | [], r => by simp [szS]
  | i :: s, r => by
    show szS (i :: (s ++ r)) = _
    simp only [szS, szS_app s r, Nat.add_assoc]
theorem ceS_cons_ne {i : I} {r : List I} (h : r ≠ []) : ceS nx (i :: r) = ceS nx r := by
  cases r with
  | nil => exact absurd rfl h
  | cons j r => exact ceS_cons
theorem ceS_app_ne : ∀ (s : List I) {r : List I}, r ≠ [] → ceS nx (s ++ r) = ceS nx r
  | [], r, _ => rfl
  | i :: s, r, h => by
    show ceS nx (i :: (s ++ r)) = _
    rw [ceS_cons_ne (by simp [h]), ceS_app_ne s h]
theorem ceS_ne {s : List I} (h : ceS nx s = false) : s ≠ [] := fun e => by subst e; simp [ceS] at h
theorem jlS_app : ∀ (s r : List I), jlS s → jlS r → (endsJmp s = true → r = []) → jlS (s ++ r)
  | [], r, _, h, _ => h
  | [i], r, hs, hr, h => by
    simp only [jlS] at hs
    exact ⟨fun q => h q, hs.2.1, hr⟩
  | i :: j :: s, r, hs, hr, h => by
    obtain ⟨h1, h2, h3⟩ := hs
    refine ⟨fun q => absurd (h1 q) (by simp), h2, jlS_app (j :: s) r h3 hr h⟩

/-! ### dropping at the end -/
mutual
theorem fstS_dropI (l : Nat) : ∀ (i : I) (a : T) (e : Env), e.bk l = a → fstS (dropI l i) a e = fstI i a e ∧ (OkS nx (dropI l i) a e ↔ OkI nx i a e)
  | .act t n cs, a, e, h => by
    obtain ⟨h1, h2⟩ := fstC_drop l cs a e h
    simp only [dropI, fstS, fstI, OkS, OkI, and_true, true_and]
    rw [h2]
    cases t with
    | row =>
      simp only [ActOk]
      cases cs <;> simp [dropC]
    | ifr => simp only [ActOk, h1]
    | sw => simp only [ActOk, h1]
  | .scope true l' b, a, e, h => by
    obtain ⟨h1, _⟩ := fstS_drop l b a (e.loop l' none) h
    obtain ⟨_, h2⟩ := fstS_drop l b a (e.loop l' (fstS b a (e.loop l' none))) h
    simp only [dropI, fstS, fstI, OkS, OkI, and_true, h1, h2, and_self]
  | .scope false l' b, a, e, h => by
    simp only [dropI]
    by_cases q : l' = l
    · simp only [if_pos q, fstS, OkS, and_true, and_self]
    · simp only [if_neg q, fstS, OkS, fstI, OkI, and_true]
      have q' : ¬ l = l' := fun z => q z.symm
      exact fstS_drop l b a (e.block l' a) (by simp only [Env.block, if_neg q']; exact h)
  | .jmp true l', a, e, h => by simp [dropI, fstS, fstI, OkS, OkI]
  | .jmp false l', a, e, h => by
    simp only [dropI]
    by_cases q : l' = l
    · subst q
      simp [fstS, fstI, OkS, OkI, h]
    · simp [if_neg q, fstS, fstI, OkS, OkI]
theorem fstS_drop (l : Nat) : ∀ (s : List I) (a : T) (e : Env), e.bk l = a → fstS (dropS l s) a e = fstS s a e ∧ (OkS nx (dropS l s) a e ↔ OkS nx s a e)
  | [], a, e, h => by simp [dropS]
  | [i], a, e, h => by
    have := fstS_dropI l i a e h
    simp only [dropS, fstS, OkS, and_true]
    exact this
  | i :: j :: r, a, e, h => by
    obtain ⟨h1, h2⟩ := fstS_drop l (j :: r) a e h
    have d : dropS l (i :: j :: r) = i :: dropS l (j :: r) := by rw [dropS]
    rw [d]
    refine ⟨?_, ?_⟩
    · rw [fstS, h1]
      conv => rhs; rw [fstS]
    · rw [OkS, h1, h2]
      conv => rhs; rw [OkS]
theorem fstC_drop (l : Nat) : ∀ (s : List (List I)) (a : T) (e : Env), e.bk l = a → fstC (dropC l s) a e = fstC s a e ∧ (OkC nx (dropC l s) a e ↔ OkC nx s a e)
  | [], a, e, h => by simp [dropC]
  | s :: r, a, e, h => by
    obtain ⟨h1, h2⟩ := fstS_drop l s a e h
    obtain ⟨h3, h4⟩ := fstC_drop l r a e h
    simp only [dropC, fstC, OkC, h1, h2, h3, h4, and_self]
end
mutual
theorem stS_dropI (l : Nat) : ∀ (i : I), stS (dropI l i) = stI i
  | .act t n cs => by simp [dropI, stS, stI, stC_drop l cs]
  | .scope true l' b => by simp [dropI, stS, stI, stS_drop l b]
  | .scope false l' b => by
    simp only [dropI]
    split <;> simp [stS, stI, stS_drop l b]
  | .jmp true l' => by simp [dropI, stS, stI]
  | .jmp false l' => by
    simp only [dropI]
    split <;> simp [stS, stI]
theorem stS_drop (l : Nat) : ∀ (s : List I), stS (dropS l s) = stS s
  | [] => by simp [dropS]
  | [i] => by simp [dropS, stS, stS_dropI l i]
  | i :: j :: r => by
    have d : dropS l (i :: j :: r) = i :: dropS l (j :: r) := by rw [dropS]
    rw [d, stS, stS_drop l (j :: r)]
    conv => rhs; rw [stS]
theorem stC_drop (l : Nat) : ∀ (s : List (List I)), stC (dropC l s) = stC s
  | [] => by simp [dropC]
  | s :: r => by simp [dropC, stC, stS_drop l s, stC_drop l r]
end
mutual
theorem cntS_dropI (w : Bool) (l m : Nat) (hm : m ≠ l) : ∀ (i : I), cntS w m (dropI l i) = cntI w m i
  | .act t n cs => by simp [dropI, cntS, cntI, cntC_drop w l m hm cs]
  | .scope true l' b => by simp [dropI, cntS, cntI, cntS_drop w l m hm b]
  | .scope false l' b => by
    simp only [dropI]
    split <;> simp [cntS, cntI, cntS_drop w l m hm b]
  | .jmp true l' => by simp [dropI, cntS, cntI]
  | .jmp false l' => by
    simp only [dropI]
    split
    · rename_i q
      subst q
      simp [cntS, cntI, Ne.symm hm]
    · simp [cntS, cntI]
theorem cntS_drop (w : Bool) (l m : Nat) (hm : m ≠ l) : ∀ (s : List I), cntS w m (dropS l s) = cntS w m s
  | [] => by simp [dropS]
  | [i] => by simp [dropS, cntS, cntS_dropI w l m hm i]
  | i :: j :: r => by
    have d : dropS l (i :: j :: r) = i :: dropS l (j :: r) := by rw [dropS]
    rw [d, cntS, cntS_drop w l m hm (j :: r)]
    conv => rhs; rw [cntS]
theorem cntC_drop (w : Bool) (l m : Nat) (hm : m ≠ l) : ∀ (s : List (List I)), cntC w m (dropC l s) = cntC w m s
  | [] => by simp [dropC]
  | s :: r => by simp [dropC, cntC, cntS_drop w l m hm s, cntC_drop w l m hm r]
end
mutual
theorem wtS_dropI (l : Nat) : ∀ (i : I), wtS (dropI l i) = wtI i ∧ szS (dropI l i) ≤ szI i
  | .act t n cs => by have := wtC_drop l cs; simp [dropI, wtS, wtI, szS, szI]; omega
  | .scope true l' b => by have := wtS_drop l b; simp [dropI, wtS, wtI, szS, szI]; omega
  | .scope false l' b => by
    have := wtS_drop l b
    simp only [dropI]
    split <;> simp [wtS, wtI, szS, szI] <;> omega
  | .jmp true l' => by simp [dropI, wtS, wtI, szS, szI]
  | .jmp false l' => by
    simp only [dropI]
    split <;> simp [wtS, wtI, szS, szI]
theorem wtS_drop (l : Nat) : ∀ (s : List I), wtS (dropS l s) = wtS s ∧ szS (dropS l s) ≤ szS s
  | [] => by simp [dropS]
  | [i] => by have := wtS_dropI l i; simp [dropS, wtS, szS]; omega
  | i :: j :: r => by
    have d : dropS l (i :: j :: r) = i :: dropS l (j :: r) := by rw [dropS]
    have := wtS_drop l (j :: r)
    rw [d, wtS, szS, this.1]
    constructor
    · conv => rhs; rw [wtS]
    · conv => rhs; rw [szS]
      omega
theorem wtC_drop (l : Nat) : ∀ (s : List (List I)), wtC (dropC l s) = wtC s ∧ szC (dropC l s) ≤ szC s
  | [] => by simp [dropC]
  | s :: r => by have := wtS_drop l s; have := wtC_drop l r; simp [dropC, wtC, szC]; omega
end
mutual
theorem blS_dropI (l : Nat) : ∀ (i : I) (m : Nat), m ∈ blS (dropI l i) → m ∈ blI i
  | .act t n cs, m, h => by
    simp [dropI, blS, blI] at h ⊢
    exact blC_drop l cs m h
  | .scope true l' b, m, h => by
    simp [dropI, blS, blI] at h ⊢
    exact blS_drop l b m h
  | .scope false l' b, m, h => by
    simp only [dropI] at h
    split at h
    · simpa [blS, blI] using h
    · simp [blS, blI] at h ⊢
      rcases h with h | h
      · exact .inl h
      · exact .inr (blS_drop l b m h)
  | .jmp true l', m, h => by simp [dropI, blS, blI] at h
  | .jmp false l', m, h => by
    simp only [dropI] at h
    split at h <;> simp [blS, blI] at h
theorem blS_drop (l : Nat) : ∀ (s : List I) (m : Nat), m ∈ blS (dropS l s) → m ∈ blS s
  | [], m, h => by simpa [dropS] using h
  | [i], m, h => by
    simp only [dropS] at h
    simpa [blS] using blS_dropI l i m h
  | i :: j :: r, m, h => by
    have d : dropS l (i :: j :: r) = i :: dropS l (j :: r) := by rw [dropS]
    rw [d, blS, List.mem_append] at h
    rw [blS, List.mem_append]
    rcases h with h | h
    · exact .inl h
    · exact .inr (blS_drop l (j :: r) m h)
theorem blC_drop (l : Nat) : ∀ (s : List (List I)) (m : Nat), m ∈ blC (dropC l s) → m ∈ blC s
  | [], m, h => by simpa [dropC] using h
  | s :: r, m, h => by
    simp only [dropC, blC, List.mem_append] at h ⊢
    rcases h with h | h
    · exact .inl (blS_drop l s m h)
    · exact .inr (blC_drop l r m h)
end
mutual
theorem jlS_dropI (l : Nat) : ∀ (i : I), jlI i → jlS (dropI l i)
  | .act t n cs, h => by
    simp only [jlI] at h
    simp [dropI, jlS, jlI, isJmp, jlC_drop l cs h]
  | .scope true l' b, h => by
    simp only [jlI] at h
    simp [dropI, jlS, jlI, isJmp, jlS_drop l b h]
  | .scope false l' b, h => by
    simp only [jlI] at h
    simp only [dropI]
    split
    · simp [jlS, jlI, isJmp, h]
    · simp [jlS, jlI, isJmp, jlS_drop l b h]
  | .jmp true l', h => by simp [dropI, jlS, jlI]
  | .jmp false l', h => by
    simp only [dropI]
    split <;> simp [jlS, jlI]
theorem jlS_drop (l : Nat) : ∀ (s : List I), jlS s → jlS (dropS l s)
  | [], h => by simp [dropS, jlS]
  | [i], h => by
    simp only [jlS] at h
    simp only [dropS]
    exact jlS_dropI l i h.2.1
  | i :: j :: r, h => by
    have d : dropS l (i :: j :: r) = i :: dropS l (j :: r) := by rw [dropS]
    rw [d]
    obtain ⟨h1, h2, h3⟩ := h
    exact ⟨fun q => absurd (h1 q) (by simp), h2, jlS_drop l (j :: r) h3⟩
theorem jlC_drop (l : Nat) : ∀ (s : List (List I)), jlC s → jlC (dropC l s)
  | [], h => by simp [dropC, jlC]
  | s :: r, h => by
    obtain ⟨h1, h2⟩ := h
    exact ⟨jlS_drop l s h1, jlC_drop l r h2⟩
end
/-- the case where simplify would lose what follows does not arise -/
theorem drop_ends (l : Nat) : ∀ (s : List I), jlS s → 0 < cntS true l s → cntS true l (dropS l s) = 0 → endsJmp (dropS l s) = false
  | [], _, h, _ => by simp [cntS] at h
  | [i], hj, h, h0 => by
    simp only [dropS] at h0 ⊢
    cases i with
    | act t n cs => simp [dropI, endsJmp, isJmp]
    | scope lp l' b =>
      cases lp with
      | true => simp [dropI, endsJmp, isJmp]
      | false =>
        simp only [dropI]
        split <;> simp [endsJmp, isJmp]
    | jmp ag l' =>
      cases ag with
      | true => simp [cntS, cntI] at h
      | false =>
        simp only [dropI]
        split
        · rfl
        · rename_i q
          simp [cntS, cntI, q] at h
  | i :: j :: r, hj, h, h0 => by
    have d : dropS l (i :: j :: r) = i :: dropS l (j :: r) := by rw [dropS]
    obtain ⟨h1, h2, h3⟩ := hj
    have hi : isJmp i = false := by
      cases q : isJmp i with
      | false => rfl
      | true => exact absurd (h1 q) (by simp)
    rw [d] at h0 ⊢
    simp only [cntS] at h h0
    cases q : dropS l (j :: r) with
    | nil => simp [endsJmp, hi]
    | cons k t =>
      have e : endsJmp (i :: k :: t) = endsJmp (k :: t) := by rw [endsJmp]; simp
      rw [e, ← q]
      exact drop_ends l (j :: r) h3 (by simp only [cntS]; omega) (by omega)

/-! ### putting in -/
mutual
theorem cntI_le (l : Nat) : ∀ i : I, cntI false l i ≤ cntI true l i
  | .act _ _ cs => by simpa [cntI] using cntC_le l cs
  | .scope true _ b => by simp [cntI]
  | .scope false l' b => by
    simp only [cntI]
    split
    · exact Nat.le_refl _
    · exact cntS_le l b
  | .jmp true _ => by simp [cntI]
  | .jmp false _ => by simp [cntI]
theorem cntS_le (l : Nat) : ∀ s : List I, cntS false l s ≤ cntS true l s
  | [] => by simp [cntS]
  | i :: r => by
    have := cntI_le l i
    have := cntS_le l r
    simp only [cntS]
    omega
theorem cntC_le (l : Nat) : ∀ s : List (List I), cntC false l s ≤ cntC true l s
  | [] => by simp [cntC]
  | i :: r => by
    have := cntS_le l i
    have := cntC_le l r
    simp only [cntC]
    omega
end
mutual
theorem putI_zero (l : Nat) (rest : List I) : ∀ i : I, cntI true l i = 0 → putI l rest i = [i]
  | .act t n cs, h => by simp [putI, putC_zero l rest cs (by simpa [cntI] using h)]
  | .scope true l' b, h => by simp [putI, putS_zero l rest b (by simpa [cntI] using h)]
  | .scope false l' b, h => by
    simp only [putI]
    split
    · rfl
    · rename_i q
      rw [putS_zero l rest b (by simpa [cntI, q] using h)]
  | .jmp true l', h => by simp [putI]
  | .jmp false l', h => by
    simp only [putI]
    split
    · rename_i q
      simp [cntI, q] at h
    · rfl
theorem putS_zero (l : Nat) (rest : List I) : ∀ s : List I, cntS true l s = 0 → putS l rest s = s
  | [], h => by simp [putS]
  | i :: r, h => by
    simp only [cntS] at h
    simp only [putS, putI_zero l rest i (by omega), putS_zero l rest r (by omega)]
    rfl
theorem putC_zero (l : Nat) (rest : List I) : ∀ s : List (List I), cntC true l s = 0 → putC l rest s = s
  | [], h => by simp [putC]
  | i :: r, h => by
    simp only [cntC] at h
    simp only [putC, putS_zero l rest i (by omega), putC_zero l rest r (by omega)]
end
/-- what stands behind the block, wherever it is put -/
structure Rst (nx : Nat → List Nat) (rest : List I) (t : T) (P : Prop) (e : Env) : Prop where
  f : ∀ a, fstS rest a e = t
  o : ∀ a, OkS nx rest a e ↔ P
theorem Rst.agr {rest : List I} {t : T} {P : Prop} {e e' : Env} (h : Rst nx rest t P e) (k : Agr (fun m => 0 < cntS true m rest) e e') : Rst nx rest t P e' :=
  ⟨fun a => (fstS_agr rest a e e' k).symm.trans (h.f a), fun a => (OkS_agr rest a e e' k).symm.trans (h.o a)⟩
/-- the two envs: the block's own, the one behind -/
structure Two (l : Nat) (t : T) (eA eB : Env) : Prop where
  lp : eA.lp = eB.lp
  bk : ∀ m, m ≠ l → eA.bk m = eB.bk m
  at_ : eA.bk l = t
theorem Two.agr {l : Nat} {t : T} {eA eB : Env} (h : Two l t eA eB) {p : Nat → Prop} (hp : ¬ p l) : Agr p eB eA :=
  ⟨h.lp.symm, fun m hm => (h.bk m (fun q => hp (q ▸ hm))).symm⟩
mutual
theorem fst_putI (l : Nat) (rest : List I) (t : T) (P : Prop) : ∀ (i : I) (a : T) (eA eB : Env), Two l t eA eB → Rst nx rest t P eB → cntI true l i = cntI false l i → (∀ m ∈ blI i, cntS true m rest = 0) →
    fstS (putI l rest i) a eB = fstI i a eA ∧ (OkS nx (putI l rest i) a eB ↔ OkI nx i a eA ∧ (0 < cntI true l i → P))
  | .act k n cs, a, eA, eB, h2, hr, hc, hb => by
    obtain ⟨h3, h4⟩ := fst_putC l rest t P cs a eA eB h2 hr (by simpa [cntI] using hc) (by simpa [blI] using hb)
    simp only [putI, fstS, fstI, OkS, OkI, and_true, true_and, cntI]
    rw [h4]
    have e : ActOk nx k n (putC l rest cs) a eB ↔ ActOk nx k n cs a eA := by
      cases k with
      | row =>
        simp only [ActOk]
        cases cs <;> simp [putC]
      | ifr => simp only [ActOk, h3]
      | sw => simp only [ActOk, h3]
    rw [e, and_assoc]
  | .scope true l' b, a, eA, eB, h2, hr, hc, hb => by
    have h0 : cntS true l b = 0 := by simpa [cntI] using hc
    simp only [putI, putS_zero l rest b h0, fstS, fstI, OkS, OkI, and_true, cntI, if_true, h0]
    have g : Agr (fun m => 0 < cntS true m b) eB eA := h2.agr (by simp [h0])
    rw [fstS_agr b a _ _ (g.loop l' none), OkS_agr b a _ _ (g.loop l' _)]
    simp
  | .scope false l' b, a, eA, eB, h2, hr, hc, hb => by
    by_cases q : l' = l
    · simp only [putI, if_pos q, fstS, fstI, OkS, OkI, and_true, cntI]
      have g : Agr (fun _ => True) (eB.block l' a) (eA.block l' a) := by
        refine Agr.block l' a ⟨h2.lp.symm, fun m hm => ?_⟩
        exact (h2.bk m (fun z => hm.1 (z.trans q.symm))).symm
      rw [fstS_agr b a _ _ (g.mono fun _ _ => trivial), OkS_agr b a _ _ (g.mono fun _ _ => trivial)]
      simp
    · simp only [putI, if_neg q, fstS, fstI, OkS, OkI, and_true, cntI]
      have h0 : cntS true l' rest = 0 := hb l' (by simp [blI])
      have ql : ¬ l = l' := fun z => q z.symm
      refine fst_putS l rest t P b a _ _ ⟨h2.lp, fun m hm => ?_, ?_⟩ (hr.agr ⟨rfl, fun m hm => ?_⟩) (by simpa [cntI, q] using hc) (fun m hm => hb m (by simp [blI, hm]))
      · simp only [Env.block]
        split
        · rfl
        · exact h2.bk m hm
      · simp only [Env.block, if_neg ql]
        exact h2.at_
      · have : m ≠ l' := fun z => by subst z; omega
        simp [Env.block, this]
  | .jmp true l', a, eA, eB, h2, hr, hc, hb => by simp [putI, fstS, fstI, OkS, OkI, cntI, h2.lp]
  | .jmp false l', a, eA, eB, h2, hr, hc, hb => by
    by_cases q : l' = l
    · subst q
      simp only [putI, if_true, fstI, OkI, cntI, true_and, Nat.zero_lt_one, true_implies]
      exact ⟨(hr.f a).trans h2.at_.symm, hr.o a⟩
    · simp only [putI, if_neg q, fstS, fstI, OkS, OkI, cntI, Nat.lt_irrefl, false_implies, and_true]
      exact (h2.bk l' q).symm
theorem fst_putS (l : Nat) (rest : List I) (t : T) (P : Prop) : ∀ (s : List I) (a : T) (eA eB : Env), Two l t eA eB → Rst nx rest t P eB → cntS true l s = cntS false l s → (∀ m ∈ blS s, cntS true m rest = 0) →
    fstS (putS l rest s) a eB = fstS s a eA ∧ (OkS nx (putS l rest s) a eB ↔ OkS nx s a eA ∧ (0 < cntS true l s → P))
  | [], a, eA, eB, h2, hr, hc, hb => by simp [putS, fstS, OkS, cntS]
  | i :: r, a, eA, eB, h2, hr, hc, hb => by
    have c1 := cntI_le l i
    have c2 := cntS_le l r
    simp only [cntS] at hc
    obtain ⟨g1, g2⟩ := fst_putS l rest t P r a eA eB h2 hr (by omega) (fun m hm => hb m (by simp [blS, hm]))
    obtain ⟨g3, g4⟩ := fst_putI l rest t P i (fstS r a eA) eA eB h2 hr (by omega) (fun m hm => hb m (by simp [blS, hm]))
    simp only [putS, fstS_app, OkS_app, fstS, OkS, g1, g2, g3, g4, true_and, cntS]
    constructor
    · rintro ⟨⟨a1, a2⟩, a3, a4⟩
      exact ⟨⟨a1, a3⟩, fun q => by
        by_cases z : 0 < cntI true l i
        · exact a2 z
        · exact a4 (by omega)⟩
    · rintro ⟨⟨a1, a3⟩, a5⟩
      exact ⟨⟨a1, fun q => a5 (by omega)⟩, a3, fun q => a5 (by omega)⟩
theorem fst_putC (l : Nat) (rest : List I) (t : T) (P : Prop) : ∀ (s : List (List I)) (a : T) (eA eB : Env), Two l t eA eB → Rst nx rest t P eB → cntC true l s = cntC false l s → (∀ m ∈ blC s, cntS true m rest = 0) →
    fstC (putC l rest s) a eB = fstC s a eA ∧ (OkC nx (putC l rest s) a eB ↔ OkC nx s a eA ∧ (0 < cntC true l s → P))
  | [], a, eA, eB, h2, hr, hc, hb => by simp [putC, fstC, OkC, cntC]
  | i :: r, a, eA, eB, h2, hr, hc, hb => by
    have c1 := cntS_le l i
    have c2 := cntC_le l r
    simp only [cntC] at hc
    obtain ⟨g1, g2⟩ := fst_putC l rest t P r a eA eB h2 hr (by omega) (fun m hm => hb m (by simp [blC, hm]))
    obtain ⟨g3, g4⟩ := fst_putS l rest t P i a eA eB h2 hr (by omega) (fun m hm => hb m (by simp [blC, hm]))
    simp only [putC, fstC, OkC, g1, g2, g3, g4, true_and, cntC]
    constructor
    · rintro ⟨⟨a1, a2⟩, a3, a4⟩
      exact ⟨⟨a1, a3⟩, fun q => by
        by_cases z : 0 < cntS true l i
        · exact a2 z
        · exact a4 (by omega)⟩
    · rintro ⟨⟨a1, a3⟩, a5⟩
      exact ⟨⟨a1, fun q => a5 (by omega)⟩, a3, fun q => a5 (by omega)⟩
end
/-- n copies -/
def reps (n : Nat) (l : List Nat) : List Nat := (List.replicate n l).flatten
theorem reps_zero (l : List Nat) : reps 0 l = [] := rfl
theorem reps_one (l : List Nat) : reps 1 l = l := by simp [reps]
theorem reps_add (a b : Nat) (l : List Nat) : reps (a + b) l = reps a l ++ reps b l := by
  unfold reps
  rw [← List.replicate_append_replicate, List.flatten_append]
theorem perm4 {a b c d x y : List Nat} (h1 : x.Perm (a ++ b)) (h2 : y.Perm (c ++ d)) : (x ++ y).Perm ((a ++ c) ++ (b ++ d)) := by
  refine (h1.append h2).trans ?_
  rw [List.append_assoc, List.append_assoc]
  refine List.Perm.append_left a ?_
  rw [← List.append_assoc, ← List.append_assoc]
  exact List.Perm.append_right d List.perm_append_comm
mutual
theorem stS_putI (l : Nat) (rest : List I) : ∀ i : I, (stS (putI l rest i)).Perm (stI i ++ reps (cntI true l i) (stS rest))
  | .act t n cs => by
    simp only [putI, stS, stI, cntI, List.append_nil, List.cons_append]
    exact (stC_put l rest cs).cons n
  | .scope true l' b => by
    simp only [putI, stS, stI, cntI, List.append_nil, if_true]
    exact stS_put l rest b
  | .scope false l' b => by
    simp only [putI, cntI]
    split
    · simp [stS, stI, reps_zero]
    · simp only [stS, stI, List.append_nil]
      exact stS_put l rest b
  | .jmp true l' => by simp [putI, stS, stI, cntI, reps_zero]
  | .jmp false l' => by
    simp only [putI, cntI]
    split
    · simp [stI, reps_one]
    · simp [stS, stI, reps_zero]
theorem stS_put (l : Nat) (rest : List I) : ∀ s : List I, (stS (putS l rest s)).Perm (stS s ++ reps (cntS true l s) (stS rest))
  | [] => by simp [putS, stS, cntS, reps_zero]
  | i :: r => by
    simp only [putS, stS_app, stS, cntS, reps_add]
    exact perm4 (stS_putI l rest i) (stS_put l rest r)
theorem stC_put (l : Nat) (rest : List I) : ∀ s : List (List I), (stC (putC l rest s)).Perm (stC s ++ reps (cntC true l s) (stS rest))
  | [] => by simp [putC, stC, cntC, reps_zero]
  | i :: r => by
    simp only [putC, stC, cntC, reps_add]
    exact perm4 (stS_put l rest i) (stC_put l rest r)
end
mutual
theorem wtS_putI (l : Nat) (rest : List I) : ∀ i : I, wtS (putI l rest i) = wtI i + cntI true l i * wtS rest ∧ szS (putI l rest i) ≤ szI i + cntI true l i * szS rest
  | .act t n cs => by have := wtC_put l rest cs; simp only [putI, wtS, wtI, cntI, szS, szI]; omega
  | .scope true l' b => by have := wtS_put l rest b; simp only [putI, wtS, wtI, cntI, szS, szI, if_true]; omega
  | .scope false l' b => by
    have := wtS_put l rest b
    simp only [putI, cntI]
    split
    · simp [wtS, wtI, szS, szI]
    · simp only [wtS, wtI, szS, szI]; omega
  | .jmp true l' => by simp [putI, wtS, wtI, cntI, szS, szI]
  | .jmp false l' => by
    simp only [putI, cntI]
    split
    · simp [wtI, szI]
    · simp [wtS, wtI, szS, szI]
theorem wtS_put (l : Nat) (rest : List I) : ∀ s : List I, wtS (putS l rest s) = wtS s + cntS true l s * wtS rest ∧ szS (putS l rest s) ≤ szS s + cntS true l s * szS rest
  | [] => by simp [putS, wtS, cntS, szS]
  | i :: r => by
    have := wtS_putI l rest i
    have := wtS_put l rest r
    simp only [putS, wtS_app, szS_app, wtS, szS, cntS, Nat.add_mul]
    omega
theorem wtC_put (l : Nat) (rest : List I) : ∀ s : List (List I), wtC (putC l rest s) = wtC s + cntC true l s * wtS rest ∧ szC (putC l rest s) ≤ szC s + cntC true l s * szS rest
  | [] => by simp [putC, wtC, cntC, szC]
  | i :: r => by
    have := wtS_put l rest i
    have := wtC_put l rest r
    simp only [putC, wtC, szC, cntC, Nat.add_mul]
    omega
end
mutual
theorem cntS_putI (l m : Nat) (rest : List I) : ∀ i : I, (∀ k ∈ blI i, cntS true k rest = 0) → cntS true m (putI l rest i) = (if m = l then 0 else cntI true m i) + cntI true l i * cntS true m rest
  | .act t n cs, h => by
    have := cntC_put l m rest cs (by simpa [blI] using h)
    simp only [putI, cntS, cntI]
    omega
  | .scope true l' b, h => by
    have := cntS_put l m rest b (by simpa [blI] using h)
    simp only [putI, cntS, cntI, if_true]
    omega
  | .scope false l' b, h => by
    have := cntS_put l m rest b (fun k hk => h k (by simp [blI, hk]))
    have h0 : cntS true l' rest = 0 := h l' (by simp [blI])
    simp only [putI, cntI]
    by_cases q : l' = l
    · simp only [if_pos q, cntS, cntI]
      by_cases z : m = l
      · have z' : l' = m := q.trans z.symm
        simp [z, z', q]
      · have z' : ¬ l' = m := fun y => z (y.symm.trans q)
        simp [z, z']
    · simp only [if_neg q, cntS, cntI]
      by_cases z : l' = m
      · subst z
        simp [q, h0]
      · simp only [if_neg z]
        omega
  | .jmp true l', h => by simp [putI, cntS, cntI]
  | .jmp false l', h => by
    simp only [putI, cntI]
    by_cases q : l' = l
    · subst q
      simp only [if_true]
      by_cases z : m = l'
      · simp [z]
      · have z' : ¬ l' = m := fun y => z y.symm
        simp [z, z']
    · simp only [if_neg q, cntS, cntI]
      by_cases z : m = l
      · have z' : ¬ l' = m := fun y => q (y.trans z)
        simp [z, z', q]
      · simp [z]
theorem cntS_put (l m : Nat) (rest : List I) : ∀ s : List I, (∀ k ∈ blS s, cntS true k rest = 0) → cntS true m (putS l rest s) = (if m = l then 0 else cntS true m s) + cntS true l s * cntS true m rest
  | [], h => by simp [putS, cntS]
  | i :: r, h => by
    have h1 := cntS_putI l m rest i (fun k hk => h k (by simp [blS, hk]))
    have h2 := cntS_put l m rest r (fun k hk => h k (by simp [blS, hk]))
    simp only [putS, cntS_app, cntS, Nat.add_mul]
    by_cases q : m = l
    · subst q
      simp only [if_true] at h1 h2 ⊢
      omega
    · simp only [if_neg q] at h1 h2 ⊢
      omega
theorem cntC_put (l m : Nat) (rest : List I) : ∀ s : List (List I), (∀ k ∈ blC s, cntS true k rest = 0) → cntC true m (putC l rest s) = (if m = l then 0 else cntC true m s) + cntC true l s * cntS true m rest
  | [], h => by simp [putC, cntC]
  | i :: r, h => by
    have h1 := cntS_put l m rest i (fun k hk => h k (by simp [blC, hk]))
    have h2 := cntC_put l m rest r (fun k hk => h k (by simp [blC, hk]))
    simp only [putC, cntC, Nat.add_mul]
    by_cases q : m = l
    · subst q
      simp only [if_true] at h1 h2 ⊢
      omega
    · simp only [if_neg q] at h1 h2 ⊢
      omega
end
theorem putI_ne {l : Nat} {rest : List I} (hr : rest ≠ []) : ∀ i : I, putI l rest i ≠ []
  | .act t n cs => by simp [putI]
  | .scope true l' b => by simp [putI]
  | .scope false l' b => by simp only [putI]; split <;> simp
  | .jmp true l' => by simp [putI]
  | .jmp false l' => by simp only [putI]; split <;> simp [hr]
theorem putS_ne {l : Nat} {rest : List I} (hr : rest ≠ []) : ∀ {s : List I}, s ≠ [] → putS l rest s ≠ []
  | [], h => absurd rfl h
  | i :: r, _ => by simp [putS, putI_ne hr i]
mutual
theorem ce_putI (l : Nat) (rest : List I) (hr : ceS nx rest = false) : ∀ i : I, ceI nx i = false → (∀ m ∈ blI i, cntS true m rest = 0) → ceS nx (putI l rest i) = false
  | .act .row n cs, h, hb => by simpa [putI, ceS_one, ceI] using h
  | .act .ifr n cs, h, hb => by
    simp only [putI, ceS_one, ceI] at h ⊢
    exact ce_putC l rest hr cs h (by simpa [blI] using hb)
  | .act .sw n cs, h, hb => by
    simp only [putI, ceS_one, ceI] at h ⊢
    exact ce_putC l rest hr cs h (by simpa [blI] using hb)
  | .scope true l' b, h, hb => by
    simp only [putI, ceS_one, ceI] at h ⊢
    exact ce_putS l rest hr b h (by simpa [blI] using hb)
  | .scope false l' b, h, hb => by
    simp only [putI]
    split
    · simpa [ceS_one] using h
    · rename_i q
      obtain ⟨h1, h2⟩ := ce_block h
      have hb' : ∀ m ∈ blS b, cntS true m rest = 0 := fun k hk => hb k (by simp [blI, hk])
      have h3 := ce_putS l rest hr b h1 hb'
      have h4 := cntS_put l l' rest b hb'
      have h5 : cntS true l' rest = 0 := hb l' (by simp [blI])
      rw [if_neg q, h2, h5] at h4
      simp [ceS_one, ceI, h3, h4]
  | .jmp true l', h, hb => by simp [putI, ceS_one, ceI]
  | .jmp false l', h, hb => by
    simp only [putI]
    split
    · exact hr
    · simp [ceS_one, ceI]
theorem ce_putS (l : Nat) (rest : List I) (hr : ceS nx rest = false) : ∀ s : List I, ceS nx s = false → (∀ m ∈ blS s, cntS true m rest = 0) → ceS nx (putS l rest s) = false
  | [], h, _ => by simp [ceS] at h
  | [i], h, hb => by
    simp only [putS, List.append_nil]
    exact ce_putI l rest hr i (by rwa [ceS_one] at h) (fun m hm => hb m (by simp [blS, hm]))
  | i :: j :: r, h, hb => by
    rw [ceS_cons] at h
    have d : putS l rest (i :: j :: r) = putI l rest i ++ putS l rest (j :: r) := by rw [putS]
    rw [d, ceS_app_ne _ (putS_ne (ceS_ne hr) (by simp))]
    exact ce_putS l rest hr (j :: r) h (fun m hm => hb m (by rw [blS]; simp [hm]))
theorem ce_putC (l : Nat) (rest : List I) (hr : ceS nx rest = false) : ∀ s : List (List I), ceC nx s = false → (∀ m ∈ blC s, cntS true m rest = 0) → ceC nx (putC l rest s) = false
  | [], h, _ => by simp [putC, ceC]
  | i :: r, h, hb => by
    simp only [ceC, Bool.or_eq_false_iff] at h
    simp only [putC, ceC, Bool.or_eq_false_iff]
    exact ⟨ce_putS l rest hr i h.1 (fun m hm => hb m (by simp [blC, hm])), ce_putC l rest hr r h.2 (fun m hm => hb m (by simp [blC, hm]))⟩
end
mutual
theorem blS_putI (l : Nat) (rest : List I) : ∀ (i : I) (m : Nat), m ∈ blS (putI l rest i) → m ∈ blI i ∨ m ∈ blS rest
  | .act t n cs, m, h => by
    simp only [putI, blS, blI, List.append_nil] at h ⊢
    exact blC_put l rest cs m h
  | .scope true l' b, m, h => by
    simp only [putI, blS, blI, List.append_nil] at h ⊢
    exact blS_put l rest b m h
  | .scope false l' b, m, h => by
    simp only [putI] at h
    split at h
    · simp only [blS, List.append_nil] at h
      exact .inl h
    · simp only [blS, blI, List.append_nil, List.mem_cons] at h ⊢
      rcases h with h | h
      · exact .inl (.inl h)
      · rcases blS_put l rest b m h with z | z
        · exact .inl (.inr z)
        · exact .inr z
  | .jmp true l', m, h => by simp [putI, blS, blI] at h
  | .jmp false l', m, h => by
    simp only [putI] at h
    split at h
    · exact .inr h
    · simp [blS, blI] at h
theorem blS_put (l : Nat) (rest : List I) : ∀ (s : List I) (m : Nat), m ∈ blS (putS l rest s) → m ∈ blS s ∨ m ∈ blS rest
  | [], m, h => by simp [putS, blS] at h
  | i :: r, m, h => by
    simp only [putS, blS_app, blS, List.mem_append] at h ⊢
    rcases h with h | h
    · rcases blS_putI l rest i m h with z | z
      · exact .inl (.inl z)
      · exact .inr z
    · rcases blS_put l rest r m h with z | z
      · exact .inl (.inr z)
      · exact .inr z
theorem blC_put (l : Nat) (rest : List I) : ∀ (s : List (List I)) (m : Nat), m ∈ blC (putC l rest s) → m ∈ blC s ∨ m ∈ blS rest
  | [], m, h => by simp [putC, blC] at h
  | i :: r, m, h => by
    simp only [putC, blC, List.mem_append] at h ⊢
    rcases h with h | h
    · rcases blS_put l rest i m h with z | z
      · exact .inl (.inl z)
      · exact .inr z
    · rcases blC_put l rest r m h with z | z
      · exact .inl (.inr z)
      · exact .inr z
end
mutual
theorem jlS_putI (l : Nat) (rest : List I) (hr : jlS rest) : ∀ i : I, jlI i → jlS (putI l rest i) ∧ (endsJmp (putI l rest i) = true → isJmp i = true)
  | .act t n cs, h => by
    simp only [jlI] at h
    simp [putI, jlS, jlI, isJmp, endsJmp, jlC_put l rest hr cs h]
  | .scope true l' b, h => by
    simp only [jlI] at h
    simp [putI, jlS, jlI, isJmp, endsJmp, jlS_put l rest hr b h]
  | .scope false l' b, h => by
    simp only [jlI] at h
    simp only [putI]
    split
    · simp [jlS, jlI, isJmp, endsJmp, h]
    · simp [jlS, jlI, isJmp, endsJmp, jlS_put l rest hr b h]
  | .jmp true l', h => by simp [putI, jlS, jlI, isJmp]
  | .jmp false l', h => by
    simp only [putI]
    split
    · exact ⟨hr, fun _ => rfl⟩
    · simp [jlS, jlI, isJmp]
theorem jlS_put (l : Nat) (rest : List I) (hr : jlS rest) : ∀ s : List I, jlS s → jlS (putS l rest s)
  | [], h => by simp [putS, jlS]
  | i :: r, h => by
    obtain ⟨h1, h2, h3⟩ := h
    obtain ⟨g1, g2⟩ := jlS_putI l rest hr i h2
    simp only [putS]
    exact jlS_app _ _ g1 (jlS_put l rest hr r h3) fun q => by rw [h1 (g2 q), putS]
theorem jlC_put (l : Nat) (rest : List I) (hr : jlS rest) : ∀ s : List (List I), jlC s → jlC (putC l rest s)
  | [], h => by simp [putC, jlC]
  | i :: r, h => by
    obtain ⟨h1, h2⟩ := h
    exact ⟨jlS_put l rest hr i h1, jlC_put l rest hr r h2⟩
end

/-! ### simplify -/
/-- what simplifying keeps -/
structure Sim (nx : Nat → List Nat) (s s' : List I) : Prop where
  f : ∀ a e, fstS s' a e = fstS s a e
  o : ∀ a e, OkS nx s' a e ↔ OkS nx s a e
  st : (stS s').Perm (stS s)
  cn : ∀ m, cntS true m s' = cntS true m s
  bl : ∀ m, m ∈ blS s' → m ∈ blS s
  ce : ceS nx s = false → ceS nx s' = false
  jl : jlS s'
  wt : wtS s' ≤ wtS s
  sz : szS s' ≤ szS s
structure SimC (nx : Nat → List Nat) (s s' : List (List I)) : Prop where
  f : ∀ a e, fstC s' a e = fstC s a e
  o : ∀ a e, OkC nx s' a e ↔ OkC nx s a e
  st : (stC s').Perm (stC s)
  cn : ∀ m, cntC true m s' = cntC true m s
  bl : ∀ m, m ∈ blC s' → m ∈ blC s
  ce : ceC nx s = false → ceC nx s' = false
  jl : jlC s'
  wt : wtC s' ≤ wtC s
  sz : szC s' ≤ szC s
  nil : s = [] → s' = []
theorem block_two {l : Nat} {t : T} {e : Env} : Two l t (e.block l t) e :=
  ⟨rfl, fun m hm => by simp [Env.block, hm], by simp [Env.block]⟩
theorem block_none {l : Nat} {a : T} {e : Env} {s : List I} (h : cntS true l s = 0) : Agr (fun m => 0 < cntS true m s) (e.block l a) e :=
  ⟨rfl, fun m hm => by
    have : m ≠ l := fun z => by subst z; omega
    simp [Env.block, this]⟩
theorem simple_ok {l : Nat} {b r b' r' : List I} (hb : Sim nx b b') (hr : Sim nx r r') (h1 : 1 ≤ cntS true l b) (h2 : ceS nx b = false) (h3 : ceS nx r = false) (h4 : ∀ m ∈ blS b, cntS true m r = 0) :
    Sim nx (.scope false l b :: r) (simpleBlock l b' r') := by
  have g1 : 1 ≤ cntS true l b' := by rw [hb.cn]; exact h1
  have g2 := hb.ce h2
  have g3 := hr.ce h3
  have g4 : ∀ m ∈ blS b', cntS true m r' = 0 := fun m hm => by rw [hr.cn]; exact h4 m (hb.bl m hm)
  have hne : r ≠ [] := ceS_ne h3
  unfold simpleBlock
  by_cases c1 : cntS true l b' = 1 ∧ cntS false l b' = 1
  · rw [if_pos c1]
    have cc : cntS true l b' = cntS false l b' := c1.1.trans c1.2.symm
    have rst : ∀ (a : T) (e : Env), Rst nx r' (fstS r a e) (OkS nx r a e) e := fun a e =>
      ⟨fun a' => (fstS_ce (nx := nx) r' a' a e g3).trans (hr.f a e), fun a' => (OkS_ce r' a' a e g3).trans (hr.o a e)⟩
    have cp := ce_putS l r' g3 b' g2 g4
    refine ⟨fun a e => ?_, fun a e => ?_, ?_, fun m => ?_, fun m hm => ?_, fun _ => cp, jlS_put l r' hr.jl b' hb.jl, ?_, ?_⟩
    · have q := (fst_putS l r' (fstS r a e) (OkS nx r a e) b' (fstS r a e) (e.block l (fstS r a e)) e block_two (rst a e) cc g4).1
      rw [fstS_ce (nx := nx) _ a (fstS r a e) e cp, q]
      simp only [fstS, fstI, hb.f]
    · have q := (fst_putS l r' (fstS r a e) (OkS nx r a e) b' (fstS r a e) (e.block l (fstS r a e)) e block_two (rst a e) cc g4).2
      rw [OkS_ce _ a (fstS r a e) e cp, q]
      simp only [OkS, OkI, hb.o, c1.1, Nat.zero_lt_one, true_implies]
    · have q := stS_put l r' b'
      rw [c1.1, reps_one] at q
      refine q.trans ?_
      simp only [stS, stI]
      exact hb.st.append hr.st
    · have q := cntS_put l m r' b' g4
      rw [q, c1.1, hb.cn, hr.cn]
      simp only [cntS, cntI, Nat.one_mul]
      by_cases z : m = l
      · simp [z]
      · have z' : ¬ l = m := fun y => z y.symm
        simp [z, z']
    · simp only [blS, blI, List.mem_append, List.mem_cons]
      rcases blS_put l r' b' m hm with z | z
      · exact .inl (.inr (hb.bl m z))
      · exact .inr (hr.bl m z)
    · have := hb.wt
      have := hr.wt
      simp only [wtS, wtI]
      rw [(wtS_put l r' b').1, c1.1]
      omega
    · have q := (wtS_put l r' b').2
      have := hb.sz
      have := hr.sz
      rw [c1.1] at q
      simp only [szS, szI]
      omega
  · rw [if_neg c1]
    have fd : ∀ (a : T) (e : Env), fstS (dropS l b') (fstS r a e) (e.block l (fstS r a e)) = fstS b (fstS r a e) (e.block l (fstS r a e)) := fun a e => by
      rw [(fstS_drop (nx := nx) l b' (fstS r a e) (e.block l (fstS r a e)) (by simp [Env.block])).1, hb.f]
    have od : ∀ (a : T) (e : Env), OkS nx (dropS l b') (fstS r a e) (e.block l (fstS r a e)) ↔ OkS nx b (fstS r a e) (e.block l (fstS r a e)) := fun a e => by
      rw [(fstS_drop (nx := nx) l b' (fstS r a e) (e.block l (fstS r a e)) (by simp [Env.block])).2, hb.o]
    have jd := jlS_drop l b' hb.jl
    have wd := wtS_drop l b'
    have r'ne : r' ≠ [] := ceS_ne g3
    by_cases c2 : cntS true l (dropS l b') > 0
    · rw [if_pos c2]
      refine ⟨fun a e => ?_, fun a e => ?_, ?_, fun m => ?_, fun m hm => ?_, fun _ => ?_, ?_, ?_, ?_⟩
      · simp only [fstS, fstI, hr.f, fd]
      · simp only [OkS, OkI, hr.f, hr.o, od]
      · simp only [stS, stI, stS_drop]
        exact hb.st.append hr.st
      · simp only [cntS, cntI, hr.cn]
        by_cases z : l = m
        · simp [z]
        · rw [if_neg z, if_neg z, cntS_drop true l m (Ne.symm z), hb.cn]
      · simp only [blS, blI, List.mem_append, List.mem_cons] at hm ⊢
        rcases hm with (z | z) | z
        · exact .inl (.inl z)
        · exact .inl (.inr (hb.bl m (blS_drop l b' m z)))
        · exact .inr (hr.bl m z)
      · rw [ceS_cons_ne r'ne]
        exact g3
      · exact ⟨fun q => by simp [isJmp] at q, jd, hr.jl⟩
      · have := hb.wt
        have := hr.wt
        simp only [wtS, wtI]
        omega
      · have := hb.sz
        have := hr.sz
        simp only [szS, szI]
        omega
    · rw [if_neg c2]
      have c0 : cntS true l (dropS l b') = 0 := by omega
      have ej := drop_ends l b' hb.jl (by omega) c0
      rw [if_neg (by rw [ej]; exact Bool.false_ne_true)]
      refine ⟨fun a e => ?_, fun a e => ?_, ?_, fun m => ?_, fun m hm => ?_, fun _ => ?_, ?_, ?_, ?_⟩
      · rw [fstS_app, hr.f, ← fstS_agr (dropS l b') (fstS r a e) (e.block l (fstS r a e)) e (block_none c0), fd]
        simp only [fstS, fstI]
      · rw [OkS_app, hr.f, hr.o, ← OkS_agr (dropS l b') (fstS r a e) (e.block l (fstS r a e)) e (block_none c0), od]
        simp only [OkS, OkI]
      · simp only [stS_app, stS, stI, stS_drop]
        exact hb.st.append hr.st
      · simp only [cntS_app, cntS, cntI, hr.cn]
        by_cases z : l = m
        · subst z
          simp [c0]
        · rw [if_neg z, cntS_drop true l m (Ne.symm z), hb.cn]
      · simp only [blS_app, blS, blI, List.mem_append, List.mem_cons] at hm ⊢
        rcases hm with z | z
        · exact .inl (.inr (hb.bl m (blS_drop l b' m z)))
        · exact .inr (hr.bl m z)
      · rw [ceS_app_ne _ r'ne]
        exact g3
      · exact jlS_app _ _ jd hr.jl fun q => by rw [ej] at q; cases q
      · have := hb.wt
        have := hr.wt
        simp only [wtS_app, wtS, wtI]
        omega
      · have := hb.sz
        have := hr.sz
        simp only [szS_app, szS, szI]
        omega
theorem Sim.cons {i i' : I} {r r' : List I} (hr : Sim nx r r') (f : ∀ a e, fstI i' a e = fstI i a e) (o : ∀ a e, OkI nx i' a e ↔ OkI nx i a e) (st : (stI i').Perm (stI i)) (cn : ∀ m, cntI true m i' = cntI true m i)
    (bl : ∀ m, m ∈ blI i' → m ∈ blI i) (ce : ceI nx i = false → ceI nx i' = false) (jl : jlI i') (j1 : isJmp i' = true → r' = []) (wt : wtI i' ≤ wtI i) (sz : szI i' ≤ szI i) (nl : r = [] ↔ r' = []) : Sim nx (i :: r) (i' :: r') where
  f := fun a e => by simp only [fstS, hr.f, f]
  o := fun a e => by simp only [OkS, hr.f, hr.o, o]
  st := by
    simp only [stS]
    exact st.append hr.st
  cn := fun m => by simp only [cntS, cn, hr.cn]
  bl := fun m hm => by
    simp only [blS, List.mem_append] at hm ⊢
    exact hm.imp (bl m) (hr.bl m)
  ce := fun h => by
    by_cases q : r = []
    · rw [q, ceS_one] at h
      rw [nl.mp q, ceS_one]
      exact ce h
    · rw [ceS_cons_ne q] at h
      rw [ceS_cons_ne (fun z => q (nl.mpr z))]
      exact hr.ce h
  jl := ⟨j1, jl, hr.jl⟩
  wt := by have := hr.wt; simp only [wtS]; omega
  sz := by have := hr.sz; simp only [szS]; omega
theorem simpleBlock_ne {l : Nat} {b r : List I} (hb : 1 ≤ cntS true l b) (hr : r ≠ []) : simpleBlock l b r ≠ [] := by
  unfold simpleBlock
  split
  · exact putS_ne hr (fun z => by subst z; simp [cntS] at hb)
  · split
    · simp
    · split
      · rename_i h
        intro z
        rw [z] at h
        simp [endsJmp] at h
      · simp [hr]
mutual
theorem simI_ok : ∀ (i : I) (r r' : List I), hS nx (i :: r) → Sim nx r r' → (r = [] ↔ r' = []) → Sim nx (i :: r) (simI i r') ∧ simI i r' ≠ []
  | .act t n cs, r, r', h, hr, nl => by
    simp only [hS, hI] at h
    have hc := simC_ok cs h.2.1
    refine ⟨?_, by simp [simI]⟩
    simp only [simI]
    refine Sim.cons hr (fun a e => by simp [fstI]) (fun a e => ?_) ?_ (fun m => by simp [cntI, hc.cn]) (fun m hm => ?_) (fun q => ?_) hc.jl (fun q => by simp [isJmp] at q) (by have := hc.wt; simp only [wtI]; omega) (by have := hc.sz; simp only [szI]; omega) nl
    · simp only [OkI, hc.o]
      have e1 : ActOk nx t n (simC cs) a e ↔ ActOk nx t n cs a e := by
        cases t with
        | row =>
          simp only [ActOk]
          have : simC cs = [] ↔ cs = [] := by cases cs <;> simp [simC]
          rw [this]
        | ifr => simp only [ActOk, hc.f]
        | sw => simp only [ActOk, hc.f]
      rw [e1]
    · simp only [stI]
      exact hc.st.cons n
    · simp only [blI] at hm ⊢
      exact hc.bl m hm
    · cases t with
      | row => simpa [ceI] using q
      | ifr =>
        simp only [ceI] at q ⊢
        exact hc.ce q
      | sw =>
        simp only [ceI] at q ⊢
        exact hc.ce q
  | .scope true l b, r, r', h, hr, nl => by
    simp only [hS, hI] at h
    have hb := (simS_ok b h.2.1).1
    refine ⟨?_, by simp [simI]⟩
    simp only [simI]
    refine Sim.cons hr (fun a e => by simp [fstI, hb.f]) (fun a e => by simp only [OkI, hb.f, hb.o]) (by simp only [stI]; exact hb.st) (fun m => by simp [cntI, hb.cn]) (fun m hm => ?_) (fun q => ?_) hb.jl (fun q => by simp [isJmp] at q) (by have := hb.wt; simp only [wtI]; omega) (by have := hb.sz; simp only [szI]; omega) nl
    · simp only [blI] at hm ⊢
      exact hb.bl m hm
    · simp only [ceI] at q ⊢
      exact hb.ce q
  | .scope false l b, r, r', h, hr, nl => by
    simp only [hS, hI] at h
    obtain ⟨_, hb, _, h1, h2, h3, h4⟩ := h
    have hb := (simS_ok b hb).1
    simp only [simI]
    exact ⟨simple_ok hb hr h1 h2 h3 h4, simpleBlock_ne (by rw [hb.cn]; exact h1) (fun z => ceS_ne h3 (nl.mpr z))⟩
  | .jmp ag l, r, r', h, hr, nl => by
    refine ⟨?_, by simp [simI]⟩
    simp only [simI]
    exact Sim.cons hr (fun a e => rfl) (fun a e => Iff.rfl) (List.Perm.refl _) (fun m => rfl) (fun m hm => hm) (fun q => q) (by simp [jlI]) (fun q => nl.mp (h.1 q)) (Nat.le_refl _) (Nat.le_refl _) nl
theorem simS_ok : ∀ (s : List I), hS nx s → Sim nx s (simS s) ∧ (s = [] ↔ simS s = [])
  | [], _ => by
    simp only [simS]
    exact ⟨⟨fun _ _ => rfl, fun _ _ => Iff.rfl, List.Perm.refl _, fun _ => rfl, fun _ h => h, fun h => h, by simp [jlS], Nat.le_refl _, Nat.le_refl _⟩, by simp⟩
  | i :: r, h => by
    obtain ⟨h1, h2⟩ := simS_ok r (by simp only [hS] at h; exact h.2.2.1)
    obtain ⟨h3, h4⟩ := simI_ok i r (simS r) h h1 h2
    simp only [simS]
    exact ⟨h3, by simp [h4]⟩
theorem simC_ok : ∀ (s : List (List I)), hC nx s → SimC nx s (simC s)
  | [], _ => by
    simp only [simC]
    exact ⟨fun _ _ => rfl, fun _ _ => Iff.rfl, List.Perm.refl _, fun _ => rfl, fun _ h => h, fun h => h, by simp [jlC], Nat.le_refl _, Nat.le_refl _, fun _ => rfl⟩
  | s :: r, h => by
    obtain ⟨h1, h2⟩ := h
    have g1 := (simS_ok s h1).1
    have g2 := simC_ok r h2
    simp only [simC]
    refine ⟨fun a e => by simp only [fstC, g1.f, g2.f], fun a e => by simp only [OkC, g1.o, g2.o], ?_, fun m => by simp only [cntC, g1.cn, g2.cn], fun m hm => ?_, fun q => ?_, ⟨g1.jl, g2.jl⟩, ?_, ?_, fun q => by simp at q⟩
    · simp only [stC]
      exact g1.st.append g2.st
    · simp only [blC, List.mem_append] at hm ⊢
      exact hm.imp (g1.bl m) (g2.bl m)
    · simp only [ceC, Bool.or_eq_false_iff] at q ⊢
      exact ⟨g1.ce q.1, g2.ce q.2⟩
    · have := g1.wt
      have := g2.wt
      simp only [wtC]
      omega
    · have := g1.sz
      have := g2.sz
      simp only [szC]
      omega
end
end K33
end
section
/-! M2: paths, components, the outline. Plain Lean. -/
namespace K33
open Classical
/-- a path within S (its start may lie outside) -/
inductive Reach (nx : Nat → List Nat) (P : Nat → Prop) : Nat → Nat → Prop
  | refl (a : Nat) : Reach nx P a a
  | step {a b c : Nat} : Reach nx P a b → c ∈ nx b → P c → Reach nx P a c
variable {nx : Nat → List Nat}
namespace Reach
theorem trans {P : Nat → Prop} {a b c : Nat} (h : Reach nx P a b) (k : Reach nx P b c) : Reach nx P a c := by
  induction k with
  | refl => exact h
  | step _ h1 h2 ih => exact ih.step h1 h2
theorem mono {P Q : Nat → Prop} {a b : Nat} (h : Reach nx P a b) (k : ∀ x, P x → Q x) : Reach nx Q a b := by
  induction h with
  | refl => exact .refl _
  | step _ h1 h2 ih => exact ih.step h1 (k _ h2)
theorem head {P : Nat → Prop} {a b c : Nat} (h1 : b ∈ nx a) (h2 : P b) (k : Reach nx P b c) : Reach nx P a c := ((Reach.refl a).step h1 h2).trans k
theorem last {P : Nat → Prop} {a b : Nat} (h : Reach nx P a b) : b = a ∨ P b := by
  cases h with
  | refl => exact .inl rfl
  | step _ _ h2 => exact .inr h2
/-- the path's nodes: each reaches the end -/
theorem via {P : Nat → Prop} {a b : Nat} (h : Reach nx P a b) {Q : Nat → Prop} (k : ∀ x, P x → Reach nx P a x → Reach nx P x b → Q x) : Reach nx (fun x => P x ∧ Q x) a b := by
  have key : ∀ c, Reach nx P a c → Reach nx P c b → Reach nx (fun x => P x ∧ Q x) a c := by
    intro c hc
    induction hc with
    | refl => intro _; exact .refl _
    | step h0 h1 h2 ih =>
      intro hb
      exact (ih (Reach.head h1 h2 hb)).step h1 ⟨h2, k _ h2 (h0.step h1 h2) hb⟩
  exact key b h (.refl b)
end Reach

/-! ### the mirrors -/
noncomputable def lowOf (nx : Nat → List Nat) (left : List Nat) : Nat :=
  (left.find? fun x => left.all fun o => !decide (Reach nx (· ∈ left) o x) || decide (Reach nx (· ∈ left) x o)).getD (left.headD 0)
noncomputable def partOf (nx : Nat → List Nat) (left : List Nat) : List Nat :=
  left.filter fun x => decide (Reach nx (· ∈ left) (lowOf nx left) x) && decide (Reach nx (· ∈ left) x (lowOf nx left))
noncomputable def compsF (nx : Nat → List Nat) : Nat → List Nat → List (List Nat)
  | 0, _ => []
  | f + 1, left => if left = [] then [] else partOf nx left :: compsF nx f (left.filter fun x => !decide (x ∈ partOf nx left))
noncomputable def comps (nx : Nat → List Nat) (ch : List Nat) : List (List Nat) := compsF nx ch.length ch
def entered (nx : Nat → List Nat) (region part : List Nat) : List Nat :=
  part.filter fun g => (region.filter fun x => !decide (x ∈ part)).any fun x => decide (g ∈ nx x)
inductive Kd where
  | br | sel | oth
  deriving DecidableEq
def jump (labels : List Nat) (m : Nat) : I := .jmp (decide (m ∈ labels)) m
def headS (kd : Nat → Kd) (nx : Nat → List Nat) (head : Nat) (labels : List Nat) : List I :=
  match kd head with
  | .br => [.act .ifr head ((nx head).map fun m => [jump labels m])]
  | .sel => [.act .sw head ((nx head).map fun m => [jump labels m])]
  | .oth => match nx head with
    | [] => [.act .row head []]
    | m :: _ => [.act .row head [], jump labels m]
abbrev Res := Except (Nat × Nat) (List I)
def fold1 (nx : Nat → List Nat) (rec : List Nat → Nat → Res) (region : List Nat) : List (List Nat) → List I → Res
  | [], sh => .ok sh
  | p :: ps, sh => match entered nx region p with
    | [] => .error (0, 0)
    | [e] => match rec p e with
      | .error x => .error x
      | .ok s => fold1 nx rec region ps (.scope false e sh :: s)
    | a :: b :: _ => .error (a, b)
def isLoop (nx : Nat → List Nat) (region : List Nat) (head : Nat) : Bool := region.any fun x => decide (head ∈ nx x)
def innerL (nx : Nat → List Nat) (region : List Nat) (head : Nat) (labels : List Nat) : List Nat := if isLoop nx region head = true then labels ++ [head] else labels
noncomputable def outF (kd : Nat → Kd) (nx : Nat → List Nat) : Nat → List Nat → Nat → List Nat → Res
  | 0, _, _, _ => .error (0, 0)
  | f + 1, region, head, labels =>
    match fold1 nx (fun p e => outF kd nx f p e (innerL nx region head labels)) region (comps nx (region.filter fun x => !decide (x = head))) (headS kd nx head (innerL nx region head labels)) with
    | .error x => .error x
    | .ok sh => .ok (if isLoop nx region head = true then [.scope true head sh] else sh)

/-! ### components -/
/-- x and y lie on one cycle -/
def Mut (nx : Nat → List Nat) (P : Nat → Prop) (x y : Nat) : Prop := Reach nx P x y ∧ Reach nx P y x
/-- left is what is left of ch: whole components -/
structure Whole (nx : Nat → List Nat) (ch left : List Nat) : Prop where
  sub : ∀ x ∈ left, x ∈ ch
  cl : ∀ x ∈ left, ∀ y ∈ ch, Mut nx (· ∈ ch) x y → y ∈ left
theorem Whole.reach {ch left : List Nat} (w : Whole nx ch left) {x y : Nat} (hx : x ∈ left) (h : Mut nx (· ∈ ch) x y) : Reach nx (· ∈ left) x y := by
  refine (h.1.via (Q := (· ∈ left)) fun z hz h1 h2 => ?_).mono fun z hz => hz.2
  exact w.cl x hx z hz ⟨h1, h2.trans h.2⟩
structure Part (nx : Nat → List Nat) (ch p : List Nat) : Prop where
  ne : p ≠ []
  sub : ∀ x ∈ p, x ∈ ch
  nd : p.Nodup
  conn : ∀ x ∈ p, ∀ y ∈ p, Reach nx (· ∈ p) x y
  max : ∀ x ∈ p, ∀ y ∈ ch, Mut nx (· ∈ ch) x y → y ∈ p
noncomputable def ancs (nx : Nat → List Nat) (left : List Nat) (x : Nat) : Nat := (left.filter fun o => decide (Reach nx (· ∈ left) o x)).length
theorem filter_lt {l : List Nat} {p q : Nat → Bool} (h : ∀ x ∈ l, p x = true → q x = true) {a : Nat} (ha : a ∈ l) (h1 : p a = false) (h2 : q a = true) : (l.filter p).length < (l.filter q).length := by
  induction l with
  | nil => cases ha
  | cons b r ih =>
    have le : ∀ (r : List Nat), (∀ x ∈ r, p x = true → q x = true) → (r.filter p).length ≤ (r.filter q).length := by
      intro r
      induction r with
      | nil => intro _; simp
      | cons c r ih =>
        intro h
        have := ih fun x hx => h x (List.mem_cons_of_mem _ hx)
        have := h c List.mem_cons_self
        simp only [List.filter_cons]
        by_cases z : p c = true
        · simp only [z, this z, if_true, List.length_cons]
          omega
        · rw [if_neg z]
          by_cases z2 : q c = true
          · rw [if_pos z2, List.length_cons]
            omega
          · rw [if_neg z2]
            omega
    simp only [List.filter_cons]
    rcases List.mem_cons.mp ha with e | e
    · subst e
      have := le r fun x hx => h x (List.mem_cons_of_mem _ hx)
      simp only [h1, h2, if_true, List.length_cons]
      simp only [Bool.false_eq_true, if_false]
      omega
    · have := ih (fun x hx => h x (List.mem_cons_of_mem _ hx)) e
      have hb := h b List.mem_cons_self
      by_cases z : p b = true
      · simp only [z, hb z, if_true, List.length_cons]
        omega
      · rw [if_neg z]
        by_cases z2 : q b = true
        · rw [if_pos z2, List.length_cons]
          omega
        · rw [if_neg z2]
          omega
theorem source_ex (left : List Nat) : ∀ (k : Nat) (x : Nat), x ∈ left → ancs nx left x ≤ k → ∃ y ∈ left, ∀ o ∈ left, Reach nx (· ∈ left) o y → Reach nx (· ∈ left) y o := by
  intro k
  induction k with
  | zero =>
    intro x hx h
    have : 0 < ancs nx left x := by
      unfold ancs
      exact List.length_pos_of_mem (List.mem_filter.mpr ⟨hx, decide_eq_true (Reach.refl x)⟩)
    omega
  | succ k ih =>
    intro x hx h
    by_cases q : ∀ o ∈ left, Reach nx (· ∈ left) o x → Reach nx (· ∈ left) x o
    · exact ⟨x, hx, q⟩
    · have : ∃ o, o ∈ left ∧ Reach nx (· ∈ left) o x ∧ ¬ Reach nx (· ∈ left) x o := by
        apply Classical.byContradiction
        intro hn
        apply q
        intro o ho hr
        apply Classical.byContradiction
        intro hz
        exact hn ⟨o, ho, hr, hz⟩
      obtain ⟨o, ho, h1, h2⟩ := this
      refine ih o ho ?_
      have : ancs nx left o < ancs nx left x := by
        unfold ancs
        refine filter_lt (fun z _ hz => ?_) hx (decide_eq_false h2) (decide_eq_true (Reach.refl x))
        exact decide_eq_true ((of_decide_eq_true hz).trans h1)
      omega
theorem low_ok {left : List Nat} (h : left ≠ []) : lowOf nx left ∈ left ∧ ∀ o ∈ left, Reach nx (· ∈ left) o (lowOf nx left) → Reach nx (· ∈ left) (lowOf nx left) o := by
  obtain ⟨x, hx⟩ := List.exists_mem_of_ne_nil left h
  obtain ⟨y, hy, hs⟩ := source_ex (nx := nx) left _ x hx (Nat.le_refl _)
  have hp : (left.all fun o => !decide (Reach nx (· ∈ left) o y) || decide (Reach nx (· ∈ left) y o)) = true := by
    rw [List.all_eq_true]
    intro o ho
    by_cases q : Reach nx (· ∈ left) o y
    · simp [hs o ho q]
    · simp [q]
  cases e : left.find? fun x => left.all fun o => !decide (Reach nx (· ∈ left) o x) || decide (Reach nx (· ∈ left) x o) with
  | none =>
    rw [List.find?_eq_none] at e
    exact absurd hp (e y hy)
  | some z =>
    have e1 : lowOf nx left = z := by unfold lowOf; rw [e]; rfl
    rw [e1]
    refine ⟨List.mem_of_find?_eq_some e, fun o ho hr => ?_⟩
    have := List.find?_some e
    rw [List.all_eq_true] at this
    have := this o ho
    simpa [hr] using this
theorem mem_part {left : List Nat} {x : Nat} : x ∈ partOf nx left ↔ x ∈ left ∧ Mut nx (· ∈ left) (lowOf nx left) x := by
  unfold partOf Mut
  simp [List.mem_filter]
/-- one part taken -/
theorem part_ok {ch left : List Nat} (w : Whole nx ch left) (nd : left.Nodup) (h : left ≠ []) :
    Part nx ch (partOf nx left) ∧ Whole nx ch (left.filter fun x => !decide (x ∈ partOf nx left)) ∧
    ∀ y ∈ left, y ∉ partOf nx left → ∀ x ∈ partOf nx left, x ∉ nx y := by
  obtain ⟨hl, hsrc⟩ := low_ok (nx := nx) h
  have sub : ∀ x, x ∈ left → x ∈ ch := w.sub
  have up : ∀ {a b : Nat}, Reach nx (· ∈ left) a b → Reach nx (· ∈ ch) a b := fun r => r.mono sub
  have mx : ∀ x ∈ partOf nx left, ∀ y ∈ ch, Mut nx (· ∈ ch) x y → y ∈ partOf nx left := by
    intro x hx y hy m
    obtain ⟨hx1, hx2⟩ := mem_part.mp hx
    have hyl := w.cl x hx1 y hy m
    refine mem_part.mpr ⟨hyl, hx2.1.trans (w.reach hx1 m), (w.reach hyl ⟨m.2, m.1⟩).trans hx2.2⟩
  refine ⟨⟨?_, fun x hx => sub x (mem_part.mp hx).1, nd.filter _, fun x hx y hy => ?_, mx⟩, ⟨fun x hx => sub x (List.mem_filter.mp hx).1, fun x hx y hy m => ?_⟩, fun y hy hn x hx hxy => ?_⟩
  · exact List.ne_nil_of_mem (mem_part.mpr ⟨hl, .refl _, .refl _⟩)
  · obtain ⟨hx1, hx2⟩ := mem_part.mp hx
    obtain ⟨hy1, hy2⟩ := mem_part.mp hy
    refine ((hx2.2.trans hy2.1).via (Q := (· ∈ partOf nx left)) fun z hz h1 h2 => ?_).mono fun z hz => hz.2
    exact mem_part.mpr ⟨hz, hx2.1.trans h1, h2.trans hy2.2⟩
  · obtain ⟨hx1, hx2⟩ := List.mem_filter.mp hx
    refine List.mem_filter.mpr ⟨w.cl x hx1 y hy m, ?_⟩
    have hx3 : x ∉ partOf nx left := by simpa using hx2
    have : y ∉ partOf nx left := fun z => hx3 (mx y z x (sub x hx1) ⟨m.2, m.1⟩)
    simpa using this
  · obtain ⟨hx1, hx2⟩ := mem_part.mp hx
    have r1 : Reach nx (· ∈ left) y (lowOf nx left) := Reach.head hxy hx1 hx2.2
    exact hn (mem_part.mpr ⟨hy, hsrc y hy r1, r1⟩)
structure CompsOk (nx : Nat → List Nat) (ch left : List Nat) (ps : List (List Nat)) : Prop where
  part : ∀ p ∈ ps, Part nx ch p
  perm : ps.flatten.Perm left
  topo : ps.Pairwise fun p q => ∀ y ∈ q, ∀ x ∈ p, x ∉ nx y
theorem perm_split (l : List Nat) (p : Nat → Bool) : (l.filter p ++ l.filter fun x => !p x).Perm l := by
  induction l with
  | nil => simp
  | cons a r ih =>
    by_cases h : p a = true
    · simp only [List.filter_cons, h, if_true, Bool.not_true, Bool.false_eq_true, if_false, List.cons_append]
      exact ih.cons a
    · simp only [List.filter_cons, h, Bool.false_eq_true, if_false]
      have h' : p a = false := by simpa using h
      simp only [h', Bool.not_false, if_true]
      exact List.perm_middle.trans (ih.cons a)
theorem compsF_ok {ch : List Nat} : ∀ (f : Nat) (left : List Nat), left.length ≤ f → Whole nx ch left → left.Nodup → CompsOk nx ch left (compsF nx f left)
  | 0, left, hf, w, nd => by
    have : left = [] := List.length_eq_zero_iff.mp (by omega)
    subst this
    exact ⟨fun p hp => by simp [compsF] at hp, by simp [compsF], by simp [compsF]⟩
  | f + 1, left, hf, w, nd => by
    unfold compsF
    by_cases h : left = []
    · rw [if_pos h, h]
      exact ⟨fun p hp => by simp at hp, by simp, by simp⟩
    · rw [if_neg h]
      obtain ⟨h1, h2, h3⟩ := part_ok w nd h
      have lt : (left.filter fun x => !decide (x ∈ partOf nx left)).length ≤ f := by
        obtain ⟨x, hx⟩ := List.exists_mem_of_ne_nil _ h1.ne
        have hx' := (mem_part.mp hx).1
        have := filter_lt (l := left) (p := fun x => !decide (x ∈ partOf nx left)) (q := fun _ => true) (fun _ _ _ => rfl) hx' (by simp [hx]) rfl
        have e : (left.filter fun _ => true) = left := List.filter_eq_self.mpr fun _ _ => rfl
        rw [e] at this
        omega
      have ih := compsF_ok f _ lt h2 (nd.filter _)
      refine ⟨fun p hp => ?_, ?_, ?_⟩
      · rcases List.mem_cons.mp hp with e | e
        · rw [e]; exact h1
        · exact ih.part p e
      · rw [List.flatten_cons]
        have e : partOf nx left = left.filter fun x => decide (x ∈ partOf nx left) := by
          apply List.filter_congr
          intro x hx
          have : (decide (Reach nx (· ∈ left) (lowOf nx left) x) && decide (Reach nx (· ∈ left) x (lowOf nx left))) = true ↔ x ∈ partOf nx left := by
            rw [mem_part]
            simp [hx, Mut]
          rw [Bool.eq_iff_iff, this, decide_eq_true_iff]
        refine (List.Perm.append_left _ ih.perm).trans ?_
        conv => lhs; arg 1; rw [e]
        exact perm_split left fun x => decide (x ∈ partOf nx left)
      · refine List.pairwise_cons.mpr ⟨fun q hq y hy x hx => ?_, ih.topo⟩
        have hy' : y ∈ left.filter fun x => !decide (x ∈ partOf nx left) := ih.perm.mem_iff.mp (List.mem_flatten.mpr ⟨q, hq, hy⟩)
        obtain ⟨hy1, hy2⟩ := List.mem_filter.mp hy'
        exact h3 y hy1 (by simpa using hy2) x hx
theorem comps_ok {ch : List Nat} (nd : ch.Nodup) : CompsOk nx ch ch (comps nx ch) :=
  compsF_ok ch.length ch (Nat.le_refl _) ⟨fun _ h => h, fun _ _ y hy _ => hy⟩ nd
theorem mem_entered {region part : List Nat} {g : Nat} : g ∈ entered nx region part ↔ g ∈ part ∧ ∃ x ∈ region, x ∉ part ∧ g ∈ nx x := by
  unfold entered
  simp only [List.mem_filter, List.any_eq_true, decide_eq_true_eq]
  constructor
  · rintro ⟨h1, x, ⟨h2, h3⟩, h4⟩
    exact ⟨h1, x, h2, by simpa using h3, h4⟩
  · rintro ⟨h1, x, h2, h3, h4⟩
    exact ⟨h1, x, ⟨h2, by simpa using h3⟩, h4⟩

/-! ### a region with its head -/
structure Reg (nx : Nat → List Nat) (region : List Nat) (head : Nat) : Prop where
  mem : head ∈ region
  nd : region.Nodup
  all : ∀ x ∈ region, Reach nx (· ∈ region) head x
abbrev chosen (region : List Nat) (head : Nat) : List Nat := region.filter fun x => !decide (x = head)
theorem mem_chosen {region : List Nat} {head x : Nat} : x ∈ chosen region head ↔ x ∈ region ∧ x ≠ head := by
  unfold chosen
  simp [List.mem_filter]
/-- the last visit of the head -/
theorem Reg.from_head {region : List Nat} {head : Nat} : ∀ {x : Nat}, Reach nx (· ∈ region) head x → x = head ∨ ∃ y ∈ nx head, y ∈ chosen region head ∧ Reach nx (· ∈ chosen region head) y x := by
  intro x h
  induction h with
  | refl => exact .inl rfl
  | step h0 h1 h2 ih =>
    rename_i b c
    by_cases q : c = head
    · exact .inl q
    · right
      have hc : c ∈ chosen region head := mem_chosen.mpr ⟨h2, q⟩
      rcases ih with e | ⟨y, hy, hy2, hr⟩
      · rw [e] at h1
        exact ⟨c, h1, hc, .refl c⟩
      · exact ⟨y, hy, hy2, hr.step h1 hc⟩
/-- from the head to where the part is entered, the part is not met -/
theorem Reg.to_entry {region part : List Nat} {head : Nat} (R : Reg nx region head) (hp : Part nx (chosen region head) part) {p a : Nat} (h1 : p ∈ region) (h2 : p ∉ part) (ha : a ∈ part) (h3 : a ∈ nx p) :
    Reach nx (fun x => x ∈ region ∧ x ∉ part) head p := by
  rcases Reg.from_head (R.all p h1) with e | ⟨y, hy, hyc, hr⟩
  · rw [e]; exact .refl _
  · have pc : p ∈ chosen region head := mem_chosen.mpr ⟨h1, fun e => by
      have := hr.last
      rcases this with z | z
      · rw [z] at e
        exact (mem_chosen.mp hyc).2 e
      · exact (mem_chosen.mp z).2 e⟩
    have ac := hp.sub a ha
    -- a node on the way that lies in the part
    have no : ∀ z, Reach nx (· ∈ chosen region head) z p → z ∉ part := fun z hz hzp => by
      have r1 : Reach nx (· ∈ chosen region head) p z := Reach.head h3 ac ((hp.conn a ha z hzp).mono hp.sub)
      exact h2 (hp.max z hzp p pc ⟨hz, r1⟩)
    have key : ∀ z, Reach nx (· ∈ chosen region head) y z → Reach nx (· ∈ chosen region head) z p → Reach nx (fun x => x ∈ region ∧ x ∉ part) head z := by
      intro z hz
      induction hz with
      | refl =>
        intro hzp
        exact (Reach.refl head).step hy ⟨(mem_chosen.mp hyc).1, no _ hzp⟩
      | step g0 g1 g2 ih =>
        intro hzp
        exact (ih (Reach.head g1 g2 hzp)).step g1 ⟨(mem_chosen.mp g2).1, no _ hzp⟩
    exact key p hr (.refl p)
theorem cross {P : Nat → Prop} {Q : Nat → Prop} {a b : Nat} (h : Reach nx P a b) (h1 : ¬ Q a) (h2 : Q b) : ∃ x y, (x = a ∨ P x) ∧ ¬ Q x ∧ P y ∧ Q y ∧ y ∈ nx x := by
  induction h with
  | refl => exact absurd h2 h1
  | step h0 h3 h4 ih =>
    rename_i b c
    by_cases q : Q b
    · exact ih q
    · exact ⟨b, c, h0.last, q, h4, h2, h3⟩
theorem Reg.entered_ne {region part : List Nat} {head : Nat} (R : Reg nx region head) (hp : Part nx (chosen region head) part) : entered nx region part ≠ [] := by
  obtain ⟨z, hz⟩ := List.exists_mem_of_ne_nil _ hp.ne
  have hh : head ∉ part := fun q => (mem_chosen.mp (hp.sub head q)).2 rfl
  have hzr := (mem_chosen.mp (hp.sub z hz)).1
  obtain ⟨x, y, hx, hxn, hy, hyp, hxy⟩ := cross (Q := (· ∈ part)) (R.all z hzr) hh hz
  have hxr : x ∈ region := by
    rcases hx with e | e
    · rw [e]; exact R.mem
    · exact e
  exact List.ne_nil_of_mem (mem_entered.mpr ⟨hyp, x, hxr, hxn, hxy⟩)
theorem Reg.sub {region part : List Nat} {head : Nat} (hp : Part nx (chosen region head) part) {e : Nat} (he : e ∈ part) : Reg nx part e := ⟨he, hp.nd, fun x hx => hp.conn e he x hx⟩

/-! ### what shows that a graph is tangled -/
structure Wit (nx : Nat → List Nat) (region : List Nat) (head : Nat) (C : Nat → Prop) (a b : Nat) : Prop where
  sub : ∀ x, C x → x ∈ region
  nh : ¬ C head
  conn : ∀ x, C x → ∀ y, C y → Reach nx C x y
  ca : C a
  cb : C b
  ne : a ≠ b
  ea : ∃ p, p ∈ region ∧ ¬ C p ∧ a ∈ nx p ∧ Reach nx (fun x => x ∈ region ∧ ¬ C x) head p
  eb : ∃ p, p ∈ region ∧ ¬ C p ∧ b ∈ nx p ∧ Reach nx (fun x => x ∈ region ∧ ¬ C x) head p
theorem Wit.of_two {region part : List Nat} {head a b : Nat} {r : List Nat} (R : Reg nx region head) (hp : Part nx (chosen region head) part) (h : entered nx region part = a :: b :: r) : Wit nx region head (· ∈ part) a b := by
  have hh : head ∉ part := fun q => (mem_chosen.mp (hp.sub head q)).2 rfl
  have ma : a ∈ entered nx region part := by rw [h]; simp
  have mb : b ∈ entered nx region part := by rw [h]; simp
  obtain ⟨a1, p, a2, a3, a4⟩ := mem_entered.mp ma
  obtain ⟨b1, q, b2, b3, b4⟩ := mem_entered.mp mb
  have nd : (entered nx region part).Nodup := hp.nd.filter _
  rw [h] at nd
  refine ⟨fun x hx => (mem_chosen.mp (hp.sub x hx)).1, hh, fun x hx y hy => hp.conn x hx y hy, a1, b1, fun e => ?_, ⟨p, a2, a3, a4, R.to_entry hp a2 a3 a1 a4⟩, ⟨q, b2, b3, b4, R.to_entry hp b2 b3 b1 b4⟩⟩
  subst e
  simp at nd
theorem Wit.up {region part : List Nat} {head e a b : Nat} {C : Nat → Prop} (R : Reg nx region head) (hp : Part nx (chosen region head) part) (he : e ∈ entered nx region part) (w : Wit nx part e C a b) : Wit nx region head C a b := by
  have hh : head ∉ part := fun q => (mem_chosen.mp (hp.sub head q)).2 rfl
  obtain ⟨e1, p, e2, e3, e4⟩ := mem_entered.mp he
  have sr : ∀ x, x ∈ part → x ∈ region := fun x hx => (mem_chosen.mp (hp.sub x hx)).1
  have way : Reach nx (fun x => x ∈ region ∧ ¬ C x) head e :=
    ((R.to_entry hp e2 e3 e1 e4).mono fun x hx => ⟨hx.1, fun c => hx.2 (w.sub x c)⟩).step e4 ⟨sr e e1, w.nh⟩
  have lift : ∀ {q : Nat}, Reach nx (fun x => x ∈ part ∧ ¬ C x) e q → Reach nx (fun x => x ∈ region ∧ ¬ C x) head q := fun r => way.trans (r.mono fun x hx => ⟨sr x hx.1, hx.2⟩)
  obtain ⟨p1, q1, q2, q3, q4⟩ := w.ea
  obtain ⟨p2, r1, r2, r3, r4⟩ := w.eb
  exact ⟨fun x c => sr x (w.sub x c), fun c => hh (w.sub head c), w.conn, w.ca, w.cb, w.ne, ⟨p1, sr _ q1, q2, q3, lift q4⟩, ⟨p2, sr _ r1, r2, r3, lift r4⟩⟩

/-! ### the outline: what is shown of it -/
/-- nexts that leave a set of rows, but for the loops' heads -/
def Outs (nx : Nat → List Nat) (Q : List Nat) (labels : List Nat) (m : Nat) : Prop := (∃ x ∈ Q, m ∈ nx x) ∧ m ∉ Q ∧ m ∉ labels
structure EnvOk (nx : Nat → List Nat) (Q labels : List Nat) (e : Env) : Prop where
  lp : ∀ l ∈ labels, e.lp l = some l
  bk : ∀ m, Outs nx Q labels m → e.bk m = some m
/-- a shape of the rows Q, begun at head -/
structure ShOk (nx : Nat → List Nat) (Q : List Nat) (head : Nat) (labels : List Nat) (s : List I) (d : Nat) : Prop where
  f : ∀ a e, fstS s a e = some head
  o : ∀ a e, EnvOk nx Q labels e → OkS nx s a e
  st : (stS s).Perm Q
  cn : ∀ m, 0 < cntS true m s ↔ Outs nx Q labels m
  bl : ∀ m ∈ blS s, m ∈ Q ∧ m ≠ head
  ce : ceS nx s = false
  h : hS nx s
  wt : wtS s + d ≤ 3 * Q.length
  sz : szS s + d ≤ 15 * Q.length
theorem Outs.perm {Q Q' labels : List Nat} (h : Q.Perm Q') {m : Nat} : Outs nx Q labels m ↔ Outs nx Q' labels m := by
  unfold Outs
  simp only [h.mem_iff]
theorem ShOk.perm {Q Q' labels : List Nat} {head d : Nat} {s : List I} (k : ShOk nx Q head labels s d) (h : Q.Perm Q') : ShOk nx Q' head labels s d :=
  ⟨k.f, fun a e he => k.o a e ⟨he.lp, fun m hm => he.bk m ((Outs.perm h).mp hm)⟩, k.st.trans h, fun m => (k.cn m).trans (Outs.perm h), fun m hm => ⟨h.mem_iff.mp (k.bl m hm).1, (k.bl m hm).2⟩, k.ce, k.h, by rw [← h.length_eq]; exact k.wt, by rw [← h.length_eq]; exact k.sz⟩
structure RowsOk (kd : Nat → Kd) (nx : Nat → List Nat) : Prop where
  br : ∀ x, kd x = .br → (nx x).length = 2
  sel : ∀ x, kd x = .sel → nx x ≠ []
  oth : ∀ x, kd x = .oth → (nx x).length ≤ 1
  four : ∀ x, (nx x).length ≤ 4

/-! ### the head's shape -/
theorem jump_in {labels : List Nat} {m : Nat} (q : m ∈ labels) : jump labels m = .jmp true m := by unfold jump; rw [decide_eq_true q]
theorem jump_out {labels : List Nat} {m : Nat} (q : m ∉ labels) : jump labels m = .jmp false m := by unfold jump; rw [decide_eq_false q]
theorem jump_jmp (labels : List Nat) (m : Nat) : ∃ b, jump labels m = .jmp b m := ⟨_, rfl⟩
theorem fst_jump {Q labels : List Nat} {a : T} {e : Env} {m : Nat} (he : EnvOk nx Q labels e) (h : m ∈ labels ∨ Outs nx Q labels m) : fstS [jump labels m] a e = some m := by
  by_cases q : m ∈ labels
  · rw [jump_in q]
    simp only [fstS, fstI]
    exact he.lp m q
  · rw [jump_out q]
    simp only [fstS, fstI]
    exact he.bk m (h.resolve_left q)
theorem cnt_jump (labels : List Nat) (x m : Nat) : 0 < cntI true m (jump labels x) ↔ m = x ∧ m ∉ labels := by
  by_cases q : x ∈ labels
  · rw [jump_in q]
    simp only [cntI]
    constructor
    · intro z; omega
    · rintro ⟨rfl, z⟩; exact absurd q z
  · rw [jump_out q]
    simp only [cntI]
    by_cases z : x = m
    · subst z
      simp [q]
    · simp [z, Ne.symm z]
theorem jumps_C (labels : List Nat) (l : List Nat) : stC (l.map fun m => [jump labels m]) = [] ∧ blC (l.map fun m => [jump labels m]) = [] ∧ wtC (l.map fun m => [jump labels m]) = 0 ∧ szC (l.map fun m => [jump labels m]) = 2 * l.length ∧
    ceC nx (l.map fun m => [jump labels m]) = false ∧ hC nx (l.map fun m => [jump labels m]) ∧ (∀ a e, OkC nx (l.map fun m => [jump labels m]) a e) ∧ ∀ m, 0 < cntC true m (l.map fun m => [jump labels m]) ↔ m ∈ l ∧ m ∉ labels := by
  induction l with
  | nil => simp [stC, blC, wtC, szC, ceC, hC, OkC, cntC]
  | cons x r ih =>
    obtain ⟨h1, h2, h3, h4, h5, h6, h7, h8⟩ := ih
    obtain ⟨b, hb⟩ := jump_jmp labels x
    refine ⟨?_, ?_, ?_, ?_, ?_, ?_, fun a e => ?_, fun m => ?_⟩
    · rw [List.map_cons, stC, h1, hb]; simp [stS, stI]
    · rw [List.map_cons, blC, h2, hb]; simp [blS, blI]
    · rw [List.map_cons, wtC, h3, hb]; simp [wtS, wtI]
    · rw [List.map_cons, szC, h4, hb]; simp [szS, szI]; omega
    · rw [List.map_cons, ceC, h5, hb]; simp [ceS, ceI]
    · rw [List.map_cons, hb]; exact ⟨by simp [hS, hI], h6⟩
    · rw [List.map_cons, hb]; exact ⟨by simp [OkS, OkI], h7 a e⟩
    · rw [List.map_cons, cntC]
      simp only [cntS, Nat.add_zero, List.mem_cons]
      have e1 := cnt_jump labels x m
      have e2 := h8 m
      constructor
      · intro z
        by_cases y : 0 < cntI true m (jump labels x)
        · exact ⟨.inl (e1.mp y).1, (e1.mp y).2⟩
        · have := e2.mp (by omega)
          exact ⟨.inr this.1, this.2⟩
      · rintro ⟨z | z, y⟩
        · have := e1.mpr ⟨z, y⟩; omega
        · have := e2.mpr ⟨z, y⟩; omega
theorem nd_len : ∀ {p q : List Nat}, p.Nodup → (∀ x ∈ p, x ∈ q) → p.length ≤ q.length
  | [], q, _, _ => Nat.zero_le _
  | a :: p, q, nd, h => by
    rw [List.nodup_cons] at nd
    have ha := h a List.mem_cons_self
    have h1 : p.length ≤ (q.erase a).length := nd_len nd.2 fun x hx => by
      have ne : x ≠ a := fun e => nd.1 (e ▸ hx)
      exact (List.mem_erase_of_ne ne).mpr (h x (List.mem_cons_of_mem _ hx))
    have h2 := List.length_erase_of_mem ha
    have h3 := List.length_pos_of_mem ha
    rw [List.length_cons]
    omega
theorem head_ok {kd : Nat → Kd} (hk : RowsOk kd nx) {head : Nat} {inner : List Nat} (hl : head ∈ nx head → head ∈ inner) : ShOk nx [head] head inner (headS kd nx head inner) 2 := by
  have outs : ∀ m, Outs nx [head] inner m ↔ m ∈ nx head ∧ m ∉ inner := fun m => by
    unfold Outs
    simp only [List.mem_singleton, exists_eq_left]
    constructor
    · rintro ⟨h1, h2, h3⟩; exact ⟨h1, h3⟩
    · rintro ⟨h1, h2⟩; exact ⟨h1, fun e => h2 (by subst e; exact hl h1), h2⟩
  obtain ⟨h1, h2, h3, h4, h5, h6, h7, h8⟩ := jumps_C (nx := nx) inner (nx head)
  have four := hk.four head
  have two : ∀ t : AK, t ≠ .row → ShOk nx [head] head inner [.act t head ((nx head).map fun m => [jump inner m])] 2 := by
    intro t ht
    refine ⟨fun a e => by simp [fstS, fstI], fun a e he => ?_, by simp [stS, stI, h1], fun m => ?_, fun m hm => by simp [blS, blI, h2] at hm, ?_, ?_, ?_, ?_⟩
    · simp only [OkS, OkI, and_true]
      refine ⟨?_, h7 a e⟩
      have key : (nx head).map some = fstC ((nx head).map fun m => [jump inner m]) a e := by
        rw [fstC_map, List.map_map]
        apply List.map_congr_left
        intro m hm
        refine (fst_jump he ?_).symm
        by_cases q : m ∈ inner
        · exact .inl q
        · exact .inr ((outs m).mpr ⟨hm, q⟩)
      cases t with
      | row => exact absurd rfl ht
      | ifr => exact key
      | sw => exact key
    · rw [outs]
      simpa [cntS, cntI] using h8 m
    · cases t with
      | row => exact absurd rfl ht
      | ifr => simpa [ceS_one, ceI] using h5
      | sw => simpa [ceS_one, ceI] using h5
    · simp [hS, hI, isJmp, h6]
    · simp [wtS, wtI, h3]
    · simp [szS, szI, h4]; omega
  unfold headS
  cases e : kd head with
  | br => exact two .ifr (by simp)
  | sel => exact two .sw (by simp)
  | oth =>
    have l1 := hk.oth head e
    cases en : nx head with
    | nil =>
      simp only
      refine ⟨fun a e => by simp [fstS, fstI], fun a e he => by simp [OkS, OkI, OkC, ActOk, en], by simp [stS, stI, stC], fun m => ?_, fun m hm => by simp [blS, blI, blC] at hm, by simp [ceS_one, ceI, en], by simp [hS, hI, hC, isJmp], by simp [wtS, wtI, wtC], by simp [szS, szI, szC]⟩
      rw [outs, en]
      simp [cntS, cntI, cntC]
    | cons m r =>
      rw [en] at l1
      have : r = [] := by
        cases r with
        | nil => rfl
        | cons _ _ => simp at l1
      subst this
      simp only
      refine ⟨fun a e => by simp [fstS, fstI], fun a e he => ?_, by simp [stS, stI, stC, jump], fun k => ?_, fun m hm => by simp [blS, blI, blC, jump] at hm, by simp [ceS, ceI, jump], by simp [hS, hI, hC, isJmp, jump], by simp [wtS, wtI, wtC, jump], by simp [szS, szI, szC, jump]⟩
      · have fj : fstS [jump inner m] a e = some m := fst_jump he (by
          by_cases q : m ∈ inner
          · exact .inl q
          · exact .inr ((outs m).mpr ⟨by rw [en]; simp, q⟩))
        simp only [OkS, OkI, OkC, ActOk, en, fj, List.map_cons, List.map_nil, or_true, and_true, true_and]
        simp [jump, OkI]
      · rw [outs, en]
        have := (jumps_C (nx := nx) inner [m]).2.2.2.2.2.2.2 k
        simpa [cntC, cntS, cntI] using this

/-! ### one part more -/
theorem step_ok {region Q p inner : List Nat} {head e : Nat} {sh s : List I} (R : Reg nx region head) (hp : Part nx (chosen region head) p)
    (hQ : ∀ x ∈ Q, x ∈ region) (hQh : head ∈ Q) (hQp : ∀ x ∈ Q, x ∉ p) (hl : (∃ x ∈ region, head ∈ nx x) → head ∈ inner) (hin : ∀ l ∈ inner, l ∈ region → l = head)
    (hback : ∀ y ∈ p, ∀ x ∈ Q, x ≠ head → x ∉ nx y) (hlate : ∀ y ∈ region, y ∉ Q → y ∉ p → ∀ x ∈ p, x ∉ nx y)
    (he : entered nx region p = [e]) (k1 : ShOk nx Q head inner sh 2) (k2 : ShOk nx p e inner s 1) : ShOk nx (Q ++ p) head inner (.scope false e sh :: s) 2 := by
  have hh : head ∉ p := hQp head hQh
  have sr : ∀ x, x ∈ p → x ∈ region := fun x hx => (mem_chosen.mp (hp.sub x hx)).1
  have me : e ∈ entered nx region p := by rw [he]; simp
  obtain ⟨e1, x0, e2, e3, e4⟩ := mem_entered.mp me
  have e5 : e ∉ Q := fun q => hQp e q e1
  have e6 : e ∉ inner := fun q => hh (by rw [← hin e q (sr e e1)]; exact e1)
  -- an edge from Q into p
  have only : ∀ m x, x ∈ Q → m ∈ nx x → m ∈ p → m = e := fun m x hx hm hmp => by
    have : m ∈ entered nx region p := mem_entered.mpr ⟨hmp, x, hQ x hx, hQp x hx, hm⟩
    rw [he] at this
    simpa using this
  have outP : ∀ m, Outs nx p inner m → Outs nx (Q ++ p) inner m := by
    rintro m ⟨⟨x, hx, hm⟩, h2, h3⟩
    refine ⟨⟨x, List.mem_append_right _ hx, hm⟩, fun q => ?_, h3⟩
    rcases List.mem_append.mp q with q | q
    · by_cases z : m = head
      · subst z
        exact h3 (hl ⟨x, sr x hx, hm⟩)
      · exact hback x hx m q z hm
    · exact h2 q
  have outQ : ∀ m, m ≠ e → Outs nx Q inner m → Outs nx (Q ++ p) inner m := by
    rintro m hme ⟨⟨x, hx, hm⟩, h2, h3⟩
    refine ⟨⟨x, List.mem_append_left _ hx, hm⟩, fun q => ?_, h3⟩
    rcases List.mem_append.mp q with q | q
    · exact h2 q
    · exact hme (only m x hx hm q)
  have outE : Outs nx Q inner e := by
    refine ⟨?_, e5, e6⟩
    by_cases q : x0 ∈ Q
    · exact ⟨x0, q, e4⟩
    · exact absurd e4 (hlate x0 e2 q e3 e e1)
  refine ⟨fun a en => ?_, fun a en hen => ?_, ?_, fun m => ?_, fun m hm => ?_, ?_, ?_, ?_, ?_⟩
  · simp only [fstS, fstI]
    exact k1.f _ _
  · simp only [OkS, OkI, k2.f]
    refine ⟨k1.o _ _ ⟨hen.lp, fun m hm => ?_⟩, k2.o a en ⟨hen.lp, fun m hm => hen.bk m (outP m hm)⟩⟩
    simp only [Env.block]
    by_cases q : m = e
    · rw [if_pos q, q]
    · rw [if_neg q]
      exact hen.bk m (outQ m q hm)
  · simp only [stS, stI]
    exact k1.st.append k2.st
  · simp only [cntS, cntI]
    constructor
    · intro z
      by_cases y : 0 < cntS true m s
      · exact outP m ((k2.cn m).mp y)
      · by_cases q : e = m
        · rw [if_pos q] at z; omega
        · rw [if_neg q] at z
          exact outQ m (Ne.symm q) ((k1.cn m).mp (by omega))
    · rintro ⟨⟨x, hx, hm⟩, h2, h3⟩
      rw [List.mem_append] at h2
      rcases List.mem_append.mp hx with q | q
      · have : 0 < cntS true m sh := (k1.cn m).mpr ⟨⟨x, q, hm⟩, fun z => h2 (.inl z), h3⟩
        have ne : ¬ e = m := fun z => h2 (.inr (by rw [← z]; exact e1))
        rw [if_neg ne]
        omega
      · have : 0 < cntS true m s := (k2.cn m).mpr ⟨⟨x, q, hm⟩, fun z => h2 (.inr z), h3⟩
        omega
  · simp only [blS, blI, List.mem_append, List.mem_cons] at hm ⊢
    rcases hm with (z | z) | z
    · rw [z]; exact ⟨.inr e1, fun q => hh (by rw [← q]; exact e1)⟩
    · exact ⟨.inl (k1.bl m z).1, (k1.bl m z).2⟩
    · exact ⟨.inr (k2.bl m z).1, fun q => hh (by rw [← q]; exact (k2.bl m z).1)⟩
  · rw [ceS_cons_ne (ceS_ne k2.ce)]
    exact k2.ce
  · simp only [hS, hI]
    refine ⟨fun q => by simp [isJmp] at q, k1.h, k2.h, (k1.cn e).mpr outE, k1.ce, k2.ce, fun m hm => ?_⟩
    obtain ⟨m1, m2⟩ := k1.bl m hm
    apply Classical.byContradiction
    intro z
    obtain ⟨⟨x, hx, hmx⟩, _, _⟩ := (k2.cn m).mp (by omega)
    exact hback x hx m m1 m2 hmx
  · have := k1.wt
    have := k2.wt
    simp only [wtS, wtI, List.length_append]
    omega
  · have := k1.sz
    have := k2.sz
    simp only [szS, szI, List.length_append]
    omega
def ResOk (nx : Nat → List Nat) (region : List Nat) (head : Nat) (labels : List Nat) (d : Nat) : Res → Prop
  | .ok s => ShOk nx region head labels s d
  | .error (a, b) => ∃ C, Wit nx region head C a b
theorem fold_ok {region inner : List Nat} {head : Nat} {rec : List Nat → Nat → Res} (R : Reg nx region head) (hl : (∃ x ∈ region, head ∈ nx x) → head ∈ inner) (hin : ∀ l ∈ inner, l ∈ region → l = head)
    (hrec : ∀ p e, Part nx (chosen region head) p → e ∈ p → ResOk nx p e inner 1 (rec p e)) :
    ∀ (ps done : List (List Nat)) (sh : List I), (∀ p ∈ done ++ ps, Part nx (chosen region head) p) → (done ++ ps).flatten.Perm (chosen region head) → ((done ++ ps).Pairwise fun p q => ∀ y ∈ q, ∀ x ∈ p, x ∉ nx y) →
      ShOk nx (head :: done.flatten) head inner sh 2 → ResOk nx region head inner 2 (fold1 nx rec region ps sh) := by
  intro ps
  induction ps with
  | nil =>
    intro done sh h1 h2 h3 k
    simp only [fold1, ResOk]
    rw [List.append_nil] at h2
    refine k.perm ?_
    refine (h2.cons head).trans ?_
    -- head :: chosen ~ region
    have q := perm_split region fun x => decide (x = head)
    refine List.Perm.trans ?_ q
    have e1 : (region.filter fun x => decide (x = head)) = [head] := by
      have nd := R.nd
      have mem := R.mem
      clear h1 h2 h3 k q hrec hin hl R
      induction region with
      | nil => cases mem
      | cons b r ih =>
        rw [List.nodup_cons] at nd
        by_cases z : b = head
        · subst z
          have : (r.filter fun x => decide (x = b)) = [] := by
            rw [List.filter_eq_nil_iff]
            intro x hx
            simp only [decide_eq_true_eq]
            intro e
            exact nd.1 (e ▸ hx)
          simp [List.filter_cons, this]
        · rcases List.mem_cons.mp mem with e | e
          · exact absurd e.symm z
          · simp [List.filter_cons, z, ih nd.2 e]
    rw [e1]
    exact List.Perm.refl _
  | cons p ps ih =>
    intro done sh h1 h2 h3 k
    have hp : Part nx (chosen region head) p := h1 p (by simp)
    have ne := R.entered_ne hp
    simp only [fold1]
    cases he : entered nx region p with
    | nil => exact absurd he ne
    | cons e r =>
      cases r with
      | cons b r =>
        simp only [ResOk]
        exact ⟨_, Wit.of_two R hp he⟩
      | nil =>
        have me : e ∈ entered nx region p := by rw [he]; simp
        have ep := (mem_entered.mp me).1
        simp only
        have hr := hrec p e hp ep
        cases hq : rec p e with
        | error x =>
          rw [hq] at hr
          obtain ⟨a, b⟩ := x
          obtain ⟨C, w⟩ := hr
          exact ⟨C, Wit.up R hp me w⟩
        | ok s =>
          rw [hq] at hr
          have e0 : done ++ p :: ps = (done ++ [p]) ++ ps := by simp
          have nd : (done ++ p :: ps).flatten.Nodup := h2.nodup_iff.mpr (R.nd.filter _)
          have nd' := nd
          rw [List.flatten_append, List.flatten_cons, List.nodup_append] at nd'
          obtain ⟨_, nd2, nd3⟩ := nd'
          have hch : ∀ x, x ∈ (done ++ p :: ps).flatten ↔ x ∈ chosen region head := fun x => h2.mem_iff
          have hd : ∀ x ∈ done.flatten, x ∈ region ∧ x ≠ head := fun x hx => mem_chosen.mp ((hch x).mp (by rw [List.flatten_append]; exact List.mem_append_left _ hx))
          have hpair : ∀ q ∈ done, ∀ y ∈ p, ∀ x ∈ q, x ∉ nx y := fun q hq => (List.pairwise_append.mp h3).2.2 q hq p (by simp)
          have hpair2 : ∀ q ∈ ps, ∀ y ∈ q, ∀ x ∈ p, x ∉ nx y := fun q hq => (List.pairwise_cons.mp (List.pairwise_append.mp h3).2.1).1 q hq
          have hph : head ∉ p := fun q => (mem_chosen.mp (hp.sub head q)).2 rfl
          have k2 := step_ok (Q := head :: done.flatten) R hp (fun x hx => by
            rcases List.mem_cons.mp hx with z | z
            · rw [z]; exact R.mem
            · exact (hd x z).1) (by simp) (fun x hx => by
            rcases List.mem_cons.mp hx with z | z
            · rw [z]; exact hph
            · exact fun q => nd3 x z x (List.mem_append_left _ q) rfl) hl hin (fun y hy x hx hxh => by
            rcases List.mem_cons.mp hx with z | z
            · exact absurd z hxh
            · obtain ⟨q, hq, hxq⟩ := List.mem_flatten.mp z
              exact hpair q hq y hy x hxq) (fun y hy hyQ hyp x hx => by
            have : y ∈ chosen region head := mem_chosen.mpr ⟨hy, fun z => hyQ (by rw [z]; simp)⟩
            have := (hch y).mpr this
            rw [List.flatten_append, List.flatten_cons, List.mem_append, List.mem_append] at this
            rcases this with z | z | z
            · exact absurd (List.mem_cons_of_mem _ z) hyQ
            · exact absurd z hyp
            · obtain ⟨q, hq, hyq⟩ := List.mem_flatten.mp z
              exact hpair2 q hq y hyq x hx) he k hr
          refine ih (done ++ [p]) _ (by rw [← e0]; exact h1) (by rw [← e0]; exact h2) (by rw [← e0]; exact h3) ?_
          rw [List.flatten_append]
          simpa using k2
theorem wrap_ok {region labels : List Nat} {head : Nat} {sh : List I} (R : Reg nx region head) (k : ShOk nx region head (innerL nx region head labels) sh 2) :
    ShOk nx region head labels (if isLoop nx region head = true then [.scope true head sh] else sh) 1 := by
  by_cases q : isLoop nx region head = true
  · have ei : innerL nx region head labels = labels ++ [head] := by unfold innerL; rw [if_pos q]
    rw [ei] at k
    rw [if_pos q]
    have outs : ∀ m, Outs nx region (labels ++ [head]) m ↔ Outs nx region labels m := fun m => by
      unfold Outs
      constructor
      · rintro ⟨h1, h2, h3⟩
        exact ⟨h1, h2, fun z => h3 (List.mem_append_left _ z)⟩
      · rintro ⟨h1, h2, h3⟩
        refine ⟨h1, h2, fun z => ?_⟩
        rcases List.mem_append.mp z with z | z
        · exact h3 z
        · rw [List.mem_singleton] at z
          subst z
          exact h2 R.mem
    refine ⟨fun a e => by simp only [fstS, fstI]; exact k.f _ _, fun a e he => ?_, by simpa [stS, stI] using k.st, fun m => ?_, fun m hm => by simpa [blS, blI] using k.bl m (by simpa [blS, blI] using hm), by simpa [ceS_one, ceI] using k.ce, by simpa [hS, hI, isJmp] using k.h, ?_, ?_⟩
    · simp only [OkS, OkI, fstS, k.f, and_true]
      refine k.o _ _ ⟨fun l hl => ?_, fun m hm => he.bk m ((outs m).mp hm)⟩
      simp only [Env.loop]
      by_cases z : l = head
      · rw [if_pos z, z]
      · rw [if_neg z]
        rcases List.mem_append.mp hl with y | y
        · exact he.lp l y
        · exact absurd (List.mem_singleton.mp y) z
    · rw [← outs, ← k.cn]
      simp [cntS, cntI]
    · have := k.wt
      simp only [wtS, wtI]
      omega
    · have := k.sz
      simp only [szS, szI]
      omega
  · have ei : innerL nx region head labels = labels := by unfold innerL; rw [if_neg q]
    rw [ei] at k
    rw [if_neg q]
    exact ⟨k.f, k.o, k.st, k.cn, k.bl, k.ce, k.h, by have := k.wt; omega, by have := k.sz; omega⟩
theorem out_ok {kd : Nat → Kd} (hk : RowsOk kd nx) : ∀ (f : Nat) (region : List Nat) (head : Nat) (labels : List Nat), region.length ≤ f → Reg nx region head → (∀ l ∈ labels, l ∉ region) → ResOk nx region head labels 1 (outF kd nx f region head labels)
  | 0, region, head, labels, hf, R, hl => by
    have : region = [] := List.length_eq_zero_iff.mp (by omega)
    have m := R.mem
    rw [this] at m
    cases m
  | f + 1, region, head, labels, hf, R, hl => by
    have nd : (chosen region head).Nodup := R.nd.filter _
    have co := comps_ok (nx := nx) nd
    have hli : (∃ x ∈ region, head ∈ nx x) → head ∈ innerL nx region head labels := by
      rintro ⟨x, hx, hm⟩
      have : isLoop nx region head = true := by
        unfold isLoop
        rw [List.any_eq_true]
        exact ⟨x, hx, decide_eq_true hm⟩
      unfold innerL
      rw [if_pos this]
      simp
    have hin : ∀ l ∈ innerL nx region head labels, l ∈ region → l = head := by
      intro l h1 h2
      unfold innerL at h1
      split at h1
      · rcases List.mem_append.mp h1 with z | z
        · exact absurd h2 (hl l z)
        · exact List.mem_singleton.mp z
      · exact absurd h2 (hl l h1)
    have lt : ∀ p, Part nx (chosen region head) p → p.length ≤ f := by
      intro p hp
      have h1 : p.length ≤ (chosen region head).length := nd_len hp.nd hp.sub
      have h2 := filter_lt (l := region) (p := fun x => !decide (x = head)) (q := fun _ => true) (fun _ _ _ => rfl) R.mem (by simp) rfl
      have e : (region.filter fun _ => true) = region := List.filter_eq_self.mpr fun _ _ => rfl
      rw [e] at h2
      have h3 : (chosen region head).length < region.length := h2
      omega
    have hrec : ∀ p e, Part nx (chosen region head) p → e ∈ p → ResOk nx p e (innerL nx region head labels) 1 (outF kd nx f p e (innerL nx region head labels)) := by
      intro p e hp he
      refine out_ok hk f p e _ (lt p hp) (Reg.sub hp he) fun l h1 h2 => ?_
      have h3 := mem_chosen.mp (hp.sub l h2)
      exact h3.2 (hin l h1 h3.1)
    have hh := head_ok hk (head := head) (inner := innerL nx region head labels) fun z => hli ⟨head, R.mem, z⟩
    have := fold_ok (rec := fun p e => outF kd nx f p e (innerL nx region head labels)) R hli hin hrec (comps nx (chosen region head)) [] _ (by simpa using co.part) (by simpa using co.perm) (by simpa using co.topo) (by simpa using hh)
    unfold outF
    cases hq : fold1 nx (fun p e => outF kd nx f p e (innerL nx region head labels)) region (comps nx (chosen region head)) (headS kd nx head (innerL nx region head labels)) with
    | error x =>
      rw [hq] at this
      simp only [hq]
      obtain ⟨a, b⟩ := x
      exact this
    | ok sh =>
      rw [hq] at this
      simp only [hq]
      exact wrap_ok R this
end K33
end
section
/-! M3: the lowered rows by numbers; the whole of a structured procedure. Plain Lean. -/
namespace K33
structure EnvN where
  lp : Nat → Nat
  bk : Nat → Nat
def EnvN.loop (e : EnvN) (l : Nat) (t : Nat) : EnvN := ⟨fun x => if x = l then t else e.lp x, e.bk⟩
def EnvN.block (e : EnvN) (l : Nat) (t : Nat) : EnvN := ⟨e.lp, fun x => if x = l then t else e.bk x⟩
mutual
/-- how many act -/
def naI : I → Nat
  | .act _ _ cs => 1 + naC cs
  | .scope _ _ b => naS b
  | .jmp _ _ => 0
def naS : List I → Nat
  | [] => 0
  | i :: r => naI i + naS r
def naC : List (List I) → Nat
  | [] => 0
  | s :: r => naS s + naC r
end
mutual
theorem naI_st : ∀ i : I, (stI i).length = naI i
  | .act _ _ cs => by simp [stI, naI, naC_st cs]; omega
  | .scope _ _ b => by simp [stI, naI, naS_st b]
  | .jmp _ _ => by simp [stI, naI]
theorem naS_st : ∀ s : List I, (stS s).length = naS s
  | [] => by simp [stS, naS]
  | i :: r => by simp [stS, naS, naI_st i, naS_st r]
theorem naC_st : ∀ s : List (List I), (stC s).length = naC s
  | [] => by simp [stC, naC]
  | i :: r => by simp [stC, naC, naS_st i, naC_st r]
end
mutual
/-- the number of what acts next; k: the first number here; z: the number of nothing -/
def fnI (z : Nat) : I → Nat → Nat → EnvN → Nat
  | .act _ _ _, k, _, _ => k
  | .scope true l b, k, a, e => fnS z b k a (e.loop l z)
  | .scope false l b, k, a, e => fnS z b k a (e.block l a)
  | .jmp true l, _, _, e => e.lp l
  | .jmp false l, _, _, e => e.bk l
def fnS (z : Nat) : List I → Nat → Nat → EnvN → Nat
  | [], _, a, _ => a
  | i :: r, k, a, e => fnI z i k (fnS z r (k + naI i) a e) e
end
def fnC (z : Nat) : List (List I) → Nat → Nat → EnvN → List Nat
  | [], _, _, _ => []
  | s :: r, k, a, e => fnS z s k a e :: fnC z r (k + naS s) a e
variable {nx : Nat → List Nat}
def actN (nx : Nat → List Nat) (z : Nat) (t : AK) (n : Nat) (cs : List (List I)) (k a : Nat) (e : EnvN) : List Nat :=
  match t with
  | .row => if nx n = [] then [] else [a]
  | _ => fnC z cs (k + 1) a e
mutual
/-- the lowered rows: the old number, the nexts by new numbers -/
def arI (nx : Nat → List Nat) (z : Nat) : I → Nat → Nat → EnvN → List (Nat × List Nat)
  | .act t n cs, k, a, e => (n, actN nx z t n cs k a e) :: arC nx z cs (k + 1) a e
  | .scope true l b, k, a, e => arS nx z b k a (e.loop l (fnS z b k a (e.loop l z)))
  | .scope false l b, k, a, e => arS nx z b k a (e.block l a)
  | .jmp _ _, _, _, _ => []
def arS (nx : Nat → List Nat) (z : Nat) : List I → Nat → Nat → EnvN → List (Nat × List Nat)
  | [], _, _, _ => []
  | i :: r, k, a, e => arI nx z i k (fnS z r (k + naI i) a e) e ++ arS nx z r (k + naI i) a e
def arC (nx : Nat → List Nat) (z : Nat) : List (List I) → Nat → Nat → EnvN → List (Nat × List Nat)
  | [], _, _, _ => []
  | s :: r, k, a, e => arS nx z s k a e ++ arC nx z r (k + naS s) a e
end
/-- l stands in the order from k on -/
def At (order : List Nat) (k : Nat) (l : List Nat) : Prop := ∃ p q, order = p ++ (l ++ q) ∧ p.length = k
theorem At.left {order : List Nat} {k : Nat} {a b : List Nat} (h : At order k (a ++ b)) : At order k a := by
  obtain ⟨p, q, h1, h2⟩ := h
  exact ⟨p, b ++ q, by rw [h1, List.append_assoc], h2⟩
theorem At.right {order : List Nat} {k : Nat} {a b : List Nat} (h : At order k (a ++ b)) : At order (k + a.length) b := by
  obtain ⟨p, q, h1, h2⟩ := h
  exact ⟨p ++ a, q, by rw [h1]; simp, by rw [List.length_append, h2]⟩
theorem At.cons {order : List Nat} {k n : Nat} {b : List Nat} (h : At order k (n :: b)) : order[k]? = some n ∧ At order (k + 1) b := by
  obtain ⟨p, q, h1, h2⟩ := h
  refine ⟨by rw [h1, ← h2]; simp, p ++ [n], q, by rw [h1]; simp, by simp [h2]⟩
/-- the env by names -/
def nmE (order : List Nat) (e : EnvN) : Env := ⟨fun l => order[e.lp l]?, fun l => order[e.bk l]?⟩
theorem nmE_loop (order : List Nat) (e : EnvN) (l t : Nat) : nmE order (e.loop l t) = (nmE order e).loop l order[t]? := by
  unfold nmE EnvN.loop Env.loop
  congr 1
  funext x
  simp only
  split <;> rfl
theorem nmE_block (order : List Nat) (e : EnvN) (l t : Nat) : nmE order (e.block l t) = (nmE order e).block l order[t]? := by
  unfold nmE EnvN.block Env.block
  congr 1
  funext x
  simp only
  split <;> rfl
section
variable {order : List Nat} {z : Nat}
mutual
theorem nm_fnI (hz : order[z]? = none) : ∀ (i : I) (k a : Nat) (e : EnvN), At order k (stI i) → fstI i order[a]? (nmE order e) = order[fnI z i k a e]?
  | .act t n cs, k, a, e, h => by
    simp only [stI] at h
    simp only [fstI, fnI]
    exact h.cons.1.symm
  | .scope true l b, k, a, e, h => by
    simp only [stI] at h
    simp only [fstI, fnI]
    rw [← nm_fnS hz b k a _ h, nmE_loop, hz]
  | .scope false l b, k, a, e, h => by
    simp only [stI] at h
    simp only [fstI, fnI]
    rw [← nm_fnS hz b k a _ h, nmE_block]
  | .jmp true l, k, a, e, h => by simp [fstI, fnI, nmE]
  | .jmp false l, k, a, e, h => by simp [fstI, fnI, nmE]
theorem nm_fnS (hz : order[z]? = none) : ∀ (s : List I) (k a : Nat) (e : EnvN), At order k (stS s) → fstS s order[a]? (nmE order e) = order[fnS z s k a e]?
  | [], k, a, e, h => by simp [fstS, fnS]
  | i :: r, k, a, e, h => by
    simp only [stS] at h
    have h2 := h.right
    rw [naI_st] at h2
    simp only [fstS, fnS]
    rw [nm_fnS hz r _ a e h2, nm_fnI hz i k _ e h.left]
end
theorem nm_fnC (hz : order[z]? = none) : ∀ (s : List (List I)) (k a : Nat) (e : EnvN), At order k (stC s) → fstC s order[a]? (nmE order e) = (fnC z s k a e).map fun j => order[j]?
  | [], k, a, e, h => by simp [fstC, fnC]
  | i :: r, k, a, e, h => by
    simp only [stC] at h
    have h2 := h.right
    rw [naS_st] at h2
    simp only [fstC, fnC, List.map_cons]
    rw [nm_fnS hz i k a e h.left, nm_fnC hz r _ a e h2]
/-- the rows' nexts are right -/
def RowsR (nx : Nat → List Nat) (order : List Nat) (l : List (Nat × List Nat)) : Prop := ∀ p ∈ l, (p.2.map fun j => order[j]?) = (nx p.1).map some
theorem RowsR.app {l l' : List (Nat × List Nat)} (h : RowsR nx order l) (h' : RowsR nx order l') : RowsR nx order (l ++ l') := fun p hp => by
  rcases List.mem_append.mp hp with q | q
  · exact h p q
  · exact h' p q
mutual
theorem ar_okI (hz : order[z]? = none) : ∀ (i : I) (k a : Nat) (e : EnvN), At order k (stI i) → OkI nx i order[a]? (nmE order e) → (arI nx z i k a e).map (·.1) = stI i ∧ RowsR nx order (arI nx z i k a e)
  | .act t n cs, k, a, e, h, ok => by
    simp only [stI] at h
    simp only [OkI] at ok
    obtain ⟨g1, g2⟩ := ar_okC hz cs (k + 1) a e h.cons.2 ok.2
    simp only [arI, stI, List.map_cons, g1, true_and]
    intro p hp
    rcases List.mem_cons.mp hp with q | q
    · subst q
      have o1 := ok.1
      cases t with
      | row =>
        simp only [ActOk] at o1
        simp only [actN]
        by_cases c : nx n = []
        · simp [c]
        · rw [if_neg c, o1.2.resolve_left c]
          rfl
      | ifr =>
        simp only [ActOk] at o1
        simp only [actN]
        rw [o1, nm_fnC hz cs (k + 1) a e h.cons.2]
      | sw =>
        simp only [ActOk] at o1
        simp only [actN]
        rw [o1, nm_fnC hz cs (k + 1) a e h.cons.2]
    · exact g2 p q
  | .scope true l b, k, a, e, h, ok => by
    simp only [stI] at h
    simp only [OkI] at ok
    simp only [arI, stI]
    refine ar_okS hz b k a _ h ?_
    rw [nmE_loop, ← nm_fnS hz b k a _ h, nmE_loop, hz]
    exact ok
  | .scope false l b, k, a, e, h, ok => by
    simp only [stI] at h
    simp only [OkI] at ok
    simp only [arI, stI]
    refine ar_okS hz b k a _ h ?_
    rw [nmE_block]
    exact ok
  | .jmp _ _, k, a, e, h, ok => by simp [arI, stI, RowsR]
theorem ar_okS (hz : order[z]? = none) : ∀ (s : List I) (k a : Nat) (e : EnvN), At order k (stS s) → OkS nx s order[a]? (nmE order e) → (arS nx z s k a e).map (·.1) = stS s ∧ RowsR nx order (arS nx z s k a e)
  | [], k, a, e, h, ok => by simp [arS, stS, RowsR]
  | i :: r, k, a, e, h, ok => by
    simp only [stS] at h
    have h2 := h.right
    rw [naI_st] at h2
    simp only [OkS] at ok
    rw [nm_fnS hz r _ a e h2] at ok
    obtain ⟨g1, g2⟩ := ar_okI hz i k _ e h.left ok.1
    obtain ⟨g3, g4⟩ := ar_okS hz r _ a e h2 ok.2
    simp only [arS, stS, List.map_append, g1, g3, true_and]
    exact g2.app g4
theorem ar_okC (hz : order[z]? = none) : ∀ (s : List (List I)) (k a : Nat) (e : EnvN), At order k (stC s) → OkC nx s order[a]? (nmE order e) → (arC nx z s k a e).map (·.1) = stC s ∧ RowsR nx order (arC nx z s k a e)
  | [], k, a, e, h, ok => by simp [arC, stC, RowsR]
  | i :: r, k, a, e, h, ok => by
    simp only [stC] at h
    have h2 := h.right
    rw [naS_st] at h2
    simp only [OkC] at ok
    obtain ⟨g1, g2⟩ := ar_okS hz i k a e h.left ok.1
    obtain ⟨g3, g4⟩ := ar_okC hz r _ a e h2 ok.2
    simp only [arC, stC, List.map_append, g1, g3, true_and]
    exact g2.app g4
end
end

/-! ### the whole -/
open Classical in
noncomputable def spreadL (n : Nat) (nx : Nat → List Nat) (P : Nat → Prop) (a : Nat) : List Nat := (List.range n).filter fun x => decide (Reach nx P a x)
theorem mem_spread {n : Nat} {P : Nat → Prop} {a x : Nat} : x ∈ spreadL n nx P a ↔ x < n ∧ Reach nx P a x := by
  unfold spreadL
  simp [List.mem_filter]
theorem spread_nd {n : Nat} {P : Nat → Prop} {a : Nat} : (spreadL n nx P a).Nodup := List.nodup_range.filter _
/-- the region of a procedure -/
noncomputable def regionOf (n : Nat) (nx : Nat → List Nat) (first : Nat) : List Nat := spreadL n nx (fun x => x < n) first
theorem region_ok {n : Nat} {first : Nat} (hf : first < n) : Reg nx (regionOf n nx first) first := by
  refine ⟨mem_spread.mpr ⟨hf, .refl _⟩, spread_nd, fun x hx => ?_⟩
  have hr := (mem_spread.mp hx).2
  refine (hr.via (Q := (· ∈ regionOf n nx first)) fun y hy h1 h2 => mem_spread.mpr ⟨hy, h1⟩).mono fun y hy => hy.2
theorem region_closed {n : Nat} {first : Nat} (hn : ∀ x, x < n → ∀ m ∈ nx x, m < n) {m : Nat} (h : ∃ x ∈ regionOf n nx first, m ∈ nx x) : m ∈ regionOf n nx first := by
  obtain ⟨x, hx, hm⟩ := h
  obtain ⟨h1, h2⟩ := mem_spread.mp hx
  have := hn x h1 m hm
  exact mem_spread.mpr ⟨this, h2.step hm this⟩
noncomputable def outlineOf (kd : Nat → Kd) (nx : Nat → List Nat) (n first : Nat) : Res := outF kd nx n (regionOf n nx first) first []
/-- what the law asks where a procedure is structured -/
structure Back (nx : Nat → List Nat) (n first : Nat) (s : List I) : Prop where
  st : (stS s).Perm (regionOf n nx first)
  rows : (arS nx (naS s) s 0 (naS s) ⟨fun _ => naS s, fun _ => naS s⟩).map (·.1) = stS s
  nexts : RowsR nx (stS s) (arS nx (naS s) s 0 (naS s) ⟨fun _ => naS s, fun _ => naS s⟩)
  first : (stS s)[fnS (naS s) s 0 (naS s) ⟨fun _ => naS s, fun _ => naS s⟩]? = some first
  wt : wtS s ≤ 3 * n
  sz : szS s ≤ 15 * n
theorem region_len {n first : Nat} : (regionOf n nx first).length ≤ n := by
  unfold regionOf spreadL
  have := List.length_filter_le (fun x => (Classical.propDecidable (Reach nx (fun x => x < n) first x)).decide) (List.range n)
  simpa using this
theorem structured_ok {kd : Nat → Kd} {n first : Nat} {sh : List I} (hk : RowsOk kd nx) (hn : ∀ x, x < n → ∀ m ∈ nx x, m < n) (hf : first < n) (h : outlineOf kd nx n first = .ok sh) :
    Back nx n first (simS sh) ∧ wtS sh ≤ 3 * n ∧ szS sh ≤ 15 * n := by
  have R := region_ok (nx := nx) hf
  have k := out_ok hk n (regionOf n nx first) first [] region_len R (fun l hl => by simp at hl)
  unfold outlineOf at h
  rw [h] at k
  have k : ShOk nx (regionOf n nx first) first [] sh 1 := k
  have hs := (simS_ok sh k.h).1
  have env : ∀ e, EnvOk nx (regionOf n nx first) [] e := fun e => ⟨fun l hl => by simp at hl, fun m hm => absurd (region_closed hn hm.1) hm.2.1⟩
  have hz : (stS (simS sh))[naS (simS sh)]? = none := by rw [← naS_st]; simp
  have at_ : At (stS (simS sh)) 0 (stS (simS sh)) := ⟨[], [], by simp, rfl⟩
  have e0 : nmE (stS (simS sh)) ⟨fun _ => naS (simS sh), fun _ => naS (simS sh)⟩ = ⟨fun _ => none, fun _ => none⟩ := by
    unfold nmE
    simp only [hz]
  have o := (hs.o none ⟨fun _ => none, fun _ => none⟩).mpr (k.o none _ (env _))
  have q := ar_okS hz (simS sh) 0 (naS (simS sh)) ⟨fun _ => naS (simS sh), fun _ => naS (simS sh)⟩ at_ (by rw [e0, hz]; exact o)
  have f := nm_fnS hz (simS sh) 0 (naS (simS sh)) ⟨fun _ => naS (simS sh), fun _ => naS (simS sh)⟩ at_
  rw [e0, hz, hs.f, k.f] at f
  have rl := region_len (nx := nx) (n := n) (first := first)
  have w1 := k.wt
  have w2 := k.sz
  have w3 := hs.wt
  have w4 := hs.sz
  exact ⟨⟨hs.st.trans k.st, q.1, q.2, f.symm, by omega, by omega⟩, by omega, by omega⟩
theorem tangled_ok {kd : Nat → Kd} {n first a b : Nat} (hk : RowsOk kd nx) (hf : first < n) (h : outlineOf kd nx n first = .error (a, b)) :
    ∃ C, Wit nx (regionOf n nx first) first C a b := by
  have R := region_ok (nx := nx) hf
  have k := out_ok hk n (regionOf n nx first) first [] region_len R (fun l hl => by simp at hl)
  unfold outlineOf at h
  rw [h] at k
  exact k
end K33
end
section
/-! M4: drawing rows together does not end in one row where the graph is tangled. Plain Lean. -/
namespace K33
inductive RP (R : Nat → Nat → Prop) (P : Nat → Prop) : Nat → Nat → Prop
  | refl (a : Nat) : RP R P a a
  | step {a b c : Nat} : RP R P a b → R b c → P c → RP R P a c
theorem RP.last {R : Nat → Nat → Prop} {P : Nat → Prop} {a b : Nat} (h : RP R P a b) : b = a ∨ P b := by
  cases h with
  | refl => exact .inl rfl
  | step _ _ h2 => exact .inr h2
theorem RP.into {R : Nat → Nat → Prop} {P : Nat → Prop} {a b : Nat} (h : RP R P a b) (hne : b ≠ a) : ∃ c, (c = a ∨ P c) ∧ R c b := by
  cases h with
  | refl => exact absurd rfl hne
  | step h0 h1 _ => exact ⟨_, h0.last, h1⟩
/-- a cycle with two entries, in a graph of the nodes V -/
structure WR (V : Nat → Prop) (R : Nat → Nat → Prop) (first : Nat) (C : Nat → Prop) (a b : Nat) : Prop where
  fv : V first
  sub : ∀ x, C x → V x
  nf : ¬ C first
  conn : ∀ x, C x → ∀ y, C y → RP R C x y
  ca : C a
  cb : C b
  ne : a ≠ b
  ea : ∃ p, V p ∧ ¬ C p ∧ R p a ∧ RP R (fun x => V x ∧ ¬ C x) first p
  eb : ∃ p, V p ∧ ¬ C p ∧ R p b ∧ RP R (fun x => V x ∧ ¬ C x) first p
structure Merge (V : Nat → Prop) (R : Nat → Nat → Prop) (first x y : Nat) (V' : Nat → Prop) (R' : Nat → Nat → Prop) : Prop where
  vx : V x
  vy : V y
  nf : y ≠ first
  only : ∀ u, V u → R u y → u = x
  loops : ∀ u v, R u v → u ≠ v
  hv : ∀ u, V' u ↔ V u ∧ u ≠ y
  rx : ∀ v, v ≠ x → v ≠ y → (R x v ∨ R y v) → R' x v
  ro : ∀ u v, V u → u ≠ x → u ≠ y → R u v → R' u v
theorem merge_ok {V V' : Nat → Prop} {R R' : Nat → Nat → Prop} {first x y : Nat} {C : Nat → Prop} {a b : Nat} (m : Merge V R first x y V' R') (w : WR V R first C a b) : ∃ C', WR V' R' first C' a b := by
  have fv' : V' first := (m.hv first).mpr ⟨w.fv, Ne.symm m.nf⟩
  -- an edge whose end is not y and not where it begins, after the merge
  have edge : ∀ u v, V u → R u v → v ≠ y → (if u = y then x else u) = v ∨ R' (if u = y then x else u) v := fun u v hu hr hvy => by
    by_cases q : u = y
    · rw [if_pos q]
      by_cases z : v = x
      · exact .inl z.symm
      · exact .inr (m.rx v z hvy (.inr (q ▸ hr)))
    · rw [if_neg q]
      by_cases z : u = x
      · rw [z] at hr ⊢
        exact .inr (m.rx v (Ne.symm (m.loops x v hr)) hvy (.inl hr))
      · exact .inr (m.ro u v hu z q hr)
  -- paths
  have path : ∀ (P P' : Nat → Prop) (s t : Nat), V s → (∀ z, P z → V z) → (∀ z, P z → z ≠ y → P' z) → RP R P s t → RP R' P' (if s = y then x else s) (if t = y then x else t) := by
    intro P P' s t hs hP hP' h
    induction h with
    | refl => exact .refl _
    | step h0 h1 h2 ih =>
      rename_i b c
      have vb : V b := by
        rcases h0.last with e | e
        · rw [e]; exact hs
        · exact hP b e
      by_cases q : c = y
      · rw [if_pos q]
        have e := m.only b vb (q ▸ h1)
        by_cases z : b = y
        · rw [if_pos z] at ih
          exact ih
        · rw [if_neg z, e] at ih
          exact ih
      · rw [if_neg q]
        rcases edge b c vb h1 q with e | e
        · rw [e] at ih
          exact ih
        · exact ih.step e (hP' c h2 q)
  have nfy : (if first = y then x else first) = first := if_neg (Ne.symm m.nf)
  by_cases cy : C y
  · -- y lies on the cycle: so does x
    have cx : C x := by
      have : ∃ u, C u ∧ u ≠ y := by
        by_cases q : a = y
        · exact ⟨b, w.cb, fun e => w.ne (q.trans e.symm)⟩
        · exact ⟨a, w.ca, q⟩
      obtain ⟨u, hu, huy⟩ := this
      obtain ⟨c, hc, hr⟩ := (w.conn u hu y cy).into (Ne.symm huy)
      have hC : C c := by
        rcases hc with e | e
        · rw [e]; exact hu
        · exact e
      rw [← m.only c (w.sub c hC) hr]
      exact hC
    have off : ∀ p, V p → ¬ C p → ∀ q, R p q → q ≠ y := fun p vp np q hr e => np (by rw [m.only p vp (e ▸ hr)]; exact cx)
    have entry : ∀ q, C q → (∃ p, V p ∧ ¬ C p ∧ R p q ∧ RP R (fun x => V x ∧ ¬ C x) first p) → q ≠ y ∧ ∃ p, V' p ∧ ¬ (C p ∧ p ≠ y) ∧ R' p q ∧ RP R' (fun x => V' x ∧ ¬ (C x ∧ x ≠ y)) first p := by
      rintro q hq ⟨p, vp, np, hr, hp⟩
      have qy := off p vp np q hr
      have py : p ≠ y := fun e => np (e ▸ cy)
      have px : p ≠ x := fun e => np (e ▸ cx)
      refine ⟨qy, p, (m.hv p).mpr ⟨vp, py⟩, fun z => np z.1, m.ro p q vp px py hr, ?_⟩
      have := path (fun x => V x ∧ ¬ C x) (fun x => V' x ∧ ¬ (C x ∧ x ≠ y)) first p w.fv (fun z hz => hz.1) (fun z hz hzy => ⟨(m.hv z).mpr ⟨hz.1, hzy⟩, fun k => hz.2 k.1⟩) hp
      rw [nfy, if_neg py] at this
      exact this
    obtain ⟨ay, ea⟩ := entry a w.ca w.ea
    obtain ⟨by_, eb⟩ := entry b w.cb w.eb
    refine ⟨fun z => C z ∧ z ≠ y, fv', fun z hz => (m.hv z).mpr ⟨w.sub z hz.1, hz.2⟩, fun k => w.nf k.1, fun u hu v hv => ?_, ⟨w.ca, ay⟩, ⟨w.cb, by_⟩, w.ne, ea, eb⟩
    have := path C (fun z => C z ∧ z ≠ y) u v (w.sub u hu.1) w.sub (fun z hz hzy => ⟨hz, hzy⟩) (w.conn u hu.1 v hv.1)
    rw [if_neg hu.2, if_neg hv.2] at this
    exact this
  · have entry : ∀ q, C q → (∃ p, V p ∧ ¬ C p ∧ R p q ∧ RP R (fun x => V x ∧ ¬ C x) first p) → ∃ p, V' p ∧ ¬ C p ∧ R' p q ∧ RP R' (fun x => V' x ∧ ¬ C x) first p := by
      rintro q hq ⟨p, vp, np, hr, hp⟩
      have qy : q ≠ y := fun e => cy (e ▸ hq)
      have hpath := path (fun x => V x ∧ ¬ C x) (fun x => V' x ∧ ¬ C x) first p w.fv (fun z hz => hz.1) (fun z hz hzy => ⟨(m.hv z).mpr ⟨hz.1, hzy⟩, hz.2⟩) hp
      rw [nfy] at hpath
      have ok : V' (if p = y then x else p) ∧ ¬ C (if p = y then x else p) := by
        by_cases z : p = y
        · rw [if_pos z]
          obtain ⟨c, hc, hr2⟩ := hp.into (fun e => m.nf (z.symm.trans e))
          have : V c ∧ ¬ C c := by
            rcases hc with e | e
            · rw [e]; exact ⟨w.fv, w.nf⟩
            · exact e
          have e2 := m.only c this.1 (z ▸ hr2)
          rw [← e2]
          exact ⟨(m.hv c).mpr ⟨this.1, fun e3 => by
            have e4 := m.loops c y (z ▸ hr2)
            exact e4 e3⟩, this.2⟩
        · rw [if_neg z]
          exact ⟨(m.hv p).mpr ⟨vp, z⟩, np⟩
      refine ⟨_, ok.1, ok.2, ?_, hpath⟩
      rcases edge p q vp hr qy with e | e
      · exact absurd (e ▸ hq) ok.2
      · exact e
    refine ⟨C, fv', fun z hz => (m.hv z).mpr ⟨w.sub z hz, fun e => cy (e ▸ hz)⟩, w.nf, fun u hu v hv => ?_, w.ca, w.cb, w.ne, entry a w.ca w.ea, entry b w.cb w.eb⟩
    have := path C C u v (w.sub u hu) w.sub (fun z hz _ => hz) (w.conn u hu v hv)
    have uy : u ≠ y := fun e => cy (e ▸ hu)
    have vy : v ≠ y := fun e => cy (e ▸ hv)
    rw [if_neg uy, if_neg vy] at this
    exact this
theorem RP.of_reach {nx : Nat → List Nat} {P P' : Nat → Prop} {R : Nat → Nat → Prop} (h1 : ∀ u v, v ∈ nx u → u ≠ v → P v → R u v) (h2 : ∀ z, P z → P' z) {a b : Nat} (h : Reach nx P a b) : RP R P' a b := by
  induction h with
  | refl => exact .refl _
  | step h0 h3 h4 ih =>
    rename_i b c
    by_cases q : b = c
    · rw [← q]; exact ih
    · exact ih.step (h1 b c h3 q h4) (h2 c h4)
theorem wr_of_wit {nx : Nat → List Nat} {region : List Nat} {first a b : Nat} {C : Nat → Prop} {V : Nat → Prop} {R : Nat → Nat → Prop} (hv : ∀ x, V x ↔ x ∈ region) (hr : ∀ u v, u ∈ region → v ∈ nx u → u ≠ v → R u v) (hf : first ∈ region)
    (w : Wit nx region first C a b) : WR V R first C a b := by
  have lift : ∀ (P : Nat → Prop), (∀ z, P z → z ∈ region) → ∀ s t, s ∈ region → Reach nx P s t → RP R P s t := by
    intro P hP s t hs h
    induction h with
    | refl => exact .refl _
    | step h0 h3 h4 ih =>
      rename_i b c
      have hb : b ∈ region := by
        rcases h0.last with e | e
        · rw [e]; exact hs
        · exact hP b e
      by_cases q : b = c
      · rw [← q]; exact ih
      · exact ih.step (hr b c hb h3 q) h4
  have entry : ∀ q, C q → (∃ p, p ∈ region ∧ ¬ C p ∧ q ∈ nx p ∧ Reach nx (fun x => x ∈ region ∧ ¬ C x) first p) → ∃ p, V p ∧ ¬ C p ∧ R p q ∧ RP R (fun x => V x ∧ ¬ C x) first p := by
    rintro q hq ⟨p, h1, h2, h3, h4⟩
    refine ⟨p, (hv p).mpr h1, h2, hr p q h1 h3 (fun e => h2 (e ▸ hq)), ?_⟩
    have := lift _ (fun z hz => hz.1) first p hf h4
    have conv : ∀ {s t}, RP R (fun x => x ∈ region ∧ ¬ C x) s t → RP R (fun x => V x ∧ ¬ C x) s t := fun h => by
      induction h with
      | refl => exact .refl _
      | step _ g1 g2 ih => exact ih.step g1 ⟨(hv _).mpr g2.1, g2.2⟩
    exact conv this
  exact ⟨(hv first).mpr hf, fun x hx => (hv x).mpr (w.sub x hx), w.nh, fun x hx y hy => lift C w.sub x y (w.sub x hx) (w.conn x hx y hy), w.ca, w.cb, w.ne, entry a w.ca w.ea, entry b w.cb w.eb⟩
end K33
end
section
set_option Elab.async false
set_option linter.all false
set_option maxRecDepth 100000
set_option maxHeartbeats 1000000
/-! L3: a thin layer over the hand layer: what an expression evaluates to, as data; what a block makes of the slots' data. -/
namespace K33
open PySem L2

/-! ### data over a known part of the heap -/
mutual
inductive Dt (k : Hp) : V → PyData → Prop
  | non : Dt k .non .none
  | bl (b : Bool) : Dt k (.bl b) (.bool b)
  | int (i : Int) : Dt k (.int i) (.int i)
  | str (x : Str) : Dt k (.str x) (.str x)
  | lst {a : Addr} {xs : List V} {ds : List PyData} : k a = some (.lst xs) → DtA k xs ds → Dt k (.ref a) (.list ds)
  | tup {a : Addr} {xs : List V} {ds : List PyData} : k a = some (.tup xs) → DtA k xs ds → Dt k (.ref a) (.tuple ds)
inductive DtA (k : Hp) : List V → List PyData → Prop
  | nil : DtA k [] []
  | cons {v : V} {vs : List V} {d : PyData} {ds : List PyData} : Dt k v d → DtA k vs ds → DtA k (v :: vs) (d :: ds)
end
mutual
theorem Dt.up {k k' : Hp} (h : Same k k') : ∀ (d : PyData) (v : V), Dt k v d → Dt k' v d
  | .none, _, .non => .non
  | .bool _, _, .bl b => .bl b
  | .int _, _, .int i => .int i
  | .str _, _, .str x => .str x
  | .list ds, _, .lst e a => .lst (h _ _ e) (DtA.up h ds _ a)
  | .tuple ds, _, .tup e a => .tup (h _ _ e) (DtA.up h ds _ a)
theorem DtA.up {k k' : Hp} (h : Same k k') : ∀ (ds : List PyData) (vs : List V), DtA k vs ds → DtA k' vs ds
  | [], _, .nil => .nil
  | d :: ds, _, .cons a b => .cons (Dt.up h d _ a) (DtA.up h ds _ b)
end
mutual
theorem Dt.dp {K : PySem.W.Frag} {k : Hp} : ∀ (d : PyData) (v : V), Dt k v d → Dp K k v d
  | .none, _, .non => .non
  | .bool _, _, .bl b => .bl b
  | .int _, _, .int i => .int i
  | .str _, _, .str x => .str x
  | .list ds, _, .lst e a => .lst (SqL.of e) (DtA.dp ds _ a)
  | .tuple ds, _, .tup e a => .tup (SqT.of e) (DtA.dp ds _ a)
theorem DtA.dp {K : PySem.W.Frag} {k : Hp} : ∀ (ds : List PyData) (vs : List V), DtA k vs ds → DpAll K k vs ds
  | [], _, .nil => .nil
  | d :: ds, _, .cons a b => .cons (Dt.dp d _ a) (DtA.dp ds _ b)
end
theorem DtA.length {k : Hp} : ∀ {vs : List V} {ds : List PyData}, DtA k vs ds → vs.length = ds.length
  | _, _, .nil => rfl
  | _, _, .cons _ h => by simp [DtA.length h]
theorem DtA.get {k : Hp} : ∀ {vs : List V} {ds : List PyData} {i : Nat} {d : PyData}, DtA k vs ds → ds[i]? = some d → ∃ v, vs[i]? = some v ∧ Dt k v d
  | _, _, _, _, .nil, h => by simp at h
  | _, _, 0, d, .cons a _, h => ⟨_, rfl, by simp at h; subst h; exact a⟩
  | _, _, i + 1, d, .cons _ b, h => by
    obtain ⟨v, h1, h2⟩ := DtA.get (i := i) (d := d) b (by simpa using h)
    exact ⟨v, by simpa using h1, h2⟩
theorem DtA.getV {k : Hp} : ∀ {vs : List V} {ds : List PyData} {i : Nat} {v : V}, DtA k vs ds → vs[i]? = some v → ∃ d, ds[i]? = some d ∧ Dt k v d
  | _, _, _, _, .nil, h => by simp at h
  | _, _, 0, d, .cons a _, h => ⟨_, rfl, by simp at h; subst h; exact a⟩
  | _, _, i + 1, d, .cons _ b, h => by
    obtain ⟨v, h1, h2⟩ := DtA.getV (i := i) b (by simpa using h)
    exact ⟨v, by simpa using h1, h2⟩
theorem DtA.app {k : Hp} : ∀ {vs ws : List V} {ds es : List PyData}, DtA k vs ds → DtA k ws es → DtA k (vs ++ ws) (ds ++ es)
  | _, _, _, _, .nil, h => h
  | _, _, _, _, .cons a b, h => .cons a (DtA.app b h)
theorem DtA.one {k : Hp} {v : V} {d : PyData} (h : Dt k v d) : DtA k [v] [d] := .cons h .nil
theorem DtA.take {k : Hp} : ∀ (n : Nat) {vs : List V} {ds : List PyData}, DtA k vs ds → DtA k (vs.take n) (ds.take n)
  | 0, _, _, _ => .nil
  | _ + 1, _, _, .nil => .nil
  | n + 1, _, _, .cons a b => .cons a (DtA.take n b)
theorem DtA.drop {k : Hp} : ∀ (n : Nat) {vs : List V} {ds : List PyData}, DtA k vs ds → DtA k (vs.drop n) (ds.drop n)
  | 0, _, _, h => h
  | _ + 1, _, _, .nil => .nil
  | n + 1, _, _, .cons _ b => DtA.drop n b
theorem DtA.nil_iff {k : Hp} {vs : List V} {ds : List PyData} (h : DtA k vs ds) : vs = [] ↔ ds = [] := by
  cases h with
  | nil => simp
  | cons _ _ => simp
theorem DtA.ints {k : Hp} : ∀ (ns : List Int), DtA k (ns.map V.int) (ns.map PyData.int)
  | [] => .nil
  | n :: ns => .cons (.int n) (DtA.ints ns)
theorem DtA.of_ints {k : Hp} : ∀ {ns : List Int} {vs : List V}, DtA k vs (ns.map PyData.int) → vs = ns.map V.int
  | [], _, .nil => rfl
  | n :: ns, _, .cons a b => by
    cases a
    rw [DtA.of_ints b, List.map_cons]
theorem DtA.of_strs {k : Hp} : ∀ {ns : List Str} {vs : List V}, DtA k vs (ns.map PyData.str) → vs = ns.map V.str
  | [], _, .nil => rfl
  | n :: ns, _, .cons a b => by
    cases a
    rw [DtA.of_strs b, List.map_cons]

/-! ### what is known, what may change -/
/-- the known part k of the heap H; Ts: the code tables, which may grow -/
structure Kn (Ts : List Addr) (k H : Hp) : Prop where
  sub : Same k H
  nt : ∀ a ps, k a ≠ some (.tbl ps)
  tb : ∀ P ∈ Ts, GxR.TabG H P
/-- from (k, H) to (k', H'): nothing that stood has changed but what Mo names -/
structure Gr (Ts Mo : List Addr) (k H k' H' : Hp) : Prop where
  same : ∀ a o, H a = some o → a ∉ Ts → a ∉ Mo → H' a = some o
  kk : Same k k'
  kn : Kn Ts k' H'
  dom : ∀ a, H a ≠ none → k' a = k a
section
variable {Ts Mo : List Addr} {k H k' H' k2 H2 : Hp}
theorem Kn.not_tab (h : Kn Ts k H) {a : Addr} {o : HO} (e : H a = some o) (n : ∀ ps, o ≠ .tbl ps) : a ∉ Ts := fun q => by
  obtain ⟨ps, e2, _⟩ := h.tb a q
  rw [e] at e2
  exact n ps (Option.some.inj e2)
theorem Gr.refl (h : Kn Ts k H) : Gr Ts Mo k H k H := ⟨fun _ _ e _ _ => e, Same.refl k, h, fun _ _ => rfl⟩
theorem Gr.trans (hk : Kn Ts k H) (hm : ∀ a ∈ Mo, H' a ≠ none) (a : Gr Ts Mo k H k' H') (b : Gr Ts [] k' H' k2 H2) : Gr Ts Mo k H k2 H2 where
  same := fun c o e n1 n2 => b.same c o (a.same c o e n1 n2) n1 (by simp)
  kk := a.kk.trans b.kk
  kn := b.kn
  dom := fun c e => by
    rw [b.dom c ?_, a.dom c e]
    cases q : H c with
    | none => exact absurd q e
    | some o =>
      by_cases n2 : c ∈ Mo
      · exact hm c n2
      · by_cases n1 : c ∈ Ts
        · obtain ⟨ps, e2, _⟩ := a.kn.tb c n1
          rw [e2]
          simp
        · rw [a.same c o q n1 n2]
          simp
theorem Gr.trans0 (hk : Kn Ts k H) (a : Gr Ts [] k H k' H') (b : Gr Ts [] k' H' k2 H2) : Gr Ts [] k H k2 H2 := Gr.trans hk (fun _ h => by simp at h) a b
theorem tab_upd {P p : Addr} {o : HO} (h : GxR.TabG H P) (n : P ≠ p) : GxR.TabG (upd H p o) P := by
  obtain ⟨ps, e, t⟩ := h
  exact ⟨ps, by rw [upd_ne n]; exact e, t⟩
/-- a new object, known from now on -/
theorem Gr.new (h : Kn Ts k H) {p : Addr} {o : HO} (hp : H p = none) (n : ∀ ps, o ≠ .tbl ps) : Gr Ts [] k H (upd k p o) (upd H p o) where
  same := fun a u e _ _ => by rw [upd_ne (ne_of_none e hp)]; exact e
  kk := fun a u e => by rw [upd_ne (ne_of_none (h.sub a u e) hp)]; exact e
  kn := ⟨fun a u e => by
      by_cases q : a = p
      · subst q; rw [upd_same] at e ⊢; exact e
      · rw [upd_ne q] at e ⊢; exact h.sub a u e, fun a ps e => by
      by_cases q : a = p
      · subst q; rw [upd_same] at e; exact n ps (Option.some.inj e)
      · rw [upd_ne q] at e; exact h.nt a ps e, fun P hP => tab_upd (h.tb P hP) fun e => by
      obtain ⟨ps, e2, _⟩ := h.tb P hP
      rw [e, hp] at e2
      cases e2⟩
  dom := fun a e => by rw [upd_ne (fun q => e (by rw [q]; exact hp))]
/-- a new thing, not known: it will be written -/
theorem Gr.freshU (h : Kn Ts k H) {p : Addr} {u : HO} (hp : H p = none) : Gr Ts [] k H k (upd H p u) where
  same := fun a u e _ _ => by rw [upd_ne (ne_of_none e hp)]; exact e
  kk := Same.refl k
  kn := ⟨fun a u e => by rw [upd_ne (ne_of_none (h.sub a u e) hp)]; exact h.sub a u e, h.nt, fun P hP => tab_upd (h.tb P hP) fun e => by
      obtain ⟨ps, e2, _⟩ := h.tb P hP
      rw [e, hp] at e2
      cases e2⟩
  dom := fun a e => rfl
theorem Gr.fresh (h : Kn Ts k H) {p : Addr} {xs : List V} (hp : H p = none) : Gr Ts [] k H k (upd H p (.lst xs)) := Gr.freshU h hp
/-- a thing of one's own is written -/
theorem Gr.mutU (g : Gr Ts Mo k H k' H') {l : Addr} {u v : HO} (ho : H l = none ∨ l ∈ Mo) (hk : k' l = none) (hl : H' l = some u) (nt : ∀ ps, u ≠ .tbl ps) : Gr Ts Mo k H k' (upd H' l v) where
  same := fun a u e n1 n2 => by
    have : a ≠ l := fun q => by
      subst q
      rcases ho with z | z
      · rw [z] at e; cases e
      · exact n2 z
    rw [upd_ne this]
    exact g.same a u e n1 n2
  kk := g.kk
  kn := ⟨fun a u e => by
      have : a ≠ l := fun q => by subst q; rw [hk] at e; cases e
      rw [upd_ne this]
      exact g.kn.sub a u e, g.kn.nt, fun P hP => tab_upd (g.kn.tb P hP) fun e => by
      obtain ⟨ps, e2, _⟩ := g.kn.tb P hP
      rw [e, hl] at e2
      exact nt ps (Option.some.inj e2)⟩
  dom := g.dom
theorem Gr.mut (g : Gr Ts Mo k H k' H') {l : Addr} {xs ys : List V} (ho : H l = none ∨ l ∈ Mo) (hk : k' l = none) (hl : H' l = some (.lst xs)) : Gr Ts Mo k H k' (upd H' l (.lst ys)) := g.mutU ho hk hl (fun _ => by simp)
/-- a list of one's own becomes known -/
theorem Gr.know (g : Gr Ts Mo k H k' H') {l : Addr} {o : HO} (ho : H l = none) (hl : H' l = some o) (n : ∀ ps, o ≠ .tbl ps) (hk : k' l = none) : Gr Ts Mo k H (upd k' l o) H' where
  same := g.same
  kk := fun a u e => by
    have : a ≠ l := fun q => by subst q; rw [g.kk a u e] at hk; cases hk
    rw [upd_ne this]
    exact g.kk a u e
  kn := ⟨fun a u e => by
      by_cases q : a = l
      · subst q; rw [upd_same] at e; rw [hl]; exact e
      · rw [upd_ne q] at e; exact g.kn.sub a u e, fun a ps e => by
      by_cases q : a = l
      · subst q; rw [upd_same] at e; exact n ps (Option.some.inj e)
      · rw [upd_ne q] at e; exact g.kn.nt a ps e, g.kn.tb⟩
  dom := fun a e => by rw [upd_ne (fun q => e (by rw [q]; exact ho))]; exact g.dom a e
end

/-! ### slots -/
/-- what a thing of one's own holds: a list's items, a dict's entries (keys: whole numbers) -/
inductive Cont where
  | l (ds : List PyData)
  | d (es : List (Int × PyData))
  /-- a dict while a loop walks it -/
  | f (od : Obj) (kvs : List (Key × V)) (es : List (Int × PyData))
abbrev OW := Option Addr × Cont
inductive Sl where
  | dat (d : PyData)
  /-- a list of one's own, still written -/
  | own (w : OW)
  /-- a dict, no longer written -/
  | dct (es : List (Int × PyData))
abbrev Dl := List (Option Sl)
abbrev dat (d : PyData) : Option Sl := some (.dat d)
abbrev own (ds : List PyData) : Option Sl := some (.own (none, .l ds))
abbrev dct (es : List (Int × PyData)) : Option Sl := some (.dct es)
abbrev ownD (es : List (Int × PyData)) : Option Sl := some (.own (none, .d es))
/-- the list at l, handed in, still written -/
abbrev ownA (l : Addr) (ds : List PyData) : Option Sl := some (.own (some l, .l ds))
abbrev ownDA (l : Addr) (es : List (Int × PyData)) : Option Sl := some (.own (some l, .d es))
inductive DtK (k : Hp) : List (Key × V) → List (Int × PyData) → Prop
  | nil : DtK k [] []
  | cons {i : Int} {v : V} {d : PyData} {kvs : List (Key × V)} {es : List (Int × PyData)} : Dt k v d → DtK k kvs es → DtK k ((.inl i, v) :: kvs) ((i, d) :: es)
theorem DtK.up {k k' : Hp} (h : Same k k') : ∀ {kvs : List (Key × V)} {es : List (Int × PyData)}, DtK k kvs es → DtK k' kvs es
  | _, _, .nil => .nil
  | _, _, .cons a b => .cons (Dt.up h _ _ a) (DtK.up h b)
theorem DtK.length {k : Hp} : ∀ {kvs : List (Key × V)} {es : List (Int × PyData)}, DtK k kvs es → kvs.length = es.length
  | _, _, .nil => rfl
  | _, _, .cons _ h => by simp [DtK.length h]
theorem DtK.app {k : Hp} : ∀ {kvs lws : List (Key × V)} {es fs : List (Int × PyData)}, DtK k kvs es → DtK k lws fs → DtK k (kvs ++ lws) (es ++ fs)
  | _, _, _, _, .nil, h => h
  | _, _, _, _, .cons a b, h => .cons a (DtK.app b h)
def CoOk (k : Hp) : HO → Cont → Prop
  | .lst xs, .l ds => DtA k xs ds
  | .dK kvs, .d es => DtK k kvs es
  | .frz o u, .f od kvs es => o = od ∧ u = .dK kvs ∧ DtK k kvs es
  | _, _ => False
theorem CoOk.up {k k' : Hp} (h : Same k k') {u : HO} {c : Cont} (a : CoOk k u c) : CoOk k' u c := by
  cases u <;> cases c <;> first | exact a.elim | exact DtA.up h _ _ a | exact DtK.up h a | exact ⟨a.1, a.2.1, DtK.up h a.2.2⟩
theorem CoOk.nt {k : Hp} {u : HO} {c : Cont} (a : CoOk k u c) : ∀ ps, u ≠ .tbl ps := fun ps e => by
  subst e
  cases c <;> exact a
theorem CoOk.frz {k : Hp} {u : HO} {od : Obj} {kvs : List (Key × V)} {es : List (Int × PyData)} (a : CoOk k u (.f od kvs es)) : u = .frz od (.dK kvs) ∧ DtK k kvs es := by
  cases u <;> first | exact a.elim | exact ⟨by rw [a.1, a.2.1], a.2.2⟩
theorem CoOk.lst {k : Hp} {u : HO} {ds : List PyData} (a : CoOk k u (.l ds)) : ∃ xs, u = .lst xs ∧ DtA k xs ds := by
  cases u <;> first | exact a.elim | exact ⟨_, rfl, a⟩
theorem CoOk.dic {k : Hp} {u : HO} {es : List (Int × PyData)} (a : CoOk k u (.d es)) : ∃ kvs, u = .dK kvs ∧ DtK k kvs es := by
  cases u <;> first | exact a.elim | exact ⟨_, rfl, a⟩
def SlotOk (k H : Hp) (v : Option (Option V)) : Option (Option Sl) → Prop
  | some (some (.dat d)) => ∃ x, v = some (some x) ∧ Dt k x d
  | some (some (.own w)) => ∃ l u, v = some (some (.ref l)) ∧ H l = some u ∧ k l = none ∧ CoOk k u w.2 ∧ ∀ a, w.1 = some a → l = a
  | some (some (.dct es)) => ∃ l kvs, v = some (some (.ref l)) ∧ k l = some (.dK kvs) ∧ DtK k kvs es
  | _ => True
structure Slots (k H : Hp) (σ : L2.St) (δ : Dl) : Prop where
  len : σ.length = δ.length
  ok : ∀ i : Nat, SlotOk k H σ[i]? δ[i]?
section
variable {Ts Mo : List Addr} {k H k' H' : Hp} {σ : L2.St} {δ : Dl}
theorem Slots.dat (s : Slots k H σ δ) {i : Nat} {d : PyData} (h : δ[i]? = some (dat d)) : ∃ x, σ[i]? = some (some x) ∧ Dt k x d := by
  have := s.ok i
  rw [h] at this
  exact this
theorem Slots.own1 (s : Slots k H σ δ) {i : Nat} {w : OW} (h : δ[i]? = some (some (.own w))) : ∃ l u, σ[i]? = some (some (.ref l)) ∧ H l = some u ∧ k l = none ∧ CoOk k u w.2 ∧ ∀ a, w.1 = some a → l = a := by
  have := s.ok i
  rw [h] at this
  exact this
theorem Slots.own (s : Slots k H σ δ) {i : Nat} {o : Option Addr} {ds : List PyData} (h : δ[i]? = some (some (.own (o, .l ds)))) : ∃ l xs, σ[i]? = some (some (.ref l)) ∧ H l = some (.lst xs) ∧ k l = none ∧ DtA k xs ds ∧ ∀ a, o = some a → l = a := by
  obtain ⟨l, u, h1, h2, h3, h4, h5⟩ := s.own1 h
  obtain ⟨xs, rfl, h4⟩ := CoOk.lst h4
  exact ⟨l, xs, h1, h2, h3, h4, h5⟩
theorem Slots.ownD (s : Slots k H σ δ) {i : Nat} {o : Option Addr} {es : List (Int × PyData)} (h : δ[i]? = some (some (.own (o, .d es)))) : ∃ l kvs, σ[i]? = some (some (.ref l)) ∧ H l = some (.dK kvs) ∧ k l = none ∧ DtK k kvs es ∧ ∀ a, o = some a → l = a := by
  obtain ⟨l, u, h1, h2, h3, h4, h5⟩ := s.own1 h
  obtain ⟨xs, rfl, h4⟩ := CoOk.dic h4
  exact ⟨l, xs, h1, h2, h3, h4, h5⟩
theorem Slots.dct (s : Slots k H σ δ) {i : Nat} {es : List (Int × PyData)} (h : δ[i]? = some (dct es)) : ∃ l kvs, σ[i]? = some (some (.ref l)) ∧ k l = some (.dK kvs) ∧ DtK k kvs es := by
  have := s.ok i
  rw [h] at this
  exact this
theorem SlotOk.up (hk : Kn Ts k H) (g : Gr Ts [] k H k' H') {v : Option (Option V)} : ∀ {o : Option (Option Sl)}, SlotOk k H v o → SlotOk k' H' v o
  | some (some (.dat d)), h => by
    obtain ⟨x, h1, h2⟩ := h
    exact ⟨x, h1, Dt.up g.kk _ _ h2⟩
  | some (some (.own w)), h => by
    obtain ⟨l, u, h1, h2, h3, h4, h5⟩ := h
    refine ⟨l, u, h1, g.same l _ h2 (hk.not_tab h2 h4.nt) (by simp), ?_, h4.up g.kk, h5⟩
    rw [g.dom l (by rw [h2]; simp)]
    exact h3
  | some (some (.dct es)), h => by
    obtain ⟨l, kvs, h1, h2, h3⟩ := h
    exact ⟨l, kvs, h1, g.kk _ _ h2, h3.up g.kk⟩
  | some none, _ => trivial
  | none, _ => trivial
theorem Slots.up (hk : Kn Ts k H) (g : Gr Ts [] k H k' H') (s : Slots k H σ δ) : Slots k' H' σ δ := ⟨s.len, fun i => (s.ok i).up hk g⟩
theorem Slots.set (s : Slots k H σ δ) (i : Nat) {v : Option V} {o : Option Sl} (h : SlotOk k H (some v) (some o)) : Slots k H (σ.set i v) (δ.set i o) := by
  refine ⟨by simp [s.len], fun j => ?_⟩
  by_cases q : i = j
  · subst q
    by_cases z : i < δ.length
    · rw [List.getElem?_set_self (by rw [s.len]; exact z), List.getElem?_set_self z]
      exact h
    · rw [List.getElem?_eq_none (by simpa using Nat.le_of_not_lt z : (δ.set i o).length ≤ i)]
      trivial
  · rw [List.getElem?_set_ne q, List.getElem?_set_ne q]
    exact s.ok j
theorem Slots.forget (s : Slots k H σ δ) (i : Nat) (v : Option V) : Slots k H (σ.set i v) (δ.set i none) := s.set i trivial
end

/-! ### expressions -/
def EvD (Ts : List Addr) (te : TE) (δ : Dl) (d : PyData) : Prop :=
  ∀ (σ : L2.St) (k H : Hp), Kn Ts k H → Slots k H σ δ → ∀ Q : VK, (∀ v k' H', Gr Ts [] k H k' H' → Dt k' v d → Q v H') → te σ H Q
def EvA (Ts : List Addr) (ta : TA) (δ : Dl) (ds : List PyData) : Prop :=
  ∀ (σ : L2.St) (k H : Hp), Kn Ts k H → Slots k H σ δ → ∀ Q : List V → Hp → Prop, (∀ vs k' H', Gr Ts [] k H k' H' → DtA k' vs ds → Q vs H') → ta σ H Q
def EvB (Ts : List Addr) (tt : TT) (δ : Dl) (b : Bool) : Prop :=
  ∀ (σ : L2.St) (k H : Hp), Kn Ts k H → Slots k H σ δ → ∀ Q : Bool → Hp → Prop, (∀ k' H', Gr Ts [] k H k' H' → Q b H') → tt σ H Q
/-- a two-place operation on data; a one-place one; a call of a built-in -/
def RvD (Ts : List Addr) (r : R2) (dx dy d : PyData) : Prop :=
  ∀ (k H : Hp) (x y : V), Kn Ts k H → Dt k x dx → Dt k y dy → ∀ Q : VK, (∀ v k' H', Gr Ts [] k H k' H' → Dt k' v d → Q v H') → r x y H Q
def RuD (Ts : List Addr) (r : V → Hp → VK → Prop) (dx d : PyData) : Prop :=
  ∀ (k H : Hp) (x : V), Kn Ts k H → Dt k x dx → ∀ Q : VK, (∀ v k' H', Gr Ts [] k H k' H' → Dt k' v d → Q v H') → r x H Q
def RcD (Ts : List Addr) (r : List V → Hp → VK → Prop) (ds : List PyData) (d : PyData) : Prop :=
  ∀ (k H : Hp) (xs : List V), Kn Ts k H → DtA k xs ds → ∀ Q : VK, (∀ v k' H', Gr Ts [] k H k' H' → Dt k' v d → Q v H') → r xs H Q
section
variable {Ts : List Addr} {δ : Dl} {ta tb tc te : TE} {d dx dy : PyData} {K : PySem.W.Frag} {r : R2}
theorem ev_var {i : Nat} (h : δ[i]? = some (dat d)) : EvD Ts (tVar i) δ d := fun σ k H hk s Q q => by
  obtain ⟨x, h1, h2⟩ := s.dat h
  exact ⟨x, h1, q x k H (Gr.refl hk) h2⟩
theorem ev_int {i : Int} : EvD Ts (tC (.int i)) δ (.int i) := fun σ k H hk s Q q => q _ k H (Gr.refl hk) (.int i)
theorem ev_str {x : Str} : EvD Ts (tC (.str x)) δ (.str x) := fun σ k H hk s Q q => q _ k H (Gr.refl hk) (.str x)
theorem ev_bl {b : Bool} : EvD Ts (tC (.bl b)) δ (.bool b) := fun σ k H hk s Q q => q _ k H (Gr.refl hk) (.bl b)
theorem ev_non : EvD Ts (tC .non) δ .none := fun σ k H hk s Q q => q _ k H (Gr.refl hk) .non
theorem ev_op (ha : EvD Ts ta δ dx) (hb : EvD Ts tb δ dy) (hr : RvD Ts r dx dy d) : EvD Ts (tOp r ta tb) δ d := fun σ k H hk s Q q =>
  ha σ k H hk s _ fun x k1 H1 g1 d1 => hb σ k1 H1 g1.kn (s.up hk g1) _ fun y k2 H2 g2 d2 =>
    hr k2 H2 x y g2.kn (Dt.up g2.kk _ _ d1) d2 Q fun v k3 H3 g3 d3 => q v k3 H3 (Gr.trans0 hk (Gr.trans0 hk g1 g2) g3) d3
theorem ev_un {r : V → Hp → VK → Prop} (ha : EvD Ts ta δ dx) (hr : RuD Ts r dx d) : EvD Ts (tUn r ta) δ d := fun σ k H hk s Q q =>
  ha σ k H hk s _ fun x k1 H1 g1 d1 => hr k1 H1 x g1.kn d1 Q fun v k3 H3 g3 d3 => q v k3 H3 (Gr.trans0 hk g1 g3) d3
theorem ea_nil : EvA Ts tNil δ [] := fun σ k H hk s Q q => q [] k H (Gr.refl hk) .nil
theorem ea_cons {t : TA} {ds : List PyData} (ha : EvD Ts ta δ d) (hb : EvA Ts t δ ds) : EvA Ts (tCons ta t) δ (d :: ds) := fun σ k H hk s Q q =>
  ha σ k H hk s _ fun x k1 H1 g1 d1 => hb σ k1 H1 g1.kn (s.up hk g1) _ fun xs k2 H2 g2 d2 => q (x :: xs) k2 H2 (Gr.trans0 hk g1 g2) (.cons (Dt.up g2.kk _ _ d1) d2)
theorem small5 {n : Nat} (h : n ≤ 100000) : n ≤ sizeLine := Nat.le_trans h (by decide)
theorem ev_tup {t : TA} {ds : List PyData} (ha : EvA Ts t δ ds) (hz : ds.length ≤ 100000) : EvD Ts (tTup t) δ (.tuple ds) := fun σ k H hk s Q q =>
  ha σ k H hk s _ fun xs k1 H1 g1 d1 => ⟨by rw [d1.length]; exact small5 hz, fun p hp => q _ _ _ (Gr.trans0 hk g1 (Gr.new g1.kn hp (fun _ => by simp))) (.tup upd_same (DtA.up (Gr.new (o := .tup xs) g1.kn hp (fun _ => by simp)).kk _ _ d1))⟩
theorem ev_lst {t : TA} {ds : List PyData} (ha : EvA Ts t δ ds) (hz : ds.length ≤ 100000) : EvD Ts (tLst t) δ (.list ds) := fun σ k H hk s Q q =>
  ha σ k H hk s _ fun xs k1 H1 g1 d1 => ⟨by rw [d1.length]; exact small5 hz, fun p hp => q _ _ _ (Gr.trans0 hk g1 (Gr.new g1.kn hp (fun _ => by simp))) (.lst upd_same (DtA.up (Gr.new (o := .lst xs) g1.kn hp (fun _ => by simp)).kk _ _ d1))⟩
theorem ev_callR {t : TA} {r : List V → Hp → VK → Prop} {ds : List PyData} (ha : EvA Ts t δ ds) (hr : RcD Ts r ds d) : EvD Ts (tCB r t) δ d := fun σ k H hk s Q q =>
  ha σ k H hk s _ fun xs k1 H1 g1 d1 => hr k1 H1 xs g1.kn d1 Q fun v k3 H3 g3 d3 => q v k3 H3 (Gr.trans0 hk g1 g3) d3
/-- the promise of a def that only makes data -/
def spP (Ts : List Addr) (R : List PyData → PyData → Prop) : Sp := fun vs H Q _ => ∃ (k : Hp) (ds : List PyData) (d : PyData), Kn Ts k H ∧ DtA k vs ds ∧ R ds d ∧ ∀ v k' H', Gr Ts [] k H k' H' → Dt k' v d → Q v H'
theorem ev_call {t : TA} {ds : List PyData} {R : List PyData → PyData → Prop} {E : XK} (ha : EvA Ts t δ ds) (hr : R ds d) : EvD Ts (tCall (spP Ts R) [] E t) δ d := fun σ k H hk s Q q =>
  ha σ k H hk s _ fun xs k1 H1 g1 d1 => by
    show spP Ts R (xs ++ []) H1 Q E
    rw [List.append_nil]
    exact ⟨k1, ds, d, g1.kn, d1, hr, fun v k' H' g dv => q v k' H' (Gr.trans0 hk g1 g) dv⟩
theorem ev_if {t : TT} {b : Bool} (hc : EvB Ts t δ b) (h1 : b = true → EvD Ts ta δ d) (h2 : b = false → EvD Ts tb δ d) : EvD Ts (tIf t ta tb) δ d := fun σ k H hk s Q q =>
  hc σ k H hk s _ fun k1 H1 g1 => by
    cases b with
    | true => exact iteT (h1 rfl σ k1 H1 g1.kn (s.up hk g1) Q fun v k2 H2 g2 dv => q v k2 H2 (Gr.trans0 hk g1 g2) dv)
    | false => exact iteF (h2 rfl σ k1 H1 g1.kn (s.up hk g1) Q fun v k2 H2 g2 dv => q v k2 H2 (Gr.trans0 hk g1 g2) dv)
theorem ev_is {d' : PyData} (h : EvD Ts te δ d) (e : d = d') : EvD Ts te δ d' := e ▸ h

/-! tests -/
theorem eb_test {b : Bool} (h : EvD Ts te δ (.bool b)) : EvB Ts (tTest te) δ b := fun σ k H hk s Q q => h σ k H hk s _ fun v k1 H1 g1 dv => by
  cases dv
  exact ⟨b, rfl, q k1 H1 g1⟩
theorem eb_B {b : Bool} (h : EvD Ts te δ (.bool b)) : EvB Ts (tB te) δ b := fun σ k H hk s Q q => h σ k H hk s _ fun v k1 H1 g1 dv => by
  cases dv
  exact ⟨b, rfl, q k1 H1 g1⟩
theorem eb_and {t u : TT} {a b : Bool} (h1 : EvB Ts t δ a) (h2 : a = true → EvB Ts u δ b) : EvB Ts (tAnd t u) δ (a && b) := fun σ k H hk s Q q => h1 σ k H hk s _ fun k1 H1 g1 => by
  cases a with
  | true => exact iteT (h2 rfl σ k1 H1 g1.kn (s.up hk g1) Q fun k2 H2 g2 => q k2 H2 (Gr.trans0 hk g1 g2))
  | false => exact iteF (q k1 H1 g1)
theorem eb_or {t u : TT} {a b : Bool} (h1 : EvB Ts t δ a) (h2 : a = false → EvB Ts u δ b) : EvB Ts (tOr t u) δ (a || b) := fun σ k H hk s Q q => h1 σ k H hk s _ fun k1 H1 g1 => by
  cases a with
  | false => exact iteF (h2 rfl σ k1 H1 g1.kn (s.up hk g1) Q fun k2 H2 g2 => q k2 H2 (Gr.trans0 hk g1 g2))
  | true => exact iteT (q k1 H1 g1)
theorem eb_not {t : TT} {a : Bool} (h : EvB Ts t δ a) : EvB Ts (tNot t) δ (!a) := fun σ k H hk s Q q => h σ k H hk s _ fun k1 H1 g1 => q k1 H1 g1
theorem eb_is {t : TT} {a b : Bool} (h : EvB Ts t δ a) (e : a = b) : EvB Ts t δ b := e ▸ h
/-- truth of a list, a tuple -/
def nonE : PyData → Option Bool
  | .list ds => some (!ds.isEmpty)
  | .tuple ds => some (!ds.isEmpty)
  | .bool b => some b
  | _ => none
theorem isE {k : Hp} {vs : List V} {ds : List PyData} (h : DtA k vs ds) : vs.isEmpty = ds.isEmpty := by cases h <;> rfl
theorem eb_truth {b : Bool} (h : EvD Ts te δ d) (e : nonE d = some b) : EvB Ts (fun σ H Q => te σ H fun x H' => ∃ k, TruV K x H' k ∧ Q k H') δ b := fun σ k H hk s Q q => h σ k H hk s _ fun v k1 H1 g1 dv => by
  cases dv with
  | lst e1 a => cases e; exact ⟨_, .inl ⟨_, SqL.of (g1.kn.sub _ _ e1), by rw [isE a]⟩, q k1 H1 g1⟩
  | tup e1 a => cases e; exact ⟨_, .inr (.inl ⟨_, SqT.of (g1.kn.sub _ _ e1), by rw [isE a]⟩), q k1 H1 g1⟩
  | bl b => cases e; exact ⟨_, rfl, q k1 H1 g1⟩
  | _ => cases e

/-! operations on data -/
theorem rv_add {i j : Int} : RvD Ts (rI0 fun i j => .int (i + j)) (.int i) (.int j) (.int (i + j)) := fun k H x y hk hx hy Q q => by
  cases hx; cases hy
  exact ⟨i, j, rfl, rfl, q _ k H (Gr.refl hk) (.int _)⟩
theorem rv_gt {i j : Int} : RvD Ts (rI0 fun i j => .bl (decide (j < i))) (.int i) (.int j) (.bool (decide (j < i))) := fun k H x y hk hx hy Q q => by
  cases hx; cases hy
  exact ⟨i, j, rfl, rfl, q _ k H (Gr.refl hk) (.bl _)⟩
theorem rv_lt {i j : Int} : RvD Ts (rI0 fun i j => .bl (decide (i < j))) (.int i) (.int j) (.bool (decide (i < j))) := fun k H x y hk hx hy Q q => by
  cases hx; cases hy
  exact ⟨i, j, rfl, rfl, q _ k H (Gr.refl hk) (.bl _)⟩
theorem rv_le {i j : Int} : RvD Ts (rI0 fun i j => .bl (decide (i ≤ j))) (.int i) (.int j) (.bool (decide (i ≤ j))) := fun k H x y hk hx hy Q q => by
  cases hx; cases hy
  exact ⟨i, j, rfl, rfl, q _ k H (Gr.refl hk) (.bl _)⟩
theorem rv_eqI {i j : Int} : RvD Ts rEq (.int i) (.int j) (.bool (decide (i = j))) := fun k H x y hk hx hy Q q => by
  cases hx; cases hy
  exact ⟨rfl, q _ k H (Gr.refl hk) (by have : decide (V.int i = V.int j) = decide (i = j) := by simp
                                       rw [this]; exact .bl _)⟩
theorem rv_neI {i j : Int} : RvD Ts rNe (.int i) (.int j) (.bool (!decide (i = j))) := fun k H x y hk hx hy Q q => by
  cases hx; cases hy
  exact ⟨rfl, q _ k H (Gr.refl hk) (by have : decide (V.int i = V.int j) = decide (i = j) := by simp
                                       rw [this]; exact .bl _)⟩
theorem rv_eqS {i j : Str} : RvD Ts rEq (.str i) (.str j) (.bool (decide (i = j))) := fun k H x y hk hx hy Q q => by
  cases hx; cases hy
  exact ⟨rfl, q _ k H (Gr.refl hk) (by have : decide (V.str i = V.str j) = decide (i = j) := by simp
                                       rw [this]; exact .bl _)⟩
theorem rv_neS {i j : Str} : RvD Ts rNe (.str i) (.str j) (.bool (!decide (i = j))) := fun k H x y hk hx hy Q q => by
  cases hx; cases hy
  exact ⟨rfl, q _ k H (Gr.refl hk) (by have : decide (V.str i = V.str j) = decide (i = j) := by simp
                                       rw [this]; exact .bl _)⟩
/-- a negative number written -/
theorem ru_neg {i : Int} : RuD Ts (rU fun i => .int (-i)) (.int i) (.int (-i)) := fun k H x hk hx Q q => by
  cases hx
  exact ⟨i, rfl, q _ k H (Gr.refl hk) (.int _)⟩
theorem atI_map {k : Hp} {xs : List V} {ds : List PyData} {i : Int} {d : PyData} (h : DtA k xs ds) (e : atI ds i = some d) : ∃ v, atI xs i = some v ∧ Dt k v d := by
  unfold atI at e ⊢
  rw [h.length]
  cases q : ixN ds.length i with
  | none => rw [q] at e; cases e
  | some j =>
    rw [q] at e
    exact h.get e
theorem rv_ixT {ds : List PyData} {i : Int} (e : atI ds i = some d) : RvD Ts (rIx K) (.tuple ds) (.int i) d := fun k H x y hk hx hy Q q => by
  cases hy
  cases hx with
  | tup e1 a =>
    obtain ⟨v, h1, h2⟩ := atI_map a e
    exact .inr (.inl ⟨_, _, i, v, rfl, rfl, SqT.of (hk.sub _ _ e1), h1, q v k H (Gr.refl hk) h2⟩)
theorem rv_ixL {ds : List PyData} {i : Int} (e : atI ds i = some d) : RvD Ts (rIx K) (.list ds) (.int i) d := fun k H x y hk hx hy Q q => by
  cases hy
  cases hx with
  | lst e1 a =>
    obtain ⟨v, h1, h2⟩ := atI_map a e
    exact .inl ⟨_, _, i, v, rfl, rfl, SqL.of (hk.sub _ _ e1), h1, q v k H (Gr.refl hk) h2⟩
theorem rv_catT {ds es : List PyData} (hz : ds.length + es.length ≤ 100000) : RvD Ts (rCatA K) (.tuple ds) (.tuple es) (.tuple (ds ++ es)) := fun k H x y hk hx hy Q q => by
  cases hx with
  | tup e1 a =>
    cases hy with
    | tup e2 b =>
      refine ⟨_, _, _, _, rfl, rfl, SqT.of (hk.sub _ _ e1), SqT.of (hk.sub _ _ e2), by rw [a.length, b.length]; exact small5 hz, fun z => ?_, fun _ z => ?_, fun _ _ p hp => ?_⟩
      · rw [a.nil_iff] at z
        subst z
        exact q _ k H (Gr.refl hk) (.tup e2 b)
      · rw [b.nil_iff] at z
        subst z
        rw [List.append_nil] at q
        exact q _ k H (Gr.refl hk) (.tup e1 a)
      · rename_i a1 xs1 a2 xs2 _ _
        have g := Gr.new (p := p) (o := .tup (xs1 ++ xs2)) hk hp (fun _ => by simp)
        exact q _ _ _ g (.tup upd_same (DtA.up g.kk _ _ (a.app b)))
theorem rv_catL {ds es : List PyData} (hz : ds.length + es.length ≤ 100000) : RvD Ts rCat (.list ds) (.list es) (.list (ds ++ es)) := fun k H x y hk hx hy Q q => by
  cases hx with
  | lst e1 a =>
    cases hy with
    | lst e2 b =>
      refine ⟨_, _, _, _, rfl, rfl, hk.sub _ _ e1, hk.sub _ _ e2, by rw [a.length, b.length]; exact small5 hz, fun p hp => ?_⟩
      rename_i a1 xs1 a2 xs2
      have g := Gr.new (p := p) (o := .lst (xs1 ++ xs2)) hk hp (fun _ => by simp)
      exact q _ _ _ g (.lst upd_same (DtA.up g.kk _ _ (a.app b)))
theorem inV_ints (i : Int) (ns : List Int) : inV (.int i) (ns.map V.int) = decide (i ∈ ns) := by
  unfold inV
  induction ns with
  | nil => rfl
  | cons n r ih =>
    rw [List.map_cons, List.any_cons, ih]
    have : eqV (.int n) (.int i) = decide (i = n) := by
      show (n == i) = _
      rw [Bool.beq_eq_decide_eq, Bool.eq_iff_iff]
      simp [eq_comm]
    rw [this, Bool.eq_iff_iff]
    simp
theorem inV_strs (i : Str) (ns : List Str) : inV (.str i) (ns.map V.str) = decide (i ∈ ns) := by
  unfold inV
  induction ns with
  | nil => rfl
  | cons n r ih =>
    rw [List.map_cons, List.any_cons, ih]
    have : eqV (.str n) (.str i) = decide (i = n) := by
      show (n == i) = _
      rw [Bool.beq_eq_decide_eq, Bool.eq_iff_iff]
      simp [eq_comm]
    rw [this, Bool.eq_iff_iff]
    simp
theorem flat_ints (ns : List Int) : (ns.map V.int).all flatV = true := by induction ns with
  | nil => rfl
  | cons n r ih => rw [List.map_cons, List.all_cons, ih]; rfl
theorem flat_strs (ns : List Str) : (ns.map V.str).all flatV = true := by induction ns with
  | nil => rfl
  | cons n r ih => rw [List.map_cons, List.all_cons, ih]; rfl
theorem rv_inI {neg : Bool} {i : Int} {ns : List Int} : RvD Ts (rIn K neg) (.int i) (.list (ns.map PyData.int)) (.bool (if neg then !decide (i ∈ ns) else decide (i ∈ ns))) := fun k H x y hk hx hy Q q => by
  cases hx
  cases hy with
  | lst e1 a =>
    have e := a.of_ints
    subst e
    refine ⟨_, _, rfl, .inl (SqL.of (hk.sub _ _ e1)), rfl, flat_ints _, ?_⟩
    rw [inV_ints]
    exact q _ k H (Gr.refl hk) (.bl _)
theorem rv_inIT {neg : Bool} {i : Int} {ns : List Int} : RvD Ts (rIn K neg) (.int i) (.tuple (ns.map PyData.int)) (.bool (if neg then !decide (i ∈ ns) else decide (i ∈ ns))) := fun k H x y hk hx hy Q q => by
  cases hx
  cases hy with
  | tup e1 a =>
    have e := a.of_ints
    subst e
    refine ⟨_, _, rfl, .inr (SqT.of (hk.sub _ _ e1)), rfl, flat_ints _, ?_⟩
    rw [inV_ints]
    exact q _ k H (Gr.refl hk) (.bl _)
theorem rv_inS {neg : Bool} {i : Str} {ns : List Str} : RvD Ts (rIn K neg) (.str i) (.tuple (ns.map PyData.str)) (.bool (if neg then !decide (i ∈ ns) else decide (i ∈ ns))) := fun k H x y hk hx hy Q q => by
  cases hx
  cases hy with
  | tup e1 a =>
    have e := a.of_strs
    subst e
    refine ⟨_, _, rfl, .inr (SqT.of (hk.sub _ _ e1)), rfl, flat_strs _, ?_⟩
    rw [inV_strs]
    exact q _ k H (Gr.refl hk) (.bl _)
theorem rv_inSL {neg : Bool} {i : Str} {ns : List Str} : RvD Ts (rIn K neg) (.str i) (.list (ns.map PyData.str)) (.bool (if neg then !decide (i ∈ ns) else decide (i ∈ ns))) := fun k H x y hk hx hy Q q => by
  cases hx
  cases hy with
  | lst e1 a =>
    have e := a.of_strs
    subst e
    refine ⟨_, _, rfl, .inl (SqL.of (hk.sub _ _ e1)), rfl, flat_strs _, ?_⟩
    rw [inV_strs]
    exact q _ k H (Gr.refl hk) (.bl _)
theorem rv_isN (neg : Bool) : RvD Ts (fun x y H Q => y = .non ∧ Q (.bl (if neg then !decide (x = .non) else decide (x = .non))) H) d .none (.bool (match d with | .none => !neg | _ => neg)) := fun k H x y hk hx hy Q q => by
  cases hy
  refine ⟨rfl, q _ k H (Gr.refl hk) ?_⟩
  cases hx <;> cases neg <;> exact .bl _
/-- len, list(..), tuple(..) -/
theorem rc_len {ds : List PyData} : RcD Ts (fun xs H Q => ∃ p ys, xs = [.ref p] ∧ (SqL K H p ys ∨ SqT K H p ys) ∧ Q (.int ys.length) H) [.list ds] (.int ds.length) := fun k H xs hk h Q q => by
  cases h with
  | cons h1 h2 =>
    cases h2
    cases h1 with
    | lst e a => exact ⟨_, _, rfl, .inl (SqL.of (hk.sub _ _ e)), by rw [a.length]; exact q _ k H (Gr.refl hk) (.int _)⟩
theorem rc_lenT {ds : List PyData} : RcD Ts (fun xs H Q => ∃ p ys, xs = [.ref p] ∧ (SqL K H p ys ∨ SqT K H p ys) ∧ Q (.int ys.length) H) [.tuple ds] (.int ds.length) := fun k H xs hk h Q q => by
  cases h with
  | cons h1 h2 =>
    cases h2
    cases h1 with
    | tup e a => exact ⟨_, _, rfl, .inr (SqT.of (hk.sub _ _ e)), by rw [a.length]; exact q _ k H (Gr.refl hk) (.int _)⟩
theorem rc_list {ds : List PyData} : RcD Ts (fun xs H Q => ∃ p ys, xs = [.ref p] ∧ (SqL K H p ys ∨ SqT K H p ys) ∧ ∀ l, H l = none → Q (.ref l) (upd H l (.lst ys))) [.list ds] (.list ds) := fun k H xs hk h Q q => by
  cases h with
  | cons h1 h2 =>
    cases h2
    cases h1 with
    | lst e a => exact ⟨_, _, rfl, .inl (SqL.of (hk.sub _ _ e)), fun l hl => q _ _ _ (Gr.new hk hl (fun _ => by simp)) (.lst upd_same (DtA.up (Gr.new (o := .lst _) hk hl (fun _ => by simp)).kk _ _ a))⟩
theorem rc_listT {ds : List PyData} : RcD Ts (fun xs H Q => ∃ p ys, xs = [.ref p] ∧ (SqL K H p ys ∨ SqT K H p ys) ∧ ∀ l, H l = none → Q (.ref l) (upd H l (.lst ys))) [.tuple ds] (.list ds) := fun k H xs hk h Q q => by
  cases h with
  | cons h1 h2 =>
    cases h2
    cases h1 with
    | tup e a => exact ⟨_, _, rfl, .inr (SqT.of (hk.sub _ _ e)), fun l hl => q _ _ _ (Gr.new hk hl (fun _ => by simp)) (.lst upd_same (DtA.up (Gr.new (o := .lst _) hk hl (fun _ => by simp)).kk _ _ a))⟩
theorem rc_tuple {ds : List PyData} : RcD Ts (fun xs H Q => ∃ p ys, xs = [.ref p] ∧ ((SqL K H p ys ∧ ∀ l, H l = none → Q (.ref l) (upd H l (.tup ys))) ∨ (SqT K H p ys ∧ Q (.ref p) H))) [.list ds] (.tuple ds) := fun k H xs hk h Q q => by
  cases h with
  | cons h1 h2 =>
    cases h2
    cases h1 with
    | lst e a => exact ⟨_, _, rfl, .inl ⟨SqL.of (hk.sub _ _ e), fun l hl => q _ _ _ (Gr.new hk hl (fun _ => by simp)) (.tup upd_same (DtA.up (Gr.new (o := .tup _) hk hl (fun _ => by simp)).kk _ _ a))⟩⟩
/-- a tuple without its last item -/
theorem cut_last (n : Nat) (h : 0 < n) : HT.sIx n 0 none = 0 ∧ HT.sIx n n (some (-1)) = n - 1 := by
  unfold HT.sIx
  constructor
  · simp
  · simp
    omega
end

/-! ### statements -/
/-- behind the entry (k0, H0) of a def; Mo: the lists of the caller's that it may write -/
structure Stt (Ts Mo : List Addr) (k0 H0 k H : Hp) (σ : L2.St) (δ : Dl) : Prop where
  kn0 : Kn Ts k0 H0
  gr : Gr Ts Mo k0 H0 k H
  mo : ∀ a ∈ Mo, H a ≠ none ∧ a ∉ Ts
  sl : Slots k H σ δ
  mine : ∀ (i : Nat) (w : OW) (l : Addr), δ[i]? = some (some (.own w)) → σ[i]? = some (some (.ref l)) → (w.1 = none ∧ H0 l = none) ∨ (w.1 ≠ none ∧ l ∈ Mo)
  apart : ∀ (i j : Nat) (w w' : OW) (l : Addr), δ[i]? = some (some (.own w)) → δ[j]? = some (some (.own w')) → σ[i]? = some (some (.ref l)) → σ[j]? = some (some (.ref l)) → i = j
section
variable {Ts Mo : List Addr} {k0 H0 k H k' H' : Hp} {σ : L2.St} {δ : Dl}
theorem Stt.kn (s : Stt Ts Mo k0 H0 k H σ δ) : Kn Ts k H := s.gr.kn
/-- behind an expression -/
theorem Stt.step (s : Stt Ts Mo k0 H0 k H σ δ) (g : Gr Ts [] k H k' H') : Stt Ts Mo k0 H0 k' H' σ δ :=
  ⟨s.kn0, Gr.trans s.kn0 (fun a h => (s.mo a h).1) s.gr g, fun a h => ⟨by
    obtain ⟨h1, h2⟩ := s.mo a h
    cases q : H a with
    | none => exact absurd q h1
    | some o => rw [g.same a o q h2 (by simp)]; simp, (s.mo a h).2⟩, s.sl.up s.kn g, s.mine, s.apart⟩
theorem set_some {α : Type} {l : List α} {i j : Nat} {a b : α} (h : (l.set i a)[j]? = some b) : (j = i ∧ b = a) ∨ (j ≠ i ∧ l[j]? = some b) := by
  by_cases q : j = i
  · subst q
    by_cases z : j < l.length
    · rw [List.getElem?_set_self z] at h
      exact .inl ⟨rfl, (Option.some.inj h).symm⟩
    · rw [List.getElem?_eq_none (by simpa using Nat.le_of_not_lt z)] at h
      cases h
  · rw [List.getElem?_set_ne (Ne.symm q)] at h
    exact .inr ⟨q, h⟩
/-- a slot is given a datum -/
theorem Stt.put (s : Stt Ts Mo k0 H0 k H σ δ) (i : Nat) {v : V} {d : PyData} (h : Dt k v d) : Stt Ts Mo k0 H0 k H (σ.set i (some v)) (δ.set i (dat d)) := by
  refine ⟨s.kn0, s.gr, s.mo, s.sl.set i ⟨v, rfl, h⟩, fun j ds l e1 e2 => ?_, fun a b ds es l e1 e2 e3 e4 => ?_⟩
  · rcases set_some e1 with ⟨_, z⟩ | ⟨z, e1⟩
    · cases z
    · rw [List.getElem?_set_ne (Ne.symm z)] at e2
      exact s.mine j ds l e1 e2
  · rcases set_some e1 with ⟨_, z⟩ | ⟨z, e1⟩
    · cases z
    · rcases set_some e2 with ⟨_, z2⟩ | ⟨z2, e2⟩
      · cases z2
      · rw [List.getElem?_set_ne (Ne.symm z)] at e3
        rw [List.getElem?_set_ne (Ne.symm z2)] at e4
        exact s.apart a b ds es l e1 e2 e3 e4
/-- a slot is given a new list that will be written -/
theorem Stt.freshU (s : Stt Ts Mo k0 H0 k H σ δ) (i : Nat) {p : Addr} {u : HO} {c : Cont} (hp : H p = none) (h : CoOk k u c) :
    Stt Ts Mo k0 H0 k (upd H p u) (σ.set i (some (.ref p))) (δ.set i (some (.own (none, c)))) := by
  have g : Gr Ts [] k H k (upd H p u) := Gr.freshU s.kn hp
  have s1 := s.step g
  have h0 : H0 p = none := by
    cases q : H0 p with
    | none => rfl
    | some o =>
      by_cases z : p ∈ Ts
      · obtain ⟨ps, e, _⟩ := s.kn.tb p z
        rw [hp] at e; cases e
      · by_cases y : p ∈ Mo
        · exact absurd hp (s.mo p y).1
        · rw [s.gr.same p o q z y] at hp; cases hp
  have kp : k p = none := by
    cases q : k p with
    | none => rfl
    | some o => rw [s.kn.sub p o q] at hp; cases hp
  have notp : ∀ (j : Nat) (es : OW), δ[j]? = some (some (.own es)) → σ[j]? = some (some (.ref p)) → False := fun j es e1 e2 => by
    obtain ⟨l, ys, e3, e4, _⟩ := s.sl.own1 e1
    rw [e2] at e3
    cases e3
    rw [hp] at e4
    cases e4
  refine ⟨s.kn0, s1.gr, s1.mo, s1.sl.set i ⟨p, u, rfl, upd_same, kp, h, fun _ z => by cases z⟩, fun j es l e1 e2 => ?_, fun a b es fs l e1 e2 e3 e4 => ?_⟩
  · rcases set_some e1 with ⟨z, ze⟩ | ⟨z, e1⟩
    · rcases set_some e2 with ⟨_, y⟩ | ⟨y, _⟩
      · cases y
        cases ze
        exact .inl ⟨rfl, h0⟩
      · exact absurd z y
    · rw [List.getElem?_set_ne (Ne.symm z)] at e2
      exact s.mine j es l e1 e2
  · rcases set_some e1 with ⟨z, _⟩ | ⟨z, e1⟩
    · rcases set_some e2 with ⟨z2, _⟩ | ⟨z2, e2⟩
      · rw [z, z2]
      · rcases set_some e3 with ⟨_, y⟩ | ⟨y, _⟩
        · cases y
          rw [List.getElem?_set_ne (Ne.symm z2)] at e4
          exact (notp b _ e2 e4).elim
        · exact absurd z y
    · rw [List.getElem?_set_ne (Ne.symm z)] at e3
      rcases set_some e2 with ⟨z2, _⟩ | ⟨z2, e2⟩
      · rcases set_some e4 with ⟨_, y⟩ | ⟨y, _⟩
        · cases y
          exact (notp a _ e1 e3).elim
        · exact absurd z2 y
      · rw [List.getElem?_set_ne (Ne.symm z2)] at e4
        exact s.apart a b es fs l e1 e2 e3 e4
theorem Stt.fresh (s : Stt Ts Mo k0 H0 k H σ δ) (i : Nat) {p : Addr} {xs : List V} {ds : List PyData} (hp : H p = none) (h : DtA k xs ds) :
    Stt Ts Mo k0 H0 k (upd H p (.lst xs)) (σ.set i (some (.ref p))) (δ.set i (own ds)) := s.freshU i (c := .l ds) hp h
/-- a list of one's own is written -/
theorem Stt.writeU (s : Stt Ts Mo k0 H0 k H σ δ) {i : Nat} {o : Option Addr} {c c' : Cont} {l : Addr} {u v : HO} (e : δ[i]? = some (some (.own (o, c)))) (e2 : σ[i]? = some (some (.ref l))) (e3 : H l = some u) (h : CoOk k v c') :
    Stt Ts Mo k0 H0 k (upd H l v) σ (δ.set i (some (.own (o, c')))) := by
  obtain ⟨l', xs', q1, q2, q3, q4, q5⟩ := s.sl.own1 e
  rw [e2] at q1
  cases q1
  have hi : i < δ.length := (List.getElem?_eq_some_iff.mp e).1
  have g := s.gr.mutU (v := v) ((s.mine i _ l e e2).imp (·.2) (·.2)) q3 q2 q4.nt
  refine ⟨s.kn0, g, fun a ha => ⟨?_, (s.mo a ha).2⟩, ⟨by simp [s.sl.len], fun j => ?_⟩, fun j fs l2 f1 f2 => ?_, fun a b fs gs l2 f1 f2 f3 f4 => ?_⟩
  · by_cases q : a = l
    · subst q; rw [upd_same]; simp
    · rw [upd_ne q]; exact (s.mo a ha).1
  · by_cases q : i = j
    · subst q
      rw [List.getElem?_set_self hi, e2]
      exact ⟨l, v, rfl, upd_same, q3, h, q5⟩
    · rw [List.getElem?_set_ne q]
      have := s.sl.ok j
      cases z : δ[j]? with
      | none => trivial
      | some o =>
        cases o with
        | none => trivial
        | some o =>
          rw [z] at this
          cases o with
          | dat d => exact this
          | dct es => exact this
          | own fs =>
            obtain ⟨l2, xs2, f1, f2, f3, f4⟩ := this
            refine ⟨l2, xs2, f1, ?_, f3, f4⟩
            rw [upd_ne]
            · exact f2
            · intro y
              subst y
              exact q (s.apart i j _ fs l2 e z e2 f1)
  · rcases set_some f1 with ⟨z, ze⟩ | ⟨z, f1⟩
    · subst z
      cases ze
      exact s.mine j (o, c) l2 e f2
    · exact s.mine j fs l2 f1 f2
  · rcases set_some f1 with ⟨z, _⟩ | ⟨z, f1'⟩
    · rcases set_some f2 with ⟨z2, _⟩ | ⟨z2, f2'⟩
      · rw [z, z2]
      · subst z
        exact s.apart a b _ gs l2 e f2' f3 f4
    · rcases set_some f2 with ⟨z2, _⟩ | ⟨z2, f2'⟩
      · subst z2
        exact s.apart a b fs _ l2 f1' e f3 f4
      · exact s.apart a b fs gs l2 f1' f2' f3 f4
theorem Stt.write (s : Stt Ts Mo k0 H0 k H σ δ) {i : Nat} {o : Option Addr} {ds es : List PyData} {l : Addr} {xs ys : List V} (e : δ[i]? = some (some (.own (o, .l ds)))) (e2 : σ[i]? = some (some (.ref l))) (e3 : H l = some (.lst xs)) (h : DtA k ys es) :
    Stt Ts Mo k0 H0 k (upd H l (.lst ys)) σ (δ.set i (some (.own (o, .l es)))) := s.writeU (c' := .l es) e e2 e3 h
/-- a slot is forgotten -/
theorem Stt.drop (s : Stt Ts Mo k0 H0 k H σ δ) (i : Nat) : Stt Ts Mo k0 H0 k H σ (δ.set i none) := by
  refine ⟨s.kn0, s.gr, s.mo, ⟨by simp [s.sl.len], fun j => ?_⟩, fun j ds l e1 e2 => ?_, fun a b ds es l e1 e2 e3 e4 => ?_⟩
  · by_cases q : i = j
    · subst q
      by_cases z : i < δ.length
      · rw [List.getElem?_set_self z]; trivial
      · rw [List.getElem?_eq_none (l := δ.set i none) (by simpa using Nat.le_of_not_lt z)]; trivial
    · rw [List.getElem?_set_ne q]; exact s.sl.ok j
  · rcases set_some e1 with ⟨_, z⟩ | ⟨z, e1⟩
    · cases z
    · exact s.mine j ds l e1 e2
  · rcases set_some e1 with ⟨_, z⟩ | ⟨z, e1⟩
    · cases z
    · rcases set_some e2 with ⟨_, z2⟩ | ⟨z2, e2⟩
      · cases z2
      · exact s.apart a b ds es l e1 e2 e3 e4
def contSl : Cont → Option Sl
  | .l ds => some (.dat (.list ds))
  | .d es => some (.dct es)
  | .f _ _ _ => none
/-- a thing of one's own, made here, is no longer written -/
theorem Stt.keepU (s : Stt Ts Mo k0 H0 k H σ δ) {i : Nat} {c : Cont} (e : δ[i]? = some (some (.own (none, c)))) : ∃ k', Same k k' ∧ Stt Ts Mo k0 H0 k' H σ (δ.set i (contSl c)) := by
  obtain ⟨l, u0, q1, q2, q3, q4, q5⟩ := s.sl.own1 e
  have hi : i < δ.length := (List.getElem?_eq_some_iff.mp e).1
  have m := ((s.mine i _ l e q1).resolve_right (fun z => z.1 rfl)).2
  have g := s.gr.know m q2 q4.nt q3
  have kk : Same k (upd k l u0) := fun a u z => by
    have : a ≠ l := fun y => by subst y; rw [q3] at z; cases z
    rw [upd_ne this]; exact z
  refine ⟨_, kk, s.kn0, g, s.mo, ⟨by simp [s.sl.len], fun j => ?_⟩, fun j fs l2 f1 f2 => ?_, fun a b fs gs l2 f1 f2 f3 f4 => ?_⟩
  · by_cases q : i = j
    · subst q
      rw [List.getElem?_set_self hi, q1]
      cases c with
      | l ds =>
        obtain ⟨xs, rfl, q4⟩ := CoOk.lst q4
        exact ⟨_, rfl, .lst upd_same (DtA.up kk _ _ q4)⟩
      | d es =>
        obtain ⟨kvs, rfl, q4⟩ := CoOk.dic q4
        exact ⟨_, _, rfl, upd_same, q4.up kk⟩
      | f od kvs es => trivial
    · rw [List.getElem?_set_ne q]
      have := s.sl.ok j
      cases z : δ[j]? with
      | none => trivial
      | some o =>
        cases o with
        | none => trivial
        | some o =>
          rw [z] at this
          cases o with
          | dat d =>
            obtain ⟨x, f1, f2⟩ := this
            exact ⟨x, f1, Dt.up kk _ _ f2⟩
          | dct es =>
            obtain ⟨x, kvs, f1, f2, f3⟩ := this
            exact ⟨x, kvs, f1, kk _ _ f2, f3.up kk⟩
          | own fs =>
            obtain ⟨l2, xs2, f1, f2, f3, f4⟩ := this
            refine ⟨l2, xs2, f1, f2, ?_, f4.1.up kk, f4.2⟩
            rw [upd_ne]
            · exact f3
            · intro y
              subst y
              exact q (s.apart i j _ fs l2 e z q1 f1)
  · rcases set_some f1 with ⟨_, z⟩ | ⟨z, f1⟩
    · cases c <;> cases z
    · exact s.mine j fs l2 f1 f2
  · rcases set_some f1 with ⟨_, z⟩ | ⟨z, f1⟩
    · cases c <;> cases z
    · rcases set_some f2 with ⟨_, z2⟩ | ⟨z2, f2⟩
      · cases c <;> cases z2
      · exact s.apart a b fs gs l2 f1 f2 f3 f4
theorem Stt.keep (s : Stt Ts Mo k0 H0 k H σ δ) {i : Nat} {ds : List PyData} (e : δ[i]? = some (own ds)) : ∃ k', Same k k' ∧ Stt Ts Mo k0 H0 k' H σ (δ.set i (dat (.list ds))) := s.keepU e
end

/-- a dict handed back: new, known -/
def NewD (k0 H0 k' : Hp) (v : V) (es : List (Int × PyData)) : Prop := ∃ l kvs, v = .ref l ∧ H0 l = none ∧ k' l = some (.dK kvs) ∧ DtK k' kvs es
/-- a block: from the slots' data δ it ends at data in N, hands back data in R or a dict in RD, or breaks at data in B -/
def StX (Ts Mo : List Addr) (ts : TS) (δ : Dl) (N : Dl → Prop) (R : Dl → PyData → Prop) (B : Dl → Prop) (RD : Dl → List (Int × PyData) → Prop) : Prop :=
  ∀ (k0 H0 : Hp) (σ : L2.St) (k H : Hp) (D : Ends), Stt Ts Mo k0 H0 k H σ δ →
    (∀ σ' k' H' δ', N δ' → Same k k' → Stt Ts Mo k0 H0 k' H' σ' δ' → D.nx σ' H') →
    (∀ σ' k' H' δ' v, Stt Ts Mo k0 H0 k' H' σ' δ' → (∀ d, R δ' d → Dt k' v d → D.rt v H') ∧ (∀ es, RD δ' es → NewD k0 H0 k' v es → D.rt v H')) →
    (∀ σ' k' H' δ', B δ' → Same k k' → Stt Ts Mo k0 H0 k' H' σ' δ' → D.bk σ' H') → ts D σ H
abbrev NoD : Dl → List (Int × PyData) → Prop := fun _ _ => False
abbrev StD (Ts Mo : List Addr) (ts : TS) (δ : Dl) (N : Dl → Prop) (R : PyData → Prop) (B : Dl → Prop) : Prop := StX Ts Mo ts δ N (fun _ => R) B NoD
abbrev NoB : Dl → Prop := fun _ => False
section
variable {Ts Mo : List Addr} {δ : Dl} {N N' : Dl → Prop} {R : Dl → PyData → Prop} {B : Dl → Prop} {RD : Dl → List (Int × PyData) → Prop} {te : TE} {d : PyData} {t u : TS} {K : PySem.W.Frag}
theorem st_seq (h : StX Ts Mo t δ N R B RD) (h2 : ∀ δ', N δ' → StX Ts Mo u δ' N' R B RD) : StX Ts Mo (tSeq t u) δ N' R B RD := fun k0 H0 σ k H D s hn hr hb =>
  h k0 H0 σ k H { D with nx := u D } s (fun σ' k' H' δ' n kk s' => h2 δ' n k0 H0 σ' k' H' D s' (fun σ2 k2 H2 δ2 n2 kk2 s2 => hn σ2 k2 H2 δ2 n2 (kk.trans kk2) s2) hr (fun σ2 k2 H2 δ2 b2 kk2 s2 => hb σ2 k2 H2 δ2 b2 (kk.trans kk2) s2)) hr hb
/-- where the first ends in one way -/
theorem st_seq1 {δ1 : Dl} (h : StX Ts Mo t δ (· = δ1) R B RD) (h2 : StX Ts Mo u δ1 N' R B RD) : StX Ts Mo (tSeq t u) δ N' R B RD := st_seq h fun _ e => e ▸ h2
theorem st_next (h : N δ) : StX Ts Mo tNext δ N R B RD := fun k0 H0 σ k H D s hn _ _ => hn σ k H δ h (Same.refl k) s
theorem st_break (h : B δ) : StX Ts Mo tBreak δ N R B RD := fun k0 H0 σ k H D s _ _ hb => hb σ k H δ h (Same.refl k) s
theorem st_never (h : False) : StX Ts Mo t δ N R B RD := h.elim
theorem st_asg {i : Nat} (h : EvD Ts te δ d) (n : N (δ.set i (dat d))) : StX Ts Mo (tAsg te (gName i)) δ N R B RD := fun k0 H0 σ k H D s hn _ _ =>
  h σ k H s.kn s.sl _ fun v k' H' g dv => hn _ k' H' _ n g.kk ((s.step g).put i dv)
/-- a new list that will be written -/
theorem st_new {i : Nat} {ta : TA} {ds : List PyData} (h : EvA Ts ta δ ds) (hz : ds.length ≤ 100000) (n : N (δ.set i (own ds))) : StX Ts Mo (tAsg (tLst ta) (gName i)) δ N R B RD := fun k0 H0 σ k H D s hn _ _ =>
  h σ k H s.kn s.sl _ fun xs k' H' g dv => ⟨by rw [dv.length]; exact small5 hz, fun p hp => hn _ k' _ _ n g.kk ((s.step g).fresh i hp dv)⟩
theorem st_append {i : Nat} {o : Option Addr} {ds : List PyData} (e : δ[i]? = some (some (.own (o, .l ds)))) (h : EvD Ts te δ d) (hz : ds.length < 100000) (n : N (δ.set i (some (.own (o, .l (ds ++ [d])))))) : StX Ts Mo (tDrop (tBM K "list" rAppend (tVar i) (tCons te tNil))) δ N R B RD := fun k0 H0 σ k H D s hn _ _ => by
  obtain ⟨l, xs, q1, q2, q3, q4, q5⟩ := s.sl.own e
  refine ⟨_, q1, .inl ⟨rfl, xs, SqL.of q2⟩, h σ k H s.kn s.sl _ fun v k' H' g dv => ?_⟩
  have s' := s.step g
  have q2' : H' l = some (.lst xs) := g.same l _ q2 (s.kn.not_tab q2 (fun _ => by simp)) (by simp)
  refine ⟨l, xs, v, rfl, rfl, q2', ?_, hn _ k' _ _ n g.kk (s'.write e q1 q2' ((DtA.up g.kk _ _ q4).app (.one dv)))⟩
  rw [q4.length]
  exact Nat.lt_of_lt_of_le hz (by decide)
theorem st_ret (h : EvD Ts te δ d) (r : R δ d) : StX Ts Mo (tRet te) δ N R B RD := fun k0 H0 σ k H D s _ hr _ =>
  h σ k H s.kn s.sl _ fun v k' H' g dv => (hr σ k' H' δ v (s.step g)).1 d r dv
theorem st_if {c : TT} {b : Bool} (h : EvB Ts c δ b) (h1 : b = true → StX Ts Mo t δ N R B RD) (h2 : b = false → StX Ts Mo u δ N R B RD) : StX Ts Mo (tIfS c t u) δ N R B RD := fun k0 H0 σ k H D s hn hr hb =>
  h σ k H s.kn s.sl _ fun k' H' g => by
    have hn' : ∀ σ' k'' H'' δ', N δ' → Same k' k'' → Stt Ts Mo k0 H0 k'' H'' σ' δ' → D.nx σ' H'' := fun σ2 k2 H2 δ2 n2 kk2 s2 => hn σ2 k2 H2 δ2 n2 (g.kk.trans kk2) s2
    have hb' : ∀ σ' k'' H'' δ', B δ' → Same k' k'' → Stt Ts Mo k0 H0 k'' H'' σ' δ' → D.bk σ' H'' := fun σ2 k2 H2 δ2 n2 kk2 s2 => hb σ2 k2 H2 δ2 n2 (g.kk.trans kk2) s2
    cases b with
    | true => exact iteT (h1 rfl k0 H0 σ k' H' D (s.step g) hn' hr hb')
    | false => exact iteF (h2 rfl k0 H0 σ k' H' D (s.step g) hn' hr hb')
/-- if c: return ..; then the rest -/
theorem st_ifr {c : TT} {b : Bool} (h : EvB Ts c δ b) (h1 : b = true → StX Ts Mo t δ NoB R B RD) (h2 : b = false → StX Ts Mo u δ N R B RD) : StX Ts Mo (tSeq (tIfS c t tNext) u) δ N R B RD :=
  st_seq (N := fun δ' => δ' = δ ∧ b = false) (st_if h (fun q k0 H0 σ k H D s hn hr hb => h1 q k0 H0 σ k H D s (fun _ _ _ _ z => z.elim) hr hb) (fun q => st_next ⟨rfl, q⟩)) fun δ' e => e.1 ▸ h2 e.2
/-- an own list is no longer written -/
theorem st_keep {i : Nat} {ds : List PyData} (e : δ[i]? = some (own ds)) (h : StX Ts Mo t (δ.set i (dat (.list ds))) N R B RD) : StX Ts Mo t δ N R B RD := fun k0 H0 σ k H D s hn hr hb => by
  obtain ⟨k', kk, s'⟩ := s.keep e
  exact h k0 H0 σ k' H D s' (fun σ2 k2 H2 δ2 n2 kk2 s2 => hn σ2 k2 H2 δ2 n2 (kk.trans kk2) s2) hr (fun σ2 k2 H2 δ2 n2 kk2 s2 => hb σ2 k2 H2 δ2 n2 (kk.trans kk2) s2)
theorem st_drop {i : Nat} (h : StX Ts Mo t (δ.set i none) N R B RD) : StX Ts Mo t δ N R B RD := fun k0 H0 σ k H D s hn hr hb => h k0 H0 σ k H D (s.drop i) hn hr hb
theorem st_mono {N2 : Dl → Prop} {R2 : Dl → PyData → Prop} (h : StX Ts Mo t δ N R B RD) (hn : ∀ δ, N δ → N2 δ) (hr : ∀ δ d, R δ d → R2 δ d) : StX Ts Mo t δ N2 R2 B RD := fun k0 H0 σ k H D s a b c =>
  h k0 H0 σ k H D s (fun σ' k' H' δ' n kk s' => a σ' k' H' δ' (hn δ' n) kk s') (fun σ' k' H' δ' v s' => ⟨fun d r dv => (b σ' k' H' δ' v s').1 d (hr δ' d r) dv, (b σ' k' H' δ' v s').2⟩) c
/-- a call whose value is dropped -/
theorem st_expr (h : EvD Ts te δ d) (n : N δ) : StX Ts Mo (tDrop te) δ N R B RD := fun k0 H0 σ k H D s hn _ _ =>
  h σ k H s.kn s.sl _ fun v k' H' g dv => hn _ k' H' _ n g.kk (s.step g)
/-- i += e, whole numbers -/
theorem st_aug {i : Nat} {a b : Int} (e : δ[i]? = some (dat (.int a))) (h : EvD Ts te δ (.int b)) (n : N (δ.set i (dat (.int (a + b))))) : StX Ts Mo (tAug i te (ipI fun i j => i + j)) δ N R B RD := fun k0 H0 σ k H D s hn _ _ => by
  obtain ⟨x, e1, dx⟩ := s.sl.dat e
  cases dx
  exact ⟨_, e1, h σ k H s.kn s.sl _ fun v k' H' g dv => by
    cases dv
    exact ⟨a, b, rfl, rfl, hn _ k' H' _ n g.kk ((s.step g).put i (.int _))⟩⟩
/-- a, b, c = e -/
theorem st_asg3 {i1 i2 i3 : Nat} {d1 d2 d3 : PyData} (h : EvD Ts te δ (.tuple [d1, d2, d3])) (n : N (((δ.set i1 (dat d1)).set i2 (dat d2)).set i3 (dat d3))) :
    StX Ts Mo (tAsg te (gTup K 3 (gCons (gName i1) (gCons (gName i2) (gCons (gName i3) gNil))))) δ N R B RD := fun k0 H0 σ k H D s hn _ _ =>
  h σ k H s.kn s.sl _ fun v k' H' g dv => by
    cases dv with
    | tup e a =>
      cases a with
      | cons a1 a =>
        cases a with
        | cons a2 a =>
          cases a with
          | cons a3 a =>
            cases a
            exact ⟨_, _, rfl, SqT.of (g.kn.sub _ _ e), rfl, _, _, rfl, _, _, rfl, _, _, rfl, rfl, hn _ k' H' _ n g.kk ((((s.step g).put i1 a1).put i2 a2).put i3 a3)⟩

/-! loops -/
theorem forT_core {j : Nat} {ds : List PyData} {body : TS} (Inv : Nat → Dl → Prop) (h : EvD Ts te δ (.tuple ds)) (h0 : Inv 0 δ) (hs : ∀ (i : Nat) (d : PyData) (δ' : Dl), ds[i]? = some d → Inv i δ' → StX Ts Mo body (δ'.set j (dat d)) (Inv (i + 1)) R N RD) (hd : ∀ δ', Inv ds.length δ' → N δ') :
    StX Ts Mo (tFor (iTup K te) (gName j) body) δ N R B RD := fun k0 H0 σ k H D s hn hr hb =>
  h σ k H s.kn s.sl _ fun v k1 H1 g1 dv => by
    cases dv with
    | tup e a =>
      rename_i ad xs
      have sq : ∀ {k' H'}, Same k1 k' → Kn Ts k' H' → SqT K H' ad xs := fun kk kn => SqT.of (kn.sub _ _ (kk _ _ e))
      refine ⟨ad, rfl, ⟨xs, sq (Same.refl _) g1.kn⟩, fun i m σ' H' => m = xs.length - i ∧ i ≤ xs.length ∧ ∃ k' δ', Inv i δ' ∧ Same k1 k' ∧ Stt Ts Mo k0 H0 k' H' σ' δ', ⟨_, rfl, Nat.zero_le _, k1, δ, h0, Same.refl _, s.step g1⟩, ?_⟩
      rintro i m σ' H' ⟨rfl, hi, k', δ', inv, kk, s'⟩
      by_cases hlt : i < xs.length
      · have hx : xs[i]? = some xs[i] := List.getElem?_eq_getElem hlt
        obtain ⟨dd, hdd, dt⟩ := a.getV hx
        refine .inr ⟨⟨xs, xs[i], sq kk s'.kn, hx⟩, fun σ2 H2 => ∃ k2 δ2, Inv (i + 1) δ2 ∧ Same k1 k2 ∧ Stt Ts Mo k0 H0 k2 H2 σ2 δ2, ?_, fun x H'' hy => ?_⟩
        · rintro σ2 H2 ⟨k2, δ2, i2, kk2, s2⟩
          exact ⟨xs.length - (i + 1), by omega, rfl, hlt, k2, δ2, i2, kk2, s2⟩
        · obtain ⟨rfl, hy⟩ := hy
          have := hy xs (sq kk s'.kn)
          rw [hx] at this
          cases this
          refine hs i dd δ' hdd inv k0 H0 _ k' H'' _ (s'.put j (Dt.up kk _ _ dt)) (fun σ2 k2 H2 δ2 n2 kk2 s2 => ⟨k2, δ2, n2, kk.trans kk2, s2⟩) hr (fun σ2 k2 H2 δ2 n2 kk2 s2 => hn σ2 k2 H2 δ2 n2 ((g1.kk.trans kk).trans kk2) s2)
      · have e2 : i = ds.length := by rw [← a.length]; omega
        exact .inl ⟨⟨xs, sq kk s'.kn, by omega⟩, hn σ' k' H' δ' (hd δ' (e2 ▸ inv)) (g1.kk.trans kk) s'⟩
theorem forL_core {j : Nat} {ds : List PyData} {body : TS} (Inv : Nat → Dl → Prop) (h : EvD Ts te δ (.list ds)) (h0 : Inv 0 δ) (hs : ∀ (i : Nat) (d : PyData) (δ' : Dl), ds[i]? = some d → Inv i δ' → StX Ts Mo body (δ'.set j (dat d)) (Inv (i + 1)) R N RD) (hd : ∀ δ', Inv ds.length δ' → N δ') :
    StX Ts Mo (tFor (iList K te) (gName j) body) δ N R B RD := fun k0 H0 σ k H D s hn hr hb =>
  h σ k H s.kn s.sl _ fun v k1 H1 g1 dv => by
    cases dv with
    | lst e a =>
      rename_i ad xs
      have sq : ∀ {k' H'}, Same k1 k' → Kn Ts k' H' → SqL K H' ad xs := fun kk kn => SqL.of (kn.sub _ _ (kk _ _ e))
      refine ⟨ad, rfl, ⟨xs, sq (Same.refl _) g1.kn⟩, fun i m σ' H' => m = xs.length - i ∧ i ≤ xs.length ∧ ∃ k' δ', Inv i δ' ∧ Same k1 k' ∧ Stt Ts Mo k0 H0 k' H' σ' δ', ⟨_, rfl, Nat.zero_le _, k1, δ, h0, Same.refl _, s.step g1⟩, ?_⟩
      rintro i m σ' H' ⟨rfl, hi, k', δ', inv, kk, s'⟩
      by_cases hlt : i < xs.length
      · have hx : xs[i]? = some xs[i] := List.getElem?_eq_getElem hlt
        obtain ⟨dd, hdd, dt⟩ := a.getV hx
        refine .inr ⟨⟨xs, xs[i], sq kk s'.kn, hx⟩, fun σ2 H2 => ∃ k2 δ2, Inv (i + 1) δ2 ∧ Same k1 k2 ∧ Stt Ts Mo k0 H0 k2 H2 σ2 δ2, ?_, fun x H'' hy => ?_⟩
        · rintro σ2 H2 ⟨k2, δ2, i2, kk2, s2⟩
          exact ⟨xs.length - (i + 1), by omega, rfl, hlt, k2, δ2, i2, kk2, s2⟩
        · obtain ⟨rfl, hy⟩ := hy
          have := hy xs (sq kk s'.kn)
          rw [hx] at this
          cases this
          refine hs i dd δ' hdd inv k0 H0 _ k' H'' _ (s'.put j (Dt.up kk _ _ dt)) (fun σ2 k2 H2 δ2 n2 kk2 s2 => ⟨k2, δ2, n2, kk.trans kk2, s2⟩) hr (fun σ2 k2 H2 δ2 n2 kk2 s2 => hn σ2 k2 H2 δ2 n2 ((g1.kk.trans kk).trans kk2) s2)
      · have e2 : i = ds.length := by rw [← a.length]; omega
        exact .inl ⟨⟨xs, sq kk s'.kn, by omega⟩, hn σ' k' H' δ' (hd δ' (e2 ▸ inv)) (g1.kk.trans kk) s'⟩
/-- for x in reversed(t), t a tuple -/
theorem forRT_core {j : Nat} {ds : List PyData} {body : TS} (Inv : Nat → Dl → Prop) (h : EvD Ts te δ (.tuple ds)) (h0 : Inv 0 δ) (hs : ∀ (i : Nat) (d : PyData) (δ' : Dl), i < ds.length → ds[ds.length - 1 - i]? = some d → Inv i δ' → StX Ts Mo body (δ'.set j (dat d)) (Inv (i + 1)) R N RD) (hd : ∀ δ', Inv ds.length δ' → N δ') :
    StX Ts Mo (tFor (RT.iRevA K te) (gName j) body) δ N R B RD := fun k0 H0 σ k H D s hn hr hb =>
  h σ k H s.kn s.sl _ fun v k1 H1 g1 dv => by
    cases dv with
    | tup e a =>
      rename_i ad xs
      have sq : ∀ {k' H'}, Same k1 k' → Kn Ts k' H' → SqT K H' ad xs := fun kk kn => SqT.of (kn.sub _ _ (kk _ _ e))
      refine ⟨ad, xs, rfl, .inr ⟨sq (Same.refl _) g1.kn, ?_⟩⟩
      have al := a.length
      refine RT.for_ItvT (fun i σ' H' => ∃ k' δ', Inv i δ' ∧ Same k1 k' ∧ Stt Ts Mo k0 H0 k' H' σ' δ') ⟨k1, δ, h0, Same.refl _, s.step g1⟩ (fun i σ' H' ⟨k', δ', inv, kk, s'⟩ => sq kk s'.kn) (fun i x σ' H' hi hx ⟨k', δ', inv, kk, s'⟩ => ?_) (fun σ' H' ⟨k', δ', inv, kk, s'⟩ => hn σ' k' H' δ' (hd δ' (al ▸ inv)) (g1.kk.trans kk) s')
      obtain ⟨dd, hdd, dt⟩ := a.getV hx
      exact hs i dd δ' (al ▸ hi) (al ▸ hdd) inv k0 H0 _ k' H' _ (s'.put j (Dt.up kk _ _ dt)) (fun σ2 k2 H2 δ2 n2 kk2 s2 => ⟨k2, δ2, n2, kk.trans kk2, s2⟩) hr (fun σ2 k2 H2 δ2 n2 kk2 s2 => hn σ2 k2 H2 δ2 n2 ((g1.kk.trans kk).trans kk2) s2)
/-- for x in reversed(l), l a list -/
theorem forRL_core {j : Nat} {ds : List PyData} {body : TS} (Inv : Nat → Dl → Prop) (h : EvD Ts te δ (.list ds)) (h0 : Inv 0 δ) (hs : ∀ (i : Nat) (d : PyData) (δ' : Dl), i < ds.length → ds[ds.length - 1 - i]? = some d → Inv i δ' → StX Ts Mo body (δ'.set j (dat d)) (Inv (i + 1)) R N RD) (hd : ∀ δ', Inv ds.length δ' → N δ') :
    StX Ts Mo (tFor (RT.iRevA K te) (gName j) body) δ N R B RD := fun k0 H0 σ k H D s hn hr hb =>
  h σ k H s.kn s.sl _ fun v k1 H1 g1 dv => by
    cases dv with
    | lst e a =>
      rename_i ad xs
      have sq : ∀ {k' H'}, Same k1 k' → Kn Ts k' H' → SqL K H' ad xs := fun kk kn => SqL.of (kn.sub _ _ (kk _ _ e))
      refine ⟨ad, xs, rfl, .inl ⟨sq (Same.refl _) g1.kn, ?_⟩⟩
      have al := a.length
      refine RT.for_Itv (fun i σ' H' => ∃ k' δ', Inv i δ' ∧ Same k1 k' ∧ Stt Ts Mo k0 H0 k' H' σ' δ') ⟨k1, δ, h0, Same.refl _, s.step g1⟩ (fun i σ' H' ⟨k', δ', inv, kk, s'⟩ => sq kk s'.kn) (fun i x σ' H' hi hx ⟨k', δ', inv, kk, s'⟩ => ?_) (fun σ' H' ⟨k', δ', inv, kk, s'⟩ => hn σ' k' H' δ' (hd δ' (al ▸ inv)) (g1.kk.trans kk) s')
      obtain ⟨dd, hdd, dt⟩ := a.getV hx
      exact hs i dd δ' (al ▸ hi) (al ▸ hdd) inv k0 H0 _ k' H' _ (s'.put j (Dt.up kk _ _ dt)) (fun σ2 k2 H2 δ2 n2 kk2 s2 => ⟨k2, δ2, n2, kk.trans kk2, s2⟩) hr (fun σ2 k2 H2 δ2 n2 kk2 s2 => hn σ2 k2 H2 δ2 n2 ((g1.kk.trans kk).trans kk2) s2)
/-- for i in range(n) -/
theorem forR_core {j : Nat} {n : Nat} {ta : TA} {body : TS} (Inv : Nat → Dl → Prop) (h : EvA Ts ta δ [.int n]) (hz : n ≤ 100000) (h0 : Inv 0 δ) (hs : ∀ (i : Nat) (δ' : Dl), i < n → Inv i δ' → StX Ts Mo body (δ'.set j (dat (.int i))) (Inv (i + 1)) R N RD) (hd : ∀ δ', Inv n δ' → N δ') :
    StX Ts Mo (tFor (iRng1 ta) (gName j) body) δ N R B RD := fun k0 H0 σ k H D s hn hr hb =>
  h σ k H s.kn s.sl _ fun vs k1 H1 g1 dv => by
    cases dv with
    | cons a b =>
      cases b
      cases a
      refine ⟨n, rfl, by omega, by omega, fun i m σ' H' => m = n - i ∧ i ≤ n ∧ ∃ k' δ', Inv i δ' ∧ Same k1 k' ∧ Stt Ts Mo k0 H0 k' H' σ' δ', ⟨_, rfl, Nat.zero_le _, k1, δ, h0, Same.refl _, s.step g1⟩, ?_⟩
      rintro i m σ' H' ⟨rfl, hi, k', δ', inv, kk, s'⟩
      by_cases hlt : i < n
      · refine .inr ⟨by show i < (n : Int).toNat; omega, fun σ2 H2 => ∃ k2 δ2, Inv (i + 1) δ2 ∧ Same k1 k2 ∧ Stt Ts Mo k0 H0 k2 H2 σ2 δ2, ?_, fun x H'' hy => ?_⟩
        · rintro σ2 H2 ⟨k2, δ2, i2, kk2, s2⟩
          exact ⟨n - (i + 1), by omega, rfl, hlt, k2, δ2, i2, kk2, s2⟩
        · obtain ⟨rfl, rfl⟩ := hy
          rw [Int.zero_add]
          exact hs i δ' hlt inv k0 H0 _ k' H'' _ (s'.put j (.int _)) (fun σ2 k2 H2 δ2 n2 kk2 s2 => ⟨k2, δ2, n2, kk.trans kk2, s2⟩) hr (fun σ2 k2 H2 δ2 n2 kk2 s2 => hn σ2 k2 H2 δ2 n2 ((g1.kk.trans kk).trans kk2) s2)
      · have e2 : i = n := by omega
        exact .inl ⟨by show (n : Int).toNat ≤ i; omega, hn σ' k' H' δ' (hd δ' (e2 ▸ inv)) (g1.kk.trans kk) s'⟩
/-- while -/
theorem while_core {c : TT} {body : TS} (Inv : Nat → Dl → Prop) {m0 : Nat} (h0 : Inv m0 δ) (hs : ∀ (m : Nat) (δ' : Dl), Inv m δ' → ∃ b, EvB Ts c δ' b ∧ (b = true → StX Ts Mo body δ' (fun δ2 => ∃ m', m' < m ∧ Inv m' δ2) R N RD) ∧ (b = false → N δ')) :
    StX Ts Mo (tWhile c body) δ N R B RD := fun k0 H0 σ k H D s hn hr hb => by
  refine ⟨fun m σ' H' => ∃ k' δ', Inv m δ' ∧ Same k k' ∧ Stt Ts Mo k0 H0 k' H' σ' δ', ⟨m0, k, δ, h0, Same.refl _, s⟩, ?_⟩
  rintro m σ' H' ⟨k', δ', inv, kk, s'⟩
  obtain ⟨b, hc, h1, h2⟩ := hs m δ' inv
  refine hc σ' k' H' s'.kn s'.sl _ fun k1 H1 g1 => ?_
  cases b with
  | true =>
    refine iteT ⟨fun σ2 H2 => ∃ m', m' < m ∧ ∃ k2 δ2, Inv m' δ2 ∧ Same k k2 ∧ Stt Ts Mo k0 H0 k2 H2 σ2 δ2, fun σ2 H2 h => h, ?_⟩
    exact h1 rfl k0 H0 σ' k1 H1 _ (s'.step g1) (fun σ2 k2 H2 δ2 ⟨m', lt, i2⟩ kk2 s2 => ⟨m', lt, k2, δ2, i2, (kk.trans g1.kk).trans kk2, s2⟩) hr (fun σ2 k2 H2 δ2 n2 kk2 s2 => hn σ2 k2 H2 δ2 n2 ((kk.trans g1.kk).trans kk2) s2)
  | false => exact iteF (hn σ' k1 H1 δ' (h2 rfl) (kk.trans g1.kk) (s'.step g1))
end

/-! ### comprehensions -/
section
variable {Ts : List Addr} {δ : Dl} {tl te : TE} {K : PySem.W.Frag} {t : TT}
theorem wipe1 {σ : L2.St} {j : Nat} {x : Option V} : wipe ((wipe σ [j]).set j x) [j] = wipe σ [j] := by
  show ((σ.set j none).set j x).set j none = σ.set j none
  rw [List.set_set, List.set_set]
/-- a comprehension's list, while it grows -/
structure Grow (Ts : List Addr) (k H : Hp) (σ : L2.St) (δ : Dl) (D : Addr) (ds : List PyData) (H' : Hp) : Prop where
  ex : ∃ k' xs, Gr Ts [] k H k' H' ∧ H' D = some (.lst xs) ∧ k' D = none ∧ DtA k' xs ds
theorem grow_turn {k H H' : Hp} {σ : L2.St} {δ : Dl} {D : Addr} {acc : List PyData} {j : Nat} {x : V} {d : PyData} {b : Bool} {dy : PyData} (hk : Kn Ts k H) (hD : H D = none) (s : Slots k H σ δ) (hx : Dt k x d) (hz : acc.length < 100000)
    (p : Grow Ts k H σ δ D acc H') (ht : EvB Ts t ((δ.set j none).set j (dat d)) b) (he : b = true → EvD Ts te ((δ.set j none).set j (dat d)) dy) :
    t ((wipe σ [j]).set j (some x)) H' fun b' H3 => if b' = true then te ((wipe σ [j]).set j (some x)) H3 fun y H4 => ∃ ac, H4 D = some (.lst ac) ∧ ac.length < sizeLine ∧ Grow Ts k H σ δ D (if b = true then acc ++ [dy] else acc) (upd H4 D (.lst (ac ++ [y]))) else Grow Ts k H σ δ D (if b = true then acc ++ [dy] else acc) H3 := by
  obtain ⟨k1, xs, g1, e1, e2, a1⟩ := p.ex
  have s1 : Slots k1 H' ((wipe σ [j]).set j (some x)) ((δ.set j none).set j (dat d)) := ((s.up hk g1).forget j none).set j ⟨x, rfl, Dt.up g1.kk _ _ hx⟩
  refine ht _ k1 H' g1.kn s1 _ fun k2 H2 g2 => ?_
  have eD2 : H2 D = some (.lst xs) := g2.same D _ e1 (g1.kn.not_tab e1 (fun _ => by simp)) (by simp)
  have kD2 : k2 D = none := by rw [g2.dom D (by rw [e1]; simp)]; exact e2
  cases b with
  | true =>
    refine iteT (he rfl _ k2 H2 g2.kn (s1.up g1.kn g2) _ fun y k3 H3 g3 dy3 => ?_)
    have eD3 : H3 D = some (.lst xs) := g3.same D _ eD2 (g2.kn.not_tab eD2 (fun _ => by simp)) (by simp)
    have kD3 : k3 D = none := by rw [g3.dom D (by rw [eD2]; simp)]; exact kD2
    have g := Gr.trans0 hk (Gr.trans0 hk g1 g2) g3
    refine ⟨xs, eD3, by rw [a1.length]; exact Nat.lt_of_lt_of_le hz (by decide), ⟨k3, xs ++ [y], g.mut (.inl hD) kD3 eD3, upd_same, kD3, ?_⟩⟩
    exact (DtA.up (g2.kk.trans g3.kk) _ _ a1).app (.one dy3)
  | false => exact iteF ⟨k2, xs, Gr.trans0 hk g1 g2, eD2, kD2, DtA.up g2.kk _ _ a1⟩
theorem Grow.done {k H H' : Hp} {σ : L2.St} {δ : Dl} {D : Addr} {acc : List PyData} (hD : H D = none) (p : Grow Ts k H σ δ D acc H') : ∃ k', Gr Ts [] k H k' H' ∧ Dt k' (.ref D) (.list acc) := by
  obtain ⟨k1, xs, g1, e1, e2, a1⟩ := p.ex
  have g := g1.know hD e1 (fun _ => by simp) e2
  refine ⟨_, g, .lst upd_same (DtA.up (fun a u z => ?_) _ _ a1)⟩
  have : a ≠ D := fun y => by subst y; rw [e2] at z; cases z
  rw [upd_ne this]
  exact z
/-- the kept items' values -/
def lcOf (ds : List PyData) (p : PyData → Bool) (f : PyData → PyData) : List PyData := (ds.filter p).map f
theorem lcOf_snoc {ds : List PyData} {p : PyData → Bool} {f : PyData → PyData} {i : Nat} {d : PyData} (h : ds[i]? = some d) : (if p d = true then lcOf (ds.take i) p f ++ [f d] else lcOf (ds.take i) p f) = lcOf (ds.take (i + 1)) p f := by
  rw [List.take_add_one, h]
  unfold lcOf
  rw [List.filter_append, List.map_append]
  show _ = _ ++ ((([d] : List PyData).filter p).map f)
  by_cases q : p d = true
  · rw [if_pos q, List.filter_cons_of_pos q]; rfl
  · rw [if_neg q, List.filter_cons_of_neg q]; simp
theorem ev_lcL {j : Nat} {ds : List PyData} (p : PyData → Bool) (f : PyData → PyData) (h : EvD Ts tl δ (.list ds)) (hz : ds.length ≤ 10000) (ht : ∀ (i : Nat) (d : PyData), ds[i]? = some d → EvB Ts t ((δ.set j none).set j (dat d)) (p d)) (he : ∀ (i : Nat) (d : PyData), ds[i]? = some d → p d = true → EvD Ts te ((δ.set j none).set j (dat d)) (f d)) :
    EvD Ts (tLc (iList K tl) (gName j) t te [j]) δ (.list (lcOf ds p f)) := fun σ k H hk s Q q =>
  h σ k H hk s _ fun v k1 H1 g1 dv => by
    cases dv with
    | lst e a =>
      rename_i ad xs
      refine ⟨ad, rfl, ⟨xs, SqL.of (g1.kn.sub _ _ e)⟩, fun D hD => ?_⟩
      have s1 := s.up hk g1
      have al := a.length
      refine lc_list (xs := xs) (fun i H' => Grow Ts k1 H1 σ δ D (lcOf (ds.take i) p f) H') ⟨k1, [], Gr.fresh g1.kn hD, upd_same, ?_, by simpa [lcOf] using DtA.nil⟩ (fun i H' _ P => ?_) (fun i x H' hi P => ⟨wipe1, ?_⟩) (fun H' P => ?_)
      · cases z : k1 D with
        | none => rfl
        | some o => rw [g1.kn.sub D o z] at hD; cases hD
      · obtain ⟨k2, ys, g2, _⟩ := P.ex
        exact SqL.of (g2.kn.sub _ _ (g2.kk _ _ e))
      · obtain ⟨d, hd, dt⟩ := a.getV hi
        have hl : i < ds.length := (List.getElem?_eq_some_iff.mp hd).1
        have := grow_turn (j := j) g1.kn hD s1 dt (by unfold lcOf; rw [List.length_map]; have := List.length_filter_le p (ds.take i); rw [List.length_take] at this; omega) P (ht i d hd) (he i d hd)
        rw [lcOf_snoc hd] at this
        exact this
      · have P' : Grow Ts k1 H1 σ δ D (lcOf (ds.take xs.length) p f) H' := P
        rw [al, List.take_length] at P'
        obtain ⟨k2, g2, d2⟩ := P'.done hD
        exact q _ k2 H' (Gr.trans0 hk g1 g2) d2
theorem ev_lcT {j : Nat} {ds : List PyData} (p : PyData → Bool) (f : PyData → PyData) (h : EvD Ts tl δ (.tuple ds)) (hz : ds.length ≤ 10000) (ht : ∀ (i : Nat) (d : PyData), ds[i]? = some d → EvB Ts t ((δ.set j none).set j (dat d)) (p d)) (he : ∀ (i : Nat) (d : PyData), ds[i]? = some d → p d = true → EvD Ts te ((δ.set j none).set j (dat d)) (f d)) :
    EvD Ts (tLc (iTup K tl) (gName j) t te [j]) δ (.list (lcOf ds p f)) := fun σ k H hk s Q q =>
  h σ k H hk s _ fun v k1 H1 g1 dv => by
    cases dv with
    | tup e a =>
      rename_i ad xs
      refine ⟨ad, rfl, ⟨xs, SqT.of (g1.kn.sub _ _ e)⟩, fun D hD => ?_⟩
      have s1 := s.up hk g1
      have al := a.length
      refine lc_tup (xs := xs) (fun i H' => Grow Ts k1 H1 σ δ D (lcOf (ds.take i) p f) H') ⟨k1, [], Gr.fresh g1.kn hD, upd_same, ?_, by simpa [lcOf] using DtA.nil⟩ (fun i H' _ P => ?_) (fun i x H' hi P => ⟨wipe1, ?_⟩) (fun H' P => ?_)
      · cases z : k1 D with
        | none => rfl
        | some o => rw [g1.kn.sub D o z] at hD; cases hD
      · obtain ⟨k2, ys, g2, _⟩ := P.ex
        exact SqT.of (g2.kn.sub _ _ (g2.kk _ _ e))
      · obtain ⟨d, hd, dt⟩ := a.getV hi
        have hl : i < ds.length := (List.getElem?_eq_some_iff.mp hd).1
        have := grow_turn (j := j) g1.kn hD s1 dt (by unfold lcOf; rw [List.length_map]; have := List.length_filter_le p (ds.take i); rw [List.length_take] at this; omega) P (ht i d hd) (he i d hd)
        rw [lcOf_snoc hd] at this
        exact this
      · have P' : Grow Ts k1 H1 σ δ D (lcOf (ds.take xs.length) p f) H' := P
        rw [al, List.take_length] at P'
        obtain ⟨k2, g2, d2⟩ := P'.done hD
        exact q _ k2 H' (Gr.trans0 hk g1 g2) d2
theorem eb_yes : EvB Ts tYes δ true := fun σ k H hk s Q q => q k H (Gr.refl hk)
end

/-! ### a def -/
theorem dts_some {k H : Hp} : ∀ {vs : List V} {ds : List PyData} {n : Nat}, DtA k vs ds → Slots k H (vs.map some ++ List.replicate n none) (ds.map dat ++ List.replicate n none)
  | vs, ds, n, h => by
    refine ⟨by simp [h.length], fun i => ?_⟩
    by_cases q : i < ds.length
    · rw [List.getElem?_append_left (by simpa [h.length] using q), List.getElem?_append_left (by simpa using q), List.getElem?_map, List.getElem?_map]
      have e := List.getElem?_eq_getElem q
      obtain ⟨v, h1, h2⟩ := h.get e
      rw [e, h1]
      exact ⟨v, rfl, h2⟩
    · rw [List.getElem?_append_right (l₁ := ds.map dat) (by simpa using Nat.le_of_not_lt q)]
      rw [List.getElem?_replicate]
      split <;> trivial
def startD (n : Nat) (ds : List PyData) : Dl := ds.map dat ++ List.replicate (n - ds.length) none
section
variable {P : Program} {w : World} {K : PySem.W.Frag} {mg : Str → Option Value} {base : Heap}
theorem body_run {Ts : List Addr} {t : TS} {N : List Str} {ds : List PyData} {d : PyData} {vs : List V} {k H : Hp} {Q : VK} (hk : Kn Ts k H) (hd : DtA k vs ds) (h : StD Ts [] t (startD N.length ds) (fun _ => d = .none) (· = d) NoB)
    (q : ∀ v k' H', Gr Ts [] k H k' H' → Dt k' v d → Q v H') : t { nx := fun _ H' => Q .non H', rt := Q } (L2.start N vs) H := by
  have s0 : Slots k H (L2.start N vs) (startD N.length ds) := by
    unfold L2.start startD
    rw [hd.length]
    exact dts_some hd
  have noown : ∀ (i : Nat) (es : OW), (startD N.length ds)[i]? ≠ some (some (.own es)) := fun i es e => by
    unfold startD at e
    by_cases z : i < ds.length
    · rw [List.getElem?_append_left (by simpa using z), List.getElem?_map, List.getElem?_eq_getElem z] at e
      cases e
    · rw [List.getElem?_append_right (by simpa using Nat.le_of_not_lt z), List.getElem?_replicate] at e
      split at e <;> cases e
  refine h k H _ k H _ ⟨hk, Gr.refl hk, fun a h => by simp at h, s0, fun i es l e => absurd e (noown i es), fun i j es fs l e => absurd e (noown i es)⟩ (fun σ' k' H' δ' n kk s' => ?_) (fun σ' k' H' δ' v s' => ⟨fun d' r dv => ?_, fun _ z => z.elim⟩) (fun _ _ _ _ z => z.elim)
  · subst n
    exact q _ k' H' s'.gr .non
  · subst r
    exact q v k' H' s'.gr dv
/-- a dict of one's own is handed back -/
theorem st_retD {Ts Mo : List Addr} {δ : Dl} {N : Dl → Prop} {R : Dl → PyData → Prop} {B : Dl → Prop} {RD : Dl → List (Int × PyData) → Prop} {i : Nat} {es : List (Int × PyData)} (e : δ[i]? = some (ownD es)) (r : RD (δ.set i (dct es)) es) : StX Ts Mo (tRet (tVar i)) δ N R B RD := fun k0 H0 σ k H D s hn hr hb => by
  obtain ⟨l, u, q1, q2, q3, q4, q5⟩ := s.sl.own1 e
  have m := ((s.mine i _ l e q1).resolve_right (fun z => z.1 rfl)).2
  obtain ⟨k', kk, s'⟩ := s.keepU e
  refine ⟨_, q1, (hr σ k' H _ _ s').2 es r ?_⟩
  have hi : i < δ.length := (List.getElem?_eq_some_iff.mp e).1
  obtain ⟨l2, kvs, f1, f2, f3⟩ := s'.sl.dct (i := i) (es := es) (by rw [List.getElem?_set_self hi]; rfl)
  rw [q1] at f1
  cases f1
  exact ⟨l, kvs, rfl, m, f2, f3⟩
/-- THE RULE for a def that makes data alone -/
theorem fn_pure {Ts : List Addr} {x qual : Str} {st : Stmt} {f : Addr} {fd : FuncData} {N ps : List Str} {j : Nat} {R : List PyData → PyData → Prop} (F : Fun K x qual st f fd) (S : FnScope N ps (defScope st)) (hl : ∀ ds d, R ds d → ds.length = ps.length)
    (hbody : ∀ (cdv : Value) (A : Around) (outer : List PySem.Env) (s : Shared) (H : Hp) (E : XK) (ds : List PyData) (d : PyData), Room j (A.deeper (PyProof.Rows.envOfC qual (defScope st) s.heap.objs.size f cdv)) → R ds d →
      ∃ t, PSs (cxOf CX0 P w K mg base N qual (defScope st) f cdv A outer s H E).nox (defBody st) t ∧ StD Ts [] t (startD N.length ds) (fun _ => d = .none) (· = d) NoB) :
    FnOk P w K mg base CX0 (j + 1) f fd ps (spP Ts R) := by
  refine F.ok S (fun vs H Q E h => ?_) (fun cdv A outer s H vs Q E hr h => ?_)
  · obtain ⟨k, ds, d, _, h2, h3, _⟩ := h
    rw [h2.length]
    exact hl ds d h3
  · obtain ⟨k, ds, d, h1, h2, h3, h4⟩ := h
    obtain ⟨t, p, h⟩ := hbody cdv A outer s H E ds d hr h3
    exact ⟨t, p, body_run h1 h2 h h4⟩
end
end K33
end
section
set_option Elab.async false
set_option linter.all false
set_option maxRecDepth 100000
set_option maxHeartbeats 1000000
/-! W0: the text by places, shapes as data. -/
namespace K33
open PySem L2
def topS (i : Nat) : Stmt := PySem.Challenge.pw_unweave_k33_whole_structure_and_back.main.body.getD i (.Pass ⟨0, 0, 0, 0⟩)
/-- a def of the text: where it stands -/
structure Df (K : PySem.W.Frag) (mg : Str → Option Value) (name : Str) (i : Nat) (ps : List Str) where
  a : Addr
  fd : FuncData
  F : Fun K name name (topS i) a fd
  b : Binds K fd ps []
  m : mg name = some (.ref a)
/-- the built-ins by their names -/
structure Txt (mg : Str → Option Value) : Prop where
  len : mg "len" = none
  list : mg "list" = none
  tuple : mg "tuple" = none
  sorted : mg "sorted" = none
  range : mg "range" = none
  reversed : mg "reversed" = none
  any : mg "any" = none
  all : mg "all" = none
  int : mg "int" = none
  min : mg "min" = none
  set : mg "set" = none
  repr : mg "repr" = none

/-! ### == of data of any depth, one of them shallow -/
section
variable {X : Cx}
def rEqW (K : PySem.W.Frag) : R2 := fun x y H Q => ∃ d e, Dp K H x d ∧ Dp K H y e ∧ d.canLay0 = true ∧ e.canLay0 = true ∧ min d.depth e.depth ≤ 64 ∧ Q (.bl (PyData.eqv d e)) H
def rNeW (K : PySem.W.Frag) : R2 := fun x y H Q => ∃ d e, Dp K H x d ∧ Dp K H y e ∧ d.canLay0 = true ∧ e.canLay0 = true ∧ min d.depth e.depth ≤ 64 ∧ Q (.bl (!PyData.eqv d e)) H
theorem op_eqW {k : Nat} (hr : Room k X.A) : OpR X (compareOp .Eq) (rEqW X.K) := by
  intro pins s σ H x y v u Q I rx ry h
  obtain ⟨d, e, hd, he, sd, se, hm, q⟩ := h
  obtain ⟨as, r1⟩ := Dp.reads I d x v hd rx
  obtain ⟨bs, r2⟩ := Dp.reads I e y u he ry
  exact SeqAt.compareEq_reads r1 r2 sd se (by have := hr.units; omega) ⟨.bl _, H, I, rfl, q⟩
theorem op_neW {k : Nat} (hr : Room k X.A) : OpR X (compareOp .NotEq) (rNeW X.K) := by
  intro pins s σ H x y v u Q I rx ry h
  obtain ⟨d, e, hd, he, sd, se, hm, q⟩ := h
  obtain ⟨as, r1⟩ := Dp.reads I d x v hd rx
  obtain ⟨bs, r2⟩ := Dp.reads I e y u he ry
  exact SeqAt.compareNe_reads r1 r2 sd se (by have := hr.units; omega) ⟨.bl _, H, I, rfl, q⟩
end
theorem rv_eqW {Ts : List Addr} {K : PySem.W.Frag} {d e : PyData} (h1 : d.canLay0 = true) (h2 : e.canLay0 = true) (h3 : min d.depth e.depth ≤ 64) : RvD Ts (rEqW K) d e (.bool (PyData.eqv d e)) := fun k H x y hk hx hy Q q =>
  ⟨d, e, Dt.dp _ _ (Dt.up hk.sub _ _ hx), Dt.dp _ _ (Dt.up hk.sub _ _ hy), h1, h2, h3, q _ k H (Gr.refl hk) (.bl _)⟩
theorem rv_neW {Ts : List Addr} {K : PySem.W.Frag} {d e : PyData} (h1 : d.canLay0 = true) (h2 : e.canLay0 = true) (h3 : min d.depth e.depth ≤ 64) : RvD Ts (rNeW K) d e (.bool (!PyData.eqv d e)) := fun k H x y hk hx hy Q q =>
  ⟨d, e, Dt.dp _ _ (Dt.up hk.sub _ _ hx), Dt.dp _ _ (Dt.up hk.sub _ _ hy), h1, h2, h3, q _ k H (Gr.refl hk) (.bl _)⟩

/-! ### shapes as data -/
abbrev pI (n : Nat) : PyData := .int (n : Int)
def tagA : AK → Str
  | .row => "row"
  | .ifr => "if_row"
  | .sw => "switch_row"
def tagS (lp : Bool) : Str := if lp then "loop" else "block"
def tagJ (ag : Bool) : Str := if ag then "again" else "leave"
mutual
def encI : I → PyData
  | .act .row n _ => .tuple [.str "row", pI n]
  | .act .ifr n cs => .tuple (.str "if_row" :: pI n :: encC cs)
  | .act .sw n cs => .tuple [.str "switch_row", pI n, .tuple (encC cs)]
  | .scope lp l b => .tuple [.str (tagS lp), pI l, .tuple (encS b)]
  | .jmp ag l => .tuple [.str (tagJ ag), pI l]
def encS : List I → List PyData
  | [] => []
  | i :: r => encI i :: encS r
def encC : List (List I) → List PyData
  | [] => []
  | s :: r => .tuple (encS s) :: encC r
end
abbrev encT (s : List I) : PyData := .tuple (encS s)
theorem encS_map (s : List I) : encS s = s.map encI := by induction s with
  | nil => simp [encS]
  | cons i r ih => simp [encS, ih]
theorem encC_map (s : List (List I)) : encC s = s.map encT := by induction s with
  | nil => simp [encC]
  | cons i r ih => simp [encC, ih]
mutual
def wfI : I → Prop
  | .act t _ cs => (match t with | .row => cs = [] | .ifr => cs.length = 2 | .sw => cs.length ≤ 16) ∧ wfC cs
  | .scope _ _ b => wfS b
  | .jmp _ _ => True
def wfS : List I → Prop
  | [] => True
  | i :: r => wfI i ∧ wfS r
def wfC : List (List I) → Prop
  | [] => True
  | s :: r => wfS s ∧ wfC r
end
mutual
def dpI : I → Nat
  | .act _ _ cs => 1 + dpC cs
  | .scope _ _ b => 1 + dpS b
  | .jmp _ _ => 1
def dpS : List I → Nat
  | [] => 0
  | i :: r => max (dpI i) (dpS r)
def dpC : List (List I) → Nat
  | [] => 0
  | s :: r => max (dpS s) (dpC r)
end
mutual
theorem dp_wtI : ∀ i : I, dpI i ≤ wtI i + 1
  | .act _ _ cs => by have := dp_wtC cs; simp only [dpI, wtI]; omega
  | .scope _ _ b => by have := dp_wtS b; simp only [dpI, wtI]; omega
  | .jmp _ _ => by simp [dpI]
theorem dp_wtS : ∀ s : List I, dpS s ≤ wtS s + 1
  | [] => by simp [dpS]
  | i :: r => by have := dp_wtI i; have := dp_wtS r; simp only [dpS, wtS]; omega
theorem dp_wtC : ∀ s : List (List I), dpC s ≤ wtC s + 1
  | [] => by simp [dpC]
  | i :: r => by have := dp_wtS i; have := dp_wtC r; simp only [dpC, wtC]; omega
end
/-- the shapes inside, an item with other shapes inside -/
def ins : I → List (List I)
  | .act _ _ cs => cs
  | .scope _ _ b => [b]
  | .jmp _ _ => []
def reb : I → List (List I) → I
  | .act t n _, cs => .act t n cs
  | .scope lp l _, cs => .scope lp l (cs.headD [])
  | .jmp ag l, _ => .jmp ag l
mutual
theorem lay_I : ∀ i : I, (encI i).canLay0 = true
  | .act .row n _ => by simp [encI, PyData.canLay0, PyData.canLayAll0]; decide +kernel
  | .act .ifr n cs => by simp [encI, PyData.canLay0, PyData.canLayAll0, lay_C cs]; decide +kernel
  | .act .sw n cs => by simp [encI, PyData.canLay0, PyData.canLayAll0, lay_C cs]; decide +kernel
  | .scope lp l b => by cases lp <;> simp [encI, PyData.canLay0, PyData.canLayAll0, lay_S b, tagS] <;> decide +kernel
  | .jmp ag l => by cases ag <;> simp [encI, PyData.canLay0, PyData.canLayAll0, tagJ] <;> decide +kernel
theorem lay_S : ∀ s : List I, PyData.canLayAll0 (encS s) = true
  | [] => by simp [encS, PyData.canLayAll0]
  | i :: r => by simp [encS, PyData.canLayAll0, lay_I i, lay_S r]
theorem lay_C : ∀ s : List (List I), PyData.canLayAll0 (encC s) = true
  | [] => by simp [encC, PyData.canLayAll0]
  | i :: r => by simp [encC, PyData.canLayAll0, PyData.canLay0, lay_S i, lay_C r]
end
/-- is it this leave? -/
def isLeave (l : Nat) : I → Bool
  | .jmp false l' => decide (l' = l)
  | _ => false
theorem eqv_leave (l : Nat) : ∀ i : I, PyData.eqv (encI i) (.tuple [.str "leave", pI l]) = isLeave l i
  | .act .row n _ => by simp [encI, PyData.eqv, PyData.eqvAll, isLeave]; intro h; exact absurd h (by decide)
  | .act .ifr n cs => by simp [encI, PyData.eqv, PyData.eqvAll, isLeave]; intro h; exact absurd h (by decide)
  | .act .sw n cs => by simp [encI, PyData.eqv, PyData.eqvAll, isLeave]
  | .scope lp l' b => by cases lp <;> simp [encI, PyData.eqv, PyData.eqvAll, isLeave]
  | .jmp true l' => by simp [encI, PyData.eqv, PyData.eqvAll, isLeave, tagJ]; intro h; exact absurd h (by decide)
  | .jmp false l' => by
    simp [encI, PyData.eqv, PyData.eqvAll, isLeave, tagJ]
    rw [Bool.eq_iff_iff]
    simp
    omega
/-- the first two parts of an item -/
def tag : I → Str
  | .act t _ _ => tagA t
  | .scope lp _ _ => tagS lp
  | .jmp ag _ => tagJ ag
def num : I → Nat
  | .act _ n _ => n
  | .scope _ l _ => l
  | .jmp _ l => l
def kindI : I → Nat
  | .act .row _ _ => 0
  | .act .ifr _ _ => 1
  | .act .sw _ _ => 2
  | .scope true _ _ => 3
  | .scope false _ _ => 4
  | .jmp true _ => 5
  | .jmp false _ => 6
def tagK : Nat → Str
  | 0 => "row"
  | 1 => "if_row"
  | 2 => "switch_row"
  | 3 => "loop"
  | 4 => "block"
  | 5 => "again"
  | _ => "leave"
theorem tag_kind (i : I) : tag i = tagK (kindI i) := by
  cases i with
  | act t n cs => cases t <;> rfl
  | scope lp l b => cases lp <;> rfl
  | jmp ag l => cases ag <;> rfl
theorem kind_lt (i : I) : kindI i < 7 := by
  cases i with
  | act t n cs => cases t <;> simp [kindI]
  | scope lp l b => cases lp <;> simp [kindI]
  | jmp ag l => cases ag <;> simp [kindI]
theorem tagK_all : (List.range 7).all (fun k => (decide (tagK k = "row") == decide (k = 0)) && (decide (tagK k = "if_row") == decide (k = 1)) && (decide (tagK k = "switch_row") == decide (k = 2)) && (decide (tagK k = "loop") == decide (k = 3)) && (decide (tagK k = "block") == decide (k = 4)) && (decide (tagK k = "again") == decide (k = 5)) && (decide (tagK k = "leave") == decide (k = 6))) = true := by decide +kernel
theorem tag_is (i : I) : decide (tag i = "row") = decide (kindI i = 0) ∧ decide (tag i = "if_row") = decide (kindI i = 1) ∧ decide (tag i = "switch_row") = decide (kindI i = 2) ∧ decide (tag i = "loop") = decide (kindI i = 3) ∧ decide (tag i = "block") = decide (kindI i = 4) ∧ decide (tag i = "again") = decide (kindI i = 5) ∧ decide (tag i = "leave") = decide (kindI i = 6) := by
  have h := List.all_eq_true.mp tagK_all (kindI i) (List.mem_range.mpr (kind_lt i))
  simp only [Bool.and_eq_true, beq_iff_eq] at h
  rw [tag_kind]
  obtain ⟨⟨⟨⟨⟨⟨h0, h1⟩, h2⟩, h3⟩, h4⟩, h5⟩, h6⟩ := h
  exact ⟨h0, h1, h2, h3, h4, h5, h6⟩
theorem dec_iff {p q : Prop} [Decidable p] [Decidable q] (h : decide p = decide q) : p ↔ q := by
  rw [← decide_eq_true_iff (p := p), h, decide_eq_true_iff]
theorem tag_row (i : I) : tag i = "row" ↔ kindI i = 0 := dec_iff (tag_is i).1
theorem tag_ifr (i : I) : tag i = "if_row" ↔ kindI i = 1 := dec_iff (tag_is i).2.1
theorem tag_sw (i : I) : tag i = "switch_row" ↔ kindI i = 2 := dec_iff (tag_is i).2.2.1
theorem tag_loop (i : I) : tag i = "loop" ↔ kindI i = 3 := dec_iff (tag_is i).2.2.2.1
theorem tag_block (i : I) : tag i = "block" ↔ kindI i = 4 := dec_iff (tag_is i).2.2.2.2.1
theorem tag_again (i : I) : tag i = "again" ↔ kindI i = 5 := dec_iff (tag_is i).2.2.2.2.2.1
theorem tag_leave (i : I) : tag i = "leave" ↔ kindI i = 6 := dec_iff (tag_is i).2.2.2.2.2.2
theorem kind0 {i : I} (h : kindI i = 0) : ∃ n cs, i = .act .row n cs := by
  cases i with
  | act t n cs => cases t <;> first | exact ⟨_, _, rfl⟩ | simp [kindI] at h
  | scope lp l b => cases lp <;> simp [kindI] at h
  | jmp ag l => cases ag <;> simp [kindI] at h
theorem kind1 {i : I} (h : kindI i = 1) : ∃ n cs, i = .act .ifr n cs := by
  cases i with
  | act t n cs => cases t <;> first | exact ⟨_, _, rfl⟩ | simp [kindI] at h
  | scope lp l b => cases lp <;> simp [kindI] at h
  | jmp ag l => cases ag <;> simp [kindI] at h
theorem kind2 {i : I} (h : kindI i = 2) : ∃ n cs, i = .act .sw n cs := by
  cases i with
  | act t n cs => cases t <;> first | exact ⟨_, _, rfl⟩ | simp [kindI] at h
  | scope lp l b => cases lp <;> simp [kindI] at h
  | jmp ag l => cases ag <;> simp [kindI] at h
theorem kind3 {i : I} (h : kindI i = 3) : ∃ l b, i = .scope true l b := by
  cases i with
  | act t n cs => cases t <;> simp [kindI] at h
  | scope lp l b => cases lp <;> first | exact ⟨_, _, rfl⟩ | simp [kindI] at h
  | jmp ag l => cases ag <;> simp [kindI] at h
theorem kind4 {i : I} (h : kindI i = 4) : ∃ l b, i = .scope false l b := by
  cases i with
  | act t n cs => cases t <;> simp [kindI] at h
  | scope lp l b => cases lp <;> first | exact ⟨_, _, rfl⟩ | simp [kindI] at h
  | jmp ag l => cases ag <;> simp [kindI] at h
theorem kind34 {i : I} (h : kindI i = 3 ∨ kindI i = 4) : ∃ lp l b, i = .scope lp l b := by
  rcases h with h | h
  · obtain ⟨l, b, e⟩ := kind3 h
    exact ⟨_, _, _, e⟩
  · obtain ⟨l, b, e⟩ := kind4 h
    exact ⟨_, _, _, e⟩
theorem kind_rest {i : I} (h1 : kindI i ≠ 1) (h2 : kindI i ≠ 2) (h3 : ¬ (kindI i = 3 ∨ kindI i = 4)) : (∃ n cs, i = .act .row n cs) ∨ ∃ ag l, i = .jmp ag l := by
  cases i with
  | act t n cs =>
    cases t with
    | row => exact .inl ⟨_, _, rfl⟩
    | ifr => exact absurd rfl h1
    | sw => exact absurd rfl h2
  | scope lp l b => cases lp <;> simp [kindI] at h3
  | jmp ag l => exact .inr ⟨_, _, rfl⟩
theorem enc_tag (i : I) : ∃ r, encI i = .tuple (.str (tag i) :: pI (num i) :: r) := by
  cases i with
  | act t n cs => cases t <;> exact ⟨_, by rw [encI]; rfl⟩
  | scope lp l b => exact ⟨_, by rw [encI]; rfl⟩
  | jmp ag l => exact ⟨_, by rw [encI]; rfl⟩
theorem at_0 {α : Type} (a : α) (r : List α) : atI (a :: r) 0 = some a := atI_nat (j := 0) rfl
theorem at_1 {α : Type} (a b : α) (r : List α) : atI (a :: b :: r) 1 = some b := atI_nat (j := 1) rfl
theorem at_2 {α : Type} (a b c : α) (r : List α) : atI (a :: b :: c :: r) 2 = some c := atI_nat (j := 2) rfl
theorem at_3 {α : Type} (a b c d : α) (r : List α) : atI (a :: b :: c :: d :: r) 3 = some d := atI_nat (j := 3) rfl
theorem at_last {α : Type} (l : List α) (a : α) : atI (l ++ [a]) (-1) = some a := by
  unfold atI ixN
  have h1 : ¬ (0 : Int) ≤ -1 := by omega
  have h2 : -(((l ++ [a]).length : Nat) : Int) ≤ -1 := by rw [List.length_append]; simp; omega
  rw [if_neg h1, if_pos h2]
  have h3 : ((-1 : Int) + (((l ++ [a]).length : Nat) : Int)).toNat = l.length := by rw [List.length_append]; simp; omega
  show (l ++ [a])[((-1 : Int) + (((l ++ [a]).length : Nat) : Int)).toNat]? = some a
  rw [h3]
  simp
section
variable {Ts : List Addr} {δ : Dl} {te tb : TE} {K : PySem.W.Frag}
/-- item[0], item[1] -/
theorem ev_tag {i : I} (h : EvD Ts te δ (encI i)) (hb : EvD Ts tb δ (.int 0)) : EvD Ts (tOp (rIx K) te tb) δ (.str (tag i)) := by
  obtain ⟨r, e⟩ := enc_tag i
  exact ev_op h hb (by rw [e]; exact rv_ixT (at_0 _ _))
theorem ev_num {i : I} (h : EvD Ts te δ (encI i)) (hb : EvD Ts tb δ (.int 1)) : EvD Ts (tOp (rIx K) te tb) δ (pI (num i)) := by
  obtain ⟨r, e⟩ := enc_tag i
  exact ev_op h hb (by rw [e]; exact rv_ixT (at_1 _ _ _))
end
end K33
end
section
set_option Elab.async false
set_option linter.all false
set_option maxRecDepth 100000
set_option maxHeartbeats 4000000
/-! W1: jump, insides, rebuilt. -/
namespace K33
open PySem L2
theorem map_pI (ns : List Nat) : ns.map pI = (ns.map fun n : Nat => (n : Int)).map PyData.int := by rw [List.map_map]; rfl
theorem mem_cast {i : Nat} {ns : List Nat} : ((i : Int) ∈ ns.map fun n : Nat => (n : Int)) ↔ i ∈ ns := by
  rw [List.mem_map]
  constructor
  · rintro ⟨a, h, e⟩
    have : a = i := by omega
    rw [← this]; exact h
  · exact fun h => ⟨i, h, rfl⟩
section
variable {Ts : List Addr} {K : PySem.W.Frag}
theorem rv_inN {neg : Bool} {i : Nat} {ns : List Nat} : RvD Ts (rIn K neg) (pI i) (.list (ns.map pI)) (.bool (if neg then !decide (i ∈ ns) else decide (i ∈ ns))) := by
  have h := rv_inI (Ts := Ts) (K := K) (neg := neg) (i := (i : Int)) (ns := ns.map fun n : Nat => (n : Int))
  rw [← map_pI] at h
  simp only [mem_cast] at h
  exact h
theorem rv_inNT {neg : Bool} {i : Nat} {ns : List Nat} : RvD Ts (rIn K neg) (pI i) (.tuple (ns.map pI)) (.bool (if neg then !decide (i ∈ ns) else decide (i ∈ ns))) := by
  have h := rv_inIT (Ts := Ts) (K := K) (neg := neg) (i := (i : Int)) (ns := ns.map fun n : Nat => (n : Int))
  rw [← map_pI] at h
  simp only [mem_cast] at h
  exact h
theorem rv_eqN {i j : Nat} : RvD Ts rEq (pI i) (pI j) (.bool (decide (i = j))) := by
  have h := rv_eqI (Ts := Ts) (i := (i : Int)) (j := (j : Int))
  have e : decide ((i : Int) = (j : Int)) = decide (i = j) := by rw [Bool.eq_iff_iff]; simp; omega
  rw [e] at h
  exact h
theorem rv_neN {i j : Nat} : RvD Ts rNe (pI i) (pI j) (.bool (!decide (i = j))) := by
  have h := rv_neI (Ts := Ts) (i := (i : Int)) (j := (j : Int))
  have e : decide ((i : Int) = (j : Int)) = decide (i = j) := by rw [Bool.eq_iff_iff]; simp; omega
  rw [e] at h
  exact h
end
section
variable {P : Program} {w : World} {K : PySem.W.Frag} {mg : Str → Option Value} {base : Heap} {Ts : List Addr}
/-! ### jump -/
theorem sc_jump : FnScope ["labels", "number"] ["labels", "number"] (defScope (topS 6)) := ⟨rfl, rfl, rfl, by decide +kernel, rfl, by decide +kernel, by decide +kernel⟩
def R_jump (ds : List PyData) (d : PyData) : Prop := ∃ (labels : List Nat) (m : Nat), ds = [.list (labels.map pI), pI m] ∧ d = encI (jump labels m)
theorem ok_jump (D : Df K mg "jump" 6 ["labels", "number"]) : FnOk P w K mg base CX0 1 D.a D.fd ["labels", "number"] (spP Ts R_jump) := by
  have sc := sc_jump
  refine fn_pure D.F sc (fun ds d h => ?_) (fun cdv A outer s H E ds d hr h => ?_)
  · obtain ⟨_, _, rfl, _⟩ := h; rfl
  obtain ⟨labels, m, rfl, rfl⟩ := h
  refine ⟨_, (pss_cons (ps_if (pt_cmpR op_in_seq (pv 1) (pv 0) (by rfl))
      (pss_one (ps_ret (pe_tup (pa_cons pe_str (pa_cons (pv 1) pa_nil)))))
      pss_nil)
    (pss_one (ps_ret (pe_tup (pa_cons pe_str (pa_cons (pv 1) pa_nil)))))), ?_⟩
  refine st_ifr (eb_test (ev_op (ev_var rfl) (ev_var rfl) rv_inN)) (fun h => ?_) (fun h => ?_)
  · have h : m ∈ labels := by simpa using h
    refine st_ret (ev_tup (ea_cons ev_str (ea_cons (ev_var rfl) ea_nil)) (by simp)) ?_
    rw [jump_in h]; simp [encI, tagJ]
  · have h : m ∉ labels := by simpa using h
    refine st_ret (ev_tup (ea_cons ev_str (ea_cons (ev_var rfl) ea_nil)) (by simp)) ?_
    rw [jump_out h]; simp [encI, tagJ]
/-! ### insides -/
theorem sc_insides : FnScope ["item"] ["item"] (defScope (topS 10)) := ⟨rfl, rfl, rfl, by decide +kernel, rfl, by decide +kernel, by decide +kernel⟩
def R_insides (ds : List PyData) (d : PyData) : Prop := ∃ i : I, wfI i ∧ ds = [encI i] ∧ d = .tuple (encC (ins i))
theorem two_of {α : Type} {l : List α} (h : l.length = 2) : ∃ a b, l = [a, b] := by
  match l, h with
  | [a, b], _ => exact ⟨a, b, rfl⟩
theorem str2 (a b : Str) : [PyData.str a, PyData.str b] = [a, b].map PyData.str := rfl
theorem ok_insides (D : Df K mg "insides" 10 ["item"]) : FnOk P w K mg base CX0 1 D.a D.fd ["item"] (spP Ts R_insides) := by
  have sc := sc_insides
  refine fn_pure D.F sc (fun ds d h => ?_) (fun cdv A outer s H E ds d hr h => ?_)
  · obtain ⟨_, _, rfl, _⟩ := h; rfl
  obtain ⟨i, hw, rfl, rfl⟩ := h
  refine ⟨_, (pss_cons (ps_if (pt_cmpR op_eq (pe_ix ix_seq (pv 0) pe_int (fun _ _ => rfl)) pe_str (nomark _))
      (pss_one (ps_ret (pe_tup (pa_cons (pe_ix ix_seq (pv 0) pe_int (fun _ _ => rfl)) (pa_cons (pe_ix ix_seq (pv 0) pe_int (fun _ _ => rfl)) pa_nil)))))
      pss_nil)
    (pss_cons (ps_if (pt_cmpR op_eq (pe_ix ix_seq (pv 0) pe_int (fun _ _ => rfl)) pe_str (nomark _))
      (pss_one (ps_ret (pe_ix ix_seq (pv 0) pe_int (fun _ _ => rfl))))
      pss_nil)
    (pss_cons (ps_if (pt_cmpR op_in_seq (pe_ix ix_seq (pv 0) pe_int (fun _ _ => rfl)) (pe_tup (pa_cons pe_str (pa_cons pe_str pa_nil))) (by rfl))
      (pss_one (ps_ret (pe_tup (pa_cons (pe_ix ix_seq (pv 0) pe_int (fun _ _ => rfl)) pa_nil))))
      pss_nil)
    (pss_one (ps_ret (pe_tup pa_nil)))))), ?_⟩
  have t0 := @ev_tag Ts (startD 1 [encI i]) (tVar 0) (tC (.int 0)) K i (ev_var rfl) ev_int
  refine st_ifr (eb_test (ev_op t0 ev_str rv_eqS)) (fun h => ?_) (fun h => ?_)
  · obtain ⟨n, cs, rfl⟩ := kind1 ((tag_ifr i).mp (of_decide_eq_true h))
    simp only [wfI] at hw
    obtain ⟨a, b, rfl⟩ := two_of hw.1
    refine st_ret (ev_tup (ea_cons (ev_op (d := .tuple (encS a)) (ev_var rfl) ev_int ?_) (ea_cons (ev_op (d := .tuple (encS b)) (ev_var rfl) ev_int ?_) ea_nil)) (by simp)) ?_
    · rw [encI]; simp only [encC]; exact rv_ixT (at_2 _ _ _ _)
    · rw [encI]; simp only [encC]; exact rv_ixT (at_3 _ _ _ _ _)
    · simp [ins, encC]
  have h := mt (tag_ifr i).mpr (of_decide_eq_false h)
  refine st_ifr (eb_test (ev_op t0 ev_str rv_eqS)) (fun h2 => ?_) (fun h2 => ?_)
  · obtain ⟨n, cs, rfl⟩ := kind2 ((tag_sw i).mp (of_decide_eq_true h2))
    refine st_ret (d := .tuple (encC cs)) (ev_op (ev_var rfl) ev_int ?_) rfl
    rw [encI]; exact rv_ixT (at_2 _ _ _ _)
  have h2 := mt (tag_sw i).mpr (of_decide_eq_false h2)
  refine st_ifr (eb_test (ev_op t0 (ev_tup (ea_cons ev_str (ea_cons ev_str ea_nil)) (by simp)) (by rw [str2]; exact rv_inS))) (fun h3 => ?_) (fun h3 => ?_)
  · have h3 : tag i = "loop" ∨ tag i = "block" := by simpa using h3
    obtain ⟨lp, l, b, rfl⟩ := kind34 (h3.imp (tag_loop i).mp (tag_block i).mp)
    refine st_ret (ev_tup (ea_cons (ev_op (d := .tuple (encS b)) (ev_var rfl) ev_int ?_) ea_nil) (by simp)) ?_
    · rw [encI]; exact rv_ixT (at_2 _ _ _ _)
    · simp [ins, encC]
  have h3 : ¬ (tag i = "loop" ∨ tag i = "block") := by simpa using h3
  refine st_ret (ev_tup ea_nil (by simp)) ?_
  rcases kind_rest h h2 (fun q => h3 (q.imp (tag_loop i).mpr (tag_block i).mpr)) with ⟨n, cs, rfl⟩ | ⟨ag, l, rfl⟩
  · simp only [wfI] at hw; simp [ins, hw.1, encC]
  · simp [ins, encC]
/-! ### rebuilt -/
theorem sc_rebuilt : FnScope ["item", "shapes"] ["item", "shapes"] (defScope (topS 11)) := ⟨rfl, rfl, rfl, by decide +kernel, rfl, by decide +kernel, by decide +kernel⟩
/-- an item with other things inside -/
def rebD : I → List PyData → PyData
  | .act .row n _, _ => .tuple [.str "row", pI n]
  | .act .ifr n _, xs => .tuple (.str "if_row" :: pI n :: xs)
  | .act .sw n _, xs => .tuple [.str "switch_row", pI n, .tuple xs]
  | .scope lp l _, xs => .tuple [.str (tagS lp), pI l, xs.headD .none]
  | .jmp ag l, _ => .tuple [.str (tagJ ag), pI l]
def R_rebD (ds : List PyData) (d : PyData) : Prop := ∃ (i : I) (xs : List PyData), wfI i ∧ xs.length = (ins i).length ∧ ds = [encI i, .list xs] ∧ d = rebD i xs
def R_rebuilt (ds : List PyData) (d : PyData) : Prop := ∃ (i : I) (cs : List (List I)), wfI i ∧ cs.length = (ins i).length ∧ ds = [encI i, .list (encC cs)] ∧ d = encI (reb i cs)
theorem encC_len (cs : List (List I)) : (encC cs).length = cs.length := by rw [encC_map]; simp
theorem ok_rebD (T : Txt mg) (D : Df K mg "rebuilt" 11 ["item", "shapes"]) : FnOk P w K mg base CX0 1 D.a D.fd ["item", "shapes"] (spP Ts R_rebD) := by
  have sc := sc_rebuilt
  refine fn_pure D.F sc (fun ds d h => ?_) (fun cdv A outer s H E ds d hr h => ?_)
  · obtain ⟨_, _, _, _, rfl, _⟩ := h; rfl
  obtain ⟨i, xs, hw, hl, rfl, rfl⟩ := h
  refine ⟨_, (pss_cons (ps_if (pt_cmpR op_eq (pe_ix ix_seq (pv 0) pe_int (fun _ _ => rfl)) pe_str (nomark _))
      (pss_one (ps_ret (pe_tup (pa_cons pe_str (pa_cons (pe_ix ix_seq (pv 0) pe_int (fun _ _ => rfl)) (pa_cons (pe_ix ix_seq (pv 1) pe_int (fun _ _ => rfl)) (pa_cons (pe_ix ix_seq (pv 1) pe_int (fun _ _ => rfl)) pa_nil)))))))
      pss_nil)
    (pss_cons (ps_if (pt_cmpR op_eq (pe_ix ix_seq (pv 0) pe_int (fun _ _ => rfl)) pe_str (nomark _))
      (pss_one (ps_ret (pe_tup (pa_cons pe_str (pa_cons (pe_ix ix_seq (pv 0) pe_int (fun _ _ => rfl)) (pa_cons (pe_callTy call_tuple_of (by rfl) T.tuple (by decide +kernel) (pa_cons (pv 1) pa_nil)) pa_nil))))))
      pss_nil)
    (pss_cons (ps_if (pt_cmpR op_in_seq (pe_ix ix_seq (pv 0) pe_int (fun _ _ => rfl)) (pe_tup (pa_cons pe_str (pa_cons pe_str pa_nil))) (by rfl))
      (pss_one (ps_ret (pe_tup (pa_cons (pe_ix ix_seq (pv 0) pe_int (fun _ _ => rfl)) (pa_cons (pe_ix ix_seq (pv 0) pe_int (fun _ _ => rfl)) (pa_cons (pe_ix ix_seq (pv 1) pe_int (fun _ _ => rfl)) pa_nil))))))
      pss_nil)
    (pss_one (ps_ret (pv 0)))))), ?_⟩
  have t0 := @ev_tag Ts (startD 2 [encI i, .list xs]) (tVar 0) (tC (.int 0)) K i (ev_var rfl) ev_int
  have t1 := @ev_num Ts (startD 2 [encI i, .list xs]) (tVar 0) (tC (.int 1)) K i (ev_var rfl) ev_int
  refine st_ifr (eb_test (ev_op t0 ev_str rv_eqS)) (fun h => ?_) (fun h => ?_)
  · obtain ⟨n, cs', rfl⟩ := kind1 ((tag_ifr i).mp (of_decide_eq_true h))
    simp only [wfI] at hw
    simp only [ins] at hl
    obtain ⟨a, b, rfl⟩ := two_of (hl.trans hw.1)
    refine st_ret (ev_tup (ea_cons ev_str (ea_cons t1 (ea_cons (ev_op (d := a) (ev_var rfl) ev_int ?_) (ea_cons (ev_op (d := b) (ev_var rfl) ev_int ?_) ea_nil)))) (by simp)) ?_
    · exact rv_ixL (at_0 _ _)
    · exact rv_ixL (at_1 _ _ _)
    · simp [rebD, num]
  have h := mt (tag_ifr i).mpr (of_decide_eq_false h)
  refine st_ifr (eb_test (ev_op t0 ev_str rv_eqS)) (fun h2 => ?_) (fun h2 => ?_)
  · obtain ⟨n, cs', rfl⟩ := kind2 ((tag_sw i).mp (of_decide_eq_true h2))
    refine st_ret (ev_tup (ea_cons ev_str (ea_cons t1 (ea_cons (ev_callR (ea_cons (ev_var rfl) ea_nil) rc_tuple) ea_nil))) (by simp)) ?_
    simp [rebD, num]
  have h2 := mt (tag_sw i).mpr (of_decide_eq_false h2)
  refine st_ifr (eb_test (ev_op t0 (ev_tup (ea_cons ev_str (ea_cons ev_str ea_nil)) (by simp)) (by rw [str2]; exact rv_inS))) (fun h3 => ?_) (fun h3 => ?_)
  · have h3 : tag i = "loop" ∨ tag i = "block" := by simpa using h3
    obtain ⟨lp, l, b, rfl⟩ := kind34 (h3.imp (tag_loop i).mp (tag_block i).mp)
    simp only [ins] at hl
    match xs, hl with
    | [a], _ =>
      refine st_ret (ev_tup (ea_cons t0 (ea_cons t1 (ea_cons (ev_op (d := a) (ev_var rfl) ev_int ?_) ea_nil))) (by simp)) ?_
      · exact rv_ixL (at_0 _ _)
      · simp [rebD, num, tag]
  have h3 : ¬ (tag i = "loop" ∨ tag i = "block") := by simpa using h3
  refine st_ret (d := encI i) (ev_var rfl) ?_
  rcases kind_rest h h2 (fun q => h3 (q.imp (tag_loop i).mpr (tag_block i).mpr)) with ⟨n, cs', rfl⟩ | ⟨ag, l, rfl⟩
  · simp [rebD, encI]
  · simp [rebD, encI]
theorem rebD_enc {i : I} {cs : List (List I)} (hw : wfI i) (hl : cs.length = (ins i).length) : rebD i (encC cs) = encI (reb i cs) := by
  cases i with
  | act t n cs' =>
    cases t with
    | row => simp [rebD, reb, encI]
    | ifr => simp [rebD, reb, encI]
    | sw => simp [rebD, reb, encI]
  | scope lp l b =>
    match cs, hl with
    | [a], _ => simp [rebD, reb, encI, encC]
  | jmp ag l => simp [rebD, reb, encI]
theorem ok_rebuilt (T : Txt mg) (D : Df K mg "rebuilt" 11 ["item", "shapes"]) : FnOk P w K mg base CX0 1 D.a D.fd ["item", "shapes"] (spP Ts R_rebuilt) := by
  have F := ok_rebD (P := P) (w := w) (base := base) (Ts := Ts) T D
  exact F.imp fun vs H Q E ⟨k, ds, d, h1, h2, ⟨i, cs, h5, h6, h7, h8⟩, h4⟩ => ⟨k, ds, d, h1, h2, ⟨i, encC cs, h5, by rw [encC_len]; exact h6, h7, by rw [h8, rebD_enc h5 h6]⟩, h4⟩
end
end K33
end
section
set_option Elab.async false
set_option linter.all false
set_option maxRecDepth 100000
set_option maxHeartbeats 1000000
/-! L4: more of the layer. -/
namespace K33
open PySem L2
section
variable {Ts Mo : List Addr} {δ : Dl} {N : Dl → Prop} {R : Dl → PyData → Prop} {B : Dl → Prop} {RD : Dl → List (Int × PyData) → Prop} {te tx : TE} {K : PySem.W.Frag}
theorem set4 {α : Type} (l : List α) {i j : Nat} (h : i ≠ j) (a b c x : α) : ((((l.set j x).set i a).set j b).set i c) = (l.set j b).set i c := by
  rw [List.set_comm _ _ h, List.set_set, List.set_set]
/-- for x in t: l.append(e), l a list of one's own, empty -/
theorem st_mapT {i j : Nat} {ds : List PyData} (f : Nat → PyData) (h : EvD Ts te δ (.tuple ds)) (hz : ds.length < 100000) (hij : i ≠ j) (hi : i < δ.length) (h0 : ∃ x, δ = (δ.set j x).set i (own []))
    (he : ∀ (n : Nat) (d : PyData) (x : Option Sl) (ys : List PyData), ds[n]? = some d → EvD Ts tx (((δ.set j x).set i (own ys)).set j (dat d)) (f n))
    (hN : ∀ x, N ((δ.set j x).set i (own ((List.range ds.length).map f)))) :
    StX Ts Mo (tFor (iTup K te) (gName j) (tDrop (tBM K "list" rAppend (tVar i) (tCons tx tNil)))) δ N R B RD := by
  refine forT_core (fun n δ' => ∃ x, δ' = (δ.set j x).set i (own ((List.range n).map f))) h ?_ (fun n d δ' hd ⟨x, e⟩ => ?_) (fun δ' ⟨x, e⟩ => e ▸ hN x)
  · obtain ⟨x, e⟩ := h0
    exact ⟨x, by simpa using e⟩
  · subst e
    have hn : n < ds.length := (List.getElem?_eq_some_iff.mp hd).1
    refine st_append (o := none) (ds := (List.range n).map f) ?_ (he n d x _ hd) (by simp; omega) ⟨dat d, ?_⟩
    · rw [List.getElem?_set_ne (Ne.symm hij), List.getElem?_set_self (by simpa using hi)]
    · rw [set4 _ hij, List.range_succ, List.map_append]
      rfl
/-- the same over a list -/
theorem st_mapL {i j : Nat} {ds : List PyData} (f : Nat → PyData) (h : EvD Ts te δ (.list ds)) (hz : ds.length < 100000) (hij : i ≠ j) (hi : i < δ.length) (h0 : ∃ x, δ = (δ.set j x).set i (own []))
    (he : ∀ (n : Nat) (d : PyData) (x : Option Sl) (ys : List PyData), ds[n]? = some d → EvD Ts tx (((δ.set j x).set i (own ys)).set j (dat d)) (f n))
    (hN : ∀ x, N ((δ.set j x).set i (own ((List.range ds.length).map f)))) :
    StX Ts Mo (tFor (iList K te) (gName j) (tDrop (tBM K "list" rAppend (tVar i) (tCons tx tNil)))) δ N R B RD := by
  refine forL_core (fun n δ' => ∃ x, δ' = (δ.set j x).set i (own ((List.range n).map f))) h ?_ (fun n d δ' hd ⟨x, e⟩ => ?_) (fun δ' ⟨x, e⟩ => e ▸ hN x)
  · obtain ⟨x, e⟩ := h0
    exact ⟨x, by simpa using e⟩
  · subst e
    have hn : n < ds.length := (List.getElem?_eq_some_iff.mp hd).1
    refine st_append (o := none) (ds := (List.range n).map f) ?_ (he n d x _ hd) (by simp; omega) ⟨dat d, ?_⟩
    · rw [List.getElem?_set_ne (Ne.symm hij), List.getElem?_set_self (by simpa using hi)]
    · rw [set4 _ hij, List.range_succ, List.map_append]
      rfl
/-- t[:-1] -/
theorem ev_cut {ds : List PyData} {d : PyData} (h : EvD Ts te δ (.tuple (ds ++ [d]))) : EvD Ts (tSl (rSlA K) te tNoPart (tPart (tUn (rU fun i => .int (-i)) (tC (.int 1))))) δ (.tuple ds) := fun σ k H hk s Q q =>
  h σ k H hk s _ fun v k1 H1 g1 dv => by
    cases dv with
    | tup e a =>
      rename_i ad xs
      have al : xs.length = ds.length + 1 := by rw [a.length]; simp
      obtain ⟨c1, c2⟩ := cut_last xs.length (by omega)
      refine ⟨1, rfl, -1, rfl, ad, xs, rfl, SqT.of (g1.kn.sub _ _ e), fun z => ?_, fun _ p hp => ?_⟩
      · rw [c2] at z
        omega
      · have g2 := Gr.new (p := p) (o := .tup (cutV xs none (some (-1)))) g1.kn hp (fun _ => by simp)
        refine q _ _ _ (Gr.trans0 hk g1 g2) (.tup upd_same (DtA.up g2.kk _ _ ?_))
        have : cutV xs none (some (-1)) = xs.take ds.length := by
          unfold cutV
          rw [c1, c2, al]
          simp
        rw [this]
        have := a.take ds.length
        rwa [List.take_left] at this
end
section
variable {P : Program} {w : World} {K : PySem.W.Frag} {mg : Str → Option Value} {base : Heap}
/-- a promise that nobody can ask -/
theorem fn_none {Ts : List Addr} {k : Nat} {f : Addr} {fd : FuncData} {ps : List Str} {R : List PyData → PyData → Prop} (h : ∀ ds d, ¬ R ds d) : FnOk P w K mg base CX0 k f fd ps (spP Ts R) := by
  have no : ∀ vs H Q E, ¬ spP Ts R vs H Q E := fun vs H Q E z => by
    obtain ⟨_, ds, d, _, _, h3, _⟩ := z
    exact h ds d h3
  exact ⟨fun vs H Q E z => absurd z (no vs H Q E), fun A outer s H args us vs Q E _ _ _ _ z => absurd z (no vs H Q E)⟩
/-- a promise that asks more -/
theorem fn_imp {Ts : List Addr} {k : Nat} {f : Addr} {fd : FuncData} {ps : List Str} {R R' : List PyData → PyData → Prop} (F : FnOk P w K mg base CX0 k f fd ps (spP Ts R)) (h : ∀ ds d, R' ds d → R ds d) : FnOk P w K mg base CX0 k f fd ps (spP Ts R') :=
  F.imp fun vs H Q E ⟨k, ds, d, h1, h2, h3, h4⟩ => ⟨k, ds, d, h1, h2, h ds d h3, h4⟩
end
/-! shapes -/
theorem encC_length (cs : List (List I)) : (encC cs).length = cs.length := by rw [encC_map]; simp
theorem encS_length (cs : List I) : (encS cs).length = cs.length := by rw [encS_map]; simp
theorem encC_get {cs : List (List I)} {i : Nat} {d : PyData} (h : (encC cs)[i]? = some d) : ∃ s, cs[i]? = some s ∧ d = encT s := by
  rw [encC_map, List.getElem?_map] at h
  cases e : cs[i]? with
  | none => rw [e] at h; cases h
  | some s => rw [e] at h; cases h; exact ⟨s, rfl, rfl⟩
theorem encS_get {cs : List I} {i : Nat} {d : PyData} (h : (encS cs)[i]? = some d) : ∃ s, cs[i]? = some s ∧ d = encI s := by
  rw [encS_map, List.getElem?_map] at h
  cases e : cs[i]? with
  | none => rw [e] at h; cases h
  | some s => rw [e] at h; cases h; exact ⟨s, rfl, rfl⟩
theorem wfS_get : ∀ {s : List I} {n : Nat} {i : I}, wfS s → s[n]? = some i → wfI i
  | [], _, _, _, h => by simp at h
  | a :: r, 0, i, w, h => by simp at h; subst h; exact w.1
  | a :: r, n + 1, i, w, h => wfS_get (n := n) w.2 (by simpa using h)
theorem wfC_get : ∀ {s : List (List I)} {n : Nat} {i : List I}, wfC s → s[n]? = some i → wfS i
  | [], _, _, _, h => by simp at h
  | a :: r, 0, i, w, h => by simp at h; subst h; exact w.1
  | a :: r, n + 1, i, w, h => wfC_get (n := n) w.2 (by simpa using h)
theorem wf_ins {i : I} (h : wfI i) : wfC (ins i) := by
  cases i with
  | act t n cs => exact h.2
  | scope lp l b => exact ⟨h, trivial⟩
  | jmp ag l => trivial
theorem ins_len {i : I} (h : wfI i) : (ins i).length ≤ 16 := by
  cases i with
  | act t n cs =>
    cases t with
    | row => simp only [wfI] at h; simp [ins, h.1]
    | ifr => simp only [wfI] at h; simp [ins, h.1]
    | sw => simp only [wfI] at h; exact h.1
  | scope lp l b => simp [ins]
  | jmp ag l => simp [ins]
theorem dpS_get : ∀ {s : List I} {n : Nat} {i : I}, s[n]? = some i → dpI i ≤ dpS s
  | [], _, _, h => by simp at h
  | a :: r, 0, i, h => by simp at h; subst h; simp only [dpS]; omega
  | a :: r, n + 1, i, h => by have := dpS_get (s := r) (n := n) (i := i) (by simpa using h); simp only [dpS]; omega
theorem dpC_get : ∀ {s : List (List I)} {n : Nat} {i : List I}, s[n]? = some i → dpS i ≤ dpC s
  | [], _, _, h => by simp at h
  | a :: r, 0, i, h => by simp at h; subst h; simp only [dpC]; omega
  | a :: r, n + 1, i, h => by have := dpC_get (s := r) (n := n) (i := i) (by simpa using h); simp only [dpC]; omega
theorem dp_ins (i : I) : dpI i = 1 + dpC (ins i) := by
  cases i with
  | act t n cs => rfl
  | scope lp l b => simp [dpI, ins, dpC]
  | jmp ag l => simp [dpI, ins, dpC]
theorem szS_get : ∀ {s : List I} {n : Nat} {i : I}, s[n]? = some i → szI i ≤ szS s
  | [], _, _, h => by simp at h
  | a :: r, 0, i, h => by simp at h; subst h; simp only [szS]; omega
  | a :: r, n + 1, i, h => by have := szS_get (s := r) (n := n) (i := i) (by simpa using h); simp only [szS]; omega
theorem szC_get : ∀ {s : List (List I)} {n : Nat} {i : List I}, s[n]? = some i → szS i ≤ szC s
  | [], _, _, h => by simp at h
  | a :: r, 0, i, h => by simp at h; subst h; simp only [szC]; omega
  | a :: r, n + 1, i, h => by have := szC_get (s := r) (n := n) (i := i) (by simpa using h); simp only [szC]; omega
theorem sz_ins (i : I) : szC (ins i) ≤ szI i := by
  cases i with
  | act t n cs => simp [ins, szI]
  | scope lp l b => simp only [ins, szC, szI]; omega
  | jmp ag l => simp [ins, szC]
theorem len_sz : ∀ s : List I, s.length ≤ szS s
  | [] => by simp
  | i :: r => by
    have := len_sz r
    have : 1 ≤ szI i := by cases i <;> simp [szI] <;> omega
    simp only [szS, List.length_cons]
    omega
theorem depth_leave (l : Nat) : (PyData.tuple [.str "leave", pI l]).depth = 1 := by simp [PyData.depth, PyData.depthAll]
theorem lay_leave (l : Nat) : (PyData.tuple [.str "leave", pI l]).canLay0 = true := lay_I (.jmp false l)
section
variable {Ts : List Addr} {δ : Dl} {te : TE} {K : PySem.W.Frag}
/-- item == ("leave", label) -/
theorem ev_isLeave {i : I} {l j : Nat} (h : EvD Ts te δ (encI i)) (e : δ[j]? = some (dat (pI l))) : EvD Ts (tOp (rEqW K) te (tTup (tCons (tC (.str "leave")) (tCons (tVar j) tNil)))) δ (.bool (isLeave l i)) := by
  refine ev_is (ev_op h (ev_tup (ea_cons ev_str (ea_cons (ev_var e) ea_nil)) (by simp)) (rv_eqW (lay_I i) (lay_leave l) ?_)) (by rw [eqv_leave])
  rw [depth_leave]
  omega
end
end K33
end
section
set_option Elab.async false
set_option linter.all false
set_option maxRecDepth 100000
set_option maxHeartbeats 4000000
/-! W2: counted, leaves, drop_at_end, put_in, simple_block, simplify. -/
namespace K33
open PySem L2
section
variable {P : Program} {w : World} {K : PySem.W.Frag} {mg : Str → Option Value} {base : Heap} {Ts : List Addr}
/-! ### counted -/
theorem cnt_step (wl : Bool) (l : Nat) (i : I) : cntI wl l i = if isLeave l i = true then 1 else if ((tag i ≠ "block" ∨ num i ≠ l) ∧ (tag i ≠ "loop" ∨ wl = true)) then cntC wl l (ins i) else 0 := by
  simp only [ne_eq, tag_block, tag_loop]
  cases i with
  | act t n cs => cases t <;> simp [cntI, isLeave, kindI, ins]
  | scope lp l' b =>
    cases lp with
    | true => simp [cntI, isLeave, kindI, ins, cntC]
    | false => by_cases q : l' = l <;> simp [cntI, isLeave, kindI, ins, cntC, num, q]
  | jmp ag l' =>
    cases ag with
    | true => simp [cntI, isLeave, kindI, ins, cntC]
    | false => by_cases q : l' = l <;> simp [cntI, isLeave, kindI, ins, cntC, q]
theorem cntS_snoc (wl : Bool) (l : Nat) {s : List I} {n : Nat} {i : I} (h : s[n]? = some i) : cntS wl l (s.take (n + 1)) = cntS wl l (s.take n) + cntI wl l i := by
  rw [List.take_add_one, h, cntS_app]
  simp [cntS]
theorem cntC_app (wl : Bool) (l : Nat) : ∀ (s r : List (List I)), cntC wl l (s ++ r) = cntC wl l s + cntC wl l r
  | [], r => by simp [cntC]
  | i :: s, r => by
    show cntC wl l (i :: (s ++ r)) = _
    simp only [cntC, cntC_app wl l s r, Nat.add_assoc]
theorem cntC_snoc (wl : Bool) (l : Nat) {s : List (List I)} {n : Nat} {i : List I} (h : s[n]? = some i) : cntC wl l (s.take (n + 1)) = cntC wl l (s.take n) + cntS wl l i := by
  rw [List.take_add_one, h, cntC_app]
  simp [cntC]
theorem sc_counted : FnScope ["shape", "label", "with_loops", "total", "item", "inner"] ["shape", "label", "with_loops"] (defScope (topS 12)) := ⟨rfl, rfl, rfl, by decide +kernel, rfl, by decide +kernel, by decide +kernel⟩
def R_counted (n : Nat) (ds : List PyData) (d : PyData) : Prop := ∃ (s : List I) (l : Nat) (wl : Bool), dpS s < n ∧ wfS s ∧ ds = [encT s, pI l, .bool wl] ∧ d = pI (cntS wl l s)
theorem ok_counted {n : Nat} (D_insides : Df K mg "insides" 10 ["item"]) (D : Df K mg "counted" 12 ["shape", "label", "with_loops"]) (G : FnOk P w K mg base CX0 (n + 1) D.a D.fd ["shape", "label", "with_loops"] (spP Ts (R_counted n))) :
    FnOk P w K mg base CX0 (n + 2) D.a D.fd ["shape", "label", "with_loops"] (spP Ts (R_counted (n + 1))) := by
  have sc := sc_counted
  have G_insides := ok_insides (P := P) (w := w) (base := base) (Ts := Ts) D_insides
  refine fn_pure D.F sc (fun ds d h => ?_) (fun cdv A outer s H E ds d hr h => ?_)
  · obtain ⟨_, _, _, _, _, rfl, _⟩ := h; rfl
  obtain ⟨s, l, wl, hd, hw, rfl, rfl⟩ := h
  refine ⟨_, (pss_cons (ps_set (i := 3) sc.nd rfl (Or.inl rfl) pe_int)
    (pss_cons (ps_for PassesOwn.never rfl (pi_tup (pv 0)) (pg_name (i := 4) sc.nd rfl (Or.inl rfl))
      (pss_one (ps_if (pt_cmpR (op_eqW hr) (pv 4) (pe_tup (pa_cons pe_str (pa_cons (pv 1) pa_nil))) (nomark _))
        (pss_one (ps_aug (i := 3) sc.nd rfl (Or.inl rfl) pe_int ip_add))
        (pss_one (ps_if (PW.pt (pw_and (PW.pt (pw_or (pt_cmpR op_ne (pe_ix ix_seq (pv 4) pe_int (fun _ _ => rfl)) pe_str (nomark _)) (pw_or1 (pt_cmpR op_ne (pe_ix ix_seq (pv 4) pe_int (fun _ _ => rfl)) (pv 1) (nomark _))))) (pw_and1 (PW.pt (pw_or (pt_cmpR op_ne (pe_ix ix_seq (pv 4) pe_int (fun _ _ => rfl)) pe_str (nomark _)) (pw_or1 (pt_truth (pv 2) (by intro _; rfl))))))))
          (pss_one (ps_for PassesOwn.never rfl (pi_tup (pe_call G_insides (hr.mono (by omega)) rfl D_insides.m D_insides.F.kp D_insides.b .nil pass0 (pa_cons (pv 4) pa_nil))) (pg_name (i := 5) sc.nd rfl (Or.inl rfl))
            (pss_one (ps_aug (i := 3) sc.nd rfl (Or.inl rfl) (pe_call G (hr.mono (by omega)) rfl D.m D.F.kp D.b .nil pass0 (pa_cons (pv 5) (pa_cons (pv 1) (pa_cons (pv 2) pa_nil)))) ip_add))))
          pss_nil)))))
    (pss_one (ps_ret (pv 3))))), ?_⟩
  refine st_seq1 (st_asg ev_int rfl) ?_
  refine st_seq (N := fun δ => ∃ x4 x5, δ = [dat (encT s), dat (pI l), dat (.bool wl), dat (pI (cntS wl l s)), x4, x5]) ?_ fun δ' ⟨x4, x5, e⟩ => e ▸ st_ret (ev_var rfl) rfl
  refine forT_core (fun j δ => ∃ x4 x5, δ = [dat (encT s), dat (pI l), dat (.bool wl), dat (pI (cntS wl l (s.take j))), x4, x5]) (ev_var rfl) ⟨none, none, by simp [cntS]; rfl⟩ (fun j d δ' hj ⟨x4, x5, e⟩ => ?_) (fun δ' ⟨x4, x5, e⟩ => ⟨x4, x5, by rw [e, encS_length, List.take_length]⟩)
  obtain ⟨i, hi, rfl⟩ := encS_get hj
  have hwi := wfS_get hw hi
  have hdi := dpS_get hi
  rw [dp_ins] at hdi
  subst e
  have step := cnt_step wl l i
  have snoc := cntS_snoc wl l hi
  refine st_if (eb_test (ev_isLeave (ev_var rfl) rfl)) (fun hl => ?_) (fun hl => ?_)
  · rw [if_pos hl] at step
    refine st_aug rfl ev_int ⟨dat (encI i), x5, ?_⟩
    rw [snoc, step]
    rfl
  rw [if_neg (by simp [hl])] at step
  have t0 := @ev_tag Ts [dat (encT s), dat (pI l), dat (.bool wl), dat (pI (cntS wl l (s.take j))), dat (encI i), x5] (tVar 4) (tC (.int 0)) K i (ev_var rfl) ev_int
  have t1 := @ev_num Ts [dat (encT s), dat (pI l), dat (.bool wl), dat (pI (cntS wl l (s.take j))), dat (encI i), x5] (tVar 4) (tC (.int 1)) K i (ev_var rfl) ev_int
  refine st_if (eb_and (eb_or (eb_test (ev_op t0 ev_str rv_neS)) (fun _ => eb_test (ev_op t1 (ev_var rfl) rv_neN))) (fun _ => eb_or (eb_test (ev_op t0 ev_str rv_neS)) (fun _ => eb_truth (ev_var rfl) rfl))) (fun hc => ?_) (fun hc => ?_)
  · have hc : (tag i ≠ "block" ∨ num i ≠ l) ∧ (tag i ≠ "loop" ∨ wl = true) := by simpa using hc
    rw [if_pos hc] at step
    refine forT_core (fun m δ => ∃ y5, δ = [dat (encT s), dat (pI l), dat (.bool wl), dat (pI (cntS wl l (s.take j) + cntC wl l ((ins i).take m))), dat (encI i), y5]) (ev_call (ea_cons (ev_var rfl) ea_nil) ⟨i, hwi, rfl, rfl⟩) ⟨x5, by simp [cntC]⟩ (fun m d δ' hm ⟨y5, e⟩ => ?_) (fun δ' ⟨y5, e⟩ => ⟨dat (encI i), y5, ?_⟩)
    · obtain ⟨c, hc2, rfl⟩ := encC_get hm
      subst e
      have hdc := dpC_get hc2
      refine st_aug rfl (ev_call (ea_cons (ev_var rfl) (ea_cons (ev_var rfl) (ea_cons (ev_var rfl) ea_nil))) ⟨c, l, wl, by omega, wfC_get (wf_ins hwi) hc2, rfl, rfl⟩) ⟨dat (encT c), ?_⟩
      rw [cntC_snoc wl l hc2]
      simp [List.set, pI, Int.add_assoc]
    · rw [e, encC_length, List.take_length, snoc, step]
  · have hc : ¬ ((tag i ≠ "block" ∨ num i ≠ l) ∧ (tag i ≠ "loop" ∨ wl = true)) := by
      intro z
      have : (!decide (tag i = Str.ofString "block") || !decide (num i = l)) = true ∧ (!decide (tag i = Str.ofString "loop") || wl) = true := by simpa using z
      rw [this.1, this.2] at hc
      cases hc
    rw [if_neg hc] at step
    refine st_next ⟨dat (encI i), x5, ?_⟩
    rw [snoc, step]
    rfl
theorem all_counted (D_insides : Df K mg "insides" 10 ["item"]) (D : Df K mg "counted" 12 ["shape", "label", "with_loops"]) : ∀ n, FnOk P w K mg base CX0 (n + 1) D.a D.fd ["shape", "label", "with_loops"] (spP Ts (R_counted n))
  | 0 => fn_none fun ds d h => by obtain ⟨s, l, wl, h, _⟩ := h; omega
  | n + 1 => ok_counted D_insides D (all_counted D_insides D n)
/-! ### leaves -/
theorem sc_leaves : FnScope ["shape", "label"] ["shape", "label"] (defScope (topS 13)) := ⟨rfl, rfl, rfl, by decide +kernel, rfl, by decide +kernel, by decide +kernel⟩
def R_leaves (n : Nat) (ds : List PyData) (d : PyData) : Prop := ∃ (s : List I) (l : Nat), dpS s < n ∧ wfS s ∧ ds = [encT s, pI l] ∧ d = pI (cntS true l s)
theorem ok_leaves {n : Nat} (D_insides : Df K mg "insides" 10 ["item"]) (D_counted : Df K mg "counted" 12 ["shape", "label", "with_loops"]) (D : Df K mg "leaves" 13 ["shape", "label"]) :
    FnOk P w K mg base CX0 (n + 2) D.a D.fd ["shape", "label"] (spP Ts (R_leaves n)) := by
  have sc := sc_leaves
  have G_counted := all_counted (P := P) (w := w) (base := base) (Ts := Ts) D_insides D_counted n
  refine fn_pure D.F sc (fun ds d h => ?_) (fun cdv A outer s H E ds d hr h => ?_)
  · obtain ⟨_, _, _, _, rfl, _⟩ := h; rfl
  obtain ⟨s, l, hd, hw, rfl, rfl⟩ := h
  refine ⟨_, (pss_one (ps_ret (pe_call G_counted (hr.mono (by omega)) rfl D_counted.m D_counted.F.kp D_counted.b .nil pass0 (pa_cons (pv 0) (pa_cons (pv 1) (pa_cons pe_bl pa_nil)))))), ?_⟩
  exact st_ret (ev_call (ea_cons (ev_var rfl) (ea_cons (ev_var rfl) (ea_cons ev_bl ea_nil))) ⟨s, l, true, hd, hw, rfl, rfl⟩) rfl
/-! ### drop_at_end -/
theorem dropC_map (l : Nat) (cs : List (List I)) : dropC l cs = cs.map (dropS l) := by induction cs with
  | nil => simp [dropC]
  | cons s r ih => simp [dropC, ih]
theorem dropI_step (l : Nat) (i : I) : dropI l i = if isLeave l i = true then [] else if tag i = "block" ∧ num i = l then [i] else [reb i ((ins i).map (dropS l))] := by
  simp only [tag_block]
  cases i with
  | act t n cs => cases t <;> simp [dropI, isLeave, kindI, ins, reb, dropC_map]
  | scope lp l' b =>
    cases lp with
    | true => simp [dropI, isLeave, kindI, ins, reb]
    | false => by_cases q : l' = l <;> simp [dropI, isLeave, kindI, ins, reb, num, q]
  | jmp ag l' =>
    cases ag with
    | true => simp [dropI, isLeave, kindI, ins, reb]
    | false => by_cases q : l' = l <;> simp [dropI, isLeave, kindI, ins, reb, q]
theorem dropS_snoc (l : Nat) : ∀ (s : List I) (i : I), dropS l (s ++ [i]) = s ++ dropI l i
  | [], i => by simp [dropS]
  | [a], i => by simp [dropS]
  | a :: b :: s, i => by
    have := dropS_snoc l (b :: s) i
    show dropS l (a :: b :: (s ++ [i])) = _
    rw [dropS]
    show a :: dropS l ((b :: s) ++ [i]) = _
    rw [this]
    rfl
theorem snoc_of {α : Type} {s : List α} (h : s ≠ []) : ∃ r i, s = r ++ [i] := ⟨s.dropLast, s.getLast h, (List.dropLast_concat_getLast h).symm⟩
theorem encS_app (s r : List I) : encS (s ++ r) = encS s ++ encS r := by simp [encS_map]
theorem dpS_app : ∀ (s r : List I), dpS (s ++ r) = max (dpS s) (dpS r)
  | [], r => by simp [dpS]
  | i :: s, r => by
    show dpS (i :: (s ++ r)) = _
    simp only [dpS, dpS_app s r]
    omega
theorem wfS_app : ∀ (s r : List I), wfS (s ++ r) ↔ wfS s ∧ wfS r
  | [], r => by simp [wfS]
  | i :: s, r => by
    show wfS (i :: (s ++ r)) ↔ _
    simp only [wfS, wfS_app s r, and_assoc]
theorem range_map {α β : Type} (l : List α) (f : α → β) (g : Nat → β) (h : ∀ n a, l[n]? = some a → g n = f a) : (List.range l.length).map g = l.map f := by
  apply List.ext_getElem?
  intro n
  rw [List.getElem?_map, List.getElem?_map]
  by_cases q : n < l.length
  · rw [List.getElem?_range q, List.getElem?_eq_getElem q]
    simp [h n _ (List.getElem?_eq_getElem q)]
  · rw [List.getElem?_eq_none (by simpa using q), List.getElem?_eq_none (by simpa using q)]
    rfl
/-- f of the n-th shape -/
def atC (cs : List (List I)) (f : List I → List I) (n : Nat) : PyData := encT (f (cs.getD n []))
theorem atC_map (cs : List (List I)) (f : List I → List I) : (List.range (encC cs).length).map (atC cs f) = encC (cs.map f) := by
  rw [encC_length, range_map cs (fun c => encT (f c)) _ (fun n a h => by unfold atC; rw [List.getD_eq_getElem?_getD, h]; rfl), encC_map, List.map_map]
  rfl
theorem atC_get {cs : List (List I)} {n : Nat} {c : List I} (h : cs[n]? = some c) (f : List I → List I) : atC cs f n = encT (f c) := by
  unfold atC; rw [List.getD_eq_getElem?_getD, h]; rfl
theorem sc_drop : FnScope ["shape", "label", "last", "shapes", "inner"] ["shape", "label"] (defScope (topS 14)) := ⟨rfl, rfl, rfl, by decide +kernel, rfl, by decide +kernel, by decide +kernel⟩
def R_drop (n : Nat) (ds : List PyData) (d : PyData) : Prop := ∃ (s : List I) (l : Nat), dpS s < n ∧ wfS s ∧ szS s ≤ 2000 ∧ ds = [encT s, pI l] ∧ d = encT (dropS l s)
theorem ok_drop {n : Nat} (T : Txt mg) (D_insides : Df K mg "insides" 10 ["item"]) (D_rebuilt : Df K mg "rebuilt" 11 ["item", "shapes"]) (D : Df K mg "drop_at_end" 14 ["shape", "label"]) (G : FnOk P w K mg base CX0 (n + 1) D.a D.fd ["shape", "label"] (spP Ts (R_drop n))) :
    FnOk P w K mg base CX0 (n + 2) D.a D.fd ["shape", "label"] (spP Ts (R_drop (n + 1))) := by
  have sc := sc_drop
  have G_insides := ok_insides (P := P) (w := w) (base := base) (Ts := Ts) D_insides
  have G_rebuilt := ok_rebuilt (P := P) (w := w) (base := base) (Ts := Ts) T D_rebuilt
  refine fn_pure D.F sc (fun ds d h => ?_) (fun cdv A outer s H E ds d hr h => ?_)
  · obtain ⟨_, _, _, _, _, rfl, _⟩ := h; rfl
  obtain ⟨s, l, hd, hw, hz, rfl, rfl⟩ := h
  refine ⟨_, (pss_cons (ps_if (pt_not (pt_truth (pv 0) (by intro _; rfl)))
      (pss_one (ps_ret (pv 0)))
      pss_nil)
    (pss_cons (ps_set (i := 2) sc.nd rfl (Or.inl rfl) (pe_ix ix_seq (pv 0) (pe_un un_neg pe_int) (fun _ _ => rfl)))
    (pss_cons (ps_if (pt_cmpR (op_eqW hr) (pv 2) (pe_tup (pa_cons pe_str (pa_cons (pv 1) pa_nil))) (nomark _))
      (pss_one (ps_ret (pe_slice sl_tupA (pv 0) po_none (po_some (pe_un un_neg pe_int)))))
      pss_nil)
    (pss_cons (ps_if (PW.pt (pw_and (pt_cmpR op_eq (pe_ix ix_seq (pv 2) pe_int (fun _ _ => rfl)) pe_str (nomark _)) (pw_and1 (pt_cmpR op_eq (pe_ix ix_seq (pv 2) pe_int (fun _ _ => rfl)) (pv 1) (nomark _)))))
      (pss_one (ps_ret (pv 0)))
      pss_nil)
    (pss_cons (ps_set (i := 3) sc.nd rfl (Or.inl rfl) (pe_lst pa_nil))
    (pss_cons (ps_for PassesOwn.never rfl (pi_tup (pe_call G_insides (hr.mono (by omega)) rfl D_insides.m D_insides.F.kp D_insides.b .nil pass0 (pa_cons (pv 2) pa_nil))) (pg_name (i := 4) sc.nd rfl (Or.inl rfl))
      (pss_one (ps_expr (pe_bm PySem.F.plainAttrs_list PySem.F.slot_list_append PySem.F.type_list_append mt_append (pv 3) (pa_cons (pe_call G (hr.mono (by omega)) rfl D.m D.F.kp D.b .nil pass0 (pa_cons (pv 4) (pa_cons (pv 1) pa_nil))) pa_nil)))))
    (pss_one (ps_ret (pe_op op_catA (pe_slice sl_tupA (pv 0) po_none (po_some (pe_un un_neg pe_int))) (pe_tup (pa_cons (pe_call G_rebuilt (hr.mono (by omega)) rfl D_rebuilt.m D_rebuilt.F.kp D_rebuilt.b .nil pass0 (pa_cons (pv 2) (pa_cons (pv 3) pa_nil))) pa_nil))))))))))), ?_⟩
  refine st_ifr (eb_not (eb_truth (ev_var rfl) rfl)) (fun h => ?_) (fun h => ?_)
  · have : s = [] := by
      cases s with
      | nil => rfl
      | cons i r => simp [encS] at h
    subst this
    refine st_ret (ev_var rfl) (by simp [dropS])
  have hne : s ≠ [] := fun q => by subst q; simp [encS] at h
  obtain ⟨r, i, rfl⟩ := snoc_of hne
  have ei : encS (r ++ [i]) = encS r ++ [encI i] := by rw [encS_app]; simp [encS]
  have hwi : wfI i := ((wfS_app r [i]).mp hw).2.1
  have hdi : dpI i < n + 1 := by rw [dpS_app] at hd; simp only [dpS] at hd; omega
  rw [dp_ins] at hdi
  have hzr : r.length ≤ 2000 := by have := len_sz (r ++ [i]); rw [List.length_append] at this; omega
  have step := dropI_step l i
  have snoc := dropS_snoc l r i
  rw [snoc]
  simp only [encT, ei]
  refine st_seq1 (st_asg (ev_op (ev_var rfl) (ev_un ev_int ru_neg) (rv_ixT (at_last _ _))) rfl) ?_
  refine st_ifr (eb_test (ev_isLeave (ev_var rfl) rfl)) (fun hl => ?_) (fun hl => ?_)
  · rw [if_pos hl] at step
    refine st_ret (ev_cut (ev_var rfl)) (by rw [step]; simp)
  rw [if_neg (by simp [hl])] at step
  have t0 := @ev_tag Ts [dat (.tuple (encS r ++ [encI i])), dat (pI l), dat (encI i), none, none] (tVar 2) (tC (.int 0)) K i (ev_var rfl) ev_int
  have t1 := @ev_num Ts [dat (.tuple (encS r ++ [encI i])), dat (pI l), dat (encI i), none, none] (tVar 2) (tC (.int 1)) K i (ev_var rfl) ev_int
  refine st_ifr (eb_and (eb_test (ev_op t0 ev_str rv_eqS)) (fun _ => eb_test (ev_op t1 (ev_var rfl) rv_eqN))) (fun hc => ?_) (fun hc => ?_)
  · have hc : tag i = "block" ∧ num i = l := by simpa using hc
    rw [if_pos hc] at step
    refine st_ret (ev_var rfl) (by rw [step, encS_app]; simp [encS])
  have hc : ¬ (tag i = "block" ∧ num i = l) := by
    intro z
    simp [z.1, z.2] at hc
  rw [if_neg hc] at step
  refine st_seq1 (st_new ea_nil (by simp) rfl) ?_
  refine st_seq (N := fun δ => ∃ x, δ = [dat (.tuple (encS r ++ [encI i])), dat (pI l), dat (encI i), own (encC ((ins i).map (dropS l))), x]) ?_ fun δ' ⟨x, e⟩ => e ▸ ?_
  · refine st_mapT (i := 3) (j := 4) (atC (ins i) (dropS l)) (ev_call (ea_cons (ev_var rfl) ea_nil) ⟨i, hwi, rfl, rfl⟩) ?_ (by decide) (by simp [startD]) ⟨none, rfl⟩ (fun m d x ys hm => ?_) (fun x => ⟨x, by rw [atC_map]; rfl⟩)
    · rw [encC_length]; have := ins_len hwi; omega
    · obtain ⟨c, hc2, rfl⟩ := encC_get hm
      have hdc := dpC_get hc2
      have hzc := szC_get hc2
      have hzi := sz_ins i
      have hzz : szI i ≤ szS (r ++ [i]) := by rw [szS_app]; simp only [szS]; omega
      rw [atC_get hc2]
      exact ev_call (ea_cons (ev_var rfl) (ea_cons (ev_var rfl) ea_nil)) ⟨c, l, by omega, wfC_get (wf_ins hwi) hc2, by omega, rfl, rfl⟩
  · refine st_keep (i := 3) rfl ?_
    refine st_ret (ev_op (ev_cut (ev_var rfl)) (ev_tup (ea_cons (ev_call (ea_cons (ev_var rfl) (ea_cons (ev_var rfl) ea_nil)) ⟨i, (ins i).map (dropS l), hwi, by simp, rfl, rfl⟩) ea_nil) (by simp)) (rv_catT ?_)) ?_
    · rw [encS_length]; simp; omega
    · rw [step, encS_app]; simp [encS]
theorem all_drop (T : Txt mg) (D_insides : Df K mg "insides" 10 ["item"]) (D_rebuilt : Df K mg "rebuilt" 11 ["item", "shapes"]) (D : Df K mg "drop_at_end" 14 ["shape", "label"]) : ∀ n, FnOk P w K mg base CX0 (n + 1) D.a D.fd ["shape", "label"] (spP Ts (R_drop n))
  | 0 => fn_none fun ds d h => by obtain ⟨s, l, h, _⟩ := h; omega
  | n + 1 => ok_drop T D_insides D_rebuilt D (all_drop T D_insides D_rebuilt D n)
end
end K33
end
section
set_option Elab.async false
set_option linter.all false
set_option maxRecDepth 100000
set_option maxHeartbeats 4000000
/-! W3: put_in, simple_block, simplify. -/
namespace K33
open PySem L2
/-! plain -/
theorem encT_snoc (s : List I) (i : I) : encT (s ++ [i]) = .tuple (encS s ++ [encI i]) := by show PyData.tuple _ = _; rw [encS_app]; simp [encS]
theorem putC_map (l : Nat) (rest : List I) (cs : List (List I)) : putC l rest cs = cs.map (putS l rest) := by induction cs with
  | nil => simp [putC]
  | cons s r ih => simp [putC, ih]
theorem putI_step (l : Nat) (rest : List I) (i : I) : putI l rest i = if isLeave l i = true then rest else if tag i = "block" ∧ num i = l then [i] else [reb i ((ins i).map (putS l rest))] := by
  simp only [tag_block]
  cases i with
  | act t n cs => cases t <;> simp [putI, isLeave, kindI, ins, reb, putC_map]
  | scope lp l' b =>
    cases lp with
    | true => simp [putI, isLeave, kindI, ins, reb]
    | false => by_cases q : l' = l <;> simp [putI, isLeave, kindI, ins, reb, num, q]
  | jmp ag l' =>
    cases ag with
    | true => simp [putI, isLeave, kindI, ins, reb]
    | false => by_cases q : l' = l <;> simp [putI, isLeave, kindI, ins, reb, q]
theorem putS_app (l : Nat) (rest : List I) : ∀ (s r : List I), putS l rest (s ++ r) = putS l rest s ++ putS l rest r
  | [], r => by simp [putS]
  | i :: s, r => by
    show putS l rest (i :: (s ++ r)) = _
    simp only [putS, putS_app l rest s r, List.append_assoc]
theorem putS_snoc (l : Nat) (rest : List I) {s : List I} {n : Nat} {i : I} (h : s[n]? = some i) : putS l rest (s.take (n + 1)) = putS l rest (s.take n) ++ putI l rest i := by
  rw [List.take_add_one, h, putS_app]
  simp [putS]
theorem szS_take (s : List I) (n : Nat) : szS (s.take n) ≤ szS s := by
  have := szS_app (s.take n) (s.drop n)
  rw [List.take_append_drop] at this
  omega
theorem cntS_take (wl : Bool) (l : Nat) (s : List I) (n : Nat) : cntS wl l (s.take n) ≤ cntS wl l s := by
  have := cntS_app wl l (s.take n) (s.drop n)
  rw [List.take_append_drop] at this
  omega
theorem cntC_take (wl : Bool) (l : Nat) (s : List (List I)) (n : Nat) : cntC wl l (s.take n) ≤ cntC wl l s := by
  have := cntC_app wl l (s.take n) (s.drop n)
  rw [List.take_append_drop] at this
  omega
theorem cntS_get (wl : Bool) (l : Nat) {s : List I} {n : Nat} {i : I} (h : s[n]? = some i) : cntI wl l i ≤ cntS wl l s := by
  have := cntS_snoc wl l h
  have := cntS_take wl l s (n + 1)
  omega
theorem cntC_get (wl : Bool) (l : Nat) {s : List (List I)} {n : Nat} {i : List I} (h : s[n]? = some i) : cntS wl l i ≤ cntC wl l s := by
  have := cntC_snoc wl l h
  have := cntC_take wl l s (n + 1)
  omega
theorem put_len {l : Nat} {rest s : List I} (h : cntS true l s ≤ 1) (n : Nat) : (putS l rest (s.take n)).length ≤ szS s + szS rest := by
  have h1 := len_sz (putS l rest (s.take n))
  have h2 := (wtS_put l rest (s.take n)).2
  have h3 := szS_take s n
  have h4 := cntS_take true l s n
  have h5 : cntS true l (s.take n) * szS rest ≤ 1 * szS rest := Nat.mul_le_mul_right _ (by omega)
  omega
mutual
theorem wf_putI (l : Nat) {rest : List I} (hr : wfS rest) : ∀ i : I, wfI i → wfS (putI l rest i)
  | .act t n cs, h => by
    simp only [wfI] at h
    simp only [putI, wfS, wfI, and_true]
    refine ⟨?_, wf_putC l hr cs h.2⟩
    rw [putC_map]
    cases t <;> simp_all
  | .scope true l' b, h => by
    simp only [wfI] at h
    simp only [putI, wfS, wfI, and_true]
    exact wf_putS l hr b h
  | .scope false l' b, h => by
    simp only [wfI] at h
    simp only [putI]
    split <;> simp only [wfS, wfI, and_true]
    · exact h
    · exact wf_putS l hr b h
  | .jmp true l', h => by simp [putI, wfS, wfI]
  | .jmp false l', h => by
    simp only [putI]
    split
    · exact hr
    · simp [wfS, wfI]
theorem wf_putS (l : Nat) {rest : List I} (hr : wfS rest) : ∀ s : List I, wfS s → wfS (putS l rest s)
  | [], h => by simp [putS, wfS]
  | i :: r, h => by
    simp only [putS, wfS_app]
    exact ⟨wf_putI l hr i h.1, wf_putS l hr r h.2⟩
theorem wf_putC (l : Nat) {rest : List I} (hr : wfS rest) : ∀ s : List (List I), wfC s → wfC (putC l rest s)
  | [], h => by simp [putC, wfC]
  | i :: r, h => by
    simp only [putC, wfC]
    exact ⟨wf_putS l hr i h.1, wf_putC l hr r h.2⟩
end
mutual
theorem wf_dropI (l : Nat) : ∀ i : I, wfI i → wfS (dropI l i) ∧ dpS (dropI l i) ≤ dpI i
  | .act t n cs, h => by
    simp only [wfI] at h
    have q := wf_dropC l cs h.2
    simp only [dropI, wfS, wfI, and_true, dpS, dpI]
    refine ⟨⟨?_, q.1⟩, by omega⟩
    rw [dropC_map]
    cases t <;> simp_all
  | .scope true l' b, h => by
    simp only [wfI] at h
    have q := wf_dropS l b h
    simp only [dropI, wfS, wfI, and_true, dpS, dpI]
    exact ⟨q.1, by omega⟩
  | .scope false l' b, h => by
    simp only [wfI] at h
    have q := wf_dropS l b h
    simp only [dropI]
    split <;> simp only [wfS, wfI, and_true, dpS, dpI]
    · exact ⟨h, by omega⟩
    · exact ⟨q.1, by omega⟩
  | .jmp true l', h => by simp [dropI, wfS, wfI, dpS, dpI]
  | .jmp false l', h => by
    simp only [dropI]
    split <;> simp [wfS, wfI, dpS, dpI]
theorem wf_dropS (l : Nat) : ∀ s : List I, wfS s → wfS (dropS l s) ∧ dpS (dropS l s) ≤ dpS s
  | [], h => by simp [dropS, wfS]
  | [i], h => by
    have := wf_dropI l i h.1
    simp only [dropS, dpS]
    exact ⟨this.1, by omega⟩
  | i :: j :: r, h => by
    have d : dropS l (i :: j :: r) = i :: dropS l (j :: r) := by rw [dropS]
    have := wf_dropS l (j :: r) h.2
    rw [d]
    refine ⟨⟨h.1, this.1⟩, ?_⟩
    rw [dpS]
    conv => rhs; rw [dpS]
    omega
theorem wf_dropC (l : Nat) : ∀ s : List (List I), wfC s → wfC (dropC l s) ∧ dpC (dropC l s) ≤ dpC s
  | [], h => by simp [dropC, wfC]
  | i :: r, h => by
    have h1 := wf_dropS l i h.1
    have h2 := wf_dropC l r h.2
    simp only [dropC, wfC, dpC]
    exact ⟨⟨h1.1, h2.1⟩, by omega⟩
end
theorem simple_wf {l : Nat} {b r : List I} (hb : wfS b) (hr : wfS r) : wfS (simpleBlock l b r) ∧ wtS (simpleBlock l b r) ≤ 1 + wtS b + wtS r ∧ szS (simpleBlock l b r) ≤ 1 + szS b + szS r := by
  unfold simpleBlock
  have d1 := (wf_dropS l b hb).1
  have d2 := wtS_drop l b
  split
  · rename_i c
    have q := wtS_put l r b
    rw [c.1] at q
    exact ⟨wf_putS l hr b hb, by omega, by omega⟩
  · split
    · simp only [wfS, wfI, wtS, wtI, szS, szI]
      exact ⟨⟨d1, hr⟩, by omega, by omega⟩
    · split
      · exact ⟨d1, by omega, by omega⟩
      · rw [wfS_app, wtS_app, szS_app]
        exact ⟨⟨d1, hr⟩, by omega, by omega⟩
mutual
theorem sim_wfI : ∀ (i : I) (r : List I), wfI i → wfS r → wfS (simI i r) ∧ wtS (simI i r) ≤ wtI i + wtS r ∧ szS (simI i r) ≤ szI i + szS r
  | .act t n cs, r, h, hr => by
    simp only [wfI] at h
    obtain ⟨h1, h2, h3, h4⟩ := sim_wfC cs h.2
    simp only [simI, wfS, wfI, wtS, wtI, szS, szI]
    refine ⟨⟨⟨?_, h1⟩, hr⟩, by omega, by omega⟩
    cases t with
    | row => have := h.1; simp only at this; simp [this, simC]
    | ifr => simp only; rw [h4]; exact h.1
    | sw => simp only; rw [h4]; exact h.1
  | .scope true l b, r, h, hr => by
    simp only [wfI] at h
    obtain ⟨h1, h2, h3⟩ := sim_wfS b h
    simp only [simI, wfS, wfI, wtS, wtI, szS, szI]
    exact ⟨⟨h1, hr⟩, by omega, by omega⟩
  | .scope false l b, r, h, hr => by
    simp only [wfI] at h
    obtain ⟨h1, h2, h3⟩ := sim_wfS b h
    have q := simple_wf (l := l) h1 hr
    simp only [simI, wtI, szI]
    exact ⟨q.1, by omega, by omega⟩
  | .jmp a l, r, h, hr => by
    simp only [simI, wfS, wfI, wtS, szS]
    exact ⟨⟨trivial, hr⟩, Nat.le_refl _, Nat.le_refl _⟩
theorem sim_wfS : ∀ s : List I, wfS s → wfS (simS s) ∧ wtS (simS s) ≤ wtS s ∧ szS (simS s) ≤ szS s
  | [], h => by simp [simS, wfS]
  | i :: r, h => by
    obtain ⟨h1, h2, h3⟩ := sim_wfS r h.2
    obtain ⟨h4, h5, h6⟩ := sim_wfI i (simS r) h.1 h1
    simp only [simS, wtS, szS]
    exact ⟨h4, by omega, by omega⟩
theorem sim_wfC : ∀ s : List (List I), wfC s → wfC (simC s) ∧ wtC (simC s) ≤ wtC s ∧ szC (simC s) ≤ szC s ∧ (simC s).length = s.length
  | [], h => by simp [simC, wfC]
  | i :: r, h => by
    obtain ⟨h1, h2, h3⟩ := sim_wfS i h.1
    obtain ⟨h4, h5, h6, h7⟩ := sim_wfC r h.2
    simp only [simC, wfC, wtC, szC, List.length_cons, h7]
    exact ⟨⟨h1, h4⟩, by omega, by omega, trivial⟩
end
theorem simC_map (cs : List (List I)) : simC cs = cs.map simS := by induction cs with
  | nil => simp [simC]
  | cons s r ih => simp [simC, ih]
theorem endsJmp_snoc : ∀ (r : List I) (i : I), endsJmp (r ++ [i]) = isJmp i
  | [], i => by simp [endsJmp]
  | [a], i => by simp [endsJmp]
  | a :: b :: r, i => by
    have := endsJmp_snoc (b :: r) i
    show endsJmp (a :: b :: (r ++ [i])) = _
    rw [endsJmp]
    · exact this
    · simp
theorem isJmp_tag (i : I) : isJmp i = decide (tag i ∈ [("leave" : Str), "again"]) := by
  have e : decide (tag i ∈ [("leave" : Str), "again"]) = decide (kindI i = 6 ∨ kindI i = 5) := by
    rw [Bool.eq_iff_iff, decide_eq_true_iff, decide_eq_true_iff]
    simp only [List.mem_cons, List.not_mem_nil, or_false, tag_leave, tag_again]
  rw [e]
  cases i with
  | act t n cs => cases t <;> rfl
  | scope lp l b => cases lp <;> rfl
  | jmp ag l => cases ag <;> rfl
section
variable {P : Program} {w : World} {K : PySem.W.Frag} {mg : Str → Option Value} {base : Heap} {Ts : List Addr}
/-! ### put_in -/
theorem sc_put : FnScope ["shape", "label", "rest", "result", "item", "shapes", "inner"] ["shape", "label", "rest"] (defScope (topS 15)) := ⟨rfl, rfl, rfl, by decide +kernel, rfl, by decide +kernel, by decide +kernel⟩
def R_put (n : Nat) (ds : List PyData) (d : PyData) : Prop := ∃ (s : List I) (l : Nat) (rest : List I), dpS s < n ∧ wfS s ∧ szS s ≤ 2000 ∧ szS rest ≤ 2000 ∧ cntS true l s ≤ 1 ∧ ds = [encT s, pI l, encT rest] ∧ d = encT (putS l rest s)
theorem ok_put {n : Nat} (T : Txt mg) (D_insides : Df K mg "insides" 10 ["item"]) (D_rebuilt : Df K mg "rebuilt" 11 ["item", "shapes"]) (D : Df K mg "put_in" 15 ["shape", "label", "rest"]) (G : FnOk P w K mg base CX0 (n + 1) D.a D.fd ["shape", "label", "rest"] (spP Ts (R_put n))) :
    FnOk P w K mg base CX0 (n + 2) D.a D.fd ["shape", "label", "rest"] (spP Ts (R_put (n + 1))) := by
  have sc := sc_put
  have G_insides := ok_insides (P := P) (w := w) (base := base) (Ts := Ts) D_insides
  have G_rebuilt := ok_rebuilt (P := P) (w := w) (base := base) (Ts := Ts) T D_rebuilt
  refine fn_pure D.F sc (fun ds d h => ?_) (fun cdv A outer s H E ds d hr h => ?_)
  · obtain ⟨_, _, _, _, _, _, _, _, rfl, _⟩ := h; rfl
  obtain ⟨s, l, rest, hd, hw, hz, hzr, hcn, rfl, rfl⟩ := h
  refine ⟨_, (pss_cons (ps_set (i := 3) sc.nd rfl (Or.inl rfl) (pe_tup pa_nil))
    (pss_cons (ps_for PassesOwn.never rfl (pi_tup (pv 0)) (pg_name (i := 4) sc.nd rfl (Or.inl rfl))
      (pss_one (ps_if (pt_cmpR (op_eqW hr) (pv 4) (pe_tup (pa_cons pe_str (pa_cons (pv 1) pa_nil))) (nomark _))
        (pss_one (ps_set (i := 3) sc.nd rfl (Or.inl rfl) (pe_op op_catA (pv 3) (pv 2))))
        (pss_one (ps_if (PW.pt (pw_and (pt_cmpR op_eq (pe_ix ix_seq (pv 4) pe_int (fun _ _ => rfl)) pe_str (nomark _)) (pw_and1 (pt_cmpR op_eq (pe_ix ix_seq (pv 4) pe_int (fun _ _ => rfl)) (pv 1) (nomark _)))))
          (pss_one (ps_set (i := 3) sc.nd rfl (Or.inl rfl) (pe_op op_catA (pv 3) (pe_tup (pa_cons (pv 4) pa_nil)))))
          (pss_cons (ps_set (i := 5) sc.nd rfl (Or.inl rfl) (pe_lst pa_nil))
          (pss_cons (ps_for PassesOwn.never rfl (pi_tup (pe_call G_insides (hr.mono (by omega)) rfl D_insides.m D_insides.F.kp D_insides.b .nil pass0 (pa_cons (pv 4) pa_nil))) (pg_name (i := 6) sc.nd rfl (Or.inl rfl))
            (pss_one (ps_expr (pe_bm PySem.F.plainAttrs_list PySem.F.slot_list_append PySem.F.type_list_append mt_append (pv 5) (pa_cons (pe_call G (hr.mono (by omega)) rfl D.m D.F.kp D.b .nil pass0 (pa_cons (pv 6) (pa_cons (pv 1) (pa_cons (pv 2) pa_nil)))) pa_nil)))))
          (pss_one (ps_set (i := 3) sc.nd rfl (Or.inl rfl) (pe_op op_catA (pv 3) (pe_tup (pa_cons (pe_call G_rebuilt (hr.mono (by omega)) rfl D_rebuilt.m D_rebuilt.F.kp D_rebuilt.b .nil pass0 (pa_cons (pv 4) (pa_cons (pv 5) pa_nil))) pa_nil))))))))))))
    (pss_one (ps_ret (pv 3))))), ?_⟩
  refine st_seq1 (st_asg (ev_tup ea_nil (by simp)) rfl) ?_
  refine st_seq (N := fun δ => ∃ x4 x5 x6, δ = [dat (encT s), dat (pI l), dat (encT rest), dat (encT (putS l rest s)), x4, x5, x6]) ?_ fun δ' ⟨x4, x5, x6, e⟩ => e ▸ st_ret (ev_var rfl) rfl
  refine forT_core (fun j δ => ∃ x4 x5 x6, δ = [dat (encT s), dat (pI l), dat (encT rest), dat (encT (putS l rest (s.take j))), x4, x5, x6]) (ev_var rfl) ⟨none, none, none, by simp [putS, encS]; rfl⟩ (fun j d δ' hj ⟨x4, x5, x6, e⟩ => ?_) (fun δ' ⟨x4, x5, x6, e⟩ => ⟨x4, x5, x6, by rw [e, encS_length, List.take_length]⟩)
  obtain ⟨i, hi, rfl⟩ := encS_get hj
  have hwi := wfS_get hw hi
  have hdi := dpS_get hi
  rw [dp_ins] at hdi
  subst e
  have step := putI_step l rest i
  have snoc := putS_snoc l rest hi
  have hlen := put_len (rest := rest) hcn j
  have hlr := len_sz rest
  refine st_if (eb_test (ev_isLeave (ev_var rfl) rfl)) (fun hl => ?_) (fun hl => ?_)
  · rw [if_pos hl] at step
    refine st_asg (ev_op (ev_var rfl) (ev_var rfl) (rv_catT (by rw [encS_length, encS_length]; omega))) ⟨dat (encI i), x5, x6, ?_⟩
    rw [snoc, step, ← encS_app]
    rfl
  rw [if_neg (by simp [hl])] at step
  have t0 := @ev_tag Ts [dat (encT s), dat (pI l), dat (encT rest), dat (encT (putS l rest (s.take j))), dat (encI i), x5, x6] (tVar 4) (tC (.int 0)) K i (ev_var rfl) ev_int
  have t1 := @ev_num Ts [dat (encT s), dat (pI l), dat (encT rest), dat (encT (putS l rest (s.take j))), dat (encI i), x5, x6] (tVar 4) (tC (.int 1)) K i (ev_var rfl) ev_int
  refine st_if (eb_and (eb_test (ev_op t0 ev_str rv_eqS)) (fun _ => eb_test (ev_op t1 (ev_var rfl) rv_eqN))) (fun hc => ?_) (fun hc => ?_)
  · have hc : tag i = "block" ∧ num i = l := by simpa using hc
    rw [if_pos hc] at step
    refine st_asg (ev_op (ev_var rfl) (ev_tup (ea_cons (ev_var rfl) ea_nil) (by simp)) (rv_catT (by rw [encS_length]; simp; omega))) ⟨dat (encI i), x5, x6, ?_⟩
    rw [snoc, step, encT_snoc]
    rfl
  have hc : ¬ (tag i = "block" ∧ num i = l) := by
    intro z
    simp [z.1, z.2] at hc
  rw [if_neg hc] at step
  refine st_seq1 (st_new ea_nil (by simp) rfl) ?_
  refine st_seq (N := fun δ => ∃ x, δ = [dat (encT s), dat (pI l), dat (encT rest), dat (encT (putS l rest (s.take j))), dat (encI i), own (encC ((ins i).map (putS l rest))), x]) ?_ fun δ' ⟨x, e⟩ => e ▸ ?_
  · refine st_mapT (i := 5) (j := 6) (atC (ins i) (putS l rest)) (ev_call (ea_cons (ev_var rfl) ea_nil) ⟨i, hwi, rfl, rfl⟩) ?_ (by decide) (by simp) ⟨x6, rfl⟩ (fun m d x ys hm => ?_) (fun x => ⟨x, by rw [atC_map]; rfl⟩)
    · rw [encC_length]; have := ins_len hwi; omega
    · obtain ⟨c, hc2, rfl⟩ := encC_get hm
      have hdc := dpC_get hc2
      have hzc := szC_get hc2
      have hzi := sz_ins i
      have hzz := szS_get hi
      have hcc := cntC_get true l hc2
      have hci := cntS_get true l hi
      have hst := cnt_step true l i
      rw [if_neg (by simp [hl])] at hst
      rw [if_pos ⟨by
        by_cases z : tag i = "block"
        · exact .inr fun y => hc ⟨z, y⟩
        · exact .inl z, .inr rfl⟩] at hst
      rw [atC_get hc2]
      exact ev_call (ea_cons (ev_var rfl) (ea_cons (ev_var rfl) (ea_cons (ev_var rfl) ea_nil))) ⟨c, l, rest, by omega, wfC_get (wf_ins hwi) hc2, by omega, hzr, by omega, rfl, rfl⟩
  · refine st_keep (i := 5) rfl ?_
    refine st_asg (ev_op (ev_var rfl) (ev_tup (ea_cons (ev_call (ea_cons (ev_var rfl) (ea_cons (ev_var rfl) ea_nil)) ⟨i, (ins i).map (putS l rest), hwi, by simp, rfl, rfl⟩) ea_nil) (by simp)) (rv_catT (by rw [encS_length]; simp; omega))) ⟨dat (encI i), dat (.list (encC ((ins i).map (putS l rest)))), x, ?_⟩
    rw [snoc, step, encT_snoc]
    rfl
theorem all_put (T : Txt mg) (D_insides : Df K mg "insides" 10 ["item"]) (D_rebuilt : Df K mg "rebuilt" 11 ["item", "shapes"]) (D : Df K mg "put_in" 15 ["shape", "label", "rest"]) : ∀ n, FnOk P w K mg base CX0 (n + 1) D.a D.fd ["shape", "label", "rest"] (spP Ts (R_put n))
  | 0 => fn_none fun ds d h => by obtain ⟨s, l, r, h, _⟩ := h; omega
  | n + 1 => ok_put T D_insides D_rebuilt D (all_put T D_insides D_rebuilt D n)
/-! ### simple_block -/
theorem sc_sb : FnScope ["label", "inner", "rest", "dropped"] ["label", "inner", "rest"] (defScope (topS 16)) := ⟨rfl, rfl, rfl, by decide +kernel, rfl, by decide +kernel, by decide +kernel⟩
def R_sb (n : Nat) (ds : List PyData) (d : PyData) : Prop := ∃ (l : Nat) (inner rest : List I), dpS inner < n ∧ wfS inner ∧ szS inner ≤ 2000 ∧ szS rest ≤ 2000 ∧ ds = [pI l, encT inner, encT rest] ∧ d = encT (simpleBlock l inner rest)
theorem ok_sb {n : Nat} (T : Txt mg) (D_insides : Df K mg "insides" 10 ["item"]) (D_rebuilt : Df K mg "rebuilt" 11 ["item", "shapes"]) (D_counted : Df K mg "counted" 12 ["shape", "label", "with_loops"]) (D_leaves : Df K mg "leaves" 13 ["shape", "label"])
    (D_drop_at_end : Df K mg "drop_at_end" 14 ["shape", "label"]) (D_put_in : Df K mg "put_in" 15 ["shape", "label", "rest"]) (D : Df K mg "simple_block" 16 ["label", "inner", "rest"]) :
    FnOk P w K mg base CX0 (n + 3) D.a D.fd ["label", "inner", "rest"] (spP Ts (R_sb n)) := by
  have sc := sc_sb
  have G_counted := all_counted (P := P) (w := w) (base := base) (Ts := Ts) D_insides D_counted n
  have G_leaves := ok_leaves (P := P) (w := w) (base := base) (Ts := Ts) (n := n) D_insides D_counted D_leaves
  have G_drop_at_end := all_drop (P := P) (w := w) (base := base) (Ts := Ts) T D_insides D_rebuilt D_drop_at_end n
  have G_put_in := all_put (P := P) (w := w) (base := base) (Ts := Ts) T D_insides D_rebuilt D_put_in n
  refine fn_pure D.F sc (fun ds d h => ?_) (fun cdv A outer s H E ds d hr h => ?_)
  · obtain ⟨_, _, _, _, _, _, _, rfl, _⟩ := h; rfl
  obtain ⟨l, inner, rest, hd, hw, hz, hzr, rfl, rfl⟩ := h
  refine ⟨_, (pss_cons (ps_if (PW.pt (pw_and (pt_cmpR op_eq (pe_call G_leaves (hr.mono (by omega)) rfl D_leaves.m D_leaves.F.kp D_leaves.b .nil pass0 (pa_cons (pv 1) (pa_cons (pv 0) pa_nil))) pe_int (nomark _)) (pw_and1 (pt_cmpR op_eq (pe_call G_counted (hr.mono (by omega)) rfl D_counted.m D_counted.F.kp D_counted.b .nil pass0 (pa_cons (pv 1) (pa_cons (pv 0) (pa_cons pe_bl pa_nil)))) pe_int (nomark _)))))
      (pss_one (ps_ret (pe_call G_put_in (hr.mono (by omega)) rfl D_put_in.m D_put_in.F.kp D_put_in.b .nil pass0 (pa_cons (pv 1) (pa_cons (pv 0) (pa_cons (pv 2) pa_nil))))))
      pss_nil)
    (pss_cons (ps_set (i := 3) sc.nd rfl (Or.inl rfl) (pe_call G_drop_at_end (hr.mono (by omega)) rfl D_drop_at_end.m D_drop_at_end.F.kp D_drop_at_end.b .nil pass0 (pa_cons (pv 1) (pa_cons (pv 0) pa_nil))))
    (pss_cons (ps_if (pt_cmpR op_gt (pe_call G_leaves (hr.mono (by omega)) rfl D_leaves.m D_leaves.F.kp D_leaves.b .nil pass0 (pa_cons (pv 3) (pa_cons (pv 0) pa_nil))) pe_int (nomark _))
      (pss_one (ps_ret (pe_op op_catA (pe_tup (pa_cons (pe_tup (pa_cons pe_str (pa_cons (pv 0) (pa_cons (pv 3) pa_nil)))) pa_nil)) (pv 2))))
      pss_nil)
    (pss_cons (ps_if (PW.pt (pw_and (pt_truth (pv 3) (by intro _; rfl)) (pw_and1 (pt_cmpR op_in_seq (pe_ix ix_seq (pe_ix ix_seq (pv 3) (pe_un un_neg pe_int) (fun _ _ => rfl)) pe_int (fun _ _ => rfl)) (pe_tup (pa_cons pe_str (pa_cons pe_str pa_nil))) (by rfl)))))
      (pss_one (ps_ret (pv 3)))
      pss_nil)
    (pss_one (ps_ret (pe_op op_catA (pv 3) (pv 2)))))))), ?_⟩
  have hdr := wf_dropS l inner hw
  have hzd := (wtS_drop l inner).2
  have hlr := len_sz rest
  have hld := len_sz (dropS l inner)
  refine st_ifr (eb_and (eb_test (ev_op (ev_call (ea_cons (ev_var rfl) (ea_cons (ev_var rfl) ea_nil)) ⟨inner, l, hd, hw, rfl, rfl⟩) ev_int rv_eqI)) (fun _ => eb_test (ev_op (ev_call (ea_cons (ev_var rfl) (ea_cons (ev_var rfl) (ea_cons ev_bl ea_nil))) ⟨inner, l, false, hd, hw, rfl, rfl⟩) ev_int rv_eqI))) (fun h => ?_) (fun h => ?_)
  · have h : cntS true l inner = 1 ∧ cntS false l inner = 1 := by
      rw [Bool.and_eq_true, decide_eq_true_iff, decide_eq_true_iff] at h
      omega
    refine st_ret (ev_call (ea_cons (ev_var rfl) (ea_cons (ev_var rfl) (ea_cons (ev_var rfl) ea_nil))) ⟨inner, l, rest, hd, hw, hz, hzr, by omega, rfl, rfl⟩) ?_
    unfold simpleBlock
    rw [if_pos h]
  have h : ¬ (cntS true l inner = 1 ∧ cntS false l inner = 1) := by
    rintro ⟨z1, z2⟩
    rw [z1, z2] at h
    cases h
  refine st_seq1 (st_asg (ev_call (ea_cons (ev_var rfl) (ea_cons (ev_var rfl) ea_nil)) ⟨inner, l, hd, hw, hz, rfl, rfl⟩) rfl) ?_
  refine st_ifr (eb_test (ev_op (ev_call (ea_cons (ev_var rfl) (ea_cons (ev_var rfl) ea_nil)) ⟨dropS l inner, l, by omega, hdr.1, rfl, rfl⟩) ev_int rv_gt)) (fun h2 => ?_) (fun h2 => ?_)
  · have h2 : cntS true l (dropS l inner) > 0 := by have := of_decide_eq_true h2; omega
    refine st_ret (ev_op (ev_tup (ea_cons (ev_tup (ea_cons ev_str (ea_cons (ev_var rfl) (ea_cons (ev_var rfl) ea_nil))) (by simp)) ea_nil) (by simp)) (ev_var rfl) (rv_catT (by rw [encS_length]; simp; omega))) ?_
    unfold simpleBlock
    rw [if_neg h, if_pos h2]
    simp [encS, encI, tagS]
  have h2 : ¬ cntS true l (dropS l inner) > 0 := by have := of_decide_eq_false h2; omega
  have fin : endsJmp (dropS l inner) = false → encT (dropS l inner ++ rest) = encT (simpleBlock l inner rest) := fun q => by
    unfold simpleBlock
    rw [if_neg h, if_neg h2, if_neg (by simp [q])]
  by_cases hne : dropS l inner = []
  · refine st_ifr (b := false) (eb_and (a := false) (b := false) (eb_truth (ev_var rfl) (by rw [hne]; rfl)) (fun z => by cases z)) (fun z => by cases z) (fun _ => ?_)
    refine st_ret (ev_op (ev_var rfl) (ev_var rfl) (rv_catT (by rw [encS_length, encS_length]; omega))) ?_
    rw [← encS_app]
    exact fin (by rw [hne]; rfl)
  · obtain ⟨r, i, e⟩ := snoc_of hne
    have e2 : encS (dropS l inner) = encS r ++ [encI i] := by rw [e, encS_app]; simp [encS]
    have tr : nonE (encT (dropS l inner)) = some true := by rw [encT, e2]; simp [nonE]
    refine st_ifr (eb_and (eb_truth (ev_var rfl) tr) (fun _ => eb_test (ev_op (ev_tag (i := i) (ev_op (ev_var rfl) (ev_un ev_int ru_neg) (by rw [show encT (dropS l inner) = .tuple (encS r ++ [encI i]) from congrArg PyData.tuple e2]; exact rv_ixT (at_last _ _))) ev_int) (ev_tup (ea_cons ev_str (ea_cons ev_str ea_nil)) (by simp)) (by rw [str2]; exact rv_inS)))) (fun h3 => ?_) (fun h3 => ?_)
    · have h3 : isJmp i = true := by rw [isJmp_tag]; simpa using h3
      refine st_ret (ev_var rfl) ?_
      unfold simpleBlock
      rw [if_neg h, if_neg h2, if_pos (by rw [e, endsJmp_snoc, h3])]
    · have h3 : isJmp i = false := by rw [isJmp_tag]; simpa using h3
      refine st_ret (ev_op (ev_var rfl) (ev_var rfl) (rv_catT (by rw [encS_length, encS_length]; omega))) ?_
      rw [← encS_app]
      exact fin (by rw [e, endsJmp_snoc, h3])
/-! ### simplify -/
theorem simI_step (i : I) (r : List I) : simI i r = if tag i = "block" then simpleBlock (num i) (((ins i).map simS).headD []) r else reb i ((ins i).map simS) :: r := by
  simp only [tag_block]
  cases i with
  | act t n cs => cases t <;> simp [simI, kindI, ins, reb, simC_map]
  | scope lp l b => cases lp <;> simp [simI, kindI, ins, reb, num]
  | jmp a l => cases a <;> simp [simI, kindI, ins, reb]
theorem sc_simplify : FnScope ["shape", "rest", "item", "shapes", "inner"] ["shape"] (defScope (topS 17)) := ⟨rfl, rfl, rfl, by decide +kernel, rfl, by decide +kernel, by decide +kernel⟩
def R_simplify (m n : Nat) (ds : List PyData) (d : PyData) : Prop := ∃ s : List I, dpS s < n ∧ wfS s ∧ wtS s + 2 ≤ m ∧ szS s ≤ 1000 ∧ ds = [encT s] ∧ d = encT (simS s)
theorem wf_drop_ {s : List I} (h : wfS s) (n : Nat) : wfS (s.drop n) := by
  have := (wfS_app (s.take n) (s.drop n)).mp (by rw [List.take_append_drop]; exact h)
  exact this.2
theorem wt_drop_ (s : List I) (n : Nat) : wtS (s.drop n) ≤ wtS s ∧ szS (s.drop n) ≤ szS s := by
  have h1 := wtS_app (s.take n) (s.drop n)
  have h2 := szS_app (s.take n) (s.drop n)
  rw [List.take_append_drop] at h1 h2
  omega
theorem wtS_get : ∀ {s : List I} {n : Nat} {i : I}, s[n]? = some i → wtI i ≤ wtS s
  | [], _, _, h => by simp at h
  | a :: r, 0, i, h => by simp at h; subst h; simp only [wtS]; omega
  | a :: r, n + 1, i, h => by have := wtS_get (s := r) (n := n) (i := i) (by simpa using h); simp only [wtS]; omega
theorem wtC_get : ∀ {s : List (List I)} {n : Nat} {i : List I}, s[n]? = some i → wtS i ≤ wtC s
  | [], _, _, h => by simp at h
  | a :: r, 0, i, h => by simp at h; subst h; simp only [wtC]; omega
  | a :: r, n + 1, i, h => by have := wtC_get (s := r) (n := n) (i := i) (by simpa using h); simp only [wtC]; omega
theorem wt_ins (i : I) : wtC (ins i) ≤ wtI i := by
  cases i with
  | act t n cs => simp [ins, wtI]
  | scope lp l b => simp only [ins, wtC, wtI]; omega
  | jmp ag l => simp [ins, wtC]
theorem ok_simplify {m n : Nat} (T : Txt mg) (D_insides : Df K mg "insides" 10 ["item"]) (D_rebuilt : Df K mg "rebuilt" 11 ["item", "shapes"]) (D_simple_block : Df K mg "simple_block" 16 ["label", "inner", "rest"]) (D : Df K mg "simplify" 17 ["shape"])
    (G_simple_block : FnOk P w K mg base CX0 (m + 3) D_simple_block.a D_simple_block.fd ["label", "inner", "rest"] (spP Ts (R_sb m))) (G : FnOk P w K mg base CX0 (m + 4 + n) D.a D.fd ["shape"] (spP Ts (R_simplify m n))) :
    FnOk P w K mg base CX0 (m + 4 + n + 1) D.a D.fd ["shape"] (spP Ts (R_simplify m (n + 1))) := by
  have sc := sc_simplify
  have G_insides := ok_insides (P := P) (w := w) (base := base) (Ts := Ts) D_insides
  have G_rebuilt := ok_rebuilt (P := P) (w := w) (base := base) (Ts := Ts) T D_rebuilt
  refine fn_pure D.F sc (fun ds d h => ?_) (fun cdv A outer s H E ds d hr h => ?_)
  · obtain ⟨_, _, _, _, _, rfl, _⟩ := h; rfl
  obtain ⟨s, hd, hw, hwt, hz, rfl, rfl⟩ := h
  refine ⟨_, (pss_cons (ps_set (i := 1) sc.nd rfl (Or.inl rfl) (pe_tup pa_nil))
    (pss_cons (ps_for PassesOwn.never rfl (RT.pi_revA rfl T.reversed (pv 0)) (pg_name (i := 2) sc.nd rfl (Or.inl rfl))
      (pss_cons (ps_set (i := 3) sc.nd rfl (Or.inl rfl) (pe_lst pa_nil))
      (pss_cons (ps_for PassesOwn.never rfl (pi_tup (pe_call G_insides (hr.mono (by omega)) rfl D_insides.m D_insides.F.kp D_insides.b .nil pass0 (pa_cons (pv 2) pa_nil))) (pg_name (i := 4) sc.nd rfl (Or.inl rfl))
        (pss_one (ps_expr (pe_bm PySem.F.plainAttrs_list PySem.F.slot_list_append PySem.F.type_list_append mt_append (pv 3) (pa_cons (pe_call G (hr.mono (by omega)) rfl D.m D.F.kp D.b .nil pass0 (pa_cons (pv 4) pa_nil)) pa_nil)))))
      (pss_one (ps_if (pt_cmpR op_eq (pe_ix ix_seq (pv 2) pe_int (fun _ _ => rfl)) pe_str (nomark _))
        (pss_one (ps_set (i := 1) sc.nd rfl (Or.inl rfl) (pe_call G_simple_block (hr.mono (by omega)) rfl D_simple_block.m D_simple_block.F.kp D_simple_block.b .nil pass0 (pa_cons (pe_ix ix_seq (pv 2) pe_int (fun _ _ => rfl)) (pa_cons (pe_ix ix_seq (pv 3) pe_int (fun _ _ => rfl)) (pa_cons (pv 1) pa_nil))))))
        (pss_one (ps_set (i := 1) sc.nd rfl (Or.inl rfl) (pe_op op_catA (pe_tup (pa_cons (pe_call G_rebuilt (hr.mono (by omega)) rfl D_rebuilt.m D_rebuilt.F.kp D_rebuilt.b .nil pass0 (pa_cons (pv 2) (pa_cons (pv 3) pa_nil))) pa_nil)) (pv 1)))))))))
    (pss_one (ps_ret (pv 1))))), ?_⟩
  refine st_seq1 (st_asg (ev_tup ea_nil (by simp)) rfl) ?_
  refine st_seq (N := fun δ => ∃ x2 x3 x4, δ = [dat (encT s), dat (encT (simS s)), x2, x3, x4]) ?_ fun δ' ⟨x2, x3, x4, e⟩ => e ▸ st_ret (ev_var rfl) rfl
  refine forRT_core (fun j δ => ∃ x2 x3 x4, δ = [dat (encT s), dat (encT (simS (s.drop (s.length - j)))), x2, x3, x4]) (ev_var rfl) ⟨none, none, none, by simp [simS, encS]; rfl⟩ (fun j d δ' hj0 hj ⟨x2, x3, x4, e⟩ => ?_) (fun δ' ⟨x2, x3, x4, e⟩ => ⟨x2, x3, x4, by rw [e, encS_length, Nat.sub_self, List.drop_zero]⟩)
  rw [encS_length] at hj0 hj
  obtain ⟨i, hi, rfl⟩ := encS_get hj
  have hwi := wfS_get hw hi
  have hdi := dpS_get hi
  rw [dp_ins] at hdi
  subst e
  have snoc : s.drop (s.length - (j + 1)) = i :: s.drop (s.length - j) := by
    have q : s.length - (j + 1) < s.length := by omega
    rw [List.drop_eq_getElem_cons q]
    have e1 : s.length - 1 - j = s.length - (j + 1) := by omega
    have e2 : s.length - (j + 1) + 1 = s.length - j := by omega
    rw [e1, List.getElem?_eq_getElem q] at hi
    rw [e2, Option.some.inj hi]
  obtain ⟨w1, w2, w3⟩ := sim_wfS (s.drop (s.length - j)) (wf_drop_ hw _)
  have w4 := wt_drop_ s (s.length - j)
  have w5 := len_sz (simS (s.drop (s.length - j)))
  have zi := szS_get hi
  have ti := wtS_get hi
  have step := simI_step i (simS (s.drop (s.length - j)))
  refine st_seq1 (st_new ea_nil (by simp) rfl) ?_
  refine st_seq (N := fun δ => ∃ x, δ = [dat (encT s), dat (encT (simS (s.drop (s.length - j)))), dat (encI i), own (encC ((ins i).map simS)), x]) ?_ fun δ' ⟨x, e⟩ => e ▸ ?_
  · refine st_mapT (i := 3) (j := 4) (atC (ins i) simS) (ev_call (ea_cons (ev_var rfl) ea_nil) ⟨i, hwi, rfl, rfl⟩) ?_ (by decide) (by simp) ⟨x4, rfl⟩ (fun m d x ys hm => ?_) (fun x => ⟨x, by rw [atC_map]; rfl⟩)
    · rw [encC_length]; have := ins_len hwi; omega
    · obtain ⟨c, hc2, rfl⟩ := encC_get hm
      have hdc := dpC_get hc2
      have hzc := szC_get hc2
      have htc := wtC_get hc2
      have hzi := sz_ins i
      have hti := wt_ins i
      rw [atC_get hc2]
      exact ev_call (ea_cons (ev_var rfl) ea_nil) ⟨c, by omega, wfC_get (wf_ins hwi) hc2, by omega, by omega, rfl, rfl⟩
  · have t0 := @ev_tag Ts [dat (encT s), dat (encT (simS (s.drop (s.length - j)))), dat (encI i), dat (.list (encC ((ins i).map simS))), x] (tVar 2) (tC (.int 0)) K i (ev_var rfl) ev_int
    have t1 := @ev_num Ts [dat (encT s), dat (encT (simS (s.drop (s.length - j)))), dat (encI i), dat (.list (encC ((ins i).map simS))), x] (tVar 2) (tC (.int 1)) K i (ev_var rfl) ev_int
    refine st_keep (i := 3) rfl ?_
    refine st_if (eb_test (ev_op t0 ev_str rv_eqS)) (fun hb => ?_) (fun hb => ?_)
    · have hb := of_decide_eq_true hb
      rw [if_pos hb] at step
      obtain ⟨l, b, rfl⟩ := kind4 ((tag_block i).mp hb)
      have hwb : wfS b := hwi
      obtain ⟨v1, v2, v3⟩ := sim_wfS b hwb
      have v4 := dp_wtS (simS b)
      simp only [wtI] at ti
      simp only [szI] at zi
      refine st_asg (ev_call (ea_cons t1 (ea_cons (ev_op (d := encT (simS b)) (ev_var rfl) ev_int (by simp only [ins, List.map_cons, List.map_nil, encC]; exact rv_ixL (at_0 _ _))) (ea_cons (ev_var rfl) ea_nil))) ⟨l, simS b, simS (s.drop (s.length - j)), by omega, v1, by omega, by omega, rfl, rfl⟩) ⟨dat (encI (.scope false l b)), dat (.list (encC ((ins (.scope false l b)).map simS))), x, ?_⟩
      rw [snoc, simS, step]
      rfl
    · have hb := of_decide_eq_false hb
      rw [if_neg hb] at step
      refine st_asg (ev_op (ev_tup (ea_cons (ev_call (ea_cons (ev_var rfl) (ea_cons (ev_var rfl) ea_nil)) ⟨i, (ins i).map simS, hwi, by simp, rfl, rfl⟩) ea_nil) (by simp)) (ev_var rfl) (rv_catT (by rw [encS_length]; simp; omega))) ⟨dat (encI i), dat (.list (encC ((ins i).map simS))), x, ?_⟩
      rw [snoc, simS, step]
      simp [encS]
theorem all_simplify {m : Nat} (T : Txt mg) (D_insides : Df K mg "insides" 10 ["item"]) (D_rebuilt : Df K mg "rebuilt" 11 ["item", "shapes"]) (D_simple_block : Df K mg "simple_block" 16 ["label", "inner", "rest"]) (D : Df K mg "simplify" 17 ["shape"])
    (G_simple_block : FnOk P w K mg base CX0 (m + 3) D_simple_block.a D_simple_block.fd ["label", "inner", "rest"] (spP Ts (R_sb m))) : ∀ n, FnOk P w K mg base CX0 (m + 4 + n) D.a D.fd ["shape"] (spP Ts (R_simplify m n))
  | 0 => fn_none fun ds d h => by obtain ⟨s, h, _⟩ := h; omega
  | n + 1 => ok_simplify T D_insides D_rebuilt D_simple_block D G_simple_block (all_simplify T D_insides D_rebuilt D_simple_block D G_simple_block n)
end
end K33
end
section
set_option Elab.async false
set_option linter.all false
set_option maxRecDepth 100000
set_option maxHeartbeats 4000000
/-! W4: rows as data; filled_item, fill. -/
namespace K33
open PySem L2
inductive Act where
  | br (e : PyData)
  | sel (e : PyData)
  | oth (nm : Str) (r : List PyData)
def encAct : Act → PyData
  | .br e => .tuple [.str "branch", e]
  | .sel e => .tuple [.str "select", e]
  | .oth nm r => .tuple (.str nm :: r)
def exprA : Act → PyData
  | .br e => e
  | .sel e => e
  | .oth _ _ => .none
structure Row where
  act : Act
  count : Nat
  nexts : List Nat
abbrev encRow (r : Row) : PyData := .tuple [encAct r.act, pI r.count, .tuple (r.nexts.map pI)]
def rowAt (rs : List Row) (n : Nat) : Row := rs.getD n ⟨.oth "" [], 0, []⟩
def nxOf (rs : List Row) (n : Nat) : List Nat := (rowAt rs n).nexts
def kdA : Act → Kd
  | .br _ => .br
  | .sel _ => .sel
  | .oth _ _ => .oth
def kdOf (rs : List Row) (n : Nat) : Kd := kdA (rowAt rs n).act
abbrev encRows (rs : List Row) : PyData := .list (rs.map encRow)
def kdT : AK → Kd
  | .row => .oth
  | .ifr => .br
  | .sw => .sel
mutual
/-- the acts' numbers are rows of the right kind -/
def okI (rs : List Row) : I → Prop
  | .act t n cs => n < rs.length ∧ kdOf rs n = kdT t ∧ okC rs cs
  | .scope _ l b => l < 1000000 ∧ okS rs b
  | .jmp _ l => l < 1000000
def okS (rs : List Row) : List I → Prop
  | [] => True
  | i :: r => okI rs i ∧ okS rs r
def okC (rs : List Row) : List (List I) → Prop
  | [] => True
  | s :: r => okS rs s ∧ okC rs r
end
mutual
def fillI (rs : List Row) : I → PyData
  | .act .row n _ => .tuple [.str "do", encAct (rowAt rs n).act, pI (rowAt rs n).count]
  | .act .ifr n cs => .tuple (.str "if" :: exprA (rowAt rs n).act :: pI (rowAt rs n).count :: fillC rs cs)
  | .act .sw n cs => .tuple [.str "switch", exprA (rowAt rs n).act, pI (rowAt rs n).count, .tuple (fillC rs cs)]
  | .scope lp l b => .tuple [.str (tagS lp), pI l, .tuple (fillS rs b)]
  | .jmp ag l => .tuple [.str (tagJ ag), pI l]
def fillS (rs : List Row) : List I → List PyData
  | [] => []
  | i :: r => fillI rs i :: fillS rs r
def fillC (rs : List Row) : List (List I) → List PyData
  | [] => []
  | s :: r => .tuple (fillS rs s) :: fillC rs r
end
abbrev fillT (rs : List Row) (s : List I) : PyData := .tuple (fillS rs s)
theorem fillS_map (rs : List Row) (s : List I) : fillS rs s = s.map (fillI rs) := by induction s with
  | nil => simp [fillS]
  | cons i r ih => simp [fillS, ih]
theorem fillC_map (rs : List Row) (s : List (List I)) : fillC rs s = s.map (fillT rs) := by induction s with
  | nil => simp [fillC]
  | cons i r ih => simp [fillC, ih]
theorem rows_at {rs : List Row} {n : Nat} (h : n < rs.length) : atI (rs.map encRow) (n : Int) = some (encRow (rowAt rs n)) := by
  refine atI_nat ?_
  unfold rowAt
  rw [List.getElem?_map, List.getElem?_eq_getElem h, List.getD_eq_getElem?_getD, List.getElem?_eq_getElem h]
  rfl
theorem okS_get {rs : List Row} : ∀ {s : List I} {n : Nat} {i : I}, okS rs s → s[n]? = some i → okI rs i
  | [], _, _, _, h => by simp at h
  | a :: r, 0, i, w, h => by simp at h; subst h; exact w.1
  | a :: r, n + 1, i, w, h => okS_get (n := n) w.2 (by simpa using h)
theorem okC_get {rs : List Row} : ∀ {s : List (List I)} {n : Nat} {i : List I}, okC rs s → s[n]? = some i → okS rs i
  | [], _, _, _, h => by simp at h
  | a :: r, 0, i, w, h => by simp at h; subst h; exact w.1
  | a :: r, n + 1, i, w, h => okC_get (n := n) w.2 (by simpa using h)
theorem ok_ins {rs : List Row} {i : I} (h : okI rs i) : okC rs (ins i) := by
  cases i with
  | act t n cs => exact h.2.2
  | scope lp l b => exact ⟨h.2, trivial⟩
  | jmp ag l => trivial
/-- by place: the filled -/
def atF (rs : List Row) (cs : List (List I)) (n : Nat) : PyData := fillT rs (cs.getD n [])
theorem atF_map (rs : List Row) (cs : List (List I)) : (List.range (encC cs).length).map (atF rs cs) = fillC rs cs := by
  rw [encC_length, fillC_map]
  apply List.ext_getElem?
  intro n
  simp only [List.getElem?_map]
  by_cases q : n < cs.length
  · rw [List.getElem?_range q, List.getElem?_eq_getElem q]
    simp [atF, List.getD_eq_getElem?_getD, List.getElem?_eq_getElem q]
  · rw [List.getElem?_eq_none (by simpa using q), List.getElem?_eq_none (by omega)]
    rfl
theorem atF_get {rs : List Row} {cs : List (List I)} {n : Nat} {c : List I} (h : cs[n]? = some c) : atF rs cs n = fillT rs c := by
  simp [atF, List.getD_eq_getElem?_getD, h]
def atFI (rs : List Row) (cs : List I) (n : Nat) : PyData := fillI rs (cs.getD n (.jmp true 0))
theorem atFI_map (rs : List Row) (cs : List I) : (List.range (encS cs).length).map (atFI rs cs) = fillS rs cs := by
  rw [encS_length, fillS_map]
  apply List.ext_getElem?
  intro n
  simp only [List.getElem?_map]
  by_cases q : n < cs.length
  · rw [List.getElem?_range q, List.getElem?_eq_getElem q]
    simp [atFI, List.getD_eq_getElem?_getD, List.getElem?_eq_getElem q]
  · rw [List.getElem?_eq_none (by simpa using q), List.getElem?_eq_none (by omega)]
    rfl
theorem atFI_get {rs : List Row} {cs : List I} {n : Nat} {c : I} (h : cs[n]? = some c) : atFI rs cs n = fillI rs c := by
  simp [atFI, List.getD_eq_getElem?_getD, h]
theorem act_br {rs : List Row} {n : Nat} (h : kdOf rs n = .br) : ∃ e, (rowAt rs n).act = .br e := by
  unfold kdOf at h
  cases q : (rowAt rs n).act with
  | br e => exact ⟨e, rfl⟩
  | sel e => rw [q] at h; cases h
  | oth a b => rw [q] at h; cases h
theorem act_sel {rs : List Row} {n : Nat} (h : kdOf rs n = .sel) : ∃ e, (rowAt rs n).act = .sel e := by
  unfold kdOf at h
  cases q : (rowAt rs n).act with
  | sel e => exact ⟨e, rfl⟩
  | br e => rw [q] at h; cases h
  | oth a b => rw [q] at h; cases h
theorem act_oth {rs : List Row} {n : Nat} (h : kdOf rs n = .oth) : ∃ a b, (rowAt rs n).act = .oth a b := by
  unfold kdOf at h
  cases q : (rowAt rs n).act with
  | oth a b => exact ⟨a, b, rfl⟩
  | br e => rw [q] at h; cases h
  | sel e => rw [q] at h; cases h
section
variable {P : Program} {w : World} {K : PySem.W.Frag} {mg : Str → Option Value} {base : Heap} {Ts : List Addr}
theorem ev_tagV {δ : Dl} {j : Nat} (i : I) (e : δ[j]? = some (dat (encI i))) : EvD Ts (tOp (rIx K) (tVar j) (tC (.int 0))) δ (.str (tag i)) := ev_tag (ev_var e) ev_int
theorem ev_numV {δ : Dl} {j : Nat} (i : I) (e : δ[j]? = some (dat (encI i))) : EvD Ts (tOp (rIx K) (tVar j) (tC (.int 1))) δ (pI (num i)) := ev_num (ev_var e) ev_int
/-! ### filled_item -/
theorem sc_fi : FnScope ["item", "rows", "act", "count", "_", "sequences", "inner"] ["item", "rows"] (defScope (topS 19)) := ⟨rfl, rfl, rfl, by decide +kernel, rfl, by decide +kernel, by decide +kernel⟩
theorem sc_fill : FnScope ["shape", "rows", "statements", "item"] ["shape", "rows"] (defScope (topS 20)) := ⟨rfl, rfl, rfl, by decide +kernel, rfl, by decide +kernel, by decide +kernel⟩
def R_fill (n : Nat) (ds : List PyData) (d : PyData) : Prop := ∃ (rs : List Row) (s : List I), dpS s < n ∧ wfS s ∧ okS rs s ∧ szS s ≤ 2000 ∧ ds = [encT s, encRows rs] ∧ d = fillT rs s
def R_fi (n : Nat) (ds : List PyData) (d : PyData) : Prop := ∃ (rs : List Row) (i : I), dpI i < n ∧ wfI i ∧ okI rs i ∧ szI i ≤ 2000 ∧ ds = [encI i, encRows rs] ∧ d = fillI rs i
theorem ok_fi {n L : Nat} (T : Txt mg) (D_insides : Df K mg "insides" 10 ["item"]) (D_rebuilt : Df K mg "rebuilt" 11 ["item", "shapes"]) (D_fill : Df K mg "fill" 20 ["shape", "rows"]) (D : Df K mg "filled_item" 19 ["item", "rows"]) (G_fill : FnOk P w K mg base CX0 (L + 1) D_fill.a D_fill.fd ["shape", "rows"] (spP Ts (R_fill n))) :
    FnOk P w K mg base CX0 (L + 2) D.a D.fd ["item", "rows"] (spP Ts (R_fi (n + 1))) := by
  have sc := sc_fi
  have G_insides := ok_insides (P := P) (w := w) (base := base) (Ts := Ts) D_insides
  have G_rebuilt := ok_rebD (P := P) (w := w) (base := base) (Ts := Ts) T D_rebuilt
  refine fn_pure D.F sc (fun ds d h => ?_) (fun cdv A outer s H E ds d hr h => ?_)
  · obtain ⟨_, _, _, _, _, _, rfl, _⟩ := h; rfl
  obtain ⟨rs, i, hd, hw, ho, hz, rfl, rfl⟩ := h
  refine ⟨_, (pss_cons (ps_if (pt_cmpR op_eq (pe_ix ix_seq (pv 0) pe_int (fun _ _ => rfl)) pe_str (nomark _))
      (pss_cons (ps_asg (pe_ix ix_seq (pv 1) (pe_ix ix_seq (pv 0) pe_int (fun _ _ => rfl)) (fun _ _ => rfl)) (pg_tup rfl (pgs_cons (pg_name (i := 2) sc.nd rfl (Or.inl rfl)) (pgs_cons (pg_name (i := 3) sc.nd rfl (Or.inl rfl)) (pgs_cons (pg_name (i := 4) sc.nd rfl (Or.inl rfl)) pgs_nil)))))
      (pss_one (ps_ret (pe_tup (pa_cons pe_str (pa_cons (pv 2) (pa_cons (pv 3) pa_nil)))))))
      pss_nil)
    (pss_cons (ps_set (i := 5) sc.nd rfl (Or.inl rfl) (pe_lst pa_nil))
    (pss_cons (ps_for PassesOwn.never rfl (pi_tup (pe_call G_insides (hr.mono (by omega)) rfl D_insides.m D_insides.F.kp D_insides.b .nil pass0 (pa_cons (pv 0) pa_nil))) (pg_name (i := 6) sc.nd rfl (Or.inl rfl))
      (pss_one (ps_expr (pe_bm PySem.F.plainAttrs_list PySem.F.slot_list_append PySem.F.type_list_append mt_append (pv 5) (pa_cons (pe_call G_fill (hr.mono (by omega)) rfl D_fill.m D_fill.F.kp D_fill.b .nil pass0 (pa_cons (pv 6) (pa_cons (pv 1) pa_nil))) pa_nil)))))
    (pss_cons (ps_if (pt_cmpR op_eq (pe_ix ix_seq (pv 0) pe_int (fun _ _ => rfl)) pe_str (nomark _))
      (pss_cons (ps_asg (pe_ix ix_seq (pv 1) (pe_ix ix_seq (pv 0) pe_int (fun _ _ => rfl)) (fun _ _ => rfl)) (pg_tup rfl (pgs_cons (pg_name (i := 2) sc.nd rfl (Or.inl rfl)) (pgs_cons (pg_name (i := 3) sc.nd rfl (Or.inl rfl)) (pgs_cons (pg_name (i := 4) sc.nd rfl (Or.inl rfl)) pgs_nil)))))
      (pss_one (ps_ret (pe_tup (pa_cons pe_str (pa_cons (pe_ix ix_seq (pv 2) pe_int (fun _ _ => rfl)) (pa_cons (pv 3) (pa_cons (pe_ix ix_seq (pv 5) pe_int (fun _ _ => rfl)) (pa_cons (pe_ix ix_seq (pv 5) pe_int (fun _ _ => rfl)) pa_nil)))))))))
      pss_nil)
    (pss_cons (ps_if (pt_cmpR op_eq (pe_ix ix_seq (pv 0) pe_int (fun _ _ => rfl)) pe_str (nomark _))
      (pss_cons (ps_asg (pe_ix ix_seq (pv 1) (pe_ix ix_seq (pv 0) pe_int (fun _ _ => rfl)) (fun _ _ => rfl)) (pg_tup rfl (pgs_cons (pg_name (i := 2) sc.nd rfl (Or.inl rfl)) (pgs_cons (pg_name (i := 3) sc.nd rfl (Or.inl rfl)) (pgs_cons (pg_name (i := 4) sc.nd rfl (Or.inl rfl)) pgs_nil)))))
      (pss_one (ps_ret (pe_tup (pa_cons pe_str (pa_cons (pe_ix ix_seq (pv 2) pe_int (fun _ _ => rfl)) (pa_cons (pv 3) (pa_cons (pe_callTy call_tuple_of (by rfl) T.tuple (by decide +kernel) (pa_cons (pv 5) pa_nil)) pa_nil))))))))
      pss_nil)
    (pss_one (ps_ret (pe_call G_rebuilt (hr.mono (by omega)) rfl D_rebuilt.m D_rebuilt.F.kp D_rebuilt.b .nil pass0 (pa_cons (pv 0) (pa_cons (pv 5) pa_nil)))))))))), ?_⟩
  rw [dp_ins] at hd
  refine st_ifr (eb_test (ev_op (ev_tagV i rfl) ev_str rv_eqS)) (fun h => ?_) (fun h => ?_)
  · obtain ⟨n, cs, rfl⟩ := kind0 ((tag_row i).mp (of_decide_eq_true h))
    simp only [okI] at ho
    refine st_seq1 (st_asg3 (ev_op (ev_var rfl) (ev_numV _ rfl) (rv_ixL (rows_at ho.1))) rfl) ?_
    refine st_ret (ev_tup (ea_cons ev_str (ea_cons (ev_var rfl) (ea_cons (ev_var rfl) ea_nil))) (by simp)) ?_
    simp [fillI, num]
  have h0 := mt (tag_row i).mpr (of_decide_eq_false h)
  refine st_seq1 (st_new ea_nil (by simp) rfl) ?_
  refine st_seq (N := fun δ => ∃ x, δ = [dat (encI i), dat (encRows rs), none, none, none, own (fillC rs (ins i)), x]) ?_ fun δ' ⟨x, e⟩ => e ▸ ?_
  · refine st_mapT (i := 5) (j := 6) (atF rs (ins i)) (ev_call (ea_cons (ev_var rfl) ea_nil) ⟨i, hw, rfl, rfl⟩) ?_ (by decide) (by simp [startD]) ⟨none, rfl⟩ (fun m d x ys hm => ?_) (fun x => ⟨x, by rw [atF_map]; rfl⟩)
    · rw [encC_length]; have := ins_len hw; omega
    · obtain ⟨c, hc2, rfl⟩ := encC_get hm
      have hdc := dpC_get hc2
      have hzc := szC_get hc2
      have hzi := sz_ins i
      rw [atF_get hc2]
      exact ev_call (ea_cons (ev_var rfl) (ea_cons (ev_var rfl) ea_nil)) ⟨rs, c, by omega, wfC_get (wf_ins hw) hc2, okC_get (ok_ins ho) hc2, by omega, rfl, rfl⟩
  refine st_keep (i := 5) rfl ?_
  refine st_ifr (eb_test (ev_op (ev_tagV i rfl) ev_str rv_eqS)) (fun h => ?_) (fun h => ?_)
  · obtain ⟨n, cs, rfl⟩ := kind1 ((tag_ifr i).mp (of_decide_eq_true h))
    simp only [okI] at ho
    obtain ⟨ee, he⟩ := act_br ho.2.1
    simp only [wfI] at hw
    obtain ⟨a, b, rfl⟩ := two_of hw.1
    refine st_seq1 (st_asg3 (ev_op (ev_var rfl) (ev_numV _ rfl) (rv_ixL (rows_at ho.1))) rfl) ?_
    refine st_ret (ev_tup (ea_cons ev_str (ea_cons (ev_op (d := ee) (ev_var rfl) ev_int ?_) (ea_cons (ev_var rfl) (ea_cons (ev_op (d := fillT rs a) (ev_var rfl) ev_int ?_) (ea_cons (ev_op (d := fillT rs b) (ev_var rfl) ev_int ?_) ea_nil))))) (by simp)) ?_
    · show RvD Ts (rIx K) (encAct (rowAt rs n).act) _ _
      rw [he]; exact rv_ixT (at_1 _ _ _)
    · simp only [ins, fillC]; exact rv_ixL (at_0 _ _)
    · simp only [ins, fillC]; exact rv_ixL (at_1 _ _ _)
    · simp [fillI, he, exprA, fillC, num]
  have h1 := mt (tag_ifr i).mpr (of_decide_eq_false h)
  refine st_ifr (eb_test (ev_op (ev_tagV i rfl) ev_str rv_eqS)) (fun h => ?_) (fun h => ?_)
  · obtain ⟨n, cs, rfl⟩ := kind2 ((tag_sw i).mp (of_decide_eq_true h))
    simp only [okI] at ho
    obtain ⟨ee, he⟩ := act_sel ho.2.1
    refine st_seq1 (st_asg3 (ev_op (ev_var rfl) (ev_numV _ rfl) (rv_ixL (rows_at ho.1))) rfl) ?_
    refine st_ret (ev_tup (ea_cons ev_str (ea_cons (ev_op (d := ee) (ev_var rfl) ev_int ?_) (ea_cons (ev_var rfl) (ea_cons (ev_callR (ea_cons (ev_var rfl) ea_nil) rc_tuple) ea_nil)))) (by simp)) ?_
    · show RvD Ts (rIx K) (encAct (rowAt rs n).act) _ _
      rw [he]; exact rv_ixT (at_1 _ _ _)
    · simp [fillI, he, exprA, ins, num]
  have h2 := mt (tag_sw i).mpr (of_decide_eq_false h)
  refine st_ret (ev_call (ea_cons (ev_var rfl) (ea_cons (ev_var rfl) ea_nil)) ⟨i, fillC rs (ins i), hw, by rw [fillC_map]; simp, rfl, rfl⟩) ?_
  cases i with
  | act t n cs => cases t <;> simp_all [kindI]
  | scope lp l b => simp [rebD, ins, fillC, fillI]
  | jmp ag l => simp [rebD, fillI]
theorem ok_fill {n L : Nat} (T : Txt mg) (D_filled_item : Df K mg "filled_item" 19 ["item", "rows"]) (D : Df K mg "fill" 20 ["shape", "rows"]) (G_filled_item : FnOk P w K mg base CX0 (L + 1) D_filled_item.a D_filled_item.fd ["item", "rows"] (spP Ts (R_fi n))) :
    FnOk P w K mg base CX0 (L + 2) D.a D.fd ["shape", "rows"] (spP Ts (R_fill n)) := by
  have sc := sc_fill
  refine fn_pure D.F sc (fun ds d h => ?_) (fun cdv A outer s H E ds d hr h => ?_)
  · obtain ⟨_, _, _, _, _, _, rfl, _⟩ := h; rfl
  obtain ⟨rs, s, hd, hw, ho, hz, rfl, rfl⟩ := h
  refine ⟨_, (pss_cons (ps_set (i := 2) sc.nd rfl (Or.inl rfl) (pe_lst pa_nil))
    (pss_cons (ps_for PassesOwn.never rfl (pi_tup (pv 0)) (pg_name (i := 3) sc.nd rfl (Or.inl rfl))
      (pss_one (ps_expr (pe_bm PySem.F.plainAttrs_list PySem.F.slot_list_append PySem.F.type_list_append mt_append (pv 2) (pa_cons (pe_call G_filled_item (hr.mono (by omega)) rfl D_filled_item.m D_filled_item.F.kp D_filled_item.b .nil pass0 (pa_cons (pv 3) (pa_cons (pv 1) pa_nil))) pa_nil)))))
    (pss_one (ps_ret (pe_callTy call_tuple_of (by rfl) T.tuple (by decide +kernel) (pa_cons (pv 2) pa_nil)))))), ?_⟩
  have hl := len_sz s
  refine st_seq1 (st_new ea_nil (by simp) rfl) ?_
  refine st_seq (N := fun δ => ∃ x, δ = [dat (encT s), dat (encRows rs), own (fillS rs s), x]) ?_ fun δ' ⟨x, e⟩ => e ▸ ?_
  · refine st_mapT (i := 2) (j := 3) (atFI rs s) (ev_var rfl) (by rw [encS_length]; omega) (by decide) (by simp [startD]) ⟨none, rfl⟩ (fun m d x ys hm => ?_) (fun x => ⟨x, by rw [atFI_map]; rfl⟩)
    obtain ⟨c, hc2, rfl⟩ := encS_get hm
    have hdc := dpS_get hc2
    have hzc := szS_get hc2
    rw [atFI_get hc2]
    exact ev_call (ea_cons (ev_var rfl) (ea_cons (ev_var rfl) ea_nil)) ⟨rs, c, by omega, wfS_get hw hc2, okS_get ho hc2, by omega, rfl, rfl⟩
  refine st_keep (i := 2) rfl ?_
  exact st_ret (ev_callR (ea_cons (ev_var rfl) ea_nil) rc_tuple) rfl
theorem all_fill (T : Txt mg) (D_insides : Df K mg "insides" 10 ["item"]) (D_rebuilt : Df K mg "rebuilt" 11 ["item", "shapes"]) (D_filled_item : Df K mg "filled_item" 19 ["item", "rows"]) (D : Df K mg "fill" 20 ["shape", "rows"]) :
    ∀ n, FnOk P w K mg base CX0 (2 * n + 2) D.a D.fd ["shape", "rows"] (spP Ts (R_fill n))
  | 0 => fn_none fun ds d h => by obtain ⟨rs, s, h, _⟩ := h; omega
  | n + 1 => ok_fill (L := 2 * n + 2) T D_filled_item D (ok_fi (L := 2 * n + 1) T D_insides D_rebuilt D D_filled_item (all_fill T D_insides D_rebuilt D_filled_item D n))
end
end K33
end
section
set_option Elab.async false
set_option linter.all false
set_option maxRecDepth 100000
set_option maxHeartbeats 4000000
/-! W5: bodies_of, numbered, target, first_in. -/
namespace K33
open PySem L2
/-! ### comprehensions by place -/
def lcIx (n : Nat) (p : Nat → Bool) (f : Nat → PyData) : List PyData := ((List.range n).filter p).map f
theorem lcIx_snoc (i : Nat) (p : Nat → Bool) (f : Nat → PyData) : (if p i = true then lcIx i p f ++ [f i] else lcIx i p f) = lcIx (i + 1) p f := by
  unfold lcIx
  rw [List.range_succ, List.filter_append, List.map_append]
  by_cases q : p i = true
  · rw [if_pos q, List.filter_cons_of_pos q]; rfl
  · rw [if_neg q, List.filter_cons_of_neg q]; simp
theorem lcIx_len (n : Nat) (p : Nat → Bool) (f : Nat → PyData) : (lcIx n p f).length ≤ n := by
  unfold lcIx
  rw [List.length_map]
  have := List.length_filter_le p (List.range n)
  rwa [List.length_range] at this
section
variable {Ts : List Addr} {δ : Dl} {tl te : TE} {K : PySem.W.Frag} {t : TT}
theorem ev_lcLi {j : Nat} {ds : List PyData} (p : Nat → Bool) (f : Nat → PyData) (h : EvD Ts tl δ (.list ds)) (hz : ds.length ≤ 10000) (ht : ∀ (i : Nat) (d : PyData), ds[i]? = some d → EvB Ts t ((δ.set j none).set j (dat d)) (p i)) (he : ∀ (i : Nat) (d : PyData), ds[i]? = some d → p i = true → EvD Ts te ((δ.set j none).set j (dat d)) (f i)) :
    EvD Ts (tLc (iList K tl) (gName j) t te [j]) δ (.list (lcIx ds.length p f)) := fun σ k H hk s Q q =>
  h σ k H hk s _ fun v k1 H1 g1 dv => by
    cases dv with
    | lst e a =>
      rename_i ad xs
      refine ⟨ad, rfl, ⟨xs, SqL.of (g1.kn.sub _ _ e)⟩, fun D hD => ?_⟩
      have s1 := s.up hk g1
      have al := a.length
      refine lc_list (xs := xs) (fun i H' => Grow Ts k1 H1 σ δ D (lcIx i p f) H') ⟨k1, [], Gr.fresh g1.kn hD, upd_same, ?_, by simpa [lcIx] using DtA.nil⟩ (fun i H' _ P => ?_) (fun i x H' hi P => ⟨wipe1, ?_⟩) (fun H' P => ?_)
      · cases z : k1 D with
        | none => rfl
        | some o => rw [g1.kn.sub D o z] at hD; cases hD
      · obtain ⟨k2, ys, g2, _⟩ := P.ex
        exact SqL.of (g2.kn.sub _ _ (g2.kk _ _ e))
      · obtain ⟨d, hd, dt⟩ := a.getV hi
        have hl : i < ds.length := (List.getElem?_eq_some_iff.mp hd).1
        have := grow_turn (j := j) g1.kn hD s1 dt (by have := lcIx_len i p f; omega) P (ht i d hd) (he i d hd)
        rw [lcIx_snoc] at this
        exact this
      · have P' : Grow Ts k1 H1 σ δ D (lcIx xs.length p f) H' := P
        rw [al] at P'
        obtain ⟨k2, g2, d2⟩ := P'.done hD
        exact q _ k2 H' (Gr.trans0 hk g1 g2) d2
end
theorem lcIx_all {n : Nat} {f : Nat → PyData} : lcIx n (fun _ => true) f = (List.range n).map f := by
  unfold lcIx
  rw [List.filter_eq_self.mpr (fun _ _ => rfl)]

/-! ### numbered statements as data -/
def numD (k : Nat) : I → PyData
  | .act _ _ _ => pI k
  | _ => .none
def kb : I → Nat
  | .act _ _ _ => 1
  | _ => 0
mutual
def encNI (rs : List Row) (k : Nat) : I → PyData
  | .act t n cs => .tuple [pI k, fillI rs (.act t n cs), .list (encNC rs (k + 1) cs)]
  | .scope lp l b => .tuple [.none, fillI rs (.scope lp l b), .list [.list (encNS rs k b)]]
  | .jmp ag l => .tuple [.none, fillI rs (.jmp ag l), .list []]
def encNS (rs : List Row) (k : Nat) : List I → List PyData
  | [] => []
  | i :: r => encNI rs k i :: encNS rs (k + naI i) r
def encNC (rs : List Row) (k : Nat) : List (List I) → List PyData
  | [] => []
  | s :: r => .list (encNS rs k s) :: encNC rs (k + naS s) r
end
theorem naI_eq (i : I) : naI i = kb i + naC (ins i) := by
  cases i with
  | act t n cs => rfl
  | scope lp l b => simp [naI, kb, ins, naC]
  | jmp ag l => rfl
theorem encNI_eq (rs : List Row) (k : Nat) (i : I) : encNI rs k i = .tuple [numD k i, fillI rs i, .list (encNC rs (k + kb i) (ins i))] := by
  cases i with
  | act t n cs => simp [encNI, numD, kb, ins]
  | scope lp l b => simp [encNI, numD, kb, ins, encNC]
  | jmp ag l => simp [encNI, numD, kb, ins, encNC]
theorem naS_app : ∀ s r : List I, naS (s ++ r) = naS s + naS r
  | [], r => by simp [naS]
  | i :: s, r => by
    show naS (i :: (s ++ r)) = _
    simp only [naS, naS_app s r, Nat.add_assoc]
theorem naC_app : ∀ s r : List (List I), naC (s ++ r) = naC s + naC r
  | [], r => by simp [naC]
  | i :: s, r => by
    show naC (i :: (s ++ r)) = _
    simp only [naC, naC_app s r, Nat.add_assoc]
theorem naS_snoc {s : List I} {n : Nat} {i : I} (h : s[n]? = some i) : naS (s.take (n + 1)) = naS (s.take n) + naI i := by
  rw [List.take_add_one, h, naS_app]
  simp [naS]
theorem naC_snoc {s : List (List I)} {n : Nat} {i : List I} (h : s[n]? = some i) : naC (s.take (n + 1)) = naC (s.take n) + naS i := by
  rw [List.take_add_one, h, naC_app]
  simp [naC]
theorem encNS_app (rs : List Row) : ∀ (k : Nat) (s r : List I), encNS rs k (s ++ r) = encNS rs k s ++ encNS rs (k + naS s) r
  | k, [], r => by simp [encNS, naS]
  | k, i :: s, r => by
    show encNS rs k (i :: (s ++ r)) = _
    simp only [encNS, encNS_app rs (k + naI i) s r, naS, List.cons_append, Nat.add_assoc]
theorem encNC_app (rs : List Row) : ∀ (k : Nat) (s r : List (List I)), encNC rs k (s ++ r) = encNC rs k s ++ encNC rs (k + naC s) r
  | k, [], r => by simp [encNC, naC]
  | k, i :: s, r => by
    show encNC rs k (i :: (s ++ r)) = _
    simp only [encNC, encNC_app rs (k + naS i) s r, naC, List.cons_append, Nat.add_assoc]
theorem encNS_snoc (rs : List Row) (k : Nat) {s : List I} {n : Nat} {i : I} (h : s[n]? = some i) : encNS rs k (s.take (n + 1)) = encNS rs k (s.take n) ++ [encNI rs (k + naS (s.take n)) i] := by
  rw [List.take_add_one, h, encNS_app]
  simp [encNS]
theorem encNC_snoc (rs : List Row) (k : Nat) {s : List (List I)} {n : Nat} {i : List I} (h : s[n]? = some i) : encNC rs k (s.take (n + 1)) = encNC rs k (s.take n) ++ [.list (encNS rs (k + naC (s.take n)) i)] := by
  rw [List.take_add_one, h, encNC_app]
  simp [encNC]
theorem encNS_length (rs : List Row) : ∀ (k : Nat) (s : List I), (encNS rs k s).length = s.length
  | _, [] => by simp [encNS]
  | k, i :: s => by simp [encNS, encNS_length rs _ s]
theorem encNC_length (rs : List Row) : ∀ (k : Nat) (s : List (List I)), (encNC rs k s).length = s.length
  | _, [] => by simp [encNC]
  | k, i :: s => by simp [encNC, encNC_length rs _ s]
theorem encNS_at (rs : List Row) : ∀ (k : Nat) (s : List I) (p : Nat) (i : I), s[p]? = some i → (encNS rs k s)[p]? = some (encNI rs (k + naS (s.take p)) i)
  | k, [], p, i, h => by simp at h
  | k, j :: s, 0, i, h => by simp at h; subst h; simp [encNS, naS]
  | k, j :: s, p + 1, i, h => by
    have := encNS_at rs (k + naI j) s p i (by simpa using h)
    simp only [encNS, List.getElem?_cons_succ, List.take_succ_cons, naS, this, Nat.add_assoc]
theorem encNC_at (rs : List Row) : ∀ (k : Nat) (s : List (List I)) (p : Nat) (d : PyData), (encNC rs k s)[p]? = some d → ∃ c, s[p]? = some c ∧ d = .list (encNS rs (k + naC (s.take p)) c)
  | k, [], p, i, h => by simp [encNC] at h
  | k, j :: s, 0, i, h => by simp [encNC] at h; exact ⟨j, rfl, by rw [← h]; simp [naC]⟩
  | k, j :: s, p + 1, i, h => by
    obtain ⟨c, h1, h2⟩ := encNC_at rs (k + naS j) s p i (by simpa [encNC] using h)
    exact ⟨c, by simpa using h1, by rw [h2]; simp only [List.take_succ_cons, naC, Nat.add_assoc]⟩
/-! tags of statements -/
def tagFK : Nat → Str
  | 0 => "do"
  | 1 => "if"
  | 2 => "switch"
  | 3 => "loop"
  | 4 => "block"
  | 5 => "again"
  | _ => "leave"
def tagF (i : I) : Str := tagFK (kindI i)
theorem tagFK_all : (List.range 7).all (fun k => (decide (tagFK k = "do") == decide (k = 0)) && (decide (tagFK k = "if") == decide (k = 1)) && (decide (tagFK k = "switch") == decide (k = 2)) && (decide (tagFK k = "loop") == decide (k = 3)) && (decide (tagFK k = "block") == decide (k = 4)) && (decide (tagFK k = "again") == decide (k = 5)) && (decide (tagFK k = "leave") == decide (k = 6))) = true := by decide +kernel
theorem tagF_is (i : I) : decide (tagF i = "do") = decide (kindI i = 0) ∧ decide (tagF i = "if") = decide (kindI i = 1) ∧ decide (tagF i = "switch") = decide (kindI i = 2) ∧ decide (tagF i = "loop") = decide (kindI i = 3) ∧ decide (tagF i = "block") = decide (kindI i = 4) ∧ decide (tagF i = "again") = decide (kindI i = 5) ∧ decide (tagF i = "leave") = decide (kindI i = 6) := by
  have h := List.all_eq_true.mp tagFK_all (kindI i) (List.mem_range.mpr (kind_lt i))
  simp only [Bool.and_eq_true, beq_iff_eq] at h
  obtain ⟨⟨⟨⟨⟨⟨h0, h1⟩, h2⟩, h3⟩, h4⟩, h5⟩, h6⟩ := h
  exact ⟨h0, h1, h2, h3, h4, h5, h6⟩
theorem tagF_do (i : I) : tagF i = "do" ↔ kindI i = 0 := dec_iff (tagF_is i).1
theorem tagF_if (i : I) : tagF i = "if" ↔ kindI i = 1 := dec_iff (tagF_is i).2.1
theorem tagF_sw (i : I) : tagF i = "switch" ↔ kindI i = 2 := dec_iff (tagF_is i).2.2.1
theorem tagF_loop (i : I) : tagF i = "loop" ↔ kindI i = 3 := dec_iff (tagF_is i).2.2.2.1
theorem tagF_block (i : I) : tagF i = "block" ↔ kindI i = 4 := dec_iff (tagF_is i).2.2.2.2.1
theorem tagF_again (i : I) : tagF i = "again" ↔ kindI i = 5 := dec_iff (tagF_is i).2.2.2.2.2.1
theorem tagF_leave (i : I) : tagF i = "leave" ↔ kindI i = 6 := dec_iff (tagF_is i).2.2.2.2.2.2
theorem kind5 {i : I} (h : kindI i = 5) : ∃ l, i = .jmp true l := by
  cases i with
  | act t n cs => cases t <;> simp [kindI] at h
  | scope lp l b => cases lp <;> simp [kindI] at h
  | jmp ag l => cases ag <;> first | exact ⟨_, rfl⟩ | simp [kindI] at h
theorem kind6 {i : I} (h : kindI i = 6) : ∃ l, i = .jmp false l := by
  cases i with
  | act t n cs => cases t <;> simp [kindI] at h
  | scope lp l b => cases lp <;> simp [kindI] at h
  | jmp ag l => cases ag <;> first | exact ⟨_, rfl⟩ | simp [kindI] at h
theorem kind_act {i : I} (h : kindI i = 0 ∨ kindI i = 1 ∨ kindI i = 2) : ∃ t n cs, i = .act t n cs := by
  cases i with
  | act t n cs => exact ⟨_, _, _, rfl⟩
  | scope lp l b => cases lp <;> simp [kindI] at h
  | jmp ag l => cases ag <;> simp [kindI] at h
theorem kind_noact {i : I} (h : ¬ (kindI i = 0 ∨ kindI i = 1 ∨ kindI i = 2)) : kb i = 0 ∧ ∀ k, numD k i = .none := by
  cases i with
  | act t n cs => cases t <;> simp [kindI] at h
  | scope lp l b => exact ⟨rfl, fun _ => rfl⟩
  | jmp ag l => exact ⟨rfl, fun _ => rfl⟩
theorem fill_tag (rs : List Row) (i : I) : ∃ x r, fillI rs i = .tuple (.str (tagF i) :: x :: r) := by
  cases i with
  | act t n cs => cases t <;> exact ⟨_, _, by rw [fillI]; rfl⟩
  | scope lp l b => cases lp <;> exact ⟨_, _, by rw [fillI]; rfl⟩
  | jmp ag l => cases ag <;> exact ⟨_, _, by rw [fillI]; rfl⟩
theorem str3 (a b c : Str) : [PyData.str a, PyData.str b, PyData.str c] = [a, b, c].map PyData.str := rfl
section
variable {P : Program} {w : World} {K : PySem.W.Frag} {mg : Str → Option Value} {base : Heap} {Ts : List Addr}
theorem ev_tagF {δ : Dl} {te : TE} (rs : List Row) (i : I) (h : EvD Ts te δ (fillI rs i)) : EvD Ts (tOp (rIx K) te (tC (.int 0))) δ (.str (tagF i)) := by
  obtain ⟨x, r, e⟩ := fill_tag rs i
  exact ev_op h ev_int (by rw [e]; exact rv_ixT (at_0 _ _))
/-! ### bodies_of -/
theorem sc_bodies : FnScope ["statement"] ["statement"] (defScope (topS 23)) := ⟨rfl, rfl, rfl, by decide +kernel, rfl, by decide +kernel, by decide +kernel⟩
def R_bodies (ds : List PyData) (d : PyData) : Prop := ∃ (rs : List Row) (i : I), wfI i ∧ ds = [fillI rs i] ∧ d = .tuple (fillC rs (ins i))
theorem at_4 {α : Type} (a b c d e : α) (r : List α) : atI (a :: b :: c :: d :: e :: r) 4 = some e := atI_nat (j := 4) rfl
theorem ok_bodies (D : Df K mg "bodies_of" 23 ["statement"]) : FnOk P w K mg base CX0 1 D.a D.fd ["statement"] (spP Ts R_bodies) := by
  have sc := sc_bodies
  refine fn_pure D.F sc (fun ds d h => ?_) (fun cdv A outer s H E ds d hr h => ?_)
  · obtain ⟨_, _, _, rfl, _⟩ := h; rfl
  obtain ⟨rs, i, hw, rfl, rfl⟩ := h
  refine ⟨_, (pss_cons (ps_if (pt_cmpR op_eq (pe_ix ix_seq (pv 0) pe_int (fun _ _ => rfl)) pe_str (nomark _))
      (pss_one (ps_ret (pe_tup (pa_cons (pe_ix ix_seq (pv 0) pe_int (fun _ _ => rfl)) (pa_cons (pe_ix ix_seq (pv 0) pe_int (fun _ _ => rfl)) pa_nil)))))
      pss_nil)
    (pss_cons (ps_if (pt_cmpR op_eq (pe_ix ix_seq (pv 0) pe_int (fun _ _ => rfl)) pe_str (nomark _))
      (pss_one (ps_ret (pe_ix ix_seq (pv 0) pe_int (fun _ _ => rfl))))
      pss_nil)
    (pss_cons (ps_if (pt_cmpR op_in_seq (pe_ix ix_seq (pv 0) pe_int (fun _ _ => rfl)) (pe_tup (pa_cons pe_str (pa_cons pe_str pa_nil))) (by rfl))
      (pss_one (ps_ret (pe_tup (pa_cons (pe_ix ix_seq (pv 0) pe_int (fun _ _ => rfl)) pa_nil))))
      pss_nil)
    (pss_one (ps_ret (pe_tup pa_nil)))))), ?_⟩
  refine st_ifr (eb_test (ev_op (ev_tagF rs i (ev_var rfl)) ev_str rv_eqS)) (fun h => ?_) (fun h => ?_)
  · obtain ⟨n, cs, rfl⟩ := kind1 ((tagF_if i).mp (of_decide_eq_true h))
    simp only [wfI] at hw
    obtain ⟨a, b, rfl⟩ := two_of hw.1
    refine st_ret (ev_tup (ea_cons (ev_op (d := fillT rs a) (ev_var rfl) ev_int ?_) (ea_cons (ev_op (d := fillT rs b) (ev_var rfl) ev_int ?_) ea_nil)) (by simp)) ?_
    · simp only [fillI, fillC]; exact rv_ixT (at_3 _ _ _ _ _)
    · simp only [fillI, fillC]; exact rv_ixT (at_4 _ _ _ _ _ _)
    · simp [ins, fillC]
  have h1 := mt (tagF_if i).mpr (of_decide_eq_false h)
  refine st_ifr (eb_test (ev_op (ev_tagF rs i (ev_var rfl)) ev_str rv_eqS)) (fun h => ?_) (fun h => ?_)
  · obtain ⟨n, cs, rfl⟩ := kind2 ((tagF_sw i).mp (of_decide_eq_true h))
    refine st_ret (d := .tuple (fillC rs cs)) (ev_op (ev_var rfl) ev_int ?_) ?_
    · simp only [fillI]; exact rv_ixT (at_3 _ _ _ _ _)
    · simp [ins]
  have h2 := mt (tagF_sw i).mpr (of_decide_eq_false h)
  refine st_ifr (eb_test (ev_op (ev_tagF rs i (ev_var rfl)) (ev_tup (ea_cons ev_str (ea_cons ev_str ea_nil)) (by simp)) (by rw [str2]; exact rv_inS))) (fun h3 => ?_) (fun h3 => ?_)
  · have h3 : tagF i = "loop" ∨ tagF i = "block" := by simpa using h3
    obtain ⟨lp, l, b, rfl⟩ := kind34 (h3.imp (tagF_loop i).mp (tagF_block i).mp)
    refine st_ret (ev_tup (ea_cons (ev_op (d := fillT rs b) (ev_var rfl) ev_int ?_) ea_nil) (by simp)) ?_
    · simp only [fillI]; exact rv_ixT (at_2 _ _ _ _)
    · simp [ins, fillC]
  have h3 : ¬ (tagF i = "loop" ∨ tagF i = "block") := by simpa using h3
  refine st_ret (ev_tup ea_nil (by simp)) ?_
  rcases kind_rest h1 h2 (fun q => h3 (q.imp (tagF_loop i).mpr (tagF_block i).mpr)) with ⟨n, cs', rfl⟩ | ⟨ag, l, rfl⟩
  · simp only [wfI] at hw; simp [ins, hw.1, fillC]
  · simp [ins, fillC]
/-! ### numbered -/
theorem sc_numbered : FnScope ["sequence", "start", "result", "count", "statement", "number", "inner", "body", "found"] ["sequence", "start"] (defScope (topS 24)) := ⟨rfl, rfl, rfl, by decide +kernel, rfl, by decide +kernel, by decide +kernel⟩
def R_numbered (n : Nat) (ds : List PyData) (d : PyData) : Prop := ∃ (rs : List Row) (s : List I) (k : Nat), dpS s < n ∧ wfS s ∧ szS s ≤ 2000 ∧ ds = [fillT rs s, pI k] ∧ d = .tuple [.list (encNS rs k s), pI (k + naS s)]
theorem fillS_get {rs : List Row} {cs : List I} {i : Nat} {d : PyData} (h : (fillS rs cs)[i]? = some d) : ∃ s, cs[i]? = some s ∧ d = fillI rs s := by
  rw [fillS_map, List.getElem?_map] at h
  cases e : cs[i]? with
  | none => rw [e] at h; cases h
  | some s => rw [e] at h; cases h; exact ⟨s, rfl, rfl⟩
theorem fillC_get {rs : List Row} {cs : List (List I)} {i : Nat} {d : PyData} (h : (fillC rs cs)[i]? = some d) : ∃ s, cs[i]? = some s ∧ d = fillT rs s := by
  rw [fillC_map, List.getElem?_map] at h
  cases e : cs[i]? with
  | none => rw [e] at h; cases h
  | some s => rw [e] at h; cases h; exact ⟨s, rfl, rfl⟩
theorem fillS_length (rs : List Row) (s : List I) : (fillS rs s).length = s.length := by rw [fillS_map]; simp
theorem fillC_length (rs : List Row) (s : List (List I)) : (fillC rs s).length = s.length := by rw [fillC_map]; simp
theorem ok_numbered {n : Nat} (D_bodies_of : Df K mg "bodies_of" 23 ["statement"]) (D : Df K mg "numbered" 24 ["sequence", "start"]) (G : FnOk P w K mg base CX0 (n + 1) D.a D.fd ["sequence", "start"] (spP Ts (R_numbered n))) :
    FnOk P w K mg base CX0 (n + 2) D.a D.fd ["sequence", "start"] (spP Ts (R_numbered (n + 1))) := by
  have sc := sc_numbered
  have G_bodies_of := ok_bodies (P := P) (w := w) (base := base) (Ts := Ts) D_bodies_of
  refine fn_pure D.F sc (fun ds d h => ?_) (fun cdv A outer s H E ds d hr h => ?_)
  · obtain ⟨_, _, _, _, _, _, rfl, _⟩ := h; rfl
  obtain ⟨rs, s, k, hd, hw, hz, rfl, rfl⟩ := h
  refine ⟨_, (pss_cons (ps_set (i := 2) sc.nd rfl (Or.inl rfl) (pe_lst pa_nil))
    (pss_cons (ps_set (i := 3) sc.nd rfl (Or.inl rfl) (pv 1))
    (pss_cons (ps_for PassesOwn.never rfl (pi_tup (pv 0)) (pg_name (i := 4) sc.nd rfl (Or.inl rfl))
      (pss_cons (ps_set (i := 5) sc.nd rfl (Or.inl rfl) pe_non)
      (pss_cons (ps_if (pt_cmpR op_in_seq (pe_ix ix_seq (pv 4) pe_int (fun _ _ => rfl)) (pe_tup (pa_cons pe_str (pa_cons pe_str (pa_cons pe_str pa_nil)))) (by rfl))
        (pss_cons (ps_set (i := 5) sc.nd rfl (Or.inl rfl) (pv 3))
        (pss_one (ps_aug (i := 3) sc.nd rfl (Or.inl rfl) pe_int ip_add)))
        pss_nil)
      (pss_cons (ps_set (i := 6) sc.nd rfl (Or.inl rfl) (pe_lst pa_nil))
      (pss_cons (ps_for PassesOwn.never rfl (pi_tup (pe_call G_bodies_of (hr.mono (by omega)) rfl D_bodies_of.m D_bodies_of.F.kp D_bodies_of.b .nil pass0 (pa_cons (pv 4) pa_nil))) (pg_name (i := 7) sc.nd rfl (Or.inl rfl))
        (pss_cons (ps_set (i := 8) sc.nd rfl (Or.inl rfl) (pe_call G (hr.mono (by omega)) rfl D.m D.F.kp D.b .nil pass0 (pa_cons (pv 7) (pa_cons (pv 3) pa_nil))))
        (pss_cons (ps_expr (pe_bm PySem.F.plainAttrs_list PySem.F.slot_list_append PySem.F.type_list_append mt_append (pv 6) (pa_cons (pe_ix ix_seq (pv 8) pe_int (fun _ _ => rfl)) pa_nil)))
        (pss_one (ps_set (i := 3) sc.nd rfl (Or.inl rfl) (pe_ix ix_seq (pv 8) pe_int (fun _ _ => rfl)))))))
      (pss_one (ps_expr (pe_bm PySem.F.plainAttrs_list PySem.F.slot_list_append PySem.F.type_list_append mt_append (pv 2) (pa_cons (pe_tup (pa_cons (pv 5) (pa_cons (pv 4) (pa_cons (pv 6) pa_nil)))) pa_nil)))))))))
    (pss_one (ps_ret (pe_tup (pa_cons (pv 2) (pa_cons (pv 3) pa_nil)))))))), ?_⟩
  have hls := len_sz s
  refine st_seq1 (st_new ea_nil (by simp) rfl) ?_
  refine st_seq1 (st_asg (ev_var rfl) rfl) ?_
  refine st_seq (N := fun δ => ∃ x4 x5 x6 x7 x8, δ = [dat (fillT rs s), dat (pI k), own (encNS rs k s), dat (pI (k + naS s)), x4, x5, x6, x7, x8]) ?_ fun δ' ⟨x4, x5, x6, x7, x8, e⟩ => e ▸ st_keep (i := 2) rfl (st_ret (ev_tup (ea_cons (ev_var rfl) (ea_cons (ev_var rfl) ea_nil)) (by simp)) rfl)
  refine forT_core (fun j δ => ∃ x4 x5 x6 x7 x8, δ = [dat (fillT rs s), dat (pI k), own (encNS rs k (s.take j)), dat (pI (k + naS (s.take j))), x4, x5, x6, x7, x8]) (ev_var rfl) ⟨none, none, none, none, none, by simp [encNS, naS]; rfl⟩ (fun j d δ' hj ⟨x4, x5, x6, x7, x8, e⟩ => ?_) (fun δ' ⟨x4, x5, x6, x7, x8, e⟩ => ⟨x4, x5, x6, x7, x8, by rw [e, fillS_length, List.take_length]⟩)
  obtain ⟨i, hi, rfl⟩ := fillS_get hj
  have hjl : j < s.length := (List.getElem?_eq_some_iff.mp hi).1
  have hwi := wfS_get hw hi
  have hdi := dpS_get hi
  rw [dp_ins] at hdi
  have hzi := szS_get hi
  have hzz := sz_ins i
  subst e
  refine st_seq1 (st_asg ev_non rfl) ?_
  refine st_seq (N := fun δ => δ = [dat (fillT rs s), dat (pI k), own (encNS rs k (s.take j)), dat (pI (k + naS (s.take j) + kb i)), dat (fillI rs i), dat (numD (k + naS (s.take j)) i), x6, x7, x8]) ?_ fun δ' e => e ▸ ?_
  · refine st_if (eb_test (ev_op (ev_tagF rs i (ev_var rfl)) (ev_tup (ea_cons ev_str (ea_cons ev_str (ea_cons ev_str ea_nil))) (by simp)) (by rw [str3]; exact rv_inS))) (fun h3 => ?_) (fun h3 => ?_)
    · have h3 : tagF i = "do" ∨ tagF i = "if" ∨ tagF i = "switch" := by simpa using h3
      obtain ⟨t, n', cs, rfl⟩ := kind_act (h3.imp (tagF_do i).mp fun q => q.imp (tagF_if i).mp (tagF_sw i).mp)
      refine st_seq1 (st_asg (ev_var rfl) rfl) ?_
      exact st_aug rfl ev_int rfl
    · have h3 : ¬ (tagF i = "do" ∨ tagF i = "if" ∨ tagF i = "switch") := by simpa using h3
      obtain ⟨q1, q2⟩ := kind_noact (i := i) fun z => h3 (z.imp (tagF_do i).mpr fun q => q.imp (tagF_if i).mpr (tagF_sw i).mpr)
      refine st_next ?_
      rw [q1, q2]
      rfl
  refine st_seq1 (st_new ea_nil (by simp) rfl) ?_
  refine st_seq (N := fun δ => ∃ x7 x8, δ = [dat (fillT rs s), dat (pI k), own (encNS rs k (s.take j)), dat (pI (k + naS (s.take j) + kb i + naC (ins i))), dat (fillI rs i), dat (numD (k + naS (s.take j)) i), own (encNC rs (k + naS (s.take j) + kb i) (ins i)), x7, x8]) ?_ fun δ' ⟨x7, x8, e⟩ => e ▸ ?_
  · refine forT_core (fun m δ => ∃ x7 x8, δ = [dat (fillT rs s), dat (pI k), own (encNS rs k (s.take j)), dat (pI (k + naS (s.take j) + kb i + naC ((ins i).take m))), dat (fillI rs i), dat (numD (k + naS (s.take j)) i), own (encNC rs (k + naS (s.take j) + kb i) ((ins i).take m)), x7, x8]) (ev_call (ea_cons (ev_var rfl) ea_nil) ⟨rs, i, hwi, rfl, rfl⟩) ⟨x7, x8, by simp [encNC, naC]⟩ (fun m d δ' hm ⟨x7, x8, e⟩ => ?_) (fun δ' ⟨x7, x8, e⟩ => ⟨x7, x8, by rw [e, fillC_length, List.take_length]⟩)
    obtain ⟨c, hc, rfl⟩ := fillC_get hm
    have hml : m < (ins i).length := (List.getElem?_eq_some_iff.mp hc).1
    have hdc := dpC_get hc
    have hzc := szC_get hc
    have hil := ins_len hwi
    subst e
    refine st_seq1 (st_asg (ev_call (ea_cons (ev_var rfl) (ea_cons (ev_var rfl) ea_nil)) ⟨rs, c, k + naS (s.take j) + kb i + naC ((ins i).take m), by omega, wfC_get (wf_ins hwi) hc, by omega, rfl, rfl⟩) rfl) ?_
    refine st_seq1 (st_append rfl (ev_op (ev_var rfl) ev_int (rv_ixT (at_0 _ _))) (by rw [encNC_length, List.length_take]; omega) rfl) ?_
    refine st_asg (ev_op (ev_var rfl) ev_int (rv_ixT (at_1 _ _ _))) ⟨dat (fillT rs c), dat (.tuple [.list (encNS rs (k + naS (s.take j) + kb i + naC ((ins i).take m)) c), pI (k + naS (s.take j) + kb i + naC ((ins i).take m) + naS c)]), ?_⟩
    rw [encNC_snoc rs _ hc, naC_snoc hc, Nat.add_assoc _ (naC _) (naS c)]
    rfl
  refine st_keep (i := 6) rfl ?_
  refine st_append rfl (ev_tup (ea_cons (ev_var rfl) (ea_cons (ev_var rfl) (ea_cons (ev_var rfl) ea_nil))) (by simp)) (by rw [encNS_length, List.length_take]; omega) ⟨dat (fillI rs i), dat (numD (k + naS (s.take j)) i), dat (.list (encNC rs (k + naS (s.take j) + kb i) (ins i))), x7, x8, ?_⟩
  rw [encNS_snoc rs k hi, naS_snoc hi, encNI_eq, naI_eq]
  have e1 : k + naS (s.take j) + kb i + naC (ins i) = k + (naS (s.take j) + (kb i + naC (ins i))) := by omega
  rw [← e1]
  rfl
theorem all_numbered (D_bodies_of : Df K mg "bodies_of" 23 ["statement"]) (D : Df K mg "numbered" 24 ["sequence", "start"]) :
    ∀ n, FnOk P w K mg base CX0 (n + 1) D.a D.fd ["sequence", "start"] (spP Ts (R_numbered n))
  | 0 => fn_none fun ds d h => by obtain ⟨rs, s, k, h, _⟩ := h; omega
  | n + 1 => ok_numbered D_bodies_of D (all_numbered D_bodies_of D n)
/-! ### target -/
def encG (g : Bool × Nat × Nat) : PyData := .tuple [.str (tagS g.1), pI g.2.1, pI g.2.2]
def stepG (e : EnvN) (g : Bool × Nat × Nat) : EnvN := if g.1 = true then e.loop g.2.1 g.2.2 else e.block g.2.1 g.2.2
def envG (z : Nat) (gs : List (Bool × Nat × Nat)) : EnvN := gs.foldl stepG ⟨fun _ => z, fun _ => z⟩
def envAt (e : EnvN) (lp : Bool) (l : Nat) : Nat := if lp = true then e.lp l else e.bk l
theorem envG_snoc (z : Nat) (gs : List (Bool × Nat × Nat)) (g : Bool × Nat × Nat) : envG z (gs ++ [g]) = stepG (envG z gs) g := by unfold envG; rw [List.foldl_append]; rfl
theorem envAt_step (e : EnvN) (g : Bool × Nat × Nat) (lp : Bool) (l : Nat) : envAt (stepG e g) lp l = if g.1 = lp ∧ g.2.1 = l then g.2.2 else envAt e lp l := by
  obtain ⟨a, b, c⟩ := g
  cases a <;> cases lp <;> simp [envAt, stepG, EnvN.loop, EnvN.block] <;> by_cases q : l = b <;> simp [q] <;> intro h <;> exact absurd h.symm q
theorem tagS_inj (a b : Bool) : decide (tagS a = tagS b) = decide (a = b) := by cases a <;> cases b <;> decide +kernel
theorem sc_target : FnScope ["goals", "kind", "label", "none", "goal"] ["goals", "kind", "label", "none"] (defScope (topS 25)) := ⟨rfl, rfl, rfl, by decide +kernel, rfl, by decide +kernel, by decide +kernel⟩
def R_target (ds : List PyData) (d : PyData) : Prop := ∃ (gs : List (Bool × Nat × Nat)) (lp : Bool) (l z : Nat), ds = [.list (gs.map encG), .str (tagS lp), pI l, pI z] ∧ d = pI (envAt (envG z gs) lp l)
theorem ok_target (T : Txt mg) (D : Df K mg "target" 25 ["goals", "kind", "label", "none"]) : FnOk P w K mg base CX0 1 D.a D.fd ["goals", "kind", "label", "none"] (spP Ts R_target) := by
  have sc := sc_target
  refine fn_pure D.F sc (fun ds d h => ?_) (fun cdv A outer s H E ds d hr h => ?_)
  · obtain ⟨_, _, _, _, rfl, _⟩ := h; rfl
  obtain ⟨gs, lp, l, z, rfl, rfl⟩ := h
  refine ⟨_, (pss_cons (ps_for PassesOwn.never rfl (RT.pi_revA rfl T.reversed (pv 0)) (pg_name (i := 4) sc.nd rfl (Or.inl rfl))
      (pss_one (ps_if (PW.pt (pw_and (pt_cmpR op_eq (pe_ix ix_seq (pv 4) pe_int (fun _ _ => rfl)) (pv 1) (nomark _)) (pw_and1 (pt_cmpR op_eq (pe_ix ix_seq (pv 4) pe_int (fun _ _ => rfl)) (pv 2) (nomark _)))))
        (pss_one (ps_ret (pe_ix ix_seq (pv 4) pe_int (fun _ _ => rfl))))
        pss_nil)))
    (pss_one (ps_ret (pv 3)))), ?_⟩
  refine st_seq (N := fun δ => ∃ x, δ = [dat (.list (gs.map encG)), dat (.str (tagS lp)), dat (pI l), dat (pI z), x] ∧ envAt (envG z gs) lp l = z) ?_ fun δ' ⟨x, e, hz⟩ => e ▸ st_ret (ev_var rfl) (by rw [hz])
  refine forRL_core (fun j δ => ∃ x, δ = [dat (.list (gs.map encG)), dat (.str (tagS lp)), dat (pI l), dat (pI z), x] ∧ envAt (envG z gs) lp l = envAt (envG z (gs.take (gs.length - j))) lp l) (ev_var rfl) ⟨none, rfl, by simp⟩ (fun j d δ' hjl hj ⟨x, e, hv⟩ => ?_) (fun δ' ⟨x, e, hv⟩ => ⟨x, e, by rw [hv]; simp [envG, envAt]⟩)
  rw [List.length_map] at hjl hj
  rw [List.getElem?_map] at hj
  have hq : gs.length - 1 - j < gs.length := by omega
  rw [List.getElem?_eq_getElem hq] at hj
  have hd : encG gs[gs.length - 1 - j] = d := by simpa using hj
  subst hd
  have tk : gs.take (gs.length - j) = gs.take (gs.length - (j + 1)) ++ [gs[gs.length - 1 - j]] := by
    have e1 : gs.length - j = (gs.length - 1 - j) + 1 := by omega
    have e2 : gs.length - (j + 1) = gs.length - 1 - j := by omega
    rw [e1, e2, List.take_add_one, List.getElem?_eq_getElem hq]
    rfl
  rw [tk, envG_snoc, envAt_step] at hv
  subst e
  generalize gs[gs.length - 1 - j] = g at hv
  refine st_if (eb_and (eb_test (ev_op (ev_op (ev_var rfl) ev_int (rv_ixT (at_0 _ _))) (ev_var rfl) rv_eqS)) (fun _ => eb_test (ev_op (ev_op (ev_var rfl) ev_int (rv_ixT (at_1 _ _ _))) (ev_var rfl) rv_eqN))) (fun hc => ?_) (fun hc => ?_)
  · rw [tagS_inj] at hc
    rw [if_pos (by simpa using hc)] at hv
    exact st_ret (ev_op (ev_var rfl) ev_int (rv_ixT (at_2 _ _ _ _))) (by rw [hv])
  · rw [tagS_inj] at hc
    rw [if_neg (by
      intro q
      rw [decide_eq_true q.1, decide_eq_true q.2] at hc
      cases hc)] at hv
    exact st_next ⟨_, rfl, hv⟩
/-! ### first_in -/
theorem sc_first : FnScope ["sequence", "position", "behind", "goals", "none", "number", "statement", "inner", "after"] ["sequence", "position", "behind", "goals", "none"] (defScope (topS 26)) := ⟨rfl, rfl, rfl, by decide +kernel, rfl, by decide +kernel, by decide +kernel⟩
def R_first (m : Nat) (ds : List PyData) (d : PyData) : Prop := ∃ (rs : List Row) (s : List I) (k p a z : Nat) (gs : List (Bool × Nat × Nat)), wtS (s.drop p) < m ∧ p ≤ s.length ∧ gs.length + m ≤ 1000 ∧
  ds = [.list (encNS rs k s), pI p, pI a, .list (gs.map encG), pI z] ∧ d = pI (fnS z (s.drop p) (k + naS (s.take p)) a (envG z gs))
theorem ok_first {m : Nat} (T : Txt mg) (D_target : Df K mg "target" 25 ["goals", "kind", "label", "none"]) (D : Df K mg "first_in" 26 ["sequence", "position", "behind", "goals", "none"]) (G : FnOk P w K mg base CX0 (m + 1) D.a D.fd ["sequence", "position", "behind", "goals", "none"] (spP Ts (R_first m))) :
    FnOk P w K mg base CX0 (m + 2) D.a D.fd ["sequence", "position", "behind", "goals", "none"] (spP Ts (R_first (m + 1))) := by
  have sc := sc_first
  have G_target := ok_target (P := P) (w := w) (base := base) (Ts := Ts) T D_target
  refine fn_pure D.F sc (fun ds d h => ?_) (fun cdv A outer s H E ds d hr h => ?_)
  · obtain ⟨_, _, _, _, _, _, _, _, _, _, rfl, _⟩ := h; rfl
  obtain ⟨rs, s, k, p, a, z, gs, hw, hp, hg, rfl, rfl⟩ := h
  refine ⟨_, (pss_cons (ps_if (pt_cmpR op_eq (pv 1) (pe_callB call_len_seq (by rfl) T.len PySem.boot_len (pa_cons (pv 0) pa_nil)) (nomark _))
      (pss_one (ps_ret (pv 2)))
      pss_nil)
    (pss_cons (ps_asg (pe_ix ix_seq (pv 0) (pv 1) (fun _ _ => rfl)) (pg_tup rfl (pgs_cons (pg_name (i := 5) sc.nd rfl (Or.inl rfl)) (pgs_cons (pg_name (i := 6) sc.nd rfl (Or.inl rfl)) (pgs_cons (pg_name (i := 7) sc.nd rfl (Or.inl rfl)) pgs_nil)))))
    (pss_cons (ps_if (pt_cmpR op_notN (pv 5) pe_non (nomark _))
      (pss_one (ps_ret (pv 5)))
      pss_nil)
    (pss_cons (ps_if (pt_cmpR op_eq (pe_ix ix_seq (pv 6) pe_int (fun _ _ => rfl)) pe_str (nomark _))
      (pss_one (ps_ret (pe_call G_target (hr.mono (by omega)) rfl D_target.m D_target.F.kp D_target.b .nil pass0 (pa_cons (pv 3) (pa_cons pe_str (pa_cons (pe_ix ix_seq (pv 6) pe_int (fun _ _ => rfl)) (pa_cons (pv 4) pa_nil)))))))
      pss_nil)
    (pss_cons (ps_if (pt_cmpR op_eq (pe_ix ix_seq (pv 6) pe_int (fun _ _ => rfl)) pe_str (nomark _))
      (pss_one (ps_ret (pe_call G_target (hr.mono (by omega)) rfl D_target.m D_target.F.kp D_target.b .nil pass0 (pa_cons (pv 3) (pa_cons pe_str (pa_cons (pe_ix ix_seq (pv 6) pe_int (fun _ _ => rfl)) (pa_cons (pv 4) pa_nil)))))))
      pss_nil)
    (pss_cons (ps_set (i := 8) sc.nd rfl (Or.inl rfl) (pe_call G (hr.mono (by omega)) rfl D.m D.F.kp D.b .nil pass0 (pa_cons (pv 0) (pa_cons (pe_op op_add (pv 1) pe_int) (pa_cons (pv 2) (pa_cons (pv 3) (pa_cons (pv 4) pa_nil)))))))
    (pss_cons (ps_if (pt_cmpR op_eq (pe_ix ix_seq (pv 6) pe_int (fun _ _ => rfl)) pe_str (nomark _))
      (pss_one (ps_ret (pe_call G (hr.mono (by omega)) rfl D.m D.F.kp D.b .nil pass0 (pa_cons (pe_ix ix_seq (pv 7) pe_int (fun _ _ => rfl)) (pa_cons pe_int (pa_cons (pv 8) (pa_cons (pe_op op_cat (pv 3) (pe_lst (pa_cons (pe_tup (pa_cons pe_str (pa_cons (pe_ix ix_seq (pv 6) pe_int (fun _ _ => rfl)) (pa_cons (pv 4) pa_nil)))) pa_nil))) (pa_cons (pv 4) pa_nil))))))))
      pss_nil)
    (pss_one (ps_ret (pe_call G (hr.mono (by omega)) rfl D.m D.F.kp D.b .nil pass0 (pa_cons (pe_ix ix_seq (pv 7) pe_int (fun _ _ => rfl)) (pa_cons pe_int (pa_cons (pv 8) (pa_cons (pe_op op_cat (pv 3) (pe_lst (pa_cons (pe_tup (pa_cons pe_str (pa_cons (pe_ix ix_seq (pv 6) pe_int (fun _ _ => rfl)) (pa_cons (pv 8) pa_nil)))) pa_nil))) (pa_cons (pv 4) pa_nil))))))))))))))), ?_⟩
  refine st_ifr (eb_test (ev_op (ev_var rfl) (ev_callR (ea_cons (ev_var rfl) ea_nil) rc_len) (by rw [encNS_length]; exact rv_eqN))) (fun h => ?_) (fun h => ?_)
  · have h := of_decide_eq_true h
    refine st_ret (ev_var rfl) ?_
    rw [List.drop_eq_nil_of_le (by omega), fnS]
  have h := of_decide_eq_false h
  have hpl : p < s.length := by omega
  have hi := List.getElem?_eq_getElem hpl
  have hdrop := List.drop_eq_getElem_cons hpl
  generalize s[p] = i at hi hdrop
  have hat : atI (encNS rs k s) (p : Int) = some (.tuple [numD (k + naS (s.take p)) i, fillI rs i, .list (encNC rs (k + naS (s.take p) + kb i) (ins i))]) := atI_nat (by rw [encNS_at rs k s p i hi, encNI_eq])
  have hsn := naS_snoc hi
  rw [hdrop] at hw ⊢
  simp only [fnS, wtS] at hw ⊢
  refine st_seq1 (st_asg3 (ev_op (ev_var rfl) (ev_var rfl) (rv_ixL hat)) rfl) ?_
  refine st_ifr (eb_test (ev_op (ev_var rfl) ev_non (rv_isN true))) (fun h => ?_) (fun h => ?_)
  · cases i with
    | act t n cs => exact st_ret (ev_var rfl) (by simp [numD, fnI])
    | scope lp l b => simp [numD] at h
    | jmp ag l => simp [numD] at h
  refine st_ifr (eb_test (ev_op (ev_tagF rs i (ev_var rfl)) ev_str rv_eqS)) (fun h5 => ?_) (fun h5 => ?_)
  · obtain ⟨l, rfl⟩ := kind5 ((tagF_again i).mp (of_decide_eq_true h5))
    refine st_ret (ev_call (ea_cons (ev_var rfl) (ea_cons ev_str (ea_cons (ev_op (d := pI l) (ev_var rfl) ev_int ?_) (ea_cons (ev_var rfl) ea_nil)))) ⟨gs, true, l, z, rfl, rfl⟩) ?_
    · simp only [fillI]; exact rv_ixT (at_1 _ _ _)
    · simp [envAt, fnI]
  have h5 := mt (tagF_again i).mpr (of_decide_eq_false h5)
  refine st_ifr (eb_test (ev_op (ev_tagF rs i (ev_var rfl)) ev_str rv_eqS)) (fun h6 => ?_) (fun h6 => ?_)
  · obtain ⟨l, rfl⟩ := kind6 ((tagF_leave i).mp (of_decide_eq_true h6))
    refine st_ret (ev_call (ea_cons (ev_var rfl) (ea_cons ev_str (ea_cons (ev_op (d := pI l) (ev_var rfl) ev_int ?_) (ea_cons (ev_var rfl) ea_nil)))) ⟨gs, false, l, z, rfl, rfl⟩) ?_
    · simp only [fillI]; exact rv_ixT (at_1 _ _ _)
    · simp [envAt, fnI]
  have h6 := mt (tagF_leave i).mpr (of_decide_eq_false h6)
  have hi' := hi
  have hsc : ∃ lp l b, i = .scope lp l b := by
    cases i with
    | act t n cs => simp [numD] at h
    | scope lp l b => exact ⟨_, _, _, rfl⟩
    | jmp ag l => cases ag <;> simp [kindI] at h5 h6
  obtain ⟨lp, l, b, rfl⟩ := hsc
  simp only [wtI] at hw
  rw [show k + naS (s.take p) + naI (.scope lp l b) = k + naS (s.take (p + 1)) by rw [hsn]; omega]
  have tl : ∀ (δ : Dl), δ[6]? = some (dat (fillI rs (.scope lp l b))) → EvD Ts (tOp (rIx K) (tVar 6) (tC (.int 1))) δ (pI l) := fun δ e => ev_op (ev_var e) ev_int (by simp only [fillI]; exact rv_ixT (at_1 _ _ _))
  have ti : ∀ (δ : Dl), δ[7]? = some (dat (.list (encNC rs (k + naS (s.take p) + kb (.scope lp l b)) (ins (.scope lp l b))))) → EvD Ts (tOp (rIx K) (tVar 7) (tC (.int 0))) δ (.list (encNS rs (k + naS (s.take p)) b)) := fun δ e => ev_op (ev_var e) ev_int (by simp only [ins, encNC, kb, Nat.add_zero]; exact rv_ixL (at_0 _ _))
  refine st_seq1 (st_asg (ev_call (ea_cons (ev_var rfl) (ea_cons (ev_op (ev_var rfl) ev_int rv_add) (ea_cons (ev_var rfl) (ea_cons (ev_var rfl) (ea_cons (ev_var rfl) ea_nil))))) ⟨rs, s, k, p + 1, a, z, gs, by omega, by omega, by omega, rfl, rfl⟩) rfl) ?_
  have tg : ∀ (lp' : Bool) (t : Nat), (gs.map encG) ++ [.tuple [.str (tagS lp'), pI l, pI t]] = (gs ++ [(lp', l, t)]).map encG := fun lp' t => by rw [List.map_append]; rfl
  have hb : ∀ (t : Nat), R_first m [.list (encNS rs (k + naS (s.take p)) b), pI 0, pI (fnS z (s.drop (p + 1)) (k + naS (s.take (p + 1))) a (envG z gs)), .list (gs.map encG ++ [.tuple [.str (tagS lp), pI l, pI t]]), pI z]
      (pI (fnS z b (k + naS (s.take p)) (fnS z (s.drop (p + 1)) (k + naS (s.take (p + 1))) a (envG z gs)) (stepG (envG z gs) (lp, l, t)))) := fun t =>
    ⟨rs, b, k + naS (s.take p), 0, _, z, gs ++ [(lp, l, t)], by rw [List.drop_zero]; omega, by omega, by simp; omega, by rw [tg], by rw [List.drop_zero, List.take_zero, envG_snoc]; simp [naS]⟩
  refine st_ifr (eb_test (ev_op (ev_tagF rs _ (ev_var rfl)) ev_str rv_eqS)) (fun h3 => ?_) (fun h3 => ?_)
  · have h3 := (tagF_loop _).mp (of_decide_eq_true h3)
    cases lp with
    | false => simp [kindI] at h3
    | true => exact st_ret (ev_call (ea_cons (ti _ rfl) (ea_cons ev_int (ea_cons (ev_var rfl) (ea_cons (ev_op (ev_var rfl) (ev_lst (ea_cons (ev_tup (ea_cons ev_str (ea_cons (tl _ rfl) (ea_cons (ev_var rfl) ea_nil))) (by simp)) ea_nil) (by simp)) (rv_catL (by simp; omega))) (ea_cons (ev_var rfl) ea_nil))))) (hb z)) rfl
  · have h3 := mt (tagF_loop _).mpr (of_decide_eq_false h3)
    cases lp with
    | true => simp [kindI] at h3
    | false => exact st_ret (ev_call (ea_cons (ti _ rfl) (ea_cons ev_int (ea_cons (ev_var rfl) (ea_cons (ev_op (ev_var rfl) (ev_lst (ea_cons (ev_tup (ea_cons ev_str (ea_cons (tl _ rfl) (ea_cons (ev_var rfl) ea_nil))) (by simp)) ea_nil) (by simp)) (rv_catL (by simp; omega))) (ea_cons (ev_var rfl) ea_nil))))) (hb _)) rfl
theorem all_first (T : Txt mg) (D_target : Df K mg "target" 25 ["goals", "kind", "label", "none"]) (D : Df K mg "first_in" 26 ["sequence", "position", "behind", "goals", "none"]) :
    ∀ m, FnOk P w K mg base CX0 (m + 1) D.a D.fd ["sequence", "position", "behind", "goals", "none"] (spP Ts (R_first m))
  | 0 => fn_none fun ds d h => by obtain ⟨_, _, _, _, _, _, _, h, _⟩ := h; omega
  | m + 1 => ok_first T D_target D (all_first T D_target D m)
end
end K33
end
section
set_option Elab.async false
set_option linter.all false
set_option maxRecDepth 100000
set_option maxHeartbeats 1000000
/-! L5: a def that writes on the list handed in first. -/
namespace K33
open PySem L2
section
variable {Ts Mo : List Addr} {k0 H0 k H k' H' : Hp} {σ : L2.St} {δ : Dl}
theorem Stt.callW (s : Stt Ts Mo k0 H0 k H σ δ) {i : Nat} {o : Option Addr} {c c' : Cont} {l : Addr} {u' : HO} (e : δ[i]? = some (some (.own (o, c)))) (e2 : σ[i]? = some (some (.ref l))) (g : Gr Ts [l] k H k' H')
    (hl : H' l = some u') (hk : k' l = none) (h : CoOk k' u' c') : Stt Ts Mo k0 H0 k' H' σ (δ.set i (some (.own (o, c')))) := by
  obtain ⟨l', xs', q1, q2, q3, q4, q5⟩ := s.sl.own1 e
  rw [e2] at q1
  cases q1
  have hi : i < δ.length := (List.getElem?_eq_some_iff.mp e).1
  have m := s.mine i _ l e e2
  have nel : ∀ a u, H0 a = some u → a ∉ Mo → a ≠ l := fun a u e n y => by
    subst y
    rcases m with z | z
    · rw [z.2] at e; cases e
    · exact n z.2
  have alive : ∀ a, H0 a ≠ none → H a ≠ none := fun a z => by
    cases q : H0 a with
    | none => exact absurd q z
    | some u =>
      by_cases n2 : a ∈ Mo
      · exact (s.mo a n2).1
      · by_cases n1 : a ∈ Ts
        · obtain ⟨ps, e2, _⟩ := s.kn.tb a n1
          rw [e2]; simp
        · rw [s.gr.same a u q n1 n2]; simp
  refine ⟨s.kn0, ⟨fun a u z n1 n2 => g.same a u (s.gr.same a u z n1 n2) n1 (by simpa using nel a u z n2), s.gr.kk.trans g.kk, g.kn, fun a z => by rw [g.dom a (alive a z), s.gr.dom a z]⟩, fun a ha => ⟨?_, (s.mo a ha).2⟩, ⟨by simp [s.sl.len], fun j => ?_⟩, fun j fs l2 f1 f2 => ?_, fun a b fs gs l2 f1 f2 f3 f4 => ?_⟩
  · by_cases q : a = l
    · subst q; rw [hl]; simp
    · cases z : H a with
      | none => exact absurd z (s.mo a ha).1
      | some u => rw [g.same a u z (s.mo a ha).2 (by simpa using q)]; simp
  · by_cases q : i = j
    · subst q
      rw [List.getElem?_set_self hi, e2]
      exact ⟨l, u', rfl, hl, hk, h, q5⟩
    · rw [List.getElem?_set_ne q]
      have := s.sl.ok j
      cases z : δ[j]? with
      | none => trivial
      | some o =>
        cases o with
        | none => trivial
        | some o =>
          rw [z] at this
          cases o with
          | dat d =>
            obtain ⟨x, f1, f2⟩ := this
            exact ⟨x, f1, Dt.up g.kk _ _ f2⟩
          | dct es =>
            obtain ⟨x, kvs, f1, f2, f3⟩ := this
            exact ⟨x, kvs, f1, g.kk _ _ f2, f3.up g.kk⟩
          | own fs =>
            obtain ⟨l2, xs2, f1, f2, f3, f4, f5⟩ := this
            have ne : l2 ≠ l := fun y => by
              subst y
              exact q (s.apart i j _ fs l2 e z e2 f1)
            refine ⟨l2, xs2, f1, g.same l2 _ f2 (s.kn.not_tab f2 f4.nt) (by simpa using ne), ?_, f4.up g.kk, f5⟩
            rw [g.dom l2 (by rw [f2]; simp)]
            exact f3
  · rcases set_some f1 with ⟨z, ze⟩ | ⟨z, f1⟩
    · subst z
      cases ze
      exact s.mine j (o, c) l2 e f2
    · exact s.mine j fs l2 f1 f2
  · rcases set_some f1 with ⟨z, _⟩ | ⟨z, f1'⟩
    · rcases set_some f2 with ⟨z2, _⟩ | ⟨z2, f2'⟩
      · rw [z, z2]
      · subst z
        exact s.apart a b _ gs l2 e f2' f3 f4
    · rcases set_some f2 with ⟨z2, _⟩ | ⟨z2, f2'⟩
      · subst z2
        exact s.apart a b fs _ l2 f1' e f3 f4
      · exact s.apart a b fs gs l2 f1' f2' f3 f4
/-- the promise of a def that writes on the thing handed in first: it then holds c', the value is d, as post says -/
def spW (Ts : List Addr) (R : Cont → List PyData → (Cont → PyData → Prop) → Prop) : Sp := fun vs H Q _ => ∃ (k : Hp) (l : Addr) (vs' : List V) (u : HO) (c : Cont) (ds : List PyData) (post : Cont → PyData → Prop), vs = .ref l :: vs' ∧ Kn Ts k H ∧ H l = some u ∧ k l = none ∧ CoOk k u c ∧ DtA k vs' ds ∧ R c ds post ∧
  ∀ k' H' u' c' v d, Gr Ts [l] k H k' H' → H' l = some u' → k' l = none → CoOk k' u' c' → Dt k' v d → post c' d → Q v H'
variable {N : Dl → Prop} {Rr : Dl → PyData → Prop} {B : Dl → Prop} {RD : Dl → List (Int × PyData) → Prop}
/-- a call that writes on its first argument, whatever is done with its value -/
theorem call_W {R : Cont → List PyData → (Cont → PyData → Prop) → Prop} {E : XK} {ta : TA} {i : Nat} {o : Option Addr} {c : Cont} {as : List PyData} {post : Cont → PyData → Prop} (e : δ[i]? = some (some (.own (o, c)))) (ha : EvA Ts ta δ as) (hr : R c as post)
    (s : Stt Ts Mo k0 H0 k H σ δ) {Q : VK} (q : ∀ v k' H' c' d, post c' d → Same k k' → Stt Ts Mo k0 H0 k' H' σ (δ.set i (some (.own (o, c')))) → Dt k' v d → Q v H') : tCall (spW Ts R) [] E (tCons (tVar i) ta) σ H Q := by
  obtain ⟨l, u, q1, q2, q3, q4, q5⟩ := s.sl.own1 e
  refine ⟨_, q1, ha σ k H s.kn s.sl _ fun vs k1 H1 g1 a1 => ?_⟩
  have s1 := s.step g1
  have q2' : H1 l = some u := g1.same l _ q2 (s.kn.not_tab q2 q4.nt) (by simp)
  have q3' : k1 l = none := by rw [g1.dom l (by rw [q2]; simp)]; exact q3
  exact ⟨k1, l, vs ++ [], u, c, as, post, rfl, g1.kn, q2', q3', q4.up g1.kk, by rw [List.append_nil]; exact a1, hr, fun k2 H2 u' c' v d g2 e2 e3 d2 dv hp => q v k2 H2 c' d hp (g1.kk.trans g2.kk) (s1.callW e q1 g2 e2 e3 d2) dv⟩
theorem st_callW {R : Cont → List PyData → (Cont → PyData → Prop) → Prop} {E : XK} {ta : TA} {i : Nat} {o : Option Addr} {c : Cont} {as : List PyData} {post : Cont → PyData → Prop} (e : δ[i]? = some (some (.own (o, c)))) (ha : EvA Ts ta δ as) (hr : R c as post) (n : ∀ c' d, post c' d → N (δ.set i (some (.own (o, c'))))) :
    StX Ts Mo (tDrop (tCall (spW Ts R) [] E (tCons (tVar i) ta))) δ N Rr B RD := fun k0 H0 σ k H D s hn _ _ =>
  call_W e ha hr s fun v k' H' c' d hp kk s' _ => hn σ k' H' _ (n c' d hp) kk s'
/-- x = f(thing, ..) -/
theorem st_asgW {R : Cont → List PyData → (Cont → PyData → Prop) → Prop} {E : XK} {ta : TA} {i j : Nat} {o : Option Addr} {c : Cont} {as : List PyData} {post : Cont → PyData → Prop} (e : δ[i]? = some (some (.own (o, c)))) (ha : EvA Ts ta δ as) (hr : R c as post) (n : ∀ c' d, post c' d → N ((δ.set i (some (.own (o, c')))).set j (dat d))) :
    StX Ts Mo (tAsg (tCall (spW Ts R) [] E (tCons (tVar i) ta)) (gName j)) δ N Rr B RD := fun k0 H0 σ k H D s hn _ _ =>
  call_W e ha hr s fun v k' H' c' d hp kk s' dv => hn _ k' H' _ (n c' d hp) kk (s'.put j dv)
end
theorem start_own (n : Nat) (ds : List PyData) (i : Nat) (es : OW) : (startD n ds)[i]? ≠ some (some (.own es)) := fun e => by
  unfold startD at e
  by_cases z : i < ds.length
  · rw [List.getElem?_append_left (by simpa using z), List.getElem?_map, List.getElem?_eq_getElem z] at e
    cases e
  · rw [List.getElem?_append_right (by simpa using Nat.le_of_not_lt z), List.getElem?_replicate] at e
    split at e <;> cases e
theorem Slots.cons {k H : Hp} {σ : L2.St} {δ : Dl} {v : Option V} {o : Option Sl} (h : SlotOk k H (some v) (some o)) (s : Slots k H σ δ) : Slots k H (v :: σ) (o :: δ) := ⟨by simp [s.len], fun i => by
  cases i with
  | zero => exact h
  | succ i => exact s.ok i⟩
section
variable {P : Program} {w : World} {K : PySem.W.Frag} {mg : Str → Option Value} {base : Heap}
/-- THE RULE for a def that writes on the thing handed in first -/
theorem fn_write {Ts : List Addr} {x qual : Str} {st : Stmt} {f : Addr} {fd : FuncData} {N ps : List Str} {j : Nat} {R : Cont → List PyData → (Cont → PyData → Prop) → Prop} (F : Fun K x qual st f fd) (S : FnScope N ps (defScope st)) (hl : ∀ c ds post, R c ds post → ds.length + 1 = ps.length)
    (hbody : ∀ (cdv : Value) (A : Around) (outer : List PySem.Env) (s : Shared) (H : Hp) (E : XK) (c : Cont) (ds : List PyData) (post : Cont → PyData → Prop) (l : Addr), Room j (A.deeper (PyProof.Rows.envOfC qual (defScope st) s.heap.objs.size f cdv)) → R c ds post →
      ∃ t, PSs (cxOf CX0 P w K mg base N qual (defScope st) f cdv A outer s H E).nox (defBody st) t ∧
        StX Ts [l] t (some (.own (some l, c)) :: startD (N.length - 1) ds) (fun δ => ∃ c', δ[0]? = some (some (.own (some l, c'))) ∧ post c' .none) (fun δ d => ∃ c', δ[0]? = some (some (.own (some l, c'))) ∧ post c' d) NoB NoD) :
    FnOk P w K mg base CX0 (j + 1) f fd ps (spW Ts R) := by
  refine F.ok S (fun vs H Q E h => ?_) (fun cdv A outer s H vs Q E hr h => ?_)
  · obtain ⟨k, l, vs', u, c, ds, post, rfl, _, _, _, _, h5, h6, _⟩ := h
    rw [List.length_cons, h5.length]
    exact hl c ds post h6
  · obtain ⟨k, l, vs', u, c, ds, post, rfl, h1, h2, h3, h4, h5, h6, h7⟩ := h
    obtain ⟨t, p, h⟩ := hbody cdv A outer s H E c ds post l hr h6
    refine ⟨t, p, ?_⟩
    have s0 : Slots k H (L2.start N (.ref l :: vs')) (some (.own (some l, c)) :: startD (N.length - 1) ds) := by
      unfold L2.start startD
      rw [List.length_cons, h5.length, show N.length - (ds.length + 1) = N.length - 1 - ds.length by omega]
      exact Slots.cons ⟨l, u, rfl, h2, h3, h4, fun a e => by cases e; rfl⟩ (dts_some h5)
    have one : ∀ (i : Nat) (w : OW), (some (.own (some l, c)) :: startD (N.length - 1) ds)[i]? = some (some (.own w)) → i = 0 ∧ w = (some l, c) := fun i w e => by
      cases i with
      | zero => cases e; exact ⟨rfl, rfl⟩
      | succ i => exact absurd e (start_own _ _ i w)
    have fin : ∀ σ' k' H' δ' c', Stt Ts [l] k H k' H' σ' δ' → δ'[0]? = some (some (.own (some l, c'))) → ∃ u', H' l = some u' ∧ k' l = none ∧ CoOk k' u' c' := fun σ' k' H' δ' c' s' e => by
      obtain ⟨l', u', q1, q2, q3, q4, q5⟩ := s'.sl.own1 e
      have := q5 l rfl
      subst this
      exact ⟨u', q2, q3, q4⟩
    refine h k H _ k H _ ⟨h1, Gr.refl h1, fun a ha => ?_, s0, fun i w l2 e1 e2 => ?_, fun i j w w' l2 e1 e2 _ _ => (one i w e1).1.trans (one j w' e2).1.symm⟩ (fun σ' k' H' δ' n kk s' => ?_) (fun σ' k' H' δ' v s' => ⟨fun d r dv => ?_, fun _ z => z.elim⟩) (fun _ _ _ _ z => z.elim)
    · have ha : a = l := by simpa using ha
      subst ha
      exact ⟨by rw [h2]; simp, h1.not_tab h2 h4.nt⟩
    · obtain ⟨rfl, rfl⟩ := one i w e1
      have : l2 = l := by
        have e3 : (some (some (V.ref l)) : Option (Option V)) = some (some (.ref l2)) := e2
        cases e3
        rfl
      exact .inr ⟨by simp, by simp [this]⟩
    · obtain ⟨c', e, hp⟩ := n
      obtain ⟨u', q2, q3, q4⟩ := fin _ _ _ _ _ s' e
      exact h7 k' H' u' c' .non .none s'.gr q2 q3 q4 .non hp
    · obtain ⟨c', e, hp⟩ := r
      obtain ⟨u', q2, q3, q4⟩ := fin _ _ _ _ _ s' e
      exact h7 k' H' u' c' v d s'.gr q2 q3 q4 dv hp
end
/-- a tuple of the module's own texts -/
structure TupG (K : PySem.W.Frag) (mg : Str → Option Value) (x : Str) (ns : List Str) where
  a : Addr
  m : mg x = some (.ref a)
  sq : ∀ H, SqT K H a (ns.map V.str)
theorem ev_inG {K : PySem.W.Frag} {mg : Str → Option Value} {x : Str} {ns : List Str} {Ts : List Addr} {δ : Dl} {te : TE} {i : Str} (E : TupG K mg x ns) (h : EvD Ts te δ (.str i)) : EvD Ts (tOp (rIn K false) te (tC (.ref E.a))) δ (.bool (decide (i ∈ ns))) := fun σ k H hk s Q q =>
  h σ k H hk s _ fun v k1 H1 g1 dv => by
    cases dv
    refine ⟨_, _, rfl, .inr (E.sq H1), rfl, flat_strs _, ?_⟩
    rw [inV_strs]
    exact q _ k1 H1 g1 (.bl _)
end K33
end
section
set_option Elab.async false
set_option linter.all false
set_option maxRecDepth 100000
set_option maxHeartbeats 4000000
/-! W6: add_rows, lower. -/
namespace K33
open PySem L2
def endsL : List Str := ["back", "halt", "trap", "lost"]
def EndsOk (rs : List Row) : Prop := ∀ n nm r, n < rs.length → (rowAt rs n).act = .oth nm r → (nm ∈ endsL ↔ nxOf rs n = [])
abbrev encLow (rs : List Row) (x : Nat × List Nat) : PyData := encRow ⟨(rowAt rs x.1).act, (rowAt rs x.1).count, x.2⟩
def atN (z : Nat) (cs : List (List I)) (k a : Nat) (e : EnvN) (i : Nat) : PyData := pI (fnS z (cs.getD i []) (k + naC (cs.take i)) a e)
theorem atN_map (z a : Nat) (e : EnvN) : ∀ (cs : List (List I)) (k : Nat), (List.range cs.length).map (atN z cs k a e) = (fnC z cs k a e).map pI
  | [], k => by simp [fnC]
  | c :: cs, k => by
    rw [List.length_cons, List.range_succ_eq_map, List.map_cons, List.map_map]
    simp only [fnC, List.map_cons]
    rw [← atN_map z a e cs (k + naS c)]
    have h1 : atN z (c :: cs) k a e 0 = pI (fnS z c k a e) := by simp [atN, naC]
    rw [h1]
    refine congrArg (_ :: ·) (List.map_congr_left fun i _ => ?_)
    simp only [atN, Function.comp, List.getD_cons_succ, List.take_succ_cons, naC, Nat.add_assoc]
variable {nx : Nat → List Nat} in
mutual
theorem arI_len (z : Nat) : ∀ (i : I) (k a : Nat) (e : EnvN), (arI nx z i k a e).length = naI i
  | .act t n cs, k, a, e => by simp [arI, naI, arC_len z cs]; omega
  | .scope true l b, k, a, e => by simp [arI, naI, arS_len z b]
  | .scope false l b, k, a, e => by simp [arI, naI, arS_len z b]
  | .jmp ag l, k, a, e => by simp [arI, naI]
theorem arS_len (z : Nat) : ∀ (s : List I) (k a : Nat) (e : EnvN), (arS nx z s k a e).length = naS s
  | [], k, a, e => by simp [arS, naS]
  | i :: r, k, a, e => by simp [arS, naS, arI_len z i, arS_len z r]
theorem arC_len (z : Nat) : ∀ (s : List (List I)) (k a : Nat) (e : EnvN), (arC nx z s k a e).length = naC s
  | [], k, a, e => by simp [arC, naC]
  | i :: r, k, a, e => by simp [arC, naC, arS_len z i, arC_len z r]
end
section
variable {P : Program} {w : World} {K : PySem.W.Frag} {mg : Str → Option Value} {base : Heap} {Ts : List Addr}
theorem sc_add : FnScope ["rows", "sequence", "behind", "goals", "none", "position", "_", "statement", "inner", "after", "around", "nexts", "name", "body", "start"] ["rows", "sequence", "behind", "goals", "none"] (defScope (topS 27)) := ⟨rfl, rfl, rfl, by decide +kernel, rfl, by decide +kernel, by decide +kernel⟩
abbrev NN_add_rows : List Str := ["rows", "sequence", "behind", "goals", "none", "position", "_", "statement", "inner", "after", "around", "nexts", "name", "body", "start"]
abbrev PP_add : List Str := ["rows", "sequence", "behind", "goals", "none"]
def R_add (m n : Nat) (c : Cont) (ds : List PyData) (post : Cont → PyData → Prop) : Prop := ∃ (acc : List PyData) (rs : List Row) (s : List I) (k a z : Nat) (gs : List (Bool × Nat × Nat)), dpS s < n ∧ wtS s < m ∧ wfS s ∧ okS rs s ∧ EndsOk rs ∧ gs.length + n + m ≤ 1000 ∧ szS s ≤ 2000 ∧ acc.length + naS s ≤ 5000 ∧
  c = .l acc ∧ ds = [.list (encNS rs k s), pI a, .list (gs.map encG), pI z] ∧ post = fun c' d => c' = .l (acc ++ (arS (nxOf rs) z s k a (envG z gs)).map (encLow rs)) ∧ d = .none
theorem ok_add {m n : Nat} (T : Txt mg) (En : TupG K mg "ENDS" endsL) (D_first_in : Df K mg "first_in" 26 ["sequence", "position", "behind", "goals", "none"]) (D : Df K mg "add_rows" 27 PP_add)
    (G_first_in : FnOk P w K mg base CX0 (m + 1) D_first_in.a D_first_in.fd ["sequence", "position", "behind", "goals", "none"] (spP Ts (R_first m)))
    (G : FnOk P w K mg base CX0 (m + 1 + n) D.a D.fd PP_add (spW Ts (R_add m n))) :
    FnOk P w K mg base CX0 (m + 1 + n + 1) D.a D.fd PP_add (spW Ts (R_add m (n + 1))) := by
  have sc := sc_add
  refine fn_write D.F sc (fun c ds post h => ?_) (fun cdv A outer s H E c ds post l hr h => ?_)
  · obtain ⟨_, _, _, _, _, _, _, _, _, _, _, _, _, _, _, _, rfl, _⟩ := h; rfl
  obtain ⟨acc, rs, s, k, a, z, gs, hd, hwt, hw, ho, hen, hg, hz, hac, rfl, rfl, rfl⟩ := h
  refine ⟨_, (pss_one (ps_for PassesOwn.never rfl (pi_range1 rfl T.range (pa_cons (pe_callB call_len_seq (by rfl) T.len PySem.boot_len (pa_cons (pv 1) pa_nil)) pa_nil)) (pg_name (i := 5) sc.nd rfl (Or.inl rfl))
      (pss_cons (ps_asg (pe_ix ix_seq (pv 1) (pv 5) (fun _ _ => rfl)) (pg_tup rfl (pgs_cons (pg_name (i := 6) sc.nd rfl (Or.inl rfl)) (pgs_cons (pg_name (i := 7) sc.nd rfl (Or.inl rfl)) (pgs_cons (pg_name (i := 8) sc.nd rfl (Or.inl rfl)) pgs_nil)))))
      (pss_cons (ps_set (i := 9) sc.nd rfl (Or.inr rfl) (pe_call G_first_in (hr.mono (by omega)) rfl D_first_in.m D_first_in.F.kp D_first_in.b .nil pass0 (pa_cons (pv 1) (pa_cons (pe_op op_add (pv 5) pe_int) (pa_cons (pv 2) (pa_cons (pv 3) (pa_cons (pv 4) pa_nil)))))))
      (pss_cons (ps_set (i := 10) sc.nd rfl (Or.inl rfl) (pv 3))
      (pss_cons (ps_if (pt_cmpR op_eq (pe_ix ix_seq (pv 7) pe_int (fun _ _ => rfl)) pe_str (nomark _))
        (pss_cons (ps_set (i := 11) sc.nd rfl (Or.inl rfl) (pe_ifExp (pt_cmpR op_in_seq (pe_ix ix_seq (pe_ix ix_seq (pv 7) pe_int (fun _ _ => rfl)) pe_int (fun _ _ => rfl)) (pe_glob (v := .ref En.a) rfl En.m rfl) (by rfl)) (pe_tup pa_nil) (pe_tup (pa_cons (pv 9) pa_nil))))
        (pss_one (ps_expr (pe_bm PySem.F.plainAttrs_list PySem.F.slot_list_append PySem.F.type_list_append mt_append (pv 0) (pa_cons (pe_tup (pa_cons (pe_ix ix_seq (pv 7) pe_int (fun _ _ => rfl)) (pa_cons (pe_ix ix_seq (pv 7) pe_int (fun _ _ => rfl)) (pa_cons (pv 11) pa_nil)))) pa_nil)))))
        (pss_one (ps_if (pt_cmpR op_in_seq (pe_ix ix_seq (pv 7) pe_int (fun _ _ => rfl)) (pe_tup (pa_cons pe_str (pa_cons pe_str pa_nil))) (by rfl))
          (pss_cons (ps_set (i := 12) sc.nd rfl (Or.inl rfl) (pe_ifExp (pt_cmpR op_eq (pe_ix ix_seq (pv 7) pe_int (fun _ _ => rfl)) pe_str (nomark _)) pe_str pe_str))
          (pss_cons (ps_set (i := 11) sc.nd rfl (Or.inl rfl) (pe_callTy call_tuple_of (by rfl) T.tuple (by decide +kernel) (pa_cons (pe_lc (own := [("body", 13)]) (g := gName 13) (tt := tYes) rfl sc.nd (pi_list (pv 8)) (blkOk_by (own := [("body", 13)]) (N := NN_add_rows) (sc := defScope (topS 27)) (by decide +kernel)) (fun _ _ _ _ _ => pg_name (i := 13) sc.nd rfl (Or.inl rfl)) (fun _ _ _ _ _ => pts_nil) (fun _ _ _ _ _ => (pe_call G_first_in (hr.mono (by omega)) rfl D_first_in.m D_first_in.F.kp D_first_in.b .nil pass0 (pa_cons (pv 13) (pa_cons pe_int (pa_cons (pv 9) (pa_cons (pv 3) (pa_cons (pv 4) pa_nil)))))))) pa_nil)))
          (pss_one (ps_expr (pe_bm PySem.F.plainAttrs_list PySem.F.slot_list_append PySem.F.type_list_append mt_append (pv 0) (pa_cons (pe_tup (pa_cons (pe_tup (pa_cons (pv 12) (pa_cons (pe_ix ix_seq (pv 7) pe_int (fun _ _ => rfl)) pa_nil))) (pa_cons (pe_ix ix_seq (pv 7) pe_int (fun _ _ => rfl)) (pa_cons (pv 11) pa_nil)))) pa_nil))))))
          (pss_one (ps_if (pt_cmpR op_eq (pe_ix ix_seq (pv 7) pe_int (fun _ _ => rfl)) pe_str (nomark _))
            (pss_cons (ps_set (i := 14) sc.nd rfl (Or.inl rfl) (pe_call G_first_in (hr.mono (by omega)) rfl D_first_in.m D_first_in.F.kp D_first_in.b .nil pass0 (pa_cons (pv 1) (pa_cons (pv 5) (pa_cons (pv 2) (pa_cons (pv 3) (pa_cons (pv 4) pa_nil)))))))
            (pss_one (ps_set (i := 10) sc.nd rfl (Or.inl rfl) (pe_op op_cat (pv 3) (pe_lst (pa_cons (pe_tup (pa_cons pe_str (pa_cons (pe_ix ix_seq (pv 7) pe_int (fun _ _ => rfl)) (pa_cons (pv 14) pa_nil)))) pa_nil))))))
            (pss_one (ps_if (pt_cmpR op_eq (pe_ix ix_seq (pv 7) pe_int (fun _ _ => rfl)) pe_str (nomark _))
              (pss_one (ps_set (i := 10) sc.nd rfl (Or.inl rfl) (pe_op op_cat (pv 3) (pe_lst (pa_cons (pe_tup (pa_cons pe_str (pa_cons (pe_ix ix_seq (pv 7) pe_int (fun _ _ => rfl)) (pa_cons (pv 9) pa_nil)))) pa_nil)))))
              pss_nil)))))))
      (pss_one (ps_for PassesOwn.never rfl (pi_list (pv 8)) (pg_name (i := 13) sc.nd rfl (Or.inl rfl))
        (pss_one (ps_expr (pe_call G (hr.mono (by omega)) rfl D.m D.F.kp D.b .nil pass0 (pa_cons (pv 0) (pa_cons (pv 13) (pa_cons (pv 9) (pa_cons (pv 10) (pa_cons (pv 4) pa_nil)))))))))))))))), ?_⟩
  have hls := len_sz s
  refine forR_core (n := s.length) (fun j δ => ∃ done x5 x6 x7 x8 x9 x10 x11 x12 x13 x14, δ = [ownA l (acc ++ done), dat (.list (encNS rs k s)), dat (pI a), dat (.list (gs.map encG)), dat (pI z), x5, x6, x7, x8, x9, x10, x11, x12, x13, x14] ∧
      done ++ (arS (nxOf rs) z (s.drop j) (k + naS (s.take j)) a (envG z gs)).map (encLow rs) = (arS (nxOf rs) z s k a (envG z gs)).map (encLow rs)) (ea_cons (ev_callR (ea_cons (ev_var rfl) ea_nil) (by have := rc_len (Ts := Ts) (K := K) (ds := encNS rs k s); rwa [encNS_length] at this)) ea_nil) (by omega)
    ⟨[], none, none, none, none, none, none, none, none, none, none, by simp; rfl, by simp [naS]⟩ (fun j δ' hj ⟨done, x5, x6, x7, x8, x9, x10, x11, x12, x13, x14, e, hdn⟩ => ?_)
    (fun δ' ⟨done, x5, x6, x7, x8, x9, x10, x11, x12, x13, x14, e, hdn⟩ => by
      rw [List.drop_length, arS] at hdn
      refine ⟨.l (acc ++ (arS (nxOf rs) z s k a (envG z gs)).map (encLow rs)), ?_, rfl, rfl⟩
      rw [e, ← hdn]
      simp)
  subst e
  have hi := List.getElem?_eq_getElem hj
  have hdrop := List.drop_eq_getElem_cons hj
  generalize s[j] = i at hi hdrop
  have hsn := naS_snoc hi
  have hwi := wfS_get hw hi
  have hoi := okS_get ho hi
  have hdi := dpS_get hi
  rw [dp_ins] at hdi
  have hwti := wtS_get hi
  have hwtj := (wt_drop_ s j).1
  have hwtj1 := (wt_drop_ s (j + 1)).1
  have hzi := szS_get hi
  have hlen := congrArg List.length hdn
  rw [List.length_append, List.length_map, List.length_map, arS_len, arS_len, hdrop] at hlen
  simp only [naS] at hlen
  have hat : atI (encNS rs k s) (j : Int) = some (.tuple [numD (k + naS (s.take j)) i, fillI rs i, .list (encNC rs (k + naS (s.take j) + kb i) (ins i))]) := atI_nat (by rw [encNS_at rs k s j i hi, encNI_eq])
  rw [hdrop] at hdn
  simp only [arS, List.map_append] at hdn
  rw [show k + naS (s.take j) + naI i = k + naS (s.take (j + 1)) by rw [hsn]; omega] at hdn
  generalize hA : fnS z (s.drop (j + 1)) (k + naS (s.take (j + 1))) a (envG z gs) = A at hdn
  refine st_seq1 (st_asg3 (ev_op (ev_var rfl) (ev_var rfl) (rv_ixL hat)) rfl) ?_
  refine st_seq1 (st_asg (d := pI A) (ev_call (ea_cons (ev_var rfl) (ea_cons (ev_op (ev_var rfl) ev_int rv_add) (ea_cons (ev_var rfl) (ea_cons (ev_var rfl) (ea_cons (ev_var rfl) ea_nil))))) ⟨rs, s, k, j + 1, a, z, gs, by omega, by omega, by omega, rfl, by rw [hA]⟩) rfl) ?_
  refine st_seq1 (st_asg (ev_var rfl) rfl) ?_
  refine st_seq (N := fun δ => ∃ row gs' x11 x12 x13 x14, δ = [ownA l (acc ++ done ++ row), dat (.list (encNS rs k s)), dat (pI a), dat (.list (gs.map encG)), dat (pI z), dat (pI j), dat (numD (k + naS (s.take j)) i), dat (fillI rs i), dat (.list (encNC rs (k + naS (s.take j) + kb i) (ins i))), dat (pI A), dat (.list (gs'.map encG)), x11, x12, x13, x14] ∧ gs'.length ≤ gs.length + 1 ∧
      row ++ (arC (nxOf rs) z (ins i) (k + naS (s.take j) + kb i) A (envG z gs')).map (encLow rs) = (arI (nxOf rs) z i (k + naS (s.take j)) A (envG z gs)).map (encLow rs)) ?_ fun δ' ⟨row, gs', x11, x12, x13, x14, e, hgl, hrow⟩ => e ▸ ?_
  · refine st_if (eb_test (ev_op (ev_tagF rs i (ev_var rfl)) ev_str rv_eqS)) (fun h => ?_) (fun h => ?_)
    · obtain ⟨n', cs, rfl⟩ := kind0 ((tagF_do i).mp (of_decide_eq_true h))
      simp only [okI] at hoi
      obtain ⟨nm, r, hact⟩ := act_oth hoi.2.1
      have hcs : cs = [] := by simp only [wfI] at hwi; exact hwi.1
      subst hcs
      have hE := hen n' nm r hoi.1 hact
      refine st_seq1 (st_asg (d := .tuple ((actN (nxOf rs) z .row n' [] (k + naS (s.take j)) A (envG z gs)).map pI)) (ev_if (eb_test (ev_inG En (ev_op (d := .str nm) (ev_op (d := encAct (rowAt rs n').act) (ev_var rfl) ev_int (by simp only [fillI]; exact rv_ixT (at_1 _ _ _))) ev_int (by rw [hact]; exact rv_ixT (at_0 _ _))))) (fun q => ?_) (fun q => ?_)) rfl) ?_
      · have q := hE.mp (of_decide_eq_true q)
        simp only [actN, if_pos q]
        exact ev_tup ea_nil (by simp)
      · have q := mt hE.mpr (of_decide_eq_false q)
        simp only [actN, if_neg q]
        exact ev_tup (ea_cons (ev_var rfl) ea_nil) (by simp)
      refine st_append rfl (ev_tup (ea_cons (ev_op (d := encAct (rowAt rs n').act) (ev_var rfl) ev_int (by simp only [fillI]; exact rv_ixT (at_1 _ _ _))) (ea_cons (ev_op (d := pI (rowAt rs n').count) (ev_var rfl) ev_int (by simp only [fillI]; exact rv_ixT (at_2 _ _ _ _))) (ea_cons (ev_var rfl) ea_nil))) (by simp)) (by simp [naI, naC] at hlen ⊢; omega) ⟨[encLow rs (n', actN (nxOf rs) z .row n' [] (k + naS (s.take j)) A (envG z gs))], gs, _, _, _, _, rfl, by omega, ?_⟩
      simp [ins, arC, arI]
    have h0 := mt (tagF_do i).mpr (of_decide_eq_false h)
    refine st_if (eb_test (ev_op (ev_tagF rs i (ev_var rfl)) (ev_tup (ea_cons ev_str (ea_cons ev_str ea_nil)) (by simp)) (by rw [str2]; exact rv_inS))) (fun h => ?_) (fun h => ?_)
    · have h : tagF i = "if" ∨ tagF i = "switch" := by simpa using h
      have h' : kindI i = 1 ∨ kindI i = 2 := h.imp (tagF_if i).mp (tagF_sw i).mp
      obtain ⟨t, n', cs, rfl⟩ := kind_act (.inr h')
      simp only [okI] at hoi
      -- the act, as the row says it
      have hb : ∃ (nm : Str) (ee : PyData), encAct (rowAt rs n').act = .tuple [.str nm, ee] ∧ (decide (tagF (.act t n' cs) = "if") = true → nm = "branch") ∧ (decide (tagF (.act t n' cs) = "if") = false → nm = "select") ∧ exprA (rowAt rs n').act = ee ∧
          (∀ r : PyData, actN (nxOf rs) z t n' cs (k + naS (s.take j)) A (envG z gs) = fnC z cs (k + naS (s.take j) + 1) A (envG z gs)) ∧ ∃ r, fillI rs (.act t n' cs) = .tuple (.str (tagF (.act t n' cs)) :: ee :: pI (rowAt rs n').count :: r) := by
        cases t with
        | row => simp [kindI] at h'
        | ifr =>
          obtain ⟨ee, he⟩ := act_br hoi.2.1
          exact ⟨"branch", ee, by rw [he]; rfl, fun _ => rfl, fun q => absurd ((tagF_if (.act .ifr n' cs)).mpr rfl) (of_decide_eq_false q), by rw [he]; rfl, fun _ => rfl, _, by rw [fillI, he]; rfl⟩
        | sw =>
          obtain ⟨ee, he⟩ := act_sel hoi.2.1
          exact ⟨"select", ee, by rw [he]; rfl, fun q => absurd ((tagF_if (.act .sw n' cs)).mp (of_decide_eq_true q)) (by simp [kindI]), fun _ => rfl, by rw [he]; rfl, fun _ => rfl, _, by rw [fillI, he]; rfl⟩
      obtain ⟨nm, ee, hb1, hb2, hb3, hb4, hb5, r, hb6⟩ := hb
      have hb5 := hb5 .none
      refine st_seq1 (st_asg (d := .str nm) (ev_if (eb_test (ev_op (ev_tagF rs _ (ev_var rfl)) ev_str rv_eqS)) (fun q => by rw [hb2 q]; exact ev_str) (fun q => by rw [hb3 q]; exact ev_str)) rfl) ?_
      have hil := ins_len hwi
      refine st_seq1 (st_asg (d := .tuple ((fnC z cs (k + naS (s.take j) + 1) A (envG z gs)).map pI)) (ev_callR (ea_cons (ev_is (ev_lcLi (fun _ => true) (atN z cs (k + naS (s.take j) + 1) A (envG z gs)) (ev_var rfl) (by rw [encNC_length]; omega) (fun _ _ _ => eb_yes) (fun q d hq _ => ?_)) ?_) ea_nil) rc_tuple) rfl) ?_
      · obtain ⟨c, hc, rfl⟩ := encNC_at rs _ _ _ _ hq
        have hc' : cs[q]? = some c := hc
        have hwc := wtC_get hc'
        have hwm := wt_ins (.act t n' cs)
        simp only [ins] at hwm
        refine ev_call (ea_cons (ev_var rfl) (ea_cons ev_int (ea_cons (ev_var rfl) (ea_cons (ev_var rfl) (ea_cons (ev_var rfl) ea_nil))))) ⟨rs, c, _, 0, A, z, gs, by rw [List.drop_zero]; omega, by omega, by omega, rfl, ?_⟩
        simp [atN, List.getD_eq_getElem?_getD, hc', naS, ins, kb]
      · rw [encNC_length, lcIx_all]
        exact congrArg PyData.list (atN_map z A (envG z gs) cs _)
      refine st_append rfl (ev_tup (ea_cons (ev_tup (ea_cons (ev_var rfl) (ea_cons (ev_op (d := ee) (ev_var rfl) ev_int (by rw [hb6]; exact rv_ixT (at_1 _ _ _))) ea_nil)) (by simp)) (ea_cons (ev_op (d := pI (rowAt rs n').count) (ev_var rfl) ev_int (by rw [hb6]; exact rv_ixT (at_2 _ _ _ _))) (ea_cons (ev_var rfl) ea_nil))) (by simp)) (by simp [naI] at hlen ⊢; omega) ⟨[encLow rs (n', actN (nxOf rs) z t n' cs (k + naS (s.take j)) A (envG z gs))], gs, dat (.tuple ((fnC z cs (k + naS (s.take j) + 1) A (envG z gs)).map pI)), dat (.str nm), x13, x14, ?_, by omega, ?_⟩
      · simp only [encLow, encRow, hb1, hb5]
        rfl
      · simp [ins, arI, kb]
    have h12 : ¬ (kindI i = 1 ∨ kindI i = 2) := fun q => by
      have : tagF i = "if" ∨ tagF i = "switch" := q.imp (tagF_if i).mpr (tagF_sw i).mpr
      simp [this] at h
    refine st_if (eb_test (ev_op (ev_tagF rs i (ev_var rfl)) ev_str rv_eqS)) (fun h => ?_) (fun h => ?_)
    · obtain ⟨lb, b, rfl⟩ := kind3 ((tagF_loop i).mp (of_decide_eq_true h))
      refine st_seq1 (st_asg (d := pI (fnS z b (k + naS (s.take j)) A ((envG z gs).loop lb z))) (ev_call (ea_cons (ev_var rfl) (ea_cons (ev_var rfl) (ea_cons (ev_var rfl) (ea_cons (ev_var rfl) (ea_cons (ev_var rfl) ea_nil))))) ⟨rs, s, k, j, a, z, gs, by omega, by omega, by omega, rfl, ?_⟩) rfl) ?_
      · rw [hdrop]
        simp only [fnS, fnI]
        rw [show k + naS (s.take j) + naI (.scope true lb b) = k + naS (s.take (j + 1)) by rw [hsn]; omega, hA]
      refine st_asg (ev_op (ev_var rfl) (ev_lst (ea_cons (ev_tup (ea_cons ev_str (ea_cons (ev_op (d := pI lb) (ev_var rfl) ev_int (by simp only [fillI]; exact rv_ixT (at_1 _ _ _))) (ea_cons (ev_var rfl) ea_nil))) (by simp)) ea_nil) (by simp)) (rv_catL (by simp; omega))) ⟨[], gs ++ [(true, lb, fnS z b (k + naS (s.take j)) A ((envG z gs).loop lb z))], x11, x12, x13, dat (pI (fnS z b (k + naS (s.take j)) A ((envG z gs).loop lb z))), ?_, by simp, ?_⟩
      · rw [List.map_append, List.append_nil]
        rfl
      · rw [envG_snoc]
        simp [ins, arC, arI, stepG, kb]
    have h3 := mt (tagF_loop i).mpr (of_decide_eq_false h)
    refine st_if (eb_test (ev_op (ev_tagF rs i (ev_var rfl)) ev_str rv_eqS)) (fun h => ?_) (fun h => ?_)
    · obtain ⟨lb, b, rfl⟩ := kind4 ((tagF_block i).mp (of_decide_eq_true h))
      refine st_asg (ev_op (ev_var rfl) (ev_lst (ea_cons (ev_tup (ea_cons ev_str (ea_cons (ev_op (d := pI lb) (ev_var rfl) ev_int (by simp only [fillI]; exact rv_ixT (at_1 _ _ _))) (ea_cons (ev_var rfl) ea_nil))) (by simp)) ea_nil) (by simp)) (rv_catL (by simp; omega))) ⟨[], gs ++ [(false, lb, A)], x11, x12, x13, x14, ?_, by simp, ?_⟩
      · rw [List.map_append, List.append_nil]
        rfl
      · rw [envG_snoc]
        simp [ins, arC, arI, stepG, kb]
    have h4 := mt (tagF_block i).mpr (of_decide_eq_false h)
    refine st_next ⟨[], gs, x11, x12, x13, x14, by rw [List.append_nil]; rfl, by omega, ?_⟩
    cases i with
    | act t n cs => cases t <;> simp [kindI] at h0 h12
    | scope lp l b => cases lp <;> simp [kindI] at h3 h4
    | jmp ag l => simp [ins, arC, arI]
  -- the bodies
  have hbn : (row ++ (arC (nxOf rs) z (ins i) (k + naS (s.take j) + kb i) A (envG z gs')).map (encLow rs)).length = naI i := by rw [hrow, List.length_map, arI_len]
  rw [List.length_append, List.length_map, arC_len] at hbn
  have hil := ins_len hwi
  have hsz := sz_ins i
  have hwm := wt_ins i
  refine forL_core (fun q δ => ∃ dn x11 x12 x13 x14, δ = [ownA l (acc ++ done ++ row ++ dn), dat (.list (encNS rs k s)), dat (pI a), dat (.list (gs.map encG)), dat (pI z), dat (pI j), dat (numD (k + naS (s.take j)) i), dat (fillI rs i), dat (.list (encNC rs (k + naS (s.take j) + kb i) (ins i))), dat (pI A), dat (.list (gs'.map encG)), x11, x12, x13, x14] ∧
      dn ++ (arC (nxOf rs) z ((ins i).drop q) (k + naS (s.take j) + kb i + naC ((ins i).take q)) A (envG z gs')).map (encLow rs) = (arC (nxOf rs) z (ins i) (k + naS (s.take j) + kb i) A (envG z gs')).map (encLow rs)) (ev_var rfl)
    ⟨[], x11, x12, x13, x14, by simp, by simp [naC]⟩ (fun q d δ' hq ⟨dn, y11, y12, y13, y14, e, hdn2⟩ => ?_) (fun δ' ⟨dn, y11, y12, y13, y14, e, hdn2⟩ => ?_)
  · obtain ⟨c, hc, rfl⟩ := encNC_at rs _ _ _ _ hq
    have hql : q < (ins i).length := (List.getElem?_eq_some_iff.mp hc).1
    have hdrq : (ins i).drop q = c :: (ins i).drop (q + 1) := by
      rw [List.drop_eq_getElem_cons hql]
      rw [List.getElem?_eq_getElem hql] at hc
      rw [Option.some.inj hc]
    have hcn := naC_snoc hc
    have hdc := dpC_get hc
    have hzc := szC_get hc
    have hwc := wtC_get hc
    have hl2 := congrArg List.length hdn2
    rw [List.length_append, List.length_map, List.length_map, arC_len, arC_len, hdrq] at hl2
    simp only [naC] at hl2
    rw [hdrq] at hdn2
    simp only [arC, List.map_append] at hdn2
    subst e
    refine st_callW rfl (ea_cons (ev_var rfl) (ea_cons (ev_var rfl) (ea_cons (ev_var rfl) (ea_cons (ev_var rfl) ea_nil)))) ⟨acc ++ done ++ row ++ dn, rs, c, k + naS (s.take j) + kb i + naC ((ins i).take q), A, z, gs', by omega, by omega, wfC_get (wf_ins hwi) hc, okC_get (ok_ins hoi) hc, hen, by omega, by omega, by simp only [List.length_append]; omega, rfl, rfl, rfl⟩ fun c' d hp => ⟨dn ++ (arS (nxOf rs) z c (k + naS (s.take j) + kb i + naC ((ins i).take q)) A (envG z gs')).map (encLow rs), y11, y12, dat (.list (encNS rs (k + naS (s.take j) + kb i + naC ((ins i).take q)) c)), y14, ?_, ?_⟩
    · rw [hp.1]
      simp only [List.append_assoc]
      rfl
    · rw [List.append_assoc, hcn, ← Nat.add_assoc]
      exact hdn2
  · rw [encNC_length, List.drop_length, arC, List.map_nil, List.append_nil] at hdn2
    refine ⟨done ++ row ++ dn, dat (pI j), dat (numD (k + naS (s.take j)) i), dat (fillI rs i), dat (.list (encNC rs (k + naS (s.take j) + kb i) (ins i))), dat (pI A), dat (.list (gs'.map encG)), y11, y12, y13, y14, ?_, ?_⟩
    · rw [e]
      simp only [List.append_assoc]
    · rw [hdn2]
      simp only [List.append_assoc] at hrow ⊢
      rw [← List.append_assoc row, hrow]
      exact hdn
theorem all_add {m : Nat} (T : Txt mg) (En : TupG K mg "ENDS" endsL) (D_first_in : Df K mg "first_in" 26 ["sequence", "position", "behind", "goals", "none"]) (D : Df K mg "add_rows" 27 PP_add)
    (G_first_in : FnOk P w K mg base CX0 (m + 1) D_first_in.a D_first_in.fd ["sequence", "position", "behind", "goals", "none"] (spP Ts (R_first m))) : ∀ n, FnOk P w K mg base CX0 (m + 1 + n) D.a D.fd PP_add (spW Ts (R_add m n))
  | 0 => by
    have no : ∀ vs H Q E, ¬ spW Ts (R_add m 0) vs H Q E := fun vs H Q E z => by
      obtain ⟨_, _, _, _, _, _, _, _, _, _, _, _, _, h, _⟩ := z
      obtain ⟨_, _, _, _, _, _, _, h, _⟩ := h
      omega
    exact ⟨fun vs H Q E z => absurd z (no vs H Q E), fun A outer s H args us vs Q E _ _ _ _ z => absurd z (no vs H Q E)⟩
  | n + 1 => ok_add T En D_first_in D G_first_in (all_add T En D_first_in D G_first_in n)
/-! ### lower -/
theorem sc_lower : FnScope ["sequence", "found", "rows"] ["sequence"] (defScope (topS 28)) := ⟨rfl, rfl, rfl, by decide +kernel, rfl, by decide +kernel, by decide +kernel⟩
def R_lower (m : Nat) (ds : List PyData) (d : PyData) : Prop := ∃ (rs : List Row) (s : List I), dpS s < m ∧ wtS s < m ∧ wfS s ∧ okS rs s ∧ EndsOk rs ∧ szS s ≤ 2000 ∧ naS s ≤ 5000 ∧ m ≤ 500 ∧ ds = [fillT rs s] ∧
  d = .tuple [pI (fnS (naS s) s 0 (naS s) ⟨fun _ => naS s, fun _ => naS s⟩), .list ((arS (nxOf rs) (naS s) s 0 (naS s) ⟨fun _ => naS s, fun _ => naS s⟩).map (encLow rs))]
theorem ok_lower {m : Nat} (D_numbered : Df K mg "numbered" 24 ["sequence", "start"]) (D_first_in : Df K mg "first_in" 26 ["sequence", "position", "behind", "goals", "none"]) (D_add_rows : Df K mg "add_rows" 27 PP_add) (D : Df K mg "lower" 28 ["sequence"])
    (G_numbered : FnOk P w K mg base CX0 (m + 1) D_numbered.a D_numbered.fd ["sequence", "start"] (spP Ts (R_numbered m)))
    (G_first_in : FnOk P w K mg base CX0 (m + 1) D_first_in.a D_first_in.fd ["sequence", "position", "behind", "goals", "none"] (spP Ts (R_first m)))
    (G_add_rows : FnOk P w K mg base CX0 (m + 1 + m) D_add_rows.a D_add_rows.fd PP_add (spW Ts (R_add m m))) :
    FnOk P w K mg base CX0 (m + 1 + m + 1) D.a D.fd ["sequence"] (spP Ts (R_lower m)) := by
  have sc := sc_lower
  refine fn_pure D.F sc (fun ds d h => ?_) (fun cdv A outer s H E ds d hr h => ?_)
  · obtain ⟨_, _, _, _, _, _, _, _, _, _, rfl, _⟩ := h; rfl
  obtain ⟨rs, s, hd, hwt, hw, ho, hen, hz, hn, hm, rfl, rfl⟩ := h
  refine ⟨_, (pss_cons (ps_set (i := 1) sc.nd rfl (Or.inl rfl) (pe_call G_numbered (hr.mono (by omega)) rfl D_numbered.m D_numbered.F.kp D_numbered.b .nil pass0 (pa_cons (pv 0) (pa_cons pe_int pa_nil))))
    (pss_cons (ps_set (i := 2) sc.nd rfl (Or.inl rfl) (pe_lst pa_nil))
    (pss_cons (ps_expr (pe_call G_add_rows (hr.mono (by omega)) rfl D_add_rows.m D_add_rows.F.kp D_add_rows.b .nil pass0 (pa_cons (pv 2) (pa_cons (pe_ix ix_seq (pv 1) pe_int (fun _ _ => rfl)) (pa_cons (pe_ix ix_seq (pv 1) pe_int (fun _ _ => rfl)) (pa_cons (pe_lst pa_nil) (pa_cons (pe_ix ix_seq (pv 1) pe_int (fun _ _ => rfl)) pa_nil)))))))
    (pss_one (ps_ret (pe_tup (pa_cons (pe_call G_first_in (hr.mono (by omega)) rfl D_first_in.m D_first_in.F.kp D_first_in.b .nil pass0 (pa_cons (pe_ix ix_seq (pv 1) pe_int (fun _ _ => rfl)) (pa_cons pe_int (pa_cons (pe_ix ix_seq (pv 1) pe_int (fun _ _ => rfl)) (pa_cons (pe_lst pa_nil) (pa_cons (pe_ix ix_seq (pv 1) pe_int (fun _ _ => rfl)) pa_nil)))))) (pa_cons (pv 2) pa_nil)))))))), ?_⟩
  refine st_seq1 (st_asg (ev_call (ea_cons (ev_var rfl) (ea_cons ev_int ea_nil)) ⟨rs, s, 0, hd, hw, hz, rfl, rfl⟩) rfl) ?_
  refine st_seq1 (st_new ea_nil (by simp) rfl) ?_
  have t0 : ∀ x, EvD Ts (tOp (rIx K) (tVar 1) (tC (.int 0))) [dat (fillT rs s), dat (.tuple [.list (encNS rs 0 s), pI (0 + naS s)]), x] (.list (encNS rs 0 s)) := fun x => ev_op (ev_var rfl) ev_int (rv_ixT (at_0 _ _))
  have t1 : ∀ x, EvD Ts (tOp (rIx K) (tVar 1) (tC (.int 1))) [dat (fillT rs s), dat (.tuple [.list (encNS rs 0 s), pI (0 + naS s)]), x] (pI (naS s)) := fun x => ev_is (ev_op (ev_var rfl) ev_int (rv_ixT (at_1 _ _ _))) (by rw [Nat.zero_add])
  refine st_seq1 (st_callW rfl (ea_cons (t0 _) (ea_cons (t1 _) (ea_cons (ev_lst ea_nil (by simp)) (ea_cons (t1 _) ea_nil)))) ⟨[], rs, s, 0, naS s, naS s, [], hd, hwt, hw, ho, hen, by simp; omega, hz, by simp; omega, rfl, rfl, rfl⟩ fun c' d hp => by rw [hp.1]) ?_
  refine st_keep (i := 2) rfl ?_
  refine st_ret (ev_tup (ea_cons (ev_call (ea_cons (t0 _) (ea_cons ev_int (ea_cons (t1 _) (ea_cons (ev_lst ea_nil (by simp)) (ea_cons (t1 _) ea_nil))))) ⟨rs, s, 0, 0, naS s, naS s, [], by rw [List.drop_zero]; exact hwt, by omega, by simp; omega, rfl, rfl⟩) (ea_cons (ev_var rfl) ea_nil)) (by simp)) ?_
  simp [naS, envG]
end
end K33
end
section
set_option Elab.async false
set_option linter.all false
set_option maxRecDepth 100000
set_option maxHeartbeats 1000000
/-! L6: a thing of one's own, read while it is written. -/
namespace K33
open PySem L2
/-- the own things forgotten -/
def er1 : Option Sl → Option Sl
  | some (.own _) => none
  | x => x
abbrev er (δ : Dl) : Dl := δ.map er1
def Flat : PyData → Prop
  | .none | .bool _ | .int _ | .str _ => True
  | _ => False
theorem Dt.flat {k k' : Hp} {v : V} {d : PyData} (f : Flat d) (h : Dt k v d) : Dt k' v d := by
  cases h with
  | non => exact .non
  | bl b => exact .bl b
  | int i => exact .int i
  | str x => exact .str x
  | lst _ _ => exact f.elim
  | tup _ _ => exact f.elim
section
variable {Ts : List Addr} {k H k' H' : Hp} {σ : L2.St} {δ : Dl} {l : Addr} {u : HO}
theorem Same.add (hk : k l = none) : Same k (upd k l u) := fun a o z => by
  have : a ≠ l := fun y => by subst y; rw [hk] at z; cases z
  rw [upd_ne this]; exact z
theorem Kn.add (h : Kn Ts k H) (hl : H l = some u) (n : ∀ ps, u ≠ .tbl ps) : Kn Ts (upd k l u) H := ⟨fun a o e => by
    by_cases q : a = l
    · subst q; rw [upd_same] at e; rw [hl]; exact e
    · rw [upd_ne q] at e; exact h.sub a o e, fun a ps e => by
    by_cases q : a = l
    · subst q; rw [upd_same] at e; exact n ps (Option.some.inj e)
    · rw [upd_ne q] at e; exact h.nt a ps e, h.tb⟩
/-- the thing at l is unknown again -/
def less (k : Hp) (l : Addr) : Hp := fun a => if a = l then none else k a
theorem Gr.thaw (h : Kn Ts k H) (hk : k l = none) (g : Gr Ts [] (upd k l u) H k' H') : Gr Ts [] k H (less k' l) H' where
  same := g.same
  kk := fun a o e => by
    have : a ≠ l := fun y => by subst y; rw [hk] at e; cases e
    unfold less
    rw [if_neg this]
    exact g.kk a o (by rw [upd_ne this]; exact e)
  kn := ⟨fun a o e => by
      unfold less at e
      split at e
      · cases e
      · exact g.kn.sub a o e, fun a ps e => by
      unfold less at e
      split at e
      · cases e
      · exact g.kn.nt a ps e, g.kn.tb⟩
  dom := fun a e => by
    unfold less
    split
    · rename_i q; rw [q, hk]
    · rename_i q; rw [g.dom a e, upd_ne q]
theorem Slots.frz (s : Slots k H σ δ) {i : Nat} {o : Option Addr} {c : Cont} (e : δ[i]? = some (some (.own (o, c)))) (e2 : σ[i]? = some (some (.ref l))) (hk : k l = none) (hc : CoOk k u c) : Slots (upd k l u) H σ ((er δ).set i (contSl c)) := by
  have up := Same.add (u := u) hk
  have hi : i < δ.length := (List.getElem?_eq_some_iff.mp e).1
  refine ⟨by simp [s.len], fun j => ?_⟩
  by_cases q : i = j
  · subst q
    rw [List.getElem?_set_self (by simpa using hi), e2]
    cases c with
    | l ds =>
      obtain ⟨xs, rfl, q4⟩ := CoOk.lst hc
      exact ⟨_, rfl, .lst upd_same (DtA.up up _ _ q4)⟩
    | d es =>
      obtain ⟨kvs, rfl, q4⟩ := CoOk.dic hc
      exact ⟨_, _, rfl, upd_same, q4.up up⟩
    | f od kvs es => trivial
  · rw [List.getElem?_set_ne q, List.getElem?_map]
    have := s.ok j
    cases z : δ[j]? with
    | none => trivial
    | some x =>
      rw [z] at this
      cases x with
      | none => trivial
      | some x =>
        cases x with
        | own w => trivial
        | dat d =>
          obtain ⟨y, f1, f2⟩ := this
          exact ⟨y, f1, Dt.up up _ _ f2⟩
        | dct es =>
          obtain ⟨y, kvs, f1, f2, f3⟩ := this
          exact ⟨y, kvs, f1, up _ _ f2, f3.up up⟩
variable {te : TE} {t : TT} {d : PyData} {i : Nat} {o : Option Addr} {c : Cont}
theorem ev_frz (e : δ[i]? = some (some (.own (o, c)))) (h : EvD Ts te ((er δ).set i (contSl c)) d) (f : Flat d) : EvD Ts te δ d := fun σ k H hk s Q q => by
  obtain ⟨l, u, q1, q2, q3, q4, q5⟩ := s.own1 e
  exact h σ _ H (hk.add q2 q4.nt) (s.frz e q1 q3 q4) Q fun v k' H' g dv => q v _ H' (g.thaw hk q3) (Dt.flat f dv)
theorem eb_frz (e : δ[i]? = some (some (.own (o, c)))) {b : Bool} (h : EvB Ts t ((er δ).set i (contSl c)) b) : EvB Ts t δ b := fun σ k H hk s Q q => by
  obtain ⟨l, u, q1, q2, q3, q4, q5⟩ := s.own1 e
  exact h σ _ H (hk.add q2 q4.nt) (s.frz e q1 q3 q4) Q fun k' H' g => q _ H' (g.thaw hk q3)
/-- sorted, whole numbers -/
theorem rc_sortedI {K : PySem.W.Frag} {ns ms : List Int} (hm : ms.Pairwise (· ≤ ·)) (hp : ns.Perm ms) : RcD Ts (rSortedI K) [.list (ns.map PyData.int)] (.list (ms.map PyData.int)) := fun k H xs hk h Q q => by
  cases h with
  | cons h1 h2 =>
    cases h2
    cases h1 with
    | lst e a =>
      have z := a.of_ints
      subst z
      refine ⟨_, ns, rfl, SqL.of (hk.sub _ _ e), fun ns' p p1 p2 hl => ?_⟩
      have : ns' = ms := List.Perm.eq_of_pairwise (fun a b _ _ h1 h2 => Int.le_antisymm h1 h2) p2 hm (p1.trans hp)
      subst this
      exact q _ _ _ (Gr.new hk hl (fun _ => by simp)) (.lst upd_same (DtA.ints ns'))
/-- list(range(n)) -/
theorem ev_listRg {ta : TE} {n : Nat} (h : EvD Ts ta δ (.int n)) (hn : n ≤ 100000) : EvD Ts (tLstRg (tRg1 ta)) δ (.list ((List.range n).map pI)) := fun σ k H hk s Q q =>
  h σ k H hk s _ fun v k1 H1 g1 dv => by
    cases dv
    refine ⟨n, rfl, RgOk.of_le (by omega) (by omega) (by omega) (by omega), fun p hp => ?_⟩
    have e : rgV 0 (n : Int) = ((List.range n).map fun j : Nat => (j : Int)).map V.int := by
      unfold rgV
      rw [List.map_map, show ((n : Int) - 0).toNat = n by omega]
      refine List.map_congr_left fun i _ => ?_
      simp
    rw [e]
    have g := Gr.new (o := .lst (((List.range n).map fun j : Nat => (j : Int)).map V.int)) g1.kn hp (fun _ => by simp)
    refine q _ _ _ (Gr.trans0 hk g1 g) (.lst upd_same ?_)
    rw [map_pI]
    exact DtA.ints _
end
/-- what is known of the rows -/
structure RG (rs : List Row) : Prop where
  pos : 0 < rs.length
  len : rs.length ≤ 24
  nx : ∀ x, ∀ m ∈ nxOf rs x, m < rs.length
  ok : RowsOk (kdOf rs) (nxOf rs)
  ends : EndsOk rs
  nm : ∀ n nm r, (rowAt rs n).act = .oth nm r → nm ≠ "branch" ∧ nm ≠ "select"
end K33
end
section
set_option Elab.async false
set_option linter.all false
set_option maxRecDepth 100000
set_option maxHeartbeats 4000000
/-! W7: spread, reachable, head_shape. -/
namespace K33
open PySem L2
/-! plain: the search -/
structure SpI (n : Nat) (nx : Nat → List Nat) (P : Nat → Prop) (a : Nat) (f : List Nat) (p : Nat) : Prop where
  nd : f.Nodup
  rc : ∀ x ∈ f, x < n ∧ Reach nx P a x
  st : a ∈ f
  le : p ≤ f.length
  cl : ∀ j x, j < p → f[j]? = some x → ∀ g ∈ nx x, P g → g ∈ f
section
variable {n : Nat} {nx : Nat → List Nat} {P : Nat → Prop} {a : Nat}
theorem SpI.start (h : a < n) : SpI n nx P a [a] 0 := ⟨by simp, fun x hx => by
  have : x = a := by simpa using hx
  subst this
  exact ⟨h, .refl _⟩, by simp, by simp, fun j x hj => by omega⟩
theorem SpI.add {f : List Nat} {p v g : Nat} (h : SpI n nx P a f p) (hv : v ∈ f) (hg : g ∈ nx v) (hP : P g) (hn : g < n) (hf : g ∉ f) : SpI n nx P a (f ++ [g]) p := by
  refine ⟨List.nodup_append.mpr ⟨h.nd, by simp, fun x hx y hy e => ?_⟩, fun x hx => ?_, by simp [h.st], by have := h.le; simp; omega, fun j x hj hx y hy hPy => ?_⟩
  · have : y = g := by simpa using hy
    subst this
    subst e
    exact hf hx
  · rcases List.mem_append.mp hx with hx | hx
    · exact h.rc x hx
    · have : x = g := by simpa using hx
      subst this
      exact ⟨hn, (h.rc v hv).2.step hg hP⟩
  · rw [List.getElem?_append_left (by have := h.le; omega)] at hx
    exact List.mem_append_left _ (h.cl j x hj hx y hy hPy)
theorem SpI.next {f : List Nat} {p v : Nat} (h : SpI n nx P a f p) (hv : f[p]? = some v) (hc : ∀ g ∈ nx v, P g → g ∈ f) : SpI n nx P a f (p + 1) := by
  refine ⟨h.nd, h.rc, h.st, (List.getElem?_eq_some_iff.mp hv).1, fun j x hj hx y hy hPy => ?_⟩
  by_cases q : j = p
  · subst q
    rw [hv] at hx
    cases hx
    exact hc y hy hPy
  · exact h.cl j x (by omega) hx y hy hPy
theorem SpI.fin {f : List Nat} (h : SpI n nx P a f f.length) : f.Perm (spreadL n nx P a) := by
  refine (List.perm_ext_iff_of_nodup h.nd spread_nd).mpr fun x => ⟨fun hx => mem_spread.mpr (h.rc x hx), fun hx => ?_⟩
  have hr := (mem_spread.mp hx).2
  clear hx
  induction hr with
  | refl => exact h.st
  | step _ h1 h2 ih =>
    obtain ⟨j, hj, e⟩ := List.getElem_of_mem ih
    exact h.cl j _ hj (by rw [List.getElem?_eq_getElem hj, e]) _ h1 h2
theorem SpI.len {f : List Nat} {p : Nat} (h : SpI n nx P a f p) : f.length ≤ n := by
  have := nd_len (p := f) (q := List.range n) h.nd fun x hx => List.mem_range.mpr (h.rc x hx).1
  simpa using this
theorem spread_sorted : ((spreadL n nx P a).map fun j : Nat => (j : Int)).Pairwise (· ≤ ·) := by
  rw [List.pairwise_map]
  exact (List.Pairwise.filter _ List.pairwise_lt_range).imp fun h => by omega
end
section
variable {P : Program} {w : World} {K : PySem.W.Frag} {mg : Str → Option Value} {base : Heap} {Ts : List Addr}
theorem sc_spread : FnScope ["rows", "chosen", "start", "found", "position", "goal"] ["rows", "chosen", "start"] (defScope (topS 1)) := ⟨rfl, rfl, rfl, by decide +kernel, rfl, by decide +kernel, by decide +kernel⟩
def R_spread (ds : List PyData) (d : PyData) : Prop := ∃ (rs : List Row) (ch : List Nat) (a : Nat), RG rs ∧ a < rs.length ∧ ds = [encRows rs, .list (ch.map pI), pI a] ∧ d = .list ((spreadL rs.length (nxOf rs) (· ∈ ch) a).map pI)
theorem ok_spread (T : Txt mg) (D : Df K mg "spread" 1 ["rows", "chosen", "start"]) : FnOk P w K mg base CX0 1 D.a D.fd ["rows", "chosen", "start"] (spP Ts R_spread) := by
  have sc := sc_spread
  refine fn_pure D.F sc (fun ds d h => ?_) (fun cdv A outer s H E ds d hr h => ?_)
  · obtain ⟨_, _, _, _, _, rfl, _⟩ := h; rfl
  obtain ⟨rs, ch, a, rg, ha, rfl, rfl⟩ := h
  refine ⟨_, (pss_cons (ps_set (i := 3) sc.nd rfl (Or.inl rfl) (pe_lst (pa_cons (pv 2) pa_nil)))
    (pss_cons (ps_set (i := 4) sc.nd rfl (Or.inl rfl) pe_int)
    (pss_cons (ps_while PassesOwn.never (pt_cmpR op_lt (pv 4) (pe_callB call_len_seq (by rfl) T.len PySem.boot_len (pa_cons (pv 3) pa_nil)) (nomark _))
      (pss_cons (ps_for PassesOwn.never rfl (pi_tup (pe_ix ix_seq (pe_ix ix_seq (pv 0) (pe_ix ix_seq (pv 3) (pv 4) (fun _ _ => rfl)) (fun _ _ => rfl)) pe_int (fun _ _ => rfl))) (pg_name (i := 5) sc.nd rfl (Or.inl rfl))
        (pss_one (ps_if (PW.pt (pw_and (pt_cmpR op_in_seq (pv 5) (pv 1) (by rfl)) (pw_and1 (pt_cmpR op_notIn_seq (pv 5) (pv 3) (by rfl)))))
          (pss_one (ps_expr (pe_bm PySem.F.plainAttrs_list PySem.F.slot_list_append PySem.F.type_list_append mt_append (pv 3) (pa_cons (pv 5) pa_nil))))
          pss_nil)))
      (pss_one (ps_aug (i := 4) sc.nd rfl (Or.inl rfl) pe_int ip_add))))
    (pss_one (ps_ret (pe_callB cr_sortedI (by rfl) T.sorted (by decide +kernel) (pa_cons (pv 3) pa_nil))))))), ?_⟩
  have hlen := rg.len
  refine st_seq1 (st_new (ea_cons (ev_var rfl) ea_nil) (by simp) rfl) ?_
  refine st_seq1 (st_asg ev_int rfl) ?_
  refine st_seq (N := fun δ => ∃ f x5 p, δ = [dat (encRows rs), dat (.list (ch.map pI)), dat (pI a), own (f.map pI), dat (pI p), x5] ∧ SpI rs.length (nxOf rs) (· ∈ ch) a f f.length) ?_ fun δ' ⟨f, x5, p, e, sp⟩ => e ▸ st_keep (i := 3) rfl (st_ret (d := .list ((spreadL rs.length (nxOf rs) (· ∈ ch) a).map pI)) (ev_callR (ea_cons (ev_var rfl) ea_nil) (by rw [map_pI, map_pI]; exact rc_sortedI spread_sorted (sp.fin.map _))) rfl)
  refine while_core (fun m δ => ∃ f p x5, δ = [dat (encRows rs), dat (.list (ch.map pI)), dat (pI a), own (f.map pI), dat (pI p), x5] ∧ SpI rs.length (nxOf rs) (· ∈ ch) a f p ∧ m = rs.length - p) (m0 := rs.length) ⟨[a], 0, none, rfl, SpI.start ha, rfl⟩ (fun m δ' ⟨f, p, x5, e, sp, hm⟩ => ?_)
  subst e
  refine ⟨decide ((p : Int) < ((f.map pI).length : Int)), eb_frz (i := 3) rfl (eb_test (ev_op (ev_var rfl) (ev_callR (ea_cons (ev_var rfl) ea_nil) rc_len) rv_lt)), fun h => ?_, fun h => ?_⟩
  · have hp : p < f.length := by
      have := of_decide_eq_true h
      simp at this
      omega
    have hv := List.getElem?_eq_getElem hp
    generalize f[p] = v at hv
    have hvm : v ∈ f := List.mem_of_getElem? hv
    have hvn := (sp.rc v hvm).1
    have hgoals : nxOf rs v = (rowAt rs v).nexts := rfl
    refine st_seq (N := fun δ => ∃ f' x5, δ = [dat (encRows rs), dat (.list (ch.map pI)), dat (pI a), own (f'.map pI), dat (pI p), x5] ∧ SpI rs.length (nxOf rs) (· ∈ ch) a f' p ∧ f'[p]? = some v ∧ ∀ g ∈ nxOf rs v, g ∈ ch → g ∈ f') ?_ fun δ' ⟨f', x5, e, sp', hv', hc⟩ => ?_
    · refine forT_core (ds := (nxOf rs v).map pI) (fun q δ => ∃ f' x5, δ = [dat (encRows rs), dat (.list (ch.map pI)), dat (pI a), own (f'.map pI), dat (pI p), x5] ∧ SpI rs.length (nxOf rs) (· ∈ ch) a f' p ∧ f'[p]? = some v ∧ ∀ g ∈ (nxOf rs v).take q, g ∈ ch → g ∈ f')
        (ev_op (ev_op (ev_var rfl) (ev_frz (d := pI v) (i := 3) rfl (ev_op (ev_var rfl) (ev_var rfl) (rv_ixL (atI_nat (by rw [List.getElem?_map, hv]; rfl)))) trivial) (rv_ixL (rows_at hvn))) ev_int (rv_ixT (at_2 _ _ _ _)))
        ⟨f, x5, rfl, sp, hv, by simp⟩ (fun q d δ' hq ⟨f', x5, e, sp', hv', hc⟩ => ?_) (fun δ' ⟨f', x5, e, sp', hv', hc⟩ => ⟨f', x5, e, sp', hv', by rwa [List.length_map, List.take_length] at hc⟩)
      subst e
      rw [List.getElem?_map] at hq
      obtain ⟨g, hg, rfl⟩ : ∃ g, (nxOf rs v)[q]? = some g ∧ pI g = d := by
        cases z : (nxOf rs v)[q]? with
        | none => rw [z] at hq; cases hq
        | some g => rw [z] at hq; exact ⟨g, rfl, Option.some.inj hq⟩
      have hgm : g ∈ nxOf rs v := List.mem_of_getElem? hg
      have tk : (nxOf rs v).take (q + 1) = (nxOf rs v).take q ++ [g] := by rw [List.take_add_one, hg]; rfl
      refine st_if (eb_and (eb_test (ev_op (ev_var rfl) (ev_var rfl) rv_inN)) (fun _ => eb_frz (i := 3) rfl (eb_test (ev_op (ev_var rfl) (ev_var rfl) rv_inN)))) (fun hb => ?_) (fun hb => ?_)
      · have hb : g ∈ ch ∧ g ∉ f' := by simpa using hb
        refine st_append rfl (ev_var rfl) (by have := sp'.len; simp; omega) ⟨f' ++ [g], dat (pI g), by rw [List.map_append]; rfl, sp'.add (List.mem_of_getElem? hv') hgm hb.1 (rg.nx v g hgm) hb.2, ?_, fun y hy hyc => ?_⟩
        · rw [List.getElem?_append_left (List.getElem?_eq_some_iff.mp hv').1]; exact hv'
        · rw [tk] at hy
          rcases List.mem_append.mp hy with hy | hy
          · exact List.mem_append_left _ (hc y hy hyc)
          · exact List.mem_append_right _ hy
      · refine st_next ⟨f', dat (pI g), rfl, sp', hv', fun y hy hyc => ?_⟩
        rw [tk] at hy
        rcases List.mem_append.mp hy with hy | hy
        · exact hc y hy hyc
        · have : y = g := by simpa using hy
          subst this
          by_cases q : y ∈ f'
          · exact q
          · simp [hyc, q] at hb
    · subst e
      have sp2 := sp'.next hv' hc
      refine st_aug rfl ev_int ⟨rs.length - (p + 1), ?_, f', p + 1, x5, rfl, sp2, rfl⟩
      have := sp2.len
      have := sp2.le
      omega
  · have hp : ¬ p < f.length := by
      have := of_decide_eq_false h
      simp at this
      omega
    have : p = f.length := by have := sp.le; omega
    subst this
    exact ⟨f, x5, f.length, rfl, sp⟩
/-! ### reachable -/
theorem sc_reachable : FnScope ["rows", "first"] ["rows", "first"] (defScope (topS 2)) := ⟨rfl, rfl, rfl, by decide +kernel, rfl, by decide +kernel, by decide +kernel⟩
def R_reachable (ds : List PyData) (d : PyData) : Prop := ∃ (rs : List Row) (a : Nat), RG rs ∧ a < rs.length ∧ ds = [encRows rs, pI a] ∧ d = .list ((regionOf rs.length (nxOf rs) a).map pI)
theorem ok_reachable (T : Txt mg) (D_spread : Df K mg "spread" 1 ["rows", "chosen", "start"]) (D : Df K mg "reachable" 2 ["rows", "first"]) : FnOk P w K mg base CX0 2 D.a D.fd ["rows", "first"] (spP Ts R_reachable) := by
  have sc := sc_reachable
  have G_spread := ok_spread (P := P) (w := w) (base := base) (Ts := Ts) T D_spread
  refine fn_pure D.F sc (fun ds d h => ?_) (fun cdv A outer s H E ds d hr h => ?_)
  · obtain ⟨_, _, _, _, rfl, _⟩ := h; rfl
  obtain ⟨rs, a, rg, ha, rfl, rfl⟩ := h
  refine ⟨_, (pss_one (ps_ret (pe_call G_spread (hr.mono (by omega)) rfl D_spread.m D_spread.F.kp D_spread.b .nil pass0 (pa_cons (pv 0) (pa_cons (pe_listRg rfl rfl T.list (prg_1 rfl T.range (pe_callB call_len_seq (by rfl) T.len PySem.boot_len (pa_cons (pv 0) pa_nil)))) (pa_cons (pv 1) pa_nil)))))), ?_⟩
  have hlen := rg.len
  refine st_ret (ev_call (ea_cons (ev_var rfl) (ea_cons (ev_listRg (n := rs.length) (ev_is (ev_callR (ea_cons (ev_var rfl) ea_nil) rc_len) (by rw [List.length_map])) (by omega)) (ea_cons (ev_var rfl) ea_nil))) ⟨rs, List.range rs.length, a, rg, ha, rfl, rfl⟩) ?_
  unfold regionOf
  rw [show (fun x => x ∈ List.range rs.length) = (fun x => x < rs.length) from funext fun x => propext List.mem_range]
/-! ### head_shape -/
def tagAct : Act → Str
  | .br _ => "branch"
  | .sel _ => "select"
  | .oth nm _ => nm
theorem act_tag (a : Act) : ∃ r, encAct a = .tuple (.str (tagAct a) :: r) := by cases a <;> exact ⟨_, rfl⟩
theorem sc_hs : FnScope ["rows", "head", "labels", "act", "nexts", "number"] ["rows", "head", "labels"] (defScope (topS 7)) := ⟨rfl, rfl, rfl, by decide +kernel, rfl, by decide +kernel, by decide +kernel⟩
abbrev NN_head_shape : List Str := ["rows", "head", "labels", "act", "nexts", "number"]
def R_hs (ds : List PyData) (d : PyData) : Prop := ∃ (rs : List Row) (head : Nat) (labels : List Nat), RG rs ∧ head < rs.length ∧ ds = [encRows rs, pI head, .list (labels.map pI)] ∧ d = encT (headS (kdOf rs) (nxOf rs) head labels)
theorem ok_hs (T : Txt mg) (D_jump : Df K mg "jump" 6 ["labels", "number"]) (D : Df K mg "head_shape" 7 ["rows", "head", "labels"]) : FnOk P w K mg base CX0 2 D.a D.fd ["rows", "head", "labels"] (spP Ts R_hs) := by
  have sc := sc_hs
  have G_jump := ok_jump (P := P) (w := w) (base := base) (Ts := Ts) D_jump
  refine fn_pure D.F sc (fun ds d h => ?_) (fun cdv A outer s H E ds d hr h => ?_)
  · obtain ⟨_, _, _, _, _, rfl, _⟩ := h; rfl
  obtain ⟨rs, head, labels, rg, hh, rfl, rfl⟩ := h
  refine ⟨_, (pss_cons (ps_set (i := 3) sc.nd rfl (Or.inl rfl) (pe_ix ix_seq (pe_ix ix_seq (pv 0) (pv 1) (fun _ _ => rfl)) pe_int (fun _ _ => rfl)))
    (pss_cons (ps_set (i := 4) sc.nd rfl (Or.inl rfl) (pe_ix ix_seq (pe_ix ix_seq (pv 0) (pv 1) (fun _ _ => rfl)) pe_int (fun _ _ => rfl)))
    (pss_cons (ps_if (pt_cmpR op_eq (pe_ix ix_seq (pv 3) pe_int (fun _ _ => rfl)) pe_str (nomark _))
      (pss_one (ps_ret (pe_tup (pa_cons (pe_tup (pa_cons pe_str (pa_cons (pv 1) (pa_cons (pe_tup (pa_cons (pe_call G_jump (hr.mono (by omega)) rfl D_jump.m D_jump.F.kp D_jump.b .nil pass0 (pa_cons (pv 2) (pa_cons (pe_ix ix_seq (pv 4) pe_int (fun _ _ => rfl)) pa_nil))) pa_nil)) (pa_cons (pe_tup (pa_cons (pe_call G_jump (hr.mono (by omega)) rfl D_jump.m D_jump.F.kp D_jump.b .nil pass0 (pa_cons (pv 2) (pa_cons (pe_ix ix_seq (pv 4) pe_int (fun _ _ => rfl)) pa_nil))) pa_nil)) pa_nil))))) pa_nil))))
      pss_nil)
    (pss_cons (ps_if (pt_cmpR op_eq (pe_ix ix_seq (pv 3) pe_int (fun _ _ => rfl)) pe_str (nomark _))
      (pss_one (ps_ret (pe_tup (pa_cons (pe_tup (pa_cons pe_str (pa_cons (pv 1) (pa_cons (pe_callTy call_tuple_of (by rfl) T.tuple (by decide +kernel) (pa_cons (pe_lc (own := [("number", 5)]) (g := gName 5) (tt := tYes) rfl sc.nd (pi_tup (pv 4)) (blkOk_by (own := [("number", 5)]) (N := NN_head_shape) (sc := defScope (topS 7)) (by decide +kernel)) (fun _ _ _ _ _ => pg_name (i := 5) sc.nd rfl (Or.inl rfl)) (fun _ _ _ _ _ => pts_nil) (fun _ _ _ _ _ => (pe_tup (pa_cons (pe_call G_jump (hr.mono (by omega)) rfl D_jump.m D_jump.F.kp D_jump.b .nil pass0 (pa_cons (pv 2) (pa_cons (pv 5) pa_nil))) pa_nil)))) pa_nil)) pa_nil)))) pa_nil))))
      pss_nil)
    (pss_cons (ps_if (pt_not (pt_truth (pv 4) (by intro _; rfl)))
      (pss_one (ps_ret (pe_tup (pa_cons (pe_tup (pa_cons pe_str (pa_cons (pv 1) pa_nil))) pa_nil))))
      pss_nil)
    (pss_one (ps_ret (pe_tup (pa_cons (pe_tup (pa_cons pe_str (pa_cons (pv 1) pa_nil))) (pa_cons (pe_call G_jump (hr.mono (by omega)) rfl D_jump.m D_jump.F.kp D_jump.b .nil pass0 (pa_cons (pv 2) (pa_cons (pe_ix ix_seq (pv 4) pe_int (fun _ _ => rfl)) pa_nil))) pa_nil)))))))))), ?_⟩
  refine st_seq1 (st_asg (d := encAct (rowAt rs head).act) (ev_op (ev_op (ev_var rfl) (ev_var rfl) (rv_ixL (rows_at hh))) ev_int (rv_ixT (at_0 _ _))) rfl) ?_
  refine st_seq1 (st_asg (d := .tuple ((nxOf rs head).map pI)) (ev_op (ev_op (ev_var rfl) (ev_var rfl) (rv_ixL (rows_at hh))) ev_int (rv_ixT (at_2 _ _ _ _))) rfl) ?_
  obtain ⟨r, hr0⟩ := act_tag (rowAt rs head).act
  have tg : ∀ (δ : Dl), δ[3]? = some (dat (encAct (rowAt rs head).act)) → EvD Ts (tOp (rIx K) (tVar 3) (tC (.int 0))) δ (.str (tagAct (rowAt rs head).act)) := fun δ e => ev_op (ev_var e) ev_int (by rw [hr0]; exact rv_ixT (at_0 _ _))
  have fb := rg.ok.four head
  unfold headS
  refine st_ifr (eb_test (ev_op (tg _ rfl) ev_str rv_eqS)) (fun h => ?_) (fun h => ?_)
  · have h := of_decide_eq_true h
    have hk : kdOf rs head = .br := by
      unfold kdOf
      cases z : (rowAt rs head).act with
      | br e => rfl
      | sel e => rw [z] at h; exact absurd h (show ¬ (("select" : Str) = "branch") by decide +kernel)
      | oth nm r => rw [z] at h; exact absurd h (rg.nm head nm r z).1
    have h2 := rg.ok.br head hk
    rw [hk]
    match hx : nxOf rs head, h2 with
    | [x, y], _ =>
      refine st_ret (ev_tup (ea_cons (ev_tup (ea_cons ev_str (ea_cons (ev_var rfl) (ea_cons (ev_tup (ea_cons (ev_call (ea_cons (ev_var rfl) (ea_cons (ev_op (d := pI x) (ev_var rfl) ev_int ?_) ea_nil)) ⟨labels, x, rfl, rfl⟩) ea_nil) (by simp)) (ea_cons (ev_tup (ea_cons (ev_call (ea_cons (ev_var rfl) (ea_cons (ev_op (d := pI y) (ev_var rfl) ev_int ?_) ea_nil)) ⟨labels, y, rfl, rfl⟩) ea_nil) (by simp)) ea_nil)))) (by simp)) ea_nil) (by simp)) ?_
      · exact rv_ixT (at_0 _ _)
      · exact rv_ixT (at_1 _ _ _)
      · simp [encS, encI, encC]
  have h0 := of_decide_eq_false h
  refine st_ifr (eb_test (ev_op (tg _ rfl) ev_str rv_eqS)) (fun h => ?_) (fun h => ?_)
  · have h := of_decide_eq_true h
    have hk : kdOf rs head = .sel := by
      unfold kdOf
      cases z : (rowAt rs head).act with
      | sel e => rfl
      | br e => rw [z] at h0; exact absurd rfl h0
      | oth nm r => rw [z] at h; exact absurd h (rg.nm head nm r z).2
    rw [hk]
    refine st_ret (ev_tup (ea_cons (ev_tup (ea_cons ev_str (ea_cons (ev_var rfl) (ea_cons (ev_callR (ea_cons (ev_lcT (ds := (nxOf rs head).map pI) (fun _ => true) (fun d => match d with | .int i => .tuple [encI (jump labels i.toNat)] | _ => .none) (ev_var rfl) (by simp; omega) (fun _ _ _ => eb_yes) (fun i d hi _ => ?_)) ea_nil) rc_tuple) ea_nil))) (by simp)) ea_nil) (by simp)) ?_
    · rw [List.getElem?_map] at hi
      obtain ⟨g, hg, rfl⟩ : ∃ g, (nxOf rs head)[i]? = some g ∧ pI g = d := by
        cases z : (nxOf rs head)[i]? with
        | none => rw [z] at hi; cases hi
        | some g => rw [z] at hi; exact ⟨g, rfl, Option.some.inj hi⟩
      exact ev_tup (ea_cons (ev_call (ea_cons (ev_var rfl) (ea_cons (ev_var rfl) ea_nil)) ⟨labels, g, rfl, rfl⟩) ea_nil) (by simp)
    · have e : ∀ cs, encT [.act .sw head cs] = .tuple [.tuple [.str "switch_row", pI head, .tuple (encC cs)]] := fun cs => by simp [encS, encI]
      rw [e, encC_map, List.map_map, lcOf, List.filter_eq_self.mpr (fun _ _ => rfl), List.map_map]
      refine congrArg (fun z => PyData.tuple [PyData.tuple [_, _, PyData.tuple z]]) (List.map_congr_left fun m _ => ?_)
      simp [encS]
  have h1 := of_decide_eq_false h
  have hk : kdOf rs head = .oth := by
    unfold kdOf
    cases z : (rowAt rs head).act with
    | sel e => rw [z] at h1; exact absurd rfl h1
    | br e => rw [z] at h0; exact absurd rfl h0
    | oth nm r => rfl
  rw [hk]
  cases hx : nxOf rs head with
  | nil =>
    refine st_ifr (eb_not (eb_truth (b := false) (ev_var rfl) rfl)) (fun h => ?_) (fun h => ?_)
    · refine st_ret (ev_tup (ea_cons (ev_tup (ea_cons ev_str (ea_cons (ev_var rfl) ea_nil)) (by simp)) ea_nil) (by simp)) ?_
      simp [encS, encI]
    · simp at h
  | cons m ms =>
    refine st_ifr (eb_not (eb_truth (b := true) (ev_var rfl) rfl)) (fun h => ?_) (fun h => ?_)
    · simp at h
    · refine st_ret (ev_tup (ea_cons (ev_tup (ea_cons ev_str (ea_cons (ev_var rfl) ea_nil)) (by simp)) (ea_cons (ev_call (ea_cons (ev_var rfl) (ea_cons (ev_op (d := pI m) (ev_var rfl) ev_int ?_) ea_nil)) ⟨labels, m, rfl, rfl⟩) ea_nil)) (by simp)) ?_
      · exact rv_ixT (at_0 _ _)
      · simp [encS, encI]
end
end K33
end
section
set_option Elab.async false
set_option linter.all false
set_option maxRecDepth 100000
set_option maxHeartbeats 2000000
/-! L7: any, all of a generator expression over a list, with captured names: its element is a pure expression, read raw. -/
namespace K33
open PySem PySem.Spec PyProof.Rows L2 GxR
theorem clo_lookup {cells : List (Str × Addr)} {names : List (Str × NameKind)} {y : Str} {c : Addr} (h : (y, NameKind.free) ∈ names) (e : cells.lookup y = some c) : (cloFrom cells names []).lookup y = some c := by
  have h1 : (y, (cells.lookup y).getD 0) ∈ cloFrom cells names [] := cloFrom_has h
  have h2 : ∀ (l : List (Str × Addr)) (d : Addr), (y, d) ∈ l → ∃ d', l.lookup y = some d' ∧ (y, d') ∈ l := by
    intro l
    induction l with
    | nil => intro d h; cases h
    | cons p r ih =>
      intro d h
      obtain ⟨a, b⟩ := p
      by_cases q : y = a
      · subst q
        exact ⟨b, by simp [List.lookup], List.mem_cons_self⟩
      · rcases List.mem_cons.mp h with h | h
        · cases h; exact absurd rfl q
        · obtain ⟨d', z1, z2⟩ := ih d h
          refine ⟨d', ?_, List.mem_cons_of_mem _ z2⟩
          have : (y == a) = false := by simpa using q
          simp only [List.lookup, this]
          exact z1
  obtain ⟨d', z1, z2⟩ := h2 _ _ h1
  rcases cloFrom_mem z2 with z | ⟨_, z⟩
  · cases z
  · rw [z1, z, e]; rfl
structure Gst (X : Cx) (P : Addr) (scope : Scope) (x : Str) (h1 : Heap) (u : Value) (cenv : PySem.Env) (s : Shared) : Prop where
  sc : cenv.scope = scope
  cl : cenv.cells = cloFrom X.env.cells scope.names []
  ns : ∃ m, s.heap.Ns cenv.locals m ∧ m x = some u
  kp : ∀ b o, b ≠ P → h1.get? b = some o → s.heap.get? b = some o
theorem Gst.keeps {X : Cx} {P : Addr} {scope : Scope} {x : Str} {h1 : Heap} {u : Value} {cenv : PySem.Env} {s s' : Shared} (g : Gst X P scope x h1 u cenv s) (k : Keeps s s') : Gst X P scope x h1 u cenv s' := by
  obtain ⟨h', tk, rfl, kk⟩ := k
  obtain ⟨m, n1, n2⟩ := g.ns
  exact ⟨g.sc, g.cl, ⟨m, n1.keeps kk, n2⟩, fun b o hb e => kk b o (g.kp b o hb e)⟩
theorem Keeps.trans' {s s' s'' : Shared} (a : Keeps s s') (b : Keeps s' s'') : Keeps s s'' := by
  obtain ⟨h1, t1, rfl, k1⟩ := a
  obtain ⟨h2, t2, rfl, k2⟩ := b
  exact ⟨h2, t2, rfl, fun b o e => k2 b o (k1 b o e)⟩
abbrev RF := L2.St → Hp → V → V → Prop
/-- a pure expression of the element: in any later state it gives v -/
def PR (X : Cx) (P : Addr) (scope : Scope) (x : Str) (e : Expr) (f : RF) : Prop :=
  ∀ (pins : List (Addr × Obj)) (σ : L2.St) (H : Hp) (s1 : Shared), Inv X pins σ H s1 → TabG H P → ∀ (xv v : V) (u : Value), f σ H xv v → RelV xv u → ∀ (cenv : PySem.Env) (A' : Around) (E' : Value → Shared → Prop) (s : Shared) (Q : Value → Shared → Prop),
    A'.handled = none → Gst X P scope x s1.heap u cenv s → (∀ y s', Keeps s s' → RelV v y → Q y s') → wpAny (model X.prog X.w) A' (eval e cenv) Q E' s
section
variable {X : Cx} {P : Addr} {scope : Scope} {x : Str} {a b : Expr} {fa fb : RF}
theorem pr_loc {pos : Pos} (hk : scope.kind = .function) (hl : scope.names.lookup x = some .local) (hd : (x == ("__debug__" : Str)) = false := by decide) : PR X P scope x (.Name x pos) (fun _ _ xv v => v = xv) := by
  intro pins σ H s1 I T xv v u hf ru cenv A' E' s Q hA g q
  subst hf
  obtain ⟨m, n1, n2⟩ := g.ns
  exact wpAny_Name (wpAny_loadName_local (by rw [g.sc]; exact hk) (show cenv.scope.names.lookup x = some .local by rw [g.sc]; exact hl) n1 n2 (q u s (keeps_refl s) ru)) hd
theorem pr_cap {i : Nat} {y : Str} {pos : Pos} (hN : X.N[i]? = some y) (hc : X.env.scope.names.lookup y = some .cell ∨ X.env.scope.names.lookup y = some .free) (hk : scope.kind = .function) (hl : scope.names.lookup y = some .free)
    (hd : (y == ("__debug__" : Str)) = false := by decide) (hcd : (y == ("__classdict__" : Str)) = false := by decide) : PR X P scope x (.Name y pos) (fun σ _ _ v => σ[i]? = some (some v)) := by
  intro pins σ H s1 I T xv v u hf ru cenv A' E' s Q hA g q
  have hm : (y, NameKind.free) ∈ scope.names := mem_of_lookup hl
  obtain ⟨m, hn, hl2⟩ := I.loc
  obtain ⟨w, rw', l⟩ := hl2 i y v hN hf (.inr hc)
  obtain ⟨ps, hP, _⟩ := T
  have hPo : s1.heap.get? P = some { cls := .none, data := .fields ps } := I.hok P _ hP
  rcases l with ⟨hk2, _⟩ | ⟨_, c, hcl, hcell⟩
  · have : X.env.scope.names.lookup y = some .local := hk2
    rcases hc with z | z <;> rw [z] at this <;> cases this
  · have hcell' : s.heap.IsCell c (some w) := by
      obtain ⟨o, e1, e2⟩ := hcell
      refine ⟨o, g.kp c o (fun z => ?_) e1, e2⟩
      rw [z, hPo] at e1
      cases e1
      simp at e2
    refine wpAny_Name (wpAny_loadName_free (by rw [g.sc]; exact hk) (show cenv.scope.names.lookup y = some .free by rw [g.sc]; exact hl) (by rw [g.cl]; exact clo_lookup hm hcl) hcell' (q w s (keeps_refl s) rw') hcd) hd
theorem pr_int {n : Int} {j : Nat} {pos : Pos} : PR X P scope x (.Constant (.int n) j pos) (fun _ _ _ v => v = .int n) := by
  intro pins σ H s1 I T xv v u hf ru cenv A' E' s Q hA g q
  subst hf
  exact wpAny_Constant_int (q _ _ (keeps_tok s _) ⟨_, rfl⟩)
theorem notP {pins : List (Addr × Obj)} {σ : L2.St} {H : Hp} {s1 : Shared} (I : Inv X pins σ H s1) (T : TabG H P) {p : Addr} {o : Obj} (e : s1.heap.get? p = some o) (n : ∀ vs, o.data ≠ .fields vs) : p ≠ P := fun z => by
  obtain ⟨ps, hP, _⟩ := T
  have hPo : s1.heap.get? P = some { cls := .none, data := .fields ps } := I.hok P _ hP
  rw [z, hPo] at e
  cases e
  exact n ps rfl
theorem list_later {pins : List (Addr × Obj)} {σ : L2.St} {H : Hp} {s1 s : Shared} {u : Value} {cenv : PySem.Env} (I : Inv X pins σ H s1) (T : TabG H P) (g : Gst X P scope x s1.heap u cenv s) {p : Addr} {xs : List V} (h : SqL X.K H p xs) :
    ∃ its : List Value, Vals xs its ∧ s.heap.IsList p its.toArray ∧ xs.length ≤ sizeLine := by
  obtain ⟨its, r, pl, hz⟩ := I.list h
  obtain ⟨o, ho, hc, n, hd⟩ := pl.isList
  exact ⟨its, r, ⟨o, g.kp p o (notP I T ho (fun vs z => by rw [hd] at z; cases z)) ho, hc, n, hd⟩, hz⟩
theorem tup_later {pins : List (Addr × Obj)} {σ : L2.St} {H : Hp} {s1 s : Shared} {u : Value} {cenv : PySem.Env} (I : Inv X pins σ H s1) (T : TabG H P) (g : Gst X P scope x s1.heap u cenv s) {p : Addr} {xs : List V} (h : SqT X.K H p xs) :
    ∃ its : List Value, Vals xs its ∧ IsTup s.heap p its.toArray ∧ xs.length ≤ sizeLine := by
  obtain ⟨its, r, pl, hz⟩ := I.tuple h
  obtain ⟨o, ho, hc, n, hd⟩ := pl
  exact ⟨its, r, ⟨o, g.kp p o (notP I T ho (fun vs z => by rw [hd] at z; cases z)) ho, hc, n, hd⟩, hz⟩
theorem small_ix {xs : List V} {its : List Value} {i : Nat} {v : V} (r : Vals xs its) (hz : xs.length ≤ sizeLine) (e : xs[i]? = some v) : ∃ w, its[i]? = some w ∧ RelV v w ∧ (i : Int) < 2 ^ 63 ∧ i < its.length := by
  obtain ⟨w, ew, rw'⟩ := r.get e
  have hl := r.length
  have hn := line63
  have hi := (List.getElem?_eq_some_iff.mp e).1
  exact ⟨w, ew, rw', by omega, by omega⟩
theorem pr_ixL {pos : Pos} (ha : PR X P scope x a fa) (hb : PR X P scope x b fb) (hs : PlainIx b) : PR X P scope x (.Subscript a b pos) (fun σ H xv v => ∃ p xs, ∃ i : Nat, fa σ H xv (.ref p) ∧ fb σ H xv (.int i) ∧ SqL X.K H p xs ∧ xs[i]? = some v) := by
  intro pins σ H s1 I T xv v u hf ru cenv A' E' s Q hA g q
  obtain ⟨p, xs, i, f1, f2, hq, hi⟩ := hf
  refine Subscript_ (ha pins σ H s1 I T xv _ u f1 ru cenv A' E' s _ hA g fun y s2 k2 r2 => ?_)
  cases r2
  refine hb pins σ H s1 I T xv _ u f2 ru cenv A' E' s2 _ hA (g.keeps k2) fun z s3 k3 r3 => ?_
  obtain ⟨t, rfl⟩ := r3
  obtain ⟨its, r, pl, hz⟩ := list_later I T ((g.keeps k2).keeps k3) hq
  obtain ⟨w, ew, rw', h63, _⟩ := small_ix r hz hi
  exact item_listR pl (by omega) h63 (by simpa using ew) (q w s3 (Keeps.trans' k2 k3) rw') (hs _ _)
theorem pr_ixT {pos : Pos} (ha : PR X P scope x a fa) (hb : PR X P scope x b fb) (hs : PlainIx b) : PR X P scope x (.Subscript a b pos) (fun σ H xv v => ∃ p xs, ∃ i : Nat, fa σ H xv (.ref p) ∧ fb σ H xv (.int i) ∧ SqT X.K H p xs ∧ xs[i]? = some v) := by
  intro pins σ H s1 I T xv v u hf ru cenv A' E' s Q hA g q
  obtain ⟨p, xs, i, f1, f2, hq, hi⟩ := hf
  refine Subscript_ (ha pins σ H s1 I T xv _ u f1 ru cenv A' E' s _ hA g fun y s2 k2 r2 => ?_)
  cases r2
  refine hb pins σ H s1 I T xv _ u f2 ru cenv A' E' s2 _ hA (g.keeps k2) fun z s3 k3 r3 => ?_
  obtain ⟨t, rfl⟩ := r3
  obtain ⟨its, r, pl, hz⟩ := tup_later I T ((g.keeps k2).keeps k3) hq
  obtain ⟨w, ew, rw', h63, hlt⟩ := small_ix r hz hi
  exact subscriptTail_builtinR (x := w) pl.typeIs slot_tuple_getitem.lookup
    (getItem_tuple (j := i) (Q := fun r s' => r = w ∧ Q r s') pl (by omega) h63 (by rw [List.size_toArray, seqIndex_of (by omega) (by omega)]; rfl) (by simpa using ew) ⟨rfl, q w s3 (Keeps.trans' k2 k3) rw'⟩) (hs _ _)
theorem pr_ixD {pos : Pos} (ha : PR X P scope x a fa) (hb : PR X P scope x b fb) (hs : NoSl b) : PR X P scope x (.Subscript a b pos) (fun σ H xv v => ∃ p kvs, ∃ i : Int, fa σ H xv (.ref p) ∧ fb σ H xv (.int i) ∧ H p = some (.dK kvs) ∧ valV kvs (.inl i) = some v) := by
  intro pins σ H s1 I T xv v u hf ru cenv A' E' s Q hA g q
  obtain ⟨p, kvs, i, f1, f2, hq, hi⟩ := hf
  refine subD_of PySem.F.slot_dict_getitem.lookup hs (ha pins σ H s1 I T xv _ u f1 ru cenv A' E' s _ hA g fun y s2 k2 r2 => ?_)
  cases r2
  refine hb pins σ H s1 I T xv _ u f2 ru cenv A' E' s2 _ hA (g.keeps k2) fun z s3 k3 r3 => ?_
  have g3 := (g.keeps k2).keeps k3
  obtain ⟨z1, hd, vs, rel, o, es, ep, e1, e2, e3⟩ := I.hok p _ hq
  have hp : s3.heap.get? p = some o := g3.kp p o (notP I T e1 (fun vs z => by rw [e3.1] at z; cases z)) e1
  obtain ⟨w', hw, rw'⟩ := RelO.some_of (v := v) (o := valueAt vs (.inl i)) (by rw [← hi]; exact rel.val (.inl i))
  have dd : s3.heap.DictOf (mixKind X.prog X.w) p vs := ⟨o, es, ep, hp, e2, e3⟩
  refine ⟨?_, wpAny_getItem_of (kV_is (k := .inl i) r3) dd.mapOf hw (q w' _ (Keeps.trans' (Keeps.trans' k2 k3) (keeps_tok s3 _)) rw')⟩
  exact dd.typeIs
end
end K33
end
section
set_option Elab.async false
set_option linter.all false
set_option maxRecDepth 100000
set_option maxHeartbeats 2000000
/-! L8: any, all of such a generator. -/
namespace K33
open PySem PySem.Spec PyProof.Rows L2 GxR
section
variable {X : Cx} {P : Addr} {scope : Scope} {x : Str} {a b : Expr} {fa fb : RF}
theorem any_ints {i : Int} {ns : List Int} {its : List Value} (r : Vals (ns.map V.int) its) : its.any (eqU (.int i)) = decide (i ∈ ns) := by
  rw [any_eqU r (flat_ints ns)]
  have := inV_ints i ns
  unfold inV at this
  exact this
theorem pr_in {pos : Pos} (ha : PR X P scope x a fa) (hb : PR X P scope x b fb) (hm : behindInMarks .In b = false := by with_unfolding_all rfl) : PR X P scope x (.Compare a [.In] [b] pos) (fun σ H xv v => ∃ (p : Addr) (i : Int) (ns : List Int), fa σ H xv (.int i) ∧ fb σ H xv (.ref p) ∧ (SqL X.K H p (ns.map V.int) ∨ SqT X.K H p (ns.map V.int)) ∧ v = .bl (decide (i ∈ ns))) := by
  intro pins σ H s1 I T xv v u hf ru cenv A' E' s Q hA g q
  obtain ⟨p, i, ns, f1, f2, hq, rfl⟩ := hf
  refine wpAny_Compare1 (ha pins σ H s1 I T xv _ u f1 ru cenv A' E' s _ hA g fun y s2 k2 r2 => ?_) hm
  refine hb pins σ H s1 I T xv _ u f2 ru cenv A' E' s2 _ hA (g.keeps k2) fun z s3 k3 r3 => ?_
  cases r3
  have g3 := (g.keeps k2).keeps k3
  rcases hq with hq | hq
  · obtain ⟨its, r, pl, hz⟩ := list_later I T g3 hq
    refine SeqAt.in_listAt (eqU (.int i)) pl (fun w hw => mem_eqAt r2 rfl r (flat_ints ns) w (by simpa using hw)) (q _ s3 (Keeps.trans' k2 k3) ?_)
    rw [show its.toArray.any (eqU (.int i)) = its.any (eqU (.int i)) by simp, any_ints r]
    rfl
  · obtain ⟨its, r, pl, hz⟩ := tup_later I T g3 hq
    refine SeqAt.in_tupleAt (eqU (.int i)) pl (fun w hw => mem_eqAt r2 rfl r (flat_ints ns) w (by simpa using hw)) (q _ s3 (Keeps.trans' k2 k3) ?_)
    rw [show its.toArray.any (eqU (.int i)) = its.any (eqU (.int i)) by simp, any_ints r]
    rfl
theorem pr_notIn {pos : Pos} (ha : PR X P scope x a fa) (hb : PR X P scope x b fb) (hm : behindInMarks .NotIn b = false := by with_unfolding_all rfl) : PR X P scope x (.Compare a [.NotIn] [b] pos) (fun σ H xv v => ∃ (p : Addr) (i : Int) (ns : List Int), fa σ H xv (.int i) ∧ fb σ H xv (.ref p) ∧ (SqL X.K H p (ns.map V.int) ∨ SqT X.K H p (ns.map V.int)) ∧ v = .bl (!decide (i ∈ ns))) := by
  intro pins σ H s1 I T xv v u hf ru cenv A' E' s Q hA g q
  obtain ⟨p, i, ns, f1, f2, hq, rfl⟩ := hf
  refine wpAny_Compare1 (ha pins σ H s1 I T xv _ u f1 ru cenv A' E' s _ hA g fun y s2 k2 r2 => ?_) hm
  refine hb pins σ H s1 I T xv _ u f2 ru cenv A' E' s2 _ hA (g.keeps k2) fun z s3 k3 r3 => ?_
  cases r3
  have g3 := (g.keeps k2).keeps k3
  rcases hq with hq | hq
  · obtain ⟨its, r, pl, hz⟩ := list_later I T g3 hq
    refine SeqAt.notIn_listAt (eqU (.int i)) pl (fun w hw => mem_eqAt r2 rfl r (flat_ints ns) w (by simpa using hw)) (q _ s3 (Keeps.trans' k2 k3) ?_)
    rw [show its.toArray.any (eqU (.int i)) = its.any (eqU (.int i)) by simp, any_ints r]
    rfl
  · obtain ⟨its, r, pl, hz⟩ := tup_later I T g3 hq
    refine SeqAt.notIn_tupleAt (eqU (.int i)) pl (fun w hw => mem_eqAt r2 rfl r (flat_ints ns) w (by simpa using hw)) (q _ s3 (Keeps.trans' k2 k3) ?_)
    rw [show its.toArray.any (eqU (.int i)) = its.any (eqU (.int i)) by simp, any_ints r]
    rfl
theorem pr_or {pos : Pos} (ha : PR X P scope x a fa) (hb : PR X P scope x b fb) : PR X P scope x (.BoolOp .Or [a, b] pos) (fun σ H xv v => ∃ ba bb : Bool, fa σ H xv (.bl ba) ∧ (ba = false → fb σ H xv (.bl bb)) ∧ v = .bl (ba || bb)) := by
  intro pins σ H s1 I T xv v u hf ru cenv A' E' s Q hA g q
  obtain ⟨ba, bb, f1, f2, rfl⟩ := hf
  refine BoolOp_or (ha pins σ H s1 I T xv _ u f1 ru cenv A' E' s _ hA g fun y s2 k2 r2 => ?_)
  cases r2
  refine wpAny_truthy_bool ?_
  cases ba with
  | true => exact q _ s2 k2 rfl
  | false =>
    simp only [Bool.false_eq_true, if_false]
    exact BoolOp_one (hb pins σ H s1 I T xv _ u (f2 rfl) ru cenv A' E' s2 _ hA (g.keeps k2) fun z s3 k3 r3 => q z s3 (Keeps.trans' k2 k3) r3)
end
section
variable {X : Cx} {pins : List (Addr × Obj)} {σ : L2.St} {H : Hp} {s : Shared}
/-- the generator's own scope, against the scope it stands in -/
def genB (out scope : Scope) (x : Str) : Bool :=
  (match scope.kind with | .function => true | _ => false) && !scope.isCoroutine && (scope.names.all fun y => match y.2 with | .cell => false | _ => true) &&
  (match scope.names.lookup (".0" : Str) with | some .local => true | _ => false) && (match scope.names.lookup x with | some .local => true | _ => false) &&
  (scope.names.all fun y => match y.2 with | .free => (match out.names.lookup y.1 with | some .cell => true | some .free => true | _ => false) | _ => true)
theorem genB_ok {scope : Scope} {x : Str} (h : genB X.env.scope scope x = true) (I : Inv X pins σ H s) : GenS X.env scope x := by
  unfold genB at h
  simp only [Bool.and_eq_true, List.all_eq_true] at h
  obtain ⟨⟨⟨⟨⟨h1, h2⟩, h3⟩, h4⟩, h5⟩, h6⟩ := h
  refine ⟨?_, by simpa using h2, fun y hy e => ?_, ?_, ?_, fun y hy e => ?_⟩
  · split at h1
    · assumption
    · cases h1
  · have := h3 y hy
    rw [e] at this
    cases this
  · split at h4
    · assumption
    · cases h4
  · split at h5
    · assumption
    · cases h5
  · have := h6 y hy
    rw [e] at this
    simp only at this
    split at this
    · rename_i z; exact I.ok.has _ (.inl z)
    · rename_i z; exact I.ok.has _ (.inr z)
    · cases this
/-- the generator g over n items, ready to be walked, in the state s5; H1: what was held before -/
def ReadyL (X : Cx) (pins : List (Addr × Obj)) (σ : L2.St) (H1 : Hp) (P : Addr) (n : Nat) (pb : Nat → Bool) (g : Addr) (s5 : Shared) : Prop :=
  ∃ (fp wr : List Addr) (G : Array GenState → Array GenState → Prop) (F : Nat → Value → Prop) (St : Nat → Shared → Prop),
    WalksS X.prog X.w X.A.in1 g fp wr G n F St ∧ St 0 s5 ∧
    TruthOf X.prog X.w X.A.in1 F pb ∧
    ∀ s', Moved wr G s5 s' → ∃ H2, Tabbed P H1 H2 ∧ Inv X pins σ H2 s'
/-- g is h with the table at P grown by more, and with new objects -/
structure Grown (P : Addr) (ps more : Array Value) (h g : Heap) : Prop where
  ext : Heap.ExtBut P h g
  size : h.objs.size ≤ g.objs.size
  tab : g.get? P = some (PySem.W.tabObj (ps ++ more))
  trip : TriplesOk (ps ++ more).toList
/-- a generator expression's code object: it stands in the table, or it comes there -/
theorem code_found {M : Model} {A : Around} {E : Value → Shared → Prop} {env : PySem.Env} {c P : Addr} {ps : Array Value} {pos : Pos} {qn : Str} {scope : Scope} {Q : Value → Shared → Prop}
    (hc : env.code = .ref c) (hd : PySem.W.CodeHd s.heap c P) (hP : s.heap.get? P = some (PySem.W.tabObj ps)) (ht : TriplesOk ps.toList) (h : ∀ v g t more, Grown P ps more s.heap g → Q v { s with heap := g, toks := t }) :
    wpAny M A (genexprCode env pos qn scope) Q E s := by
  cases q : codeAmong pos ps.toList with
  | some v => exact wpAny_genexprCode_hit hc (hd.code hP ht) q (h v s.heap s.toks #[] ⟨Heap.ExtBut.refl _ _, Nat.le_refl _, by simpa using hP, by simpa using ht⟩)
  | none =>
    refine wpAny_genexprCodeX hc (hd.code hP ht) (hd.tab hP) q fun c' g t ext low high code _ tab _ => h _ g t _ ⟨ext, Nat.le_trans low (Nat.le_of_lt high), tab.2, ?_⟩
    obtain ⟨_, _, _, _, _, _, _, _, _, _, _, _, _, _, _, _, _, _, _, trip, _⟩ := code
    exact trip
/-- the list's iterator, when it is new -/
abbrev itO (a : Addr) : Obj := { cls := .type "list_iterator", data := .fields #[.ref a, .int 0 0] }
theorem gen_list {c P : Addr} {elt iter : Expr} {x : Str} {px gpos : Pos} {scope : Scope} {f : RF} {te : TE} {k : Nat} {Q' : Value → Shared → Prop} {R : Nat → (Nat → Bool) → Hp → Prop}
    (hr : Room k X.A) (TB : TabB X.base X.mg c P) (hcode : X.env.code = .ref c) (S : genB X.env.scope scope x = true) (hi : PE X iter te) (hel : PR X P scope x elt f)
    (hs : ∀ v, genFold iter X.env v = pure v) (I : Inv X pins σ H s) (h : te σ H fun v H1 => ∃ (a : Addr) (xs : List V) (pb : Nat → Bool), v = .ref a ∧ SqL X.K H1 a xs ∧ TabG H1 P ∧ (∀ j y, xs[j]? = some y → f σ H1 y (.bl (pb j))) ∧ R xs.length pb H1)
    (hQ : ∀ n pb H1 g s5, R n pb H1 → ReadyL X pins σ H1 P n pb g s5 → Q' (.ref g) s5) :
    wpAny (model X.prog X.w) X.A (eval (.GeneratorExp elt [⟨.Name x px, iter, [], 0⟩] scope gpos) X.env) Q' X.xe s := by
  have S2 := genB_ok S I
  have depth : X.A.depth < recursionLimit := by
    have := hr.dp
    omega
  refine wpAny_GeneratorExp_walksQ hr.hd S2.co (closure_ok S2.free) S2.cell S2.dot S2.loc S2.kind depth (thn (hi.run pins s σ H _ I h) ?_) hs
  rintro _ s1 ⟨_, H1, J, rel, a, xs, pb, rfl, held, T, truth, wish⟩
  obtain rfl := rel
  obtain ⟨ps, hP, trip⟩ := T
  obtain ⟨its, vals, plain, _⟩ := J.list held
  have isl := plain.isList
  have tabP : s1.heap.get? P = some (PySem.W.tabObj ps) := J.hok P _ hP
  have aP : a ≠ P := by
    obtain ⟨o, e, _, n, d⟩ := isl
    rintro rfl
    cases e.symm.trans tabP
    cases d
  have la : a < s1.heap.objs.size := isl.elim fun _ z => Heap.lt_size z.1
  have lP : P < s1.heap.objs.size := Heap.lt_size tabP
  have lS : cStatics < s1.heap.objs.size := J.nolimit.elim fun _ z => z.1.lt
  have notS : cStatics ≠ P := by
    rintro rfl
    obtain ⟨_, ⟨o, es, n, e, d, _⟩, _⟩ := J.nolimit
    cases e.symm.trans tabP
    cases d
  have nx : ∀ {i : Nat} {v : Value}, its.toArray[i]? = some v → ∃ y, xs[i]? = some y ∧ RelV y v := fun {i v} e => by
    have e' : its[i]? = some v := by simpa using e
    have il : i < xs.length := vals.length ▸ (List.getElem?_eq_some_iff.mp e').1
    obtain ⟨u, eu, ru⟩ := vals.get (List.getElem?_eq_getElem il)
    cases e'.symm.trans eu
    exact ⟨_, List.getElem?_eq_getElem il, ru⟩
  generalize hN : s1.heap.objs.size = N at la lP lS
  refine wpAny_pyIter_list isl ⟨J.nolimit.push _, code_found hcode (TB.code.keeps fun b u e => Heap.get?_push_of_some _ (J.bk b u e)) (Heap.get?_push_of_some _ tabP) trip fun cv g t more G => ?_⟩
  have up : ∀ b u, b ≠ P → s1.heap.get? b = some u → g.get? b = some u := fun b u n e => G.ext b u n (Heap.get?_push_of_some _ e)
  have atN : g.get? N = some (itO a) := G.ext N _ (Nat.ne_of_gt lP) (by rw [← hN]; exact Heap.get?_push_size _ rfl)
  have wide : N < g.objs.size := Heap.lt_size atN
  have W : ∀ A' : Around, A'.handled = none → Walks X.prog X.w A' N [N, a] [N] its.toArray.size (fun i v => its.toArray[i]? = some v) fun i h => h.IsListIter N a i ∧ h.IsList a its.toArray := fun A' q => Walks.list q _ _ (Nat.ne_of_lt la) its.toArray
  obtain ⟨m, om, e1, e2, _, e4, e5, e6, e7, e8⟩ := TB.bm
  refine wpAny_builtinsFor (m := X.mg) ?_ e1 e2 (up _ _ e4 (J.bk _ _ e5)) e6 e7 e8 ?_
  · rw [J.ok.glob]
    exact ((J.mod.glob.keeps J.bk).push _).extBut G.ext TB.gP
  refine ⟨N, [N, a], [N], its.toArray.size, _, _, fun _ => true, fun i y => y = .bool (pb i), by rw [← hN], W, ⟨⟨_, atN, rfl, rfl⟩, isl.elim fun o z => ⟨o, up a o aP z.1, z.2⟩⟩, ?_, (J.nolimit.push _).extBut G.ext notS, ?_, fun href keep => ⟨fun _ _ _ _ _ _ _ _ _ _ _ => ?_, fun A' E' i v s2 m2 hA hv _ hn hm hk => ?_⟩, ?_⟩
  · intro b hb
    rcases List.mem_cons.mp hb with rfl | z
    · exact wide
    · obtain rfl := List.mem_singleton.mp z
      exact Nat.lt_trans la wide
  · exact fun z => Nat.ne_of_lt lS (List.mem_singleton.mp z)
  · simp only [List.forIn_nil]
    exact wpAny_pure ⟨rfl, keeps_refl _⟩
  · obtain ⟨y, ey, ry⟩ := nx hv
    refine hel pins σ H1 s1 J ⟨ps, hP, trip⟩ y _ v (truth i y ey) ry _ A' E' s2 _ hA ⟨rfl, rfl, ⟨m2, hn, hm⟩, fun b o nb e => ?_⟩ fun r s3 kept rr => ⟨rr, kept⟩
    have lb : b < N := hN ▸ Heap.lt_size e
    exact hk b (List.mem_range.mpr (Nat.lt_trans lb wide)) (fun z => Nat.ne_of_lt lb (List.mem_singleton.mp z)) o (keep b o (up b o nb e))
  · intro ga h5 t5 gs bare _ _ keep W5 st
    simp only [GxR.passing_true, List.length_range] at W5
    have len : its.toArray.size = xs.length := by simpa using vals.length.symm
    refine hQ xs.length pb H1 ga _ wish ⟨_, _, _, _, _, by rw [← len]; exact W5.in4_1, st, ?_, fun s' moved => ?_⟩
    · rintro j _ sj Qj Ej ⟨i, ij, rfl⟩ q
      obtain ⟨_, z⟩ := List.getElem?_eq_some_iff.mp ij
      obtain rfl : j = i := by simpa using z
      exact wpAny_truthy_bool q
    · have still : ∀ b u, b < N → g.get? b = some u → s'.heap.get? b = some u := fun b u lb e => by
        refine moved.heap b u (fun z => ?_) (keep b u e)
        rcases List.mem_cons.mp z with z | z
        · exact Nat.ne_of_lt (Nat.lt_trans lb wide) z
        · exact Nat.ne_of_lt lb (List.mem_singleton.mp z)
      have K := inv_tab (more := more) (h' := s'.heap) (g' := s'.gens) (d' := s'.drawn) (t' := s'.toks) J hP (fun b u n e => still b u (hN ▸ Heap.lt_size e) (up b u n e)) (still P _ lP G.tab) (AllBare.movedS (J.bare.push bare) moved)
      exact ⟨_, ⟨⟨_, upd_same, G.trip⟩, fun b n => upd_ne n⟩, sh_eta s1 s' moved.os ▸ K⟩
/-- any(e for x in l), all(e for x in l), l a list -/
def tAnyL (K : PySem.W.Frag) (P : Addr) (f : RF) (te : TE) : TE := fun σ H Q => te σ H fun v H1 => ∃ (a : Addr) (xs : List V) (pb : Nat → Bool), v = .ref a ∧ SqL K H1 a xs ∧ TabG H1 P ∧ (∀ j y, xs[j]? = some y → f σ H1 y (.bl (pb j))) ∧ ∀ H2, Tabbed P H1 H2 → Q (.bl ((List.range xs.length).any pb)) H2
def tAllL (K : PySem.W.Frag) (P : Addr) (f : RF) (te : TE) : TE := fun σ H Q => te σ H fun v H1 => ∃ (a : Addr) (xs : List V) (pb : Nat → Bool), v = .ref a ∧ SqL K H1 a xs ∧ TabG H1 P ∧ (∀ j y, xs[j]? = some y → f σ H1 y (.bl (pb j))) ∧ ∀ H2, Tabbed P H1 H2 → Q (.bl ((List.range xs.length).all pb)) H2
/-- f(e for x in l), f a builtin that walks its one argument and folds the truths of what comes -/
theorem pe_foldL {c P : Addr} {elt iter : Expr} {x nm : Str} {bn : String} {px p pos gpos : Pos} {scope : Scope} {f : RF} {te : TE} {k : Nat} (fold : (Nat → Bool) → Nat → Bool)
    (walk : ∀ {A : Around} {E Q : Value → Shared → Prop} {s : Shared} {v : Value}, wpAny (model X.prog X.w) A.in1 (pyIter v) (fun it t => ∃ J fp wr G n F St tr, it = .ref J ∧ WalksS X.prog X.w A.in1 J fp wr G n F St ∧ St 0 t ∧ TruthOf X.prog X.w A.in1 F tr ∧ ∀ t', Moved wr G t t' → Q (.bool (fold tr n)) t') E s →
      wpAny (model X.prog X.w) A (call (.builtin bn) [v]) Q E s)
    (hr : Room k X.A) (n1 : nm ≠ "__name__") (n2 : (nm == ("__debug__" : Str)) = false) (hg : Gl X nm) (hm : X.mg nm = none) (hb : bootBuiltins nm = some (.builtin bn)) (TB : TabB X.base X.mg c P) (hcode : X.env.code = .ref c) (S : genB X.env.scope scope x = true) (hi : PE X iter te) (hel : PR X P scope x elt f) (hs : ∀ v, genFold iter X.env v = pure v) :
    PE X (.Call (.Name nm p) [.GeneratorExp elt [⟨.Name x px, iter, [], 0⟩] scope gpos] [] pos) (fun σ H Q => te σ H fun v H1 => ∃ (a : Addr) (xs : List V) (pb : Nat → Bool), v = .ref a ∧ SqL X.K H1 a xs ∧ TabG H1 P ∧ (∀ j y, xs[j]? = some y → f σ H1 y (.bl (pb j))) ∧ ∀ H2, Tabbed P H1 H2 → Q (.bl (fold pb xs.length)) H2) := by
  generalize eg : Expr.GeneratorExp elt [⟨.Name x px, iter, [], 0⟩] scope gpos = g
  have one : starEach [g] X.env = (false, eval g X.env) :: starEach [] X.env := by
    rw [← eg]
    rfl
  constructor
  intro pins s σ H Q I h
  refine wpAny_Call_Name_kw (ld_blt I hg hm hb (hn := n1) (hd := n2) (PyProof.Rows.callWith_builtin1 ?_ one rfl))
  rw [one]
  refine Calls.spliced_cons ?_
  rw [← eg]
  refine gen_list (R := fun n pb H1 => ∀ H2, Tabbed P H1 H2 → Q (.bl (fold pb n)) H2) hr TB hcode S hi hel hs I h fun n pb H1 i t wish ⟨fp, wr, G, F, at_, W, st, truth, rest⟩ => Calls.spliced_nil (walk (W.self 0 _ _ _ st ⟨i, fp, wr, G, n, F, at_, pb, rfl, W, st, truth, fun t' moved => ?_⟩))
  exact (rest t' moved).elim fun H2 z => ⟨.bl (fold pb n), H2, z.2, rfl, wish H2 z.1⟩
theorem pe_anyL {c P : Addr} {elt iter : Expr} {x : Str} {px p pos gpos : Pos} {scope : Scope} {f : RF} {te : TE} {k : Nat} (hr : Room k X.A) (hg : Gl X "any") (hm : X.mg "any" = none) (TB : TabB X.base X.mg c P) (hcode : X.env.code = .ref c) (S : genB X.env.scope scope x = true) (hi : PE X iter te) (hel : PR X P scope x elt f)
    (hs : ∀ v, genFold iter X.env v = pure v) : PE X (.Call (.Name "any" p) [.GeneratorExp elt [⟨.Name x px, iter, [], 0⟩] scope gpos] [] pos) (tAnyL X.K P f te) :=
  pe_foldL (fun pb n => (List.range n).any pb) (fun z => call_any_walkS z) hr (by decide) (by decide) hg hm boot_any TB hcode S hi hel hs
theorem pe_allL {c P : Addr} {elt iter : Expr} {x : Str} {px p pos gpos : Pos} {scope : Scope} {f : RF} {te : TE} {k : Nat} (hr : Room k X.A) (hg : Gl X "all") (hm : X.mg "all" = none) (hb : bootBuiltins "all" = some (.builtin "all")) (TB : TabB X.base X.mg c P) (hcode : X.env.code = .ref c) (S : genB X.env.scope scope x = true) (hi : PE X iter te) (hel : PR X P scope x elt f)
    (hs : ∀ v, genFold iter X.env v = pure v) : PE X (.Call (.Name "all" p) [.GeneratorExp elt [⟨.Name x px, iter, [], 0⟩] scope gpos] [] pos) (tAllL X.K P f te) :=
  pe_foldL (fun pb n => (List.range n).all pb) (fun z => call_all_walkS z) hr (by decide) (by decide) hg hm hb TB hcode S hi hel hs
end
end K33
end
section
set_option Elab.async false
set_option linter.all false
set_option maxRecDepth 100000
set_option maxHeartbeats 2000000
/-! L9: defs whose code object is known; generators and dicts as data. -/
namespace K33
open PySem L2 GxR
/-- a def by its place, its code object known -/
structure FunC (K : PySem.W.Frag) (x qual : Str) (st : Stmt) (f : Addr) (fd : FuncData) (c : Addr) : Prop where
  ex : ∃ (oc : Value) (od : Option Addr) (kV doc pm : Value) (an : Option Addr) (ct : Value) (osl : Array (Option Value)),
    fd = PySem.W.fnOf x qual (defArgs st) (defBody st) (defScope st) .none kV doc pm an (.ref c) ct ∧ K.lookup f = some ⟨oc, od, .func fd, osl⟩ ∧ PySem.W.codeIn K (.ref c) qual = true
  kp : PySem.W.keepIn K (.ref f) = true
theorem FunC.toFun {K : PySem.W.Frag} {x qual : Str} {st : Stmt} {f : Addr} {fd : FuncData} {c : Addr} (F : FunC K x qual st f fd c) : Fun K x qual st f fd := by
  obtain ⟨oc, od, kV, doc, pm, an, ct, osl, h⟩ := F.ex
  exact ⟨⟨oc, od, kV, doc, pm, an, .ref c, ct, osl, h⟩, F.kp⟩
/-- with its code object and that one's table -/
structure Dc (K : PySem.W.Frag) (mg : Str → Option Value) (name : Str) (i : Nat) (ps : List Str) (c : Addr) extends Df K mg name i ps where
  fc : FunC K name name (topS i) a fd c
section
variable {P : Program} {w : World} {K : PySem.W.Frag} {mg : Str → Option Value} {base : Heap}
theorem fn_pureC {Ts : List Addr} {x qual : Str} {st : Stmt} {f : Addr} {fd : FuncData} {c : Addr} {N ps : List Str} {j : Nat} {R : List PyData → PyData → Prop} (F : FunC K x qual st f fd c) (S : FnScope N ps (defScope st)) (hl : ∀ ds d, R ds d → ds.length = ps.length)
    (hbody : ∀ (A : Around) (outer : List PySem.Env) (s : Shared) (H : Hp) (E : XK) (ds : List PyData) (d : PyData), Room j (A.deeper (PyProof.Rows.envOfC qual (defScope st) s.heap.objs.size f (.ref c))) → R ds d →
      ∃ t, PSs (cxOf CX0 P w K mg base N qual (defScope st) f (.ref c) A outer s H E).nox (defBody st) t ∧ StD Ts [] t (startD N.length ds) (fun _ => d = .none) (· = d) NoB) :
    FnOk P w K mg base CX0 (j + 1) f fd ps (spP Ts R) := by
  obtain ⟨oc, od, kV, doc, pm, an, ct, osl, rfl, lk, hcd⟩ := F.ex
  refine fn_of lk hcd S (fun vs H Q E h => ?_) fun A outer s H vs Q E hr h => ?_
  · obtain ⟨k, ds, d, _, h2, h3, _⟩ := h
    rw [h2.length]
    exact hl ds d h3
  · obtain ⟨k, ds, d, h1, h2, h3, h4⟩ := h
    obtain ⟨t, p, h⟩ := hbody A outer s H E ds d hr h3
    exact ⟨t, p.nox, body_run h1 h2 h h4⟩
end
/-! ### the element's readings, as data -/
def PrD (f : RF) (δ : Dl) (x d : PyData) : Prop := ∀ (σ : L2.St) (k H : Hp), Slots k H σ δ → Same k H → ∀ xv, Dt k xv x → ∃ v, f σ H xv v ∧ Dt k v d
theorem DtK.look {k : Hp} {n : Int} {d : PyData} : ∀ {kvs : List (Key × V)} {es : List (Int × PyData)}, DtK k kvs es → es.lookup n = some d → ∃ v, valV kvs (.inl n) = some v ∧ Dt k v d
  | _, _, .nil, h => by cases h
  | _, _, .cons (i := i) (v := v) (d := d') (kvs := kvs) (es := es) a b, h => by
    by_cases q : n = i
    · subst q
      have : d' = d := by simpa [List.lookup] using h
      subst this
      exact ⟨v, valV_pos rfl, a⟩
    · have q2 : (n == i) = false := by simpa using q
      obtain ⟨v', z1, z2⟩ := DtK.look b (by simpa [List.lookup, q2] using h)
      exact ⟨v', by rw [valV_neg (by intro z; exact q (Sum.inl.inj z).symm)]; exact z1, z2⟩
section
variable {δ : Dl} {x d : PyData} {fa fb : RF} {K : PySem.W.Frag}
theorem prd_loc : PrD (fun _ _ xv v => v = xv) δ x x := fun σ k H s kk xv h => ⟨xv, rfl, h⟩
theorem prd_cap {i : Nat} (e : δ[i]? = some (dat d)) : PrD (fun σ _ _ v => σ[i]? = some (some v)) δ x d := fun σ k H s kk xv h => by
  obtain ⟨v, h1, h2⟩ := s.dat e
  exact ⟨v, h1, h2⟩
theorem prd_int {n : Int} : PrD (fun _ _ _ v => v = .int n) δ x (.int n) := fun σ k H s kk xv h => ⟨_, rfl, .int n⟩
theorem prd_ixL {ds : List PyData} {n : Nat} (ha : PrD fa δ x (.list ds)) (hb : PrD fb δ x (pI n)) (e : ds[n]? = some d) : PrD (fun σ H xv v => ∃ p xs, ∃ i : Nat, fa σ H xv (.ref p) ∧ fb σ H xv (.int i) ∧ SqL K H p xs ∧ xs[i]? = some v) δ x d := fun σ k H s kk xv h => by
  obtain ⟨v1, f1, d1⟩ := ha σ k H s kk xv h
  obtain ⟨v2, f2, d2⟩ := hb σ k H s kk xv h
  cases d2
  cases d1 with
  | lst e1 a1 =>
    obtain ⟨v, z1, z2⟩ := a1.get e
    exact ⟨v, ⟨_, _, n, f1, f2, SqL.of (kk _ _ e1), z1⟩, z2⟩
theorem prd_ixT {ds : List PyData} {n : Nat} (ha : PrD fa δ x (.tuple ds)) (hb : PrD fb δ x (pI n)) (e : ds[n]? = some d) : PrD (fun σ H xv v => ∃ p xs, ∃ i : Nat, fa σ H xv (.ref p) ∧ fb σ H xv (.int i) ∧ SqT K H p xs ∧ xs[i]? = some v) δ x d := fun σ k H s kk xv h => by
  obtain ⟨v1, f1, d1⟩ := ha σ k H s kk xv h
  obtain ⟨v2, f2, d2⟩ := hb σ k H s kk xv h
  cases d2
  cases d1 with
  | tup e1 a1 =>
    obtain ⟨v, z1, z2⟩ := a1.get e
    exact ⟨v, ⟨_, _, n, f1, f2, SqT.of (kk _ _ e1), z1⟩, z2⟩
theorem prd_ixD {i : Nat} {es : List (Int × PyData)} {n : Int} (e : δ[i]? = some (dct es)) (hb : PrD fb δ x (.int n)) (l : es.lookup n = some d) : PrD (fun σ H xv v => ∃ p kvs, ∃ i' : Int, (fun (σ : L2.St) (_ : Hp) (_ v : V) => σ[i]? = some (some v)) σ H xv (.ref p) ∧ fb σ H xv (.int i') ∧ H p = some (.dK kvs) ∧ valV kvs (.inl i') = some v) δ x d := fun σ k H s kk xv h => by
  obtain ⟨p, kvs, e1, e2, e3⟩ := s.dct e
  obtain ⟨v2, f2, d2⟩ := hb σ k H s kk xv h
  cases d2
  obtain ⟨v, z1, z2⟩ := e3.look l
  exact ⟨v, ⟨p, kvs, n, e1, f2, kk _ _ e2, z1⟩, z2⟩
theorem ints_cast (ns : List Nat) {k : Hp} {vs : List V} (h : DtA k vs (ns.map pI)) : vs = (ns.map fun n : Nat => (n : Int)).map V.int := by
  rw [map_pI] at h
  exact h.of_ints
theorem prd_in {m : Nat} {ns : List Nat} (ha : PrD fa δ x (pI m)) (hb : PrD fb δ x (.list (ns.map pI)) ∨ PrD fb δ x (.tuple (ns.map pI))) :
    PrD (fun σ H xv v => ∃ (p : Addr) (i : Int) (ns : List Int), fa σ H xv (.int i) ∧ fb σ H xv (.ref p) ∧ (SqL K H p (ns.map V.int) ∨ SqT K H p (ns.map V.int)) ∧ v = .bl (decide (i ∈ ns))) δ x (.bool (decide (m ∈ ns))) := fun σ k H s kk xv h => by
  obtain ⟨v1, f1, d1⟩ := ha σ k H s kk xv h
  cases d1
  have e0 : decide ((m : Int) ∈ ns.map fun n : Nat => (n : Int)) = decide (m ∈ ns) := by simp only [mem_cast]
  rcases hb with hb | hb
  · obtain ⟨v2, f2, d2⟩ := hb σ k H s kk xv h
    cases d2 with
    | lst e1 a1 =>
      have := ints_cast ns a1
      subst this
      exact ⟨_, ⟨_, m, _, f1, f2, .inl (SqL.of (kk _ _ e1)), rfl⟩, e0 ▸ .bl _⟩
  · obtain ⟨v2, f2, d2⟩ := hb σ k H s kk xv h
    cases d2 with
    | tup e1 a1 =>
      have := ints_cast ns a1
      subst this
      exact ⟨_, ⟨_, m, _, f1, f2, .inr (SqT.of (kk _ _ e1)), rfl⟩, e0 ▸ .bl _⟩
theorem prd_notIn {m : Nat} {ns : List Nat} (ha : PrD fa δ x (pI m)) (hb : PrD fb δ x (.list (ns.map pI)) ∨ PrD fb δ x (.tuple (ns.map pI))) :
    PrD (fun σ H xv v => ∃ (p : Addr) (i : Int) (ns : List Int), fa σ H xv (.int i) ∧ fb σ H xv (.ref p) ∧ (SqL K H p (ns.map V.int) ∨ SqT K H p (ns.map V.int)) ∧ v = .bl (!decide (i ∈ ns))) δ x (.bool (!decide (m ∈ ns))) := fun σ k H s kk xv h => by
  obtain ⟨v, ⟨p, i, ls, f1, f2, f3, f4⟩, dv⟩ := prd_in (K := K) ha hb σ k H s kk xv h
  subst f4
  exact ⟨_, ⟨p, i, ls, f1, f2, f3, rfl⟩, by
    have : decide (i ∈ ls) = decide (m ∈ ns) := by
      generalize decide (i ∈ ls) = b1 at dv
      generalize decide (m ∈ ns) = b2 at dv
      cases dv
      rfl
    rw [this]
    exact .bl _⟩
theorem prd_or {ba bb : Bool} (ha : PrD fa δ x (.bool ba)) (hb : ba = false → PrD fb δ x (.bool bb)) : PrD (fun σ H xv v => ∃ ba bb : Bool, fa σ H xv (.bl ba) ∧ (ba = false → fb σ H xv (.bl bb)) ∧ v = .bl (ba || bb)) δ x (.bool (ba || bb)) := fun σ k H s kk xv h => by
  obtain ⟨v1, f1, d1⟩ := ha σ k H s kk xv h
  cases d1
  refine ⟨_, ⟨ba, bb, f1, fun q => ?_, rfl⟩, .bl _⟩
  obtain ⟨v2, f2, d2⟩ := hb q σ k H s kk xv h
  cases d2
  exact f2
end
section
variable {Ts Mo : List Addr} {δ : Dl} {te tl : TE} {K : PySem.W.Frag} {d : PyData}
theorem Gr.tabbed {k H H2 : Hp} {P : Addr} (h : Kn Ts k H) (hP : P ∈ Ts) (t : Tabbed P H H2) : Gr Ts [] k H k H2 where
  same := fun a o e n1 _ => by rw [t.2 a (fun z => n1 (z ▸ hP))]; exact e
  kk := Same.refl k
  kn := ⟨fun a o e => by
      have : a ≠ P := fun z => by
        obtain ⟨ps, e2, _⟩ := h.tb P hP
        have e3 := h.sub a o e
        rw [z, e2] at e3
        cases e3
        exact h.nt a ps e
      rw [t.2 a this]
      exact h.sub a o e, h.nt, fun P' hP' => by
      by_cases q : P' = P
      · rw [q]; exact t.1
      · obtain ⟨ps, e2, e3⟩ := h.tb P' hP'
        exact ⟨ps, by rw [t.2 P' q]; exact e2, e3⟩⟩
  dom := fun _ _ => rfl
theorem ev_anyL {P : Addr} {f : RF} {ds : List PyData} (hP : P ∈ Ts) (h : EvD Ts te δ (.list ds)) (pb : Nat → Bool) (he : ∀ j d, ds[j]? = some d → PrD f δ d (.bool (pb j))) : EvD Ts (tAnyL K P f te) δ (.bool ((List.range ds.length).any pb)) := fun σ k H hk s Q q =>
  h σ k H hk s _ fun v k1 H1 g1 dv => by
    cases dv with
    | lst e a =>
      have s1 := s.up hk g1
      refine ⟨_, _, pb, rfl, SqL.of (g1.kn.sub _ _ e), g1.kn.tb P hP, fun j y hy => ?_, fun H2 t => ?_⟩
      · obtain ⟨d, hd, dt⟩ := a.getV hy
        obtain ⟨v, f1, f2⟩ := he j d hd σ k1 H1 s1 g1.kn.sub y dt
        cases f2
        exact f1
      · rw [a.length]
        exact q _ k1 H2 (Gr.trans0 hk g1 (Gr.tabbed g1.kn hP t)) (.bl _)
theorem ev_allL {P : Addr} {f : RF} {ds : List PyData} (hP : P ∈ Ts) (h : EvD Ts te δ (.list ds)) (pb : Nat → Bool) (he : ∀ j d, ds[j]? = some d → PrD f δ d (.bool (pb j))) : EvD Ts (tAllL K P f te) δ (.bool ((List.range ds.length).all pb)) := fun σ k H hk s Q q =>
  h σ k H hk s _ fun v k1 H1 g1 dv => by
    cases dv with
    | lst e a =>
      have s1 := s.up hk g1
      refine ⟨_, _, pb, rfl, SqL.of (g1.kn.sub _ _ e), g1.kn.tb P hP, fun j y hy => ?_, fun H2 t => ?_⟩
      · obtain ⟨d, hd, dt⟩ := a.getV hy
        obtain ⟨v, f1, f2⟩ := he j d hd σ k1 H1 s1 g1.kn.sub y dt
        cases f2
        exact f1
      · rw [a.length]
        exact q _ k1 H2 (Gr.trans0 hk g1 (Gr.tabbed g1.kn hP t)) (.bl _)
/-- d[n], d a dict no longer written -/
theorem ev_dget {i : Nat} {es : List (Int × PyData)} {n : Int} (e : δ[i]? = some (dct es)) (h : EvD Ts te δ (.int n)) (l : es.lookup n = some d) : EvD Ts (tDGet (tVar i) te) δ d := fun σ k H hk s Q q => by
  obtain ⟨p, kvs, e1, e2, e3⟩ := s.dct e
  obtain ⟨v, z1, z2⟩ := e3.look l
  refine ⟨_, e1, h σ k H hk s _ fun y k1 H1 g1 dy => ?_⟩
  cases dy
  exact ⟨p, v, rfl, .inl ⟨kvs, .inl n, .inl (g1.kn.sub _ _ (g1.kk _ _ e2)), rfl, z1.symm⟩, q v k1 H1 g1 (Dt.up g1.kk _ _ z2)⟩
end
/-- {k: v for k in l} over a list -/
theorem dc_list {K : PySem.W.Frag} {a : Addr} {xs : List V} {g : TG} {tt : TT} {tk tv : TE} {vs : List Nat} {σ : L2.St} {H1 : Hp} {D : Addr} {Qd : Hp → Prop} (Pv : Nat → Hp → Prop) (h0 : Pv 0 (upd H1 D (.dK []))) (hl : ∀ i H, i ≤ xs.length → Pv i H → SqL K H a xs)
    (hs : ∀ i x H, xs[i]? = some x → Pv i H → g x (wipe σ vs) H fun σ2 H2 => wipe σ2 vs = wipe σ vs ∧ tt σ2 H2 fun b H3 =>
      if b = true then tk σ2 H3 fun y H4 => tv σ2 H4 fun z H5 => ∃ kvs k, y = kV k ∧ H5 D = some (.dK kvs) ∧ kvs.length < sizeLine ∧ Pv (i + 1) (upd H5 D (.dK (putK kvs k z))) else Pv (i + 1) H3) (hd : ∀ H, Pv xs.length H → Qd H) :
    ∃ W : Nat → Nat → Hp → Prop, (∃ m, W 0 m (upd H1 D (.dK []))) ∧ ∀ i m H, W i m H →
      ((Itl K a).stop i H ∧ Qd H) ∨ ((Itl K a).go i H ∧ ∃ Nx : Hp → Prop, (∀ H', Nx H' → ∃ m', m' < m ∧ W (i + 1) m' H') ∧ ∀ x H', (Itl K a).yld i H x H' → g x (wipe σ vs) H' fun σ2 H2 => wipe σ2 vs = wipe σ vs ∧ tt σ2 H2 fun b H3 =>
        if b = true then tk σ2 H3 fun y H4 => tv σ2 H4 fun z H5 => ∃ kvs k, y = kV k ∧ H5 D = some (.dK kvs) ∧ kvs.length < sizeLine ∧ Nx (upd H5 D (.dK (putK kvs k z))) else Nx H3) := by
  refine ⟨fun i m H => m = xs.length - i ∧ i ≤ xs.length ∧ Pv i H, ⟨xs.length, by simp, Nat.zero_le _, h0⟩, ?_⟩
  rintro i m H ⟨rfl, hi, p⟩
  have q := hl i H hi p
  by_cases hlt : i < xs.length
  · refine .inr ⟨⟨xs, xs[i], q, by simp [hlt]⟩, Pv (i + 1), fun H' p' => ⟨xs.length - (i + 1), by omega, rfl, hlt, p'⟩, fun x H' y => ?_⟩
    obtain ⟨e, y⟩ := y
    subst e
    exact hs i x _ (y xs q) p
  · have e : i = xs.length := by omega
    subst e
    exact .inl ⟨⟨xs, q, Nat.le_refl _⟩, hd H p⟩
theorem DtK.fresh_put {k : Hp} {n : Int} {z : V} : ∀ {kvs : List (Key × V)} {es : List (Int × PyData)}, DtK k kvs es → (∀ p ∈ es, p.1 ≠ n) → putK kvs (.inl n) z = kvs ++ [(.inl n, z)] := fun {kvs es} h hn => by
  unfold putK
  rw [if_neg]
  intro q
  obtain ⟨p, hp, hq⟩ := List.any_eq_true.mp q
  have hq := of_decide_eq_true hq
  clear q
  induction h with
  | nil => cases hp
  | cons a b ih =>
    rcases List.mem_cons.mp hp with h | h
    · subst h
      exact hn _ List.mem_cons_self (Sum.inl.inj hq)
    · exact ih (fun p hp => hn p (List.mem_cons_of_mem _ hp)) h
section
variable {Ts Mo : List Addr} {k0 H0 k H : Hp} {σ : L2.St} {δ : Dl}
/-- a slot is given something that is not written -/
theorem Stt.putS (s : Stt Ts Mo k0 H0 k H σ δ) (i : Nat) {v : V} {o : Sl} (h : SlotOk k H (some (some v)) (some (some o))) (no : ∀ w, o ≠ .own w) : Stt Ts Mo k0 H0 k H (σ.set i (some v)) (δ.set i (some o)) := by
  refine ⟨s.kn0, s.gr, s.mo, s.sl.set i h, fun j ds l e1 e2 => ?_, fun a b ds es l e1 e2 e3 e4 => ?_⟩
  · rcases set_some e1 with ⟨_, z⟩ | ⟨z, e1⟩
    · exact absurd (Option.some.inj z).symm (no _)
    · rw [List.getElem?_set_ne (Ne.symm z)] at e2
      exact s.mine j ds l e1 e2
  · rcases set_some e1 with ⟨_, z⟩ | ⟨z, e1⟩
    · exact absurd (Option.some.inj z).symm (no _)
    · rcases set_some e2 with ⟨_, z2⟩ | ⟨z2, e2⟩
      · exact absurd (Option.some.inj z2).symm (no _)
      · rw [List.getElem?_set_ne (Ne.symm z)] at e3
        rw [List.getElem?_set_ne (Ne.symm z2)] at e4
        exact s.apart a b ds es l e1 e2 e3 e4
variable {N : Dl → Prop} {R : Dl → PyData → Prop} {B : Dl → Prop} {RD : Dl → List (Int × PyData) → Prop} {te tl : TE} {K : PySem.W.Frag}
theorem st_dcomp {i j : Nat} {ns : List Nat} (f : Nat → PyData) (h : EvD Ts tl δ (.list (ns.map pI))) (nd : ns.Nodup) (hz : ns.length ≤ 10000) (hj : j < δ.length) (he : ∀ n ∈ ns, EvD Ts te ((δ.set j none).set j (dat (pI n))) (f n)) (n : N (δ.set i (dct (ns.map fun n : Nat => ((n : Int), f n))))) :
    StX Ts Mo (tAsg (tDc (iList K tl) (gName j) tYes (tVar j) te [j]) (gName i)) δ N R B RD := fun k0 H0 σ k H D s hn _ _ =>
  h σ k H s.kn s.sl _ fun v k1 H1 g1 dv => by
    cases dv with
    | lst e a =>
      rename_i ad xs
      refine ⟨ad, rfl, ⟨xs, SqL.of (g1.kn.sub _ _ e)⟩, fun D' hD => ?_⟩
      have s1 := s.sl.up s.kn g1
      have al := a.length
      rw [List.length_map] at al
      refine dc_list (xs := xs) (fun q H' => ∃ k' kvs, Gr Ts [] k1 H1 k' H' ∧ H' D' = some (.dK kvs) ∧ k' D' = none ∧ DtK k' kvs ((ns.take q).map fun n : Nat => ((n : Int), f n))) ⟨k1, [], Gr.freshU g1.kn hD, upd_same, ?_, by simpa using DtK.nil⟩ (fun q H' _ P => ?_) (fun q x H' hq P => ⟨wipe1, ?_⟩) (fun H' P => ?_)
      · cases z : k1 D' with
        | none => rfl
        | some o => rw [g1.kn.sub D' o z] at hD; cases hD
      · obtain ⟨k2, ys, g2, _⟩ := P
        exact SqL.of (g2.kn.sub _ _ (g2.kk _ _ e))
      · obtain ⟨d, hd, dt⟩ := a.getV hq
        rw [List.getElem?_map] at hd
        obtain ⟨m, hm, rfl⟩ : ∃ m, ns[q]? = some m ∧ pI m = d := by
          cases z : ns[q]? with
          | none => rw [z] at hd; cases hd
          | some m => rw [z] at hd; exact ⟨m, rfl, Option.some.inj hd⟩
        have hql : q < ns.length := (List.getElem?_eq_some_iff.mp hm).1
        obtain ⟨k2, kvs, g2, e1, e2, a2⟩ := P
        have s2 : Slots k2 H' ((wipe σ [j]).set j (some x)) ((δ.set j none).set j (dat (pI m))) := ((s1.up g1.kn g2).forget j none).set j ⟨x, rfl, Dt.up g2.kk _ _ dt⟩
        unfold tYes
        refine iteT ?_
        refine ⟨x, ?_, he m (List.mem_of_getElem? hm) _ k2 H' g2.kn s2 _ fun z k3 H3 g3 dz => ?_⟩
        · rw [List.getElem?_set_self]
          show j < (σ.set j none).length
          rw [List.length_set, s.sl.len]
          exact hj
        · have eD3 : H3 D' = some (.dK kvs) := g3.same D' _ e1 (g2.kn.not_tab e1 (fun _ => by simp)) (by simp)
          have kD3 : k3 D' = none := by rw [g3.dom D' (by rw [e1]; simp)]; exact e2
          have g := Gr.trans0 g1.kn g2 g3
          have hlen := a2.length
          rw [List.length_map, List.length_take] at hlen
          cases dt
          refine ⟨kvs, .inl m, rfl, eD3, by have : (100000 : Nat) ≤ sizeLine := by decide
                                            omega, k3, kvs ++ [(.inl (m : Int), z)], ?_, ?_, kD3, ?_⟩
          · have := g.mutU (v := .dK (putK kvs (.inl m) z)) (.inl hD) kD3 eD3 (fun _ => by simp)
            exact this
          · rw [upd_same, DtK.fresh_put a2]
            intro p hp z
            obtain ⟨m', h1, rfl⟩ := List.mem_map.mp hp
            have : m' = m := by have : ((m' : Int)) = m := z; omega
            subst this
            obtain ⟨t, ht, h2⟩ := List.getElem_of_mem h1
            rw [List.length_take] at ht
            rw [List.getElem_take] at h2
            have : t = q := by
              refine (List.getElem?_inj (by omega) nd).mp ?_
              rw [hm, ← h2]
              exact List.getElem?_eq_getElem (by omega)
            omega
          · rw [List.take_add_one, hm, List.map_append]
            exact (a2.up g3.kk).app (.cons dz .nil)
      · obtain ⟨k2, kvs, g2, e1, e2, a2⟩ := P
        rw [al, List.take_length] at a2
        have g := Gr.trans0 s.kn g1 (g2.know hD e1 (fun _ => by simp) e2)
        have kk : Same k2 (upd k2 D' (.dK kvs)) := Same.add e2
        exact hn _ _ H' _ n g.kk ((s.step g).putS i ⟨D', kvs, rfl, upd_same, a2.up kk⟩ (fun _ => by simp))
end
end K33
end
section
set_option Elab.async false
set_option linter.all false
set_option maxRecDepth 100000
set_option maxHeartbeats 4000000
/-! W8: components, entered_at. -/
namespace K33
open PySem L2 GxR
abbrev encL (p : List Nat) : PyData := .list (p.map pI)
section
variable {Ts : List Addr} {δ : Dl} {tl : TE} {t : TT} {K : PySem.W.Frag}
theorem getL {ns : List Nat} {i : Nat} {d : PyData} (h : (ns.map pI)[i]? = some d) : ∃ n, ns[i]? = some n ∧ d = pI n := by
  rw [List.getElem?_map] at h
  cases z : ns[i]? with
  | none => rw [z] at h; cases h
  | some n => rw [z] at h; exact ⟨n, rfl, (Option.some.inj h).symm⟩
theorem ev_lcN {j : Nat} {ns : List Nat} (p : Nat → Bool) (h : EvD Ts tl δ (encL ns)) (hz : ns.length ≤ 10000) (hj : j < δ.length) (ht : ∀ n ∈ ns, EvB Ts t ((δ.set j none).set j (dat (pI n))) (p n)) : EvD Ts (tLc (iList K tl) (gName j) t (tVar j) [j]) δ (encL (ns.filter p)) := by
  refine ev_is (ev_lcL (fun d => match d with | .int i => p i.toNat | _ => false) (fun d => d) h (by simpa using hz) (fun i d hi => ?_) (fun i d hi _ => ?_)) ?_
  · obtain ⟨n, hn, rfl⟩ := getL hi
    exact ht n (List.mem_of_getElem? hn)
  · refine ev_var ?_
    rw [List.getElem?_set_self (by simpa using hj)]
  · unfold lcOf
    rw [List.map_id', List.filter_map]
    rfl
end
theorem look_map (f : Nat → PyData) : ∀ {ns : List Nat} {m : Nat}, m ∈ ns → (ns.map fun n : Nat => ((n : Int), f n)).lookup (m : Int) = some (f m)
  | n :: ns, m, h => by
    by_cases q : m = n
    · subst q; simp [List.lookup]
    · have q2 : ((m : Int) == (n : Int)) = false := by simp; omega
      simp only [List.map_cons, List.lookup, q2]
      exact look_map f (by rcases List.mem_cons.mp h with h | h; exact absurd h q; exact h)
section
open Classical
/-- the test for the lowest -/
noncomputable def lowP (nx : Nat → List Nat) (left : List Nat) (x : Nat) : Bool := left.all fun o => !decide (Reach nx (· ∈ left) o x) || decide (Reach nx (· ∈ left) x o)
variable {n : Nat} {nx : Nat → List Nat} {left : List Nat}
theorem lowOf_eq : lowOf nx left = (left.find? (lowP nx left)).getD (left.headD 0) := rfl
noncomputable abbrev sp (n : Nat) (nx : Nat → List Nat) (left : List Nat) (a : Nat) : List Nat := spreadL n nx (· ∈ left) a
theorem mem_sp {a x : Nat} (h : x < n) : x ∈ sp n nx left a ↔ Reach nx (· ∈ left) a x := by
  rw [mem_spread]; simp [h]
theorem lowP_eq (hl : ∀ x ∈ left, x < n) {x : Nat} (hx : x ∈ left) : ((List.range left.length).all fun j => !(@decide (x ∈ sp n nx left (left.getD j 0)) (List.instDecidableMemOfLawfulBEq _ _)) || @decide (left.getD j 0 ∈ sp n nx left x) (List.instDecidableMemOfLawfulBEq _ _)) = lowP nx left x := by
  unfold lowP
  rw [Bool.eq_iff_iff, List.all_eq_true, List.all_eq_true]
  have key : ∀ o ∈ left, (((!(@decide (x ∈ sp n nx left o) (List.instDecidableMemOfLawfulBEq _ _))) || @decide (o ∈ sp n nx left x) (List.instDecidableMemOfLawfulBEq _ _)) = true ↔ ((!decide (Reach nx (· ∈ left) o x) || decide (Reach nx (· ∈ left) x o)) = true)) := fun o ho => by
    simp only [Bool.or_eq_true, Bool.not_eq_true', decide_eq_true_eq, decide_eq_false_iff_not, mem_sp (hl x hx), mem_sp (hl o ho)]
  constructor
  · intro h o ho
    obtain ⟨j, hj, e⟩ := List.getElem_of_mem ho
    have := h j (List.mem_range.mpr hj)
    rw [List.getD_eq_getElem?_getD, List.getElem?_eq_getElem hj] at this
    simp only [Option.getD_some, e] at this
    exact (key o ho).mp this
  · intro h j hj
    have hj := List.mem_range.mp hj
    rw [List.getD_eq_getElem?_getD, List.getElem?_eq_getElem hj]
    exact (key _ (List.getElem_mem hj)).mpr (h _ (List.getElem_mem hj))
theorem part_eq (hl : ∀ x ∈ left, x < n) (hlow : lowOf nx left ∈ left) : (left.filter fun x => (@decide (x ∈ sp n nx left (lowOf nx left)) (List.instDecidableMemOfLawfulBEq _ _)) && @decide (lowOf nx left ∈ sp n nx left x) (List.instDecidableMemOfLawfulBEq _ _)) = partOf nx left := by
  unfold partOf
  refine List.filter_congr fun x hx => ?_
  rw [Bool.eq_iff_iff]
  simp only [Bool.and_eq_true, decide_eq_true_eq, mem_sp (hl x hx), mem_sp (hl _ hlow)]
theorem low_in_part (h : left ≠ []) : lowOf nx left ∈ partOf nx left := mem_part.mpr ⟨(low_ok h).1, .refl _, .refl _⟩
theorem left_lt (h : left ≠ []) : (left.filter fun x => !decide (x ∈ partOf nx left)).length < left.length := by
  have h1 := low_in_part (nx := nx) h
  refine List.length_filter_lt_length_iff_exists.mpr ⟨lowOf nx left, (low_ok h).1, by simp [h1]⟩
end
section
variable {P : Program} {w : World} {K : PySem.W.Frag} {mg : Str → Option Value} {base : Heap} {Ts : List Addr}
abbrev NN_components : List Str := ["rows", "chosen", "left", "parts", "number", "lowest", "part", "reach"]
theorem sc_components : FnScope NN_components ["rows", "chosen"] (defScope (topS 3)) := ⟨rfl, rfl, rfl, by decide +kernel, rfl, by decide +kernel, by decide +kernel⟩
def R_comps (ds : List PyData) (d : PyData) : Prop := ∃ (rs : List Row) (ch : List Nat), RG rs ∧ ch.Nodup ∧ (∀ x ∈ ch, x < rs.length) ∧ ds = [encRows rs, encL ch] ∧ d = .list ((comps (nxOf rs) ch).map encL)
theorem ok_components {c Pt : Addr} (hPt : Pt ∈ Ts) (TB : TabB base mg c Pt) (T : Txt mg) (D_spread : Df K mg "spread" 1 ["rows", "chosen", "start"]) (D : Dc K mg "components" 3 ["rows", "chosen"] c) : FnOk P w K mg base CX0 2 D.a D.fd ["rows", "chosen"] (spP Ts R_comps) := by
  have sc := sc_components
  have G_spread := ok_spread (P := P) (w := w) (base := base) (Ts := Ts) T D_spread
  refine fn_pureC D.fc sc (fun ds d h => ?_) (fun A outer s H E ds d hr h => ?_)
  · obtain ⟨_, _, _, _, _, rfl, _⟩ := h; rfl
  obtain ⟨rs, ch, rg, hnd, hch, rfl, rfl⟩ := h
  have hu : (A.deeper (PyProof.Rows.envOfC "components" (defScope (topS 3)) s.heap.objs.size D.a (.ref c))).units + 1 < cLine := by have := hr.units; omega
  refine ⟨_, (pss_cons (ps_set (i := 2) sc.nd rfl (Or.inr rfl) (pe_callTy call_list_of (by rfl) T.list (by decide +kernel) (pa_cons (pv 1) pa_nil)))
    (pss_cons (ps_set (i := 3) sc.nd rfl (Or.inl rfl) (pe_lst pa_nil))
    (pss_cons (ps_while PassesOwn.never (pt_truth (pv 2) (by intro _; rfl))
      (pss_cons (ps_set (i := 7) sc.nd rfl (Or.inr rfl) (pe_dc (own := [("number", 4)]) (g := gName 4) (tt := tYes) rfl sc.nd (pi_list (pv 2)) (blkOk_by (own := [("number", 4)]) (N := NN_components) (sc := defScope (topS 3)) (by decide +kernel)) (fun _ _ _ _ _ => pg_name (i := 4) sc.nd rfl (Or.inl rfl)) (fun _ _ _ _ _ => pts_nil) (fun _ _ _ _ _ => (pv 4)) (fun _ _ _ _ _ => (pe_call G_spread (hr.mono (by omega)) rfl D_spread.m D_spread.F.kp D_spread.b .nil pass0 (pa_cons (pv 0) (pa_cons (pv 2) (pa_cons (pv 4) pa_nil)))))))
      (pss_cons (ps_set (i := 5) sc.nd rfl (Or.inr rfl) (pe_ix ix_seq (pv 2) pe_int (fun _ _ => rfl)))
      (pss_cons (ps_for PassesOwn.never rfl (pi_list (pv 2)) (pg_name (i := 4) sc.nd rfl (Or.inr rfl))
        (pss_one (ps_if (pt_truth (pe_allL hr rfl T.all rfl TB rfl (by show genB (defScope (topS 3)) _ _ = true; decide +kernel) (pv 2) (pr_or (pr_notIn (pr_cap (i := 4) rfl (.inl rfl) rfl rfl) (pr_ixD (pr_cap (i := 7) rfl (.inl rfl) rfl rfl) (pr_loc rfl rfl) (fun _ _ => rfl))) (pr_in (pr_loc rfl rfl) (pr_ixD (pr_cap (i := 7) rfl (.inl rfl) rfl rfl) (pr_cap (i := 4) rfl (.inl rfl) rfl rfl) (fun _ _ => rfl)))) (fun _ => rfl)) (by intro _; rfl))
          (pss_cons (ps_set (i := 5) sc.nd rfl (Or.inr rfl) (pv 4))
          (pss_one ps_break))
          pss_nil)))
      (pss_cons (ps_set (i := 6) sc.nd rfl (Or.inr rfl) (pe_lc (own := [("number", 4)]) (g := gName 4) (tt := tAnd (tTest (tOp (rIn K false) (tVar 4) (tDGet (tVar 7) (tVar 5)))) (tTest (tOp (rIn K false) (tVar 5) (tDGet (tVar 7) (tVar 4))))) rfl sc.nd (pi_list (pv 2)) (blkOk_by (own := [("number", 4)]) (N := NN_components) (sc := defScope (topS 3)) (by decide +kernel)) (fun _ _ _ _ _ => pg_name (i := 4) sc.nd rfl (Or.inl rfl)) (fun _ _ _ _ _ => pts_one (PW.pt (pw_and (pt_cmpR op_in_seq (pv 4) (pe_dget hu (pv 7) (pv 5) (fun _ _ => rfl)) (by rfl)) (pw_and1 (pt_cmpR op_in_seq (pv 5) (pe_dget hu (pv 7) (pv 4) (fun _ _ => rfl)) (by rfl)))))) (fun _ _ _ _ _ => (pv 4))))
      (pss_cons (ps_expr (pe_bm PySem.F.plainAttrs_list PySem.F.slot_list_append PySem.F.type_list_append mt_append (pv 3) (pa_cons (pv 6) pa_nil)))
      (pss_one (ps_set (i := 2) sc.nd rfl (Or.inr rfl) (pe_lc (own := [("number", 4)]) (g := gName 4) (tt := tTest (tOp (rIn K true) (tVar 4) (tVar 6))) rfl sc.nd (pi_list (pv 2)) (blkOk_by (own := [("number", 4)]) (N := NN_components) (sc := defScope (topS 3)) (by decide +kernel)) (fun _ _ _ _ _ => pg_name (i := 4) sc.nd rfl (Or.inl rfl)) (fun _ _ _ _ _ => pts_one (pt_cmpR op_notIn_seq (pv 4) (pv 6) (by rfl))) (fun _ _ _ _ _ => (pv 4)))))))))))
    (pss_one (ps_ret (pv 3)))))), ?_⟩
  have hlen := rg.len
  have nlen : ∀ l : List Nat, l.Nodup → (∀ x ∈ l, x < rs.length) → l.length ≤ rs.length := fun l h1 h2 => by
    have := nd_len (p := l) (q := List.range rs.length) h1 fun x hx => List.mem_range.mpr (h2 x hx)
    simpa using this
  refine st_seq1 (st_asg (d := encL ch) (ev_callR (ea_cons (ev_var rfl) ea_nil) rc_list) rfl) ?_
  refine st_seq1 (st_new ea_nil (by simp) rfl) ?_
  refine st_seq (N := fun δ => ∃ x2 x4 x5 x6 x7, δ = [dat (encRows rs), dat (encL ch), x2, own ((comps (nxOf rs) ch).map encL), x4, x5, x6, x7]) ?_ fun δ' ⟨x2, x4, x5, x6, x7, e⟩ => e ▸ st_keep (i := 3) rfl (st_ret (ev_var rfl) rfl)
  refine while_core (m0 := ch.length) (fun m δ => ∃ left done f x4 x5 x6 x7, δ = [dat (encRows rs), dat (encL ch), dat (encL left), own (done.map encL), x4, x5, x6, x7] ∧ left.Nodup ∧ (∀ x ∈ left, x < rs.length) ∧ left.length ≤ f ∧ done ++ compsF (nxOf rs) f left = comps (nxOf rs) ch ∧ m = left.length ∧ done.length + left.length ≤ ch.length)
    ⟨ch, [], ch.length, none, none, none, none, rfl, hnd, hch, Nat.le_refl _, rfl, rfl, by simp⟩ (fun m δ' ⟨left, done, f, x4, x5, x6, x7, e, h1, h2, h3, h4, h5, h6⟩ => ?_)
  subst e
  refine ⟨!left.isEmpty, eb_truth (ev_var rfl) (by cases left <;> rfl), fun hb => ?_, fun hb => ?_⟩
  · have hne : left ≠ [] := by intro z; subst z; simp at hb
    obtain ⟨a, r, hal⟩ : ∃ a r, left = a :: r := by cases left with | nil => exact absurd rfl hne | cons a r => exact ⟨a, r, rfl⟩
    have hn := nlen left h1 h2
    have hcn := nlen ch hnd hch
    have hlow := (low_ok (nx := nxOf rs) hne).1
    refine st_seq1 (st_dcomp (ns := left) (fun x => encL (sp rs.length (nxOf rs) left x)) (ev_var rfl) h1 (by omega) (by simp) (fun x hx => ev_call (ea_cons (ev_var rfl) (ea_cons (ev_var rfl) (ea_cons (ev_var rfl) ea_nil))) ⟨rs, left, x, rg, h2 x hx, rfl, rfl⟩) rfl) ?_
    refine st_seq1 (st_asg (d := pI (left.headD 0)) (ev_op (ev_var rfl) ev_int (rv_ixL (by rw [hal]; exact at_0 _ _))) rfl) ?_
    refine st_seq (N := fun δ => ∃ y4, δ = [dat (encRows rs), dat (encL ch), dat (encL left), own (done.map encL), y4, dat (pI (lowOf (nxOf rs) left)), x6, dct (left.map fun x : Nat => ((x : Int), encL (sp rs.length (nxOf rs) left x)))]) ?_ fun δ' ⟨y4, e⟩ => e ▸ ?_
    · refine forL_core (fun q δ => ∃ y4, δ = [dat (encRows rs), dat (encL ch), dat (encL left), own (done.map encL), y4, dat (pI (left.headD 0)), x6, dct (left.map fun x : Nat => ((x : Int), encL (sp rs.length (nxOf rs) left x)))] ∧ ∀ x ∈ left.take q, lowP (nxOf rs) left x = false) (ev_var rfl) ⟨x4, rfl, by simp⟩ (fun q d δ' hq ⟨y4, e, hf⟩ => ?_) (fun δ' ⟨y4, e, hf⟩ => ?_)
      · subst e
        obtain ⟨x, hx, rfl⟩ := getL hq
        have hxm := List.mem_of_getElem? hx
        refine st_if (b := lowP (nxOf rs) left x) (eb_truth (d := .bool (lowP (nxOf rs) left x)) (ev_is (ev_allL hPt (ev_var rfl) (fun j => !decide (x ∈ sp rs.length (nxOf rs) left (left.getD j 0)) || decide (left.getD j 0 ∈ sp rs.length (nxOf rs) left x)) (fun j d hj => ?_)) ?_) rfl) (fun hb => ?_) (fun hb => ?_)
        · obtain ⟨o, ho, rfl⟩ := getL hj
          have hom := List.mem_of_getElem? ho
          have : left.getD j 0 = o := by rw [List.getD_eq_getElem?_getD, ho]; rfl
          rw [this]
          exact prd_or (prd_notIn (prd_cap rfl) (.inl (prd_ixD rfl prd_loc (look_map _ hom)))) (fun _ => prd_in prd_loc (.inl (prd_ixD rfl (prd_cap rfl) (look_map _ hxm))))
        · rw [List.length_map, lowP_eq h2 hxm]
        · refine st_seq1 (st_asg (ev_var rfl) rfl) (st_break ⟨dat (pI x), ?_⟩)
          have : lowOf (nxOf rs) left = x := by
            rw [lowOf_eq]
            have : left.find? (lowP (nxOf rs) left) = some x := by
              rw [List.find?_eq_some_iff_append]
              refine ⟨hb, left.take q, left.drop (q + 1), ?_, fun y hy => by simp [hf y hy]⟩
              have hql := (List.getElem?_eq_some_iff.mp hx).1
              have e1 := List.drop_eq_getElem_cons hql
              rw [(List.getElem?_eq_some_iff.mp hx).2] at e1
              rw [← e1, List.take_append_drop]
            rw [this]
            rfl
          rw [this]
          rfl
        · refine st_next ⟨dat (pI x), rfl, fun y hy => ?_⟩
          rw [List.take_add_one, hx] at hy
          rcases List.mem_append.mp hy with hy | hy
          · exact hf y hy
          · have : y = x := by simpa using hy
            rw [this]
            exact hb
      · rw [List.length_map, List.take_length] at hf
        refine ⟨y4, ?_⟩
        rw [e, lowOf_eq, List.find?_eq_none.mpr fun x hx => by simp [hf x hx]]
        rfl
    refine st_seq1 (st_asg (d := encL (partOf (nxOf rs) left)) (ev_is (ev_lcN (fun x => decide (x ∈ sp rs.length (nxOf rs) left (lowOf (nxOf rs) left)) && decide (lowOf (nxOf rs) left ∈ sp rs.length (nxOf rs) left x)) (ev_var rfl) (by omega) (by simp) (fun x hx => ?_)) (by rw [part_eq h2 hlow])) rfl) ?_
    · exact eb_and (eb_test (ev_op (ev_var rfl) (ev_dget rfl (ev_var rfl) (look_map _ hlow)) rv_inN)) (fun _ => eb_test (ev_op (ev_var rfl) (ev_dget rfl (ev_var rfl) (look_map _ hx)) rv_inN))
    refine st_seq1 (st_append rfl (ev_var rfl) (by simp; omega) rfl) ?_
    refine st_asg (ev_lcN (fun x => !decide (x ∈ partOf (nxOf rs) left)) (ev_var rfl) (by omega) (by simp) (fun x hx => ?_)) ?_
    · exact eb_test (ev_op (ev_var rfl) (ev_var rfl) rv_inN)
    · have hlt := left_lt (nx := nxOf rs) hne
      have sub : ∀ x ∈ left.filter fun x => !decide (x ∈ partOf (nxOf rs) left), x ∈ left := fun x hx => (List.mem_filter.mp hx).1
      cases f with
      | zero => omega
      | succ f =>
        rw [compsF, if_neg hne] at h4
        refine ⟨_, by rw [h5]; exact hlt, left.filter fun x => !decide (x ∈ partOf (nxOf rs) left), done ++ [partOf (nxOf rs) left], f, y4, dat (pI (lowOf (nxOf rs) left)), dat (encL (partOf (nxOf rs) left)), dct (left.map fun x : Nat => ((x : Int), encL (sp rs.length (nxOf rs) left x))), ?_, h1.filter _, fun x hx => h2 x (sub x hx), by omega, ?_, rfl, by simp only [List.length_append, List.length_singleton]; omega⟩
        · rw [List.map_append]; rfl
        · rw [← h4, List.append_assoc]; rfl
  · have hl : left = [] := by cases left with | nil => rfl | cons a r => simp at hb
    subst hl
    have : compsF (nxOf rs) f [] = [] := by cases f <;> simp [compsF]
    rw [this, List.append_nil] at h4
    exact ⟨_, _, _, _, _, by rw [h4]⟩
end
end K33
end
section
set_option Elab.async false
set_option linter.all false
set_option maxRecDepth 100000
set_option maxHeartbeats 4000000
/-! W9: entered_at, outline_of, outline, structure. -/
namespace K33
open PySem L2 GxR
/-! the element's readings by name -/
abbrev rfLoc : RF := fun _ _ xv v => v = xv
abbrev rfCap (i : Nat) : RF := fun σ _ _ v => σ[i]? = some (some v)
abbrev rfInt (n : Int) : RF := fun _ _ _ v => v = .int n
abbrev rfIxL (K : PySem.W.Frag) (fa fb : RF) : RF := fun σ H xv v => ∃ p xs, ∃ i : Nat, fa σ H xv (.ref p) ∧ fb σ H xv (.int i) ∧ SqL K H p xs ∧ xs[i]? = some v
abbrev rfIxT (K : PySem.W.Frag) (fa fb : RF) : RF := fun σ H xv v => ∃ p xs, ∃ i : Nat, fa σ H xv (.ref p) ∧ fb σ H xv (.int i) ∧ SqT K H p xs ∧ xs[i]? = some v
abbrev rfIn (K : PySem.W.Frag) (fa fb : RF) : RF := fun σ H xv v => ∃ (p : Addr) (i : Int) (ns : List Int), fa σ H xv (.int i) ∧ fb σ H xv (.ref p) ∧ (SqL K H p (ns.map V.int) ∨ SqT K H p (ns.map V.int)) ∧ v = .bl (decide (i ∈ ns))
abbrev tTru (K : PySem.W.Frag) (te : TE) : TT := fun σ H Q => te σ H fun x H' => ∃ k, TruV K x H' k ∧ Q k H'
section
variable {P : Program} {w : World} {K : PySem.W.Frag} {mg : Str → Option Value} {base : Heap} {Ts : List Addr}
abbrev NN_entered_at : List Str := ["rows", "region", "component", "outside", "number", "goal"]
theorem sc_entered : FnScope NN_entered_at ["rows", "region", "component"] (defScope (topS 4)) := ⟨rfl, rfl, rfl, by decide +kernel, rfl, by decide +kernel, by decide +kernel⟩
def R_ent (ds : List PyData) (d : PyData) : Prop := ∃ (rs : List Row) (region part : List Nat), RG rs ∧ region.length ≤ 100 ∧ part.length ≤ 100 ∧ (∀ x ∈ region, x < rs.length) ∧ ds = [encRows rs, encL region, encL part] ∧ d = encL (entered (nxOf rs) region part)
theorem ok_entered {c Pt : Addr} (hPt : Pt ∈ Ts) (TB : TabB base mg c Pt) (T : Txt mg) (D : Dc K mg "entered_at" 4 ["rows", "region", "component"] c) : FnOk P w K mg base CX0 2 D.a D.fd ["rows", "region", "component"] (spP Ts R_ent) := by
  have sc := sc_entered
  refine fn_pureC D.fc sc (fun ds d h => ?_) (fun A outer s H E ds d hr h => ?_)
  · obtain ⟨_, _, _, _, _, _, _, rfl, _⟩ := h; rfl
  obtain ⟨rs, region, part, rg, hr1, hp1, hlt, rfl, rfl⟩ := h
  refine ⟨_, (pss_cons (ps_set (i := 3) sc.nd rfl (Or.inr rfl) (pe_lc (own := [("number", 4)]) (g := gName 4) (tt := tTest (tOp (rIn K true) (tVar 4) (tVar 2))) rfl sc.nd (pi_list (pv 1)) (blkOk_by (own := [("number", 4)]) (N := NN_entered_at) (sc := defScope (topS 4)) (by decide +kernel)) (fun _ _ _ _ _ => pg_name (i := 4) sc.nd rfl (Or.inl rfl)) (fun _ _ _ _ _ => pts_one (pt_cmpR op_notIn_seq (pv 4) (pv 2) (by rfl))) (fun _ _ _ _ _ => (pv 4))))
    (pss_one (ps_ret (pe_lc (own := [("goal", 5)]) (g := gName 5) (tt := tTru K (tAnyL K Pt (rfIn K (rfCap 5) (rfIxT K (rfIxL K (rfCap 0) rfLoc) (rfInt 2))) (tVar 3))) rfl sc.nd (pi_list (pv 2)) (blkOk_by (own := [("goal", 5)]) (N := NN_entered_at) (sc := defScope (topS 4)) (by decide +kernel)) (fun _ _ _ _ _ => pg_name (i := 5) sc.nd rfl (Or.inr rfl)) (fun _ _ _ _ _ => pts_one (pt_truth (pe_anyL hr rfl T.any TB rfl (by rfl) (pv 3) (pr_in (pr_cap (i := 5) rfl (.inl rfl) rfl rfl) (pr_ixT (pr_ixL (pr_cap (i := 0) rfl (.inl rfl) rfl rfl) (pr_loc rfl rfl) (fun _ _ => rfl)) pr_int (fun _ _ => rfl))) (fun _ => rfl)) (by intro _; rfl))) (fun _ _ _ _ _ => (pv 5)))))), ?_⟩
  refine st_seq1 (st_asg (d := encL (region.filter fun x => !decide (x ∈ part))) (ev_lcN (fun x => !decide (x ∈ part)) (ev_var rfl) (by omega) (by simp [startD]) (fun x hx => ?_)) rfl) ?_
  · exact eb_test (ev_op (ev_var rfl) (ev_var rfl) rv_inN)
  refine st_ret (ev_lcN (fun g => (region.filter fun x => !decide (x ∈ part)).any fun x => decide (g ∈ nxOf rs x)) (ev_var rfl) (by omega) (by simp [startD]) (fun g hg => ?_)) rfl
  generalize hout : (region.filter fun x => !decide (x ∈ part)) = out
  have hol : ∀ x ∈ out, x < rs.length := fun x hx => by
    rw [← hout] at hx
    exact hlt x (List.mem_filter.mp hx).1
  refine eb_truth (d := .bool (out.any fun x => decide (g ∈ nxOf rs x))) (ev_is (ev_anyL hPt (ds := out.map pI) (ev_var (by rw [← hout]; rfl)) (fun j => decide (g ∈ nxOf rs (out.getD j 0))) (fun j d hj => ?_)) ?_) rfl
  · obtain ⟨x, hx, rfl⟩ := getL hj
    have hxm := List.mem_of_getElem? hx
    have e1 : out.getD j 0 = x := by rw [List.getD_eq_getElem?_getD, hx]; rfl
    rw [e1]
    refine prd_in (ns := nxOf rs x) (prd_cap rfl) (.inr (prd_ixT (n := 2) (ds := [encAct (rowAt rs x).act, pI (rowAt rs x).count, .tuple ((nxOf rs x).map pI)]) (prd_ixL (n := x) (prd_cap (d := encRows rs) rfl) prd_loc ?_) prd_int rfl))
    have := hol x hxm
    rw [List.getElem?_map, List.getElem?_eq_getElem this]
    unfold nxOf rowAt
    rw [List.getD_eq_getElem?_getD, List.getElem?_eq_getElem this]
    rfl
  · rw [List.length_map]
    refine congrArg PyData.bool ?_
    rw [Bool.eq_iff_iff, List.any_eq_true, List.any_eq_true]
    constructor
    · rintro ⟨j, hj, h⟩
      have hj := List.mem_range.mp hj
      rw [List.getD_eq_getElem?_getD, List.getElem?_eq_getElem hj] at h
      exact ⟨out[j], List.getElem_mem hj, h⟩
    · rintro ⟨x, hx, h⟩
      obtain ⟨j, hj, e⟩ := List.getElem_of_mem hx
      refine ⟨j, List.mem_range.mpr hj, ?_⟩
      rw [List.getD_eq_getElem?_getD, List.getElem?_eq_getElem hj, Option.getD_some, e]
      exact h
/-! ### outline_of -/
theorem any_getD (l : List Nat) (p : Nat → Bool) : ((List.range (l.map pI).length).any fun j => p (l.getD j 0)) = l.any p := by
  rw [List.length_map, Bool.eq_iff_iff, List.any_eq_true, List.any_eq_true]
  constructor
  · rintro ⟨j, hj, h⟩
    have hj := List.mem_range.mp hj
    rw [List.getD_eq_getElem?_getD, List.getElem?_eq_getElem hj] at h
    exact ⟨l[j], List.getElem_mem hj, h⟩
  · rintro ⟨x, hx, h⟩
    obtain ⟨j, hj, e⟩ := List.getElem_of_mem hx
    refine ⟨j, List.mem_range.mpr hj, ?_⟩
    rw [List.getD_eq_getElem?_getD, List.getElem?_eq_getElem hj, Option.getD_some, e]
    exact h
theorem rows_get {rs : List Row} {x : Nat} (h : x < rs.length) : (rs.map encRow)[x]? = some (.tuple [encAct (rowAt rs x).act, pI (rowAt rs x).count, .tuple ((nxOf rs x).map pI)]) := by
  rw [List.getElem?_map, List.getElem?_eq_getElem h]
  unfold nxOf rowAt
  rw [List.getD_eq_getElem?_getD, List.getElem?_eq_getElem h]
  rfl
def encRes : Res → PyData
  | .ok s => .tuple [.str "structured", encT s]
  | .error (a, b) => .tuple [.str "tangled", pI a, pI b]
abbrev NN_outline_of : List Str := ["rows", "region", "head", "labels", "is_loop", "inner", "shape", "part", "entries", "found", "number"]
abbrev PP_out : List Str := ["rows", "region", "head", "labels"]
theorem sc_outline_of : FnScope NN_outline_of PP_out (defScope (topS 8)) := ⟨rfl, rfl, rfl, by decide +kernel, rfl, by decide +kernel, by decide +kernel⟩
def R_out (f : Nat) (ds : List PyData) (d : PyData) : Prop := ∃ (rs : List Row) (region : List Nat) (head : Nat) (labels : List Nat), RG rs ∧ region.length ≤ f ∧ Reg (nxOf rs) region head ∧ (∀ x ∈ region, x < rs.length) ∧ (∀ l ∈ labels, l ∉ region) ∧ labels.length + f ≤ 1000 ∧
  ds = [encRows rs, encL region, pI head, encL labels] ∧ d = encRes (outF (kdOf rs) (nxOf rs) f region head labels)
theorem ok_outline_of {f : Nat} {c Pt : Addr} (hPt : Pt ∈ Ts) (TB : TabB base mg c Pt) (T : Txt mg) (D_head_shape : Df K mg "head_shape" 7 ["rows", "head", "labels"]) (D_components : Df K mg "components" 3 ["rows", "chosen"]) (D_entered_at : Df K mg "entered_at" 4 ["rows", "region", "component"]) (D : Dc K mg "outline_of" 8 PP_out c)
    (G_head_shape : FnOk P w K mg base CX0 2 D_head_shape.a D_head_shape.fd ["rows", "head", "labels"] (spP Ts R_hs)) (G_components : FnOk P w K mg base CX0 2 D_components.a D_components.fd ["rows", "chosen"] (spP Ts R_comps)) (G_entered_at : FnOk P w K mg base CX0 2 D_entered_at.a D_entered_at.fd ["rows", "region", "component"] (spP Ts R_ent))
    (G : FnOk P w K mg base CX0 (f + 2) D.a D.fd PP_out (spP Ts (R_out f))) :
    FnOk P w K mg base CX0 (f + 3) D.a D.fd PP_out (spP Ts (R_out (f + 1))) := by
  have sc := sc_outline_of
  refine fn_pureC D.fc sc (fun ds d h => ?_) (fun A outer s H E ds d hr h => ?_)
  · obtain ⟨_, _, _, _, _, _, _, _, _, _, rfl, _⟩ := h; rfl
  obtain ⟨rs, region, head, labels, rg, hf, R, hlt, hlab, hll, rfl, rfl⟩ := h
  refine ⟨_, (pss_cons (ps_set (i := 4) sc.nd rfl (Or.inl rfl) (pe_anyL hr rfl T.any TB rfl (by show genB (defScope (topS 8)) _ _ = true; decide +kernel) (pv 1) (pr_in (pr_cap (i := 2) rfl (.inl rfl) rfl rfl) (pr_ixT (pr_ixL (pr_cap (i := 0) rfl (.inl rfl) rfl rfl) (pr_loc rfl rfl) (fun _ _ => rfl)) pr_int (fun _ _ => rfl))) (fun _ => rfl)))
    (pss_cons (ps_set (i := 5) sc.nd rfl (Or.inl rfl) (pe_ifExp (pt_truth (pv 4) (by intro _; rfl)) (pe_op op_cat (pv 3) (pe_lst (pa_cons (pv 2) pa_nil))) (pv 3)))
    (pss_cons (ps_set (i := 6) sc.nd rfl (Or.inl rfl) (pe_call G_head_shape (hr.mono (by omega)) rfl D_head_shape.m D_head_shape.F.kp D_head_shape.b .nil pass0 (pa_cons (pv 0) (pa_cons (pv 2) (pa_cons (pv 5) pa_nil)))))
    (pss_cons (ps_for PassesOwn.never rfl (pi_list (pe_call G_components (hr.mono (by omega)) rfl D_components.m D_components.F.kp D_components.b .nil pass0 (pa_cons (pv 0) (pa_cons (pe_lc (own := [("number", 10)]) (g := gName 10) rfl sc.nd (pi_list (pv 1)) (blkOk_by (own := [("number", 10)]) (N := NN_outline_of) (sc := defScope (topS 8)) (by decide +kernel)) (fun _ _ _ _ _ => pg_name (i := 10) sc.nd rfl (Or.inl rfl)) (fun _ _ _ _ _ => pts_one (pt_cmpR op_ne (pv 10) (pv 2) (nomark _))) (fun _ _ _ _ _ => (pv 10))) pa_nil)))) (pg_name (i := 7) sc.nd rfl (Or.inl rfl))
      (pss_cons (ps_set (i := 8) sc.nd rfl (Or.inl rfl) (pe_call G_entered_at (hr.mono (by omega)) rfl D_entered_at.m D_entered_at.F.kp D_entered_at.b .nil pass0 (pa_cons (pv 0) (pa_cons (pv 1) (pa_cons (pv 7) pa_nil)))))
      (pss_cons (ps_if (pt_cmpR op_gt (pe_callB call_len_seq (by rfl) T.len PySem.boot_len (pa_cons (pv 8) pa_nil)) pe_int (nomark _))
        (pss_one (ps_ret (pe_tup (pa_cons pe_str (pa_cons (pe_ix ix_seq (pv 8) pe_int (fun _ _ => rfl)) (pa_cons (pe_ix ix_seq (pv 8) pe_int (fun _ _ => rfl)) pa_nil))))))
        pss_nil)
      (pss_cons (ps_set (i := 9) sc.nd rfl (Or.inl rfl) (pe_call G (hr.mono (by omega)) rfl D.m D.F.kp D.b .nil pass0 (pa_cons (pv 0) (pa_cons (pv 7) (pa_cons (pe_ix ix_seq (pv 8) pe_int (fun _ _ => rfl)) (pa_cons (pv 5) pa_nil))))))
      (pss_cons (ps_if (pt_cmpR op_eq (pe_ix ix_seq (pv 9) pe_int (fun _ _ => rfl)) pe_str (nomark _))
        (pss_one (ps_ret (pv 9)))
        pss_nil)
      (pss_one (ps_set (i := 6) sc.nd rfl (Or.inl rfl) (pe_op op_catA (pe_tup (pa_cons (pe_tup (pa_cons pe_str (pa_cons (pe_ix ix_seq (pv 8) pe_int (fun _ _ => rfl)) (pa_cons (pv 6) pa_nil)))) pa_nil)) (pe_ix ix_seq (pv 9) pe_int (fun _ _ => rfl))))))))))
    (pss_cons (ps_if (pt_truth (pv 4) (by intro _; rfl))
      (pss_one (ps_set (i := 6) sc.nd rfl (Or.inl rfl) (pe_tup (pa_cons (pe_tup (pa_cons pe_str (pa_cons (pv 2) (pa_cons (pv 6) pa_nil)))) pa_nil))))
      pss_nil)
    (pss_one (ps_ret (pe_tup (pa_cons pe_str (pa_cons (pv 6) pa_nil)))))))))), ?_⟩
  have hlen := rg.len
  have hrl : region.length ≤ rs.length := by
    have := nd_len (p := region) (q := List.range rs.length) R.nd fun x hx => List.mem_range.mpr (hlt x hx)
    simpa using this
  have hch : (chosen region head).length < region.length := List.length_filter_lt_length_iff_exists.mpr ⟨head, R.mem, by simp⟩
  have co := comps_ok (nx := nxOf rs) (ch := chosen region head) (R.nd.filter _)
  refine st_seq1 (st_asg (d := .bool (isLoop (nxOf rs) region head)) (ev_is (ev_anyL hPt (ds := region.map pI) (ev_var rfl) (fun j => decide (head ∈ nxOf rs (region.getD j 0))) (fun j d hj => ?_)) ?_) rfl) ?_
  · obtain ⟨x, hx, rfl⟩ := getL hj
    have hxm := List.mem_of_getElem? hx
    have e1 : region.getD j 0 = x := by rw [List.getD_eq_getElem?_getD, hx]; rfl
    rw [e1]
    exact prd_in (ns := nxOf rs x) (prd_cap rfl) (.inr (prd_ixT (n := 2) (ds := [encAct (rowAt rs x).act, pI (rowAt rs x).count, .tuple ((nxOf rs x).map pI)]) (prd_ixL (n := x) (prd_cap (d := encRows rs) rfl) prd_loc (rows_get (hlt x hxm))) prd_int rfl))
  · exact congrArg PyData.bool (any_getD region fun x => decide (head ∈ nxOf rs x))
  generalize hin : innerL (nxOf rs) region head labels = inner
  have hin2 : inner = if isLoop (nxOf rs) region head = true then labels ++ [head] else labels := hin.symm
  have hinl : inner.length ≤ labels.length + 1 := by rw [hin2]; split <;> simp
  refine st_seq1 (st_asg (d := encL inner) (ev_if (b := isLoop (nxOf rs) region head) (eb_truth (ev_var rfl) rfl) (fun h => ?_) (fun h => ?_)) rfl) ?_
  · rw [hin2, if_pos h]
    exact ev_is (ev_op (ev_var rfl) (ev_lst (ea_cons (ev_var rfl) ea_nil) (by simp)) (rv_catL (by simp; omega))) (by rw [encL, List.map_append]; rfl)
  · rw [hin2, if_neg (by simp [h])]
    exact ev_var rfl
  refine st_seq1 (st_asg (ev_call (ea_cons (ev_var rfl) (ea_cons (ev_var rfl) (ea_cons (ev_var rfl) ea_nil))) ⟨rs, head, inner, rg, hlt head R.mem, rfl, rfl⟩) rfl) ?_
  generalize hrec : (fun p e => outF (kdOf rs) (nxOf rs) f p e inner) = rec
  have tot : outF (kdOf rs) (nxOf rs) (f + 1) region head labels = match fold1 (nxOf rs) rec region (comps (nxOf rs) (chosen region head)) (headS (kdOf rs) (nxOf rs) head inner) with
    | .error x => .error x
    | .ok sh => .ok (if isLoop (nxOf rs) region head = true then [.scope true head sh] else sh) := by
    rw [outF, hin, hrec] <;> rfl
  generalize hps : comps (nxOf rs) (chosen region head) = ps at tot co
  refine st_seq (N := fun δ => ∃ sh x7 x8 x9 x10, δ = [dat (encRows rs), dat (encL region), dat (pI head), dat (encL labels), dat (.bool (isLoop (nxOf rs) region head)), dat (encL inner), dat (encT sh), x7, x8, x9, x10] ∧ fold1 (nxOf rs) rec region ps (headS (kdOf rs) (nxOf rs) head inner) = .ok sh) ?_ fun δ' ⟨sh, x7, x8, x9, x10, e, hfin⟩ => ?_
  · refine forL_core (ds := ps.map encL) (fun q δ => ∃ sh x7 x8 x9 x10, δ = [dat (encRows rs), dat (encL region), dat (pI head), dat (encL labels), dat (.bool (isLoop (nxOf rs) region head)), dat (encL inner), dat (encT sh), x7, x8, x9, x10] ∧ fold1 (nxOf rs) rec region (ps.drop q) sh = fold1 (nxOf rs) rec region ps (headS (kdOf rs) (nxOf rs) head inner))
      (ev_call (ea_cons (ev_var rfl) (ea_cons (ev_lcN (ns := region) (fun x => !decide (x = head)) (ev_var rfl) (by omega) (by simp [startD]) (fun x hx => eb_test (ev_op (ev_var rfl) (ev_var rfl) rv_neN))) ea_nil)) ⟨rs, chosen region head, rg, R.nd.filter _, fun x hx => hlt x (mem_chosen.mp hx).1, rfl, by rw [hps]⟩)
      ⟨_, none, none, none, none, rfl, by rw [List.drop_zero]⟩ (fun q d δ' hq ⟨sh, x7, x8, x9, x10, e, hfold⟩ => ?_) (fun δ' ⟨sh, x7, x8, x9, x10, e, hfold⟩ => ⟨sh, x7, x8, x9, x10, e, by rw [← hfold, List.length_map, List.drop_length]; rfl⟩)
    subst e
    rw [List.getElem?_map] at hq
    obtain ⟨p, hp, rfl⟩ : ∃ p, ps[q]? = some p ∧ encL p = d := by
      cases z : ps[q]? with
      | none => rw [z] at hq; cases hq
      | some p => rw [z] at hq; exact ⟨p, rfl, Option.some.inj hq⟩
    have hpm := List.mem_of_getElem? hp
    have hpart := co.part p hpm
    have hdrq : ps.drop q = p :: ps.drop (q + 1) := by
      have hql := (List.getElem?_eq_some_iff.mp hp).1
      rw [List.drop_eq_getElem_cons hql, (List.getElem?_eq_some_iff.mp hp).2]
    have hpl : p.length ≤ (chosen region head).length := nd_len hpart.nd hpart.sub
    have hps2 : ∀ x ∈ p, x ∈ region ∧ x ≠ head := fun x hx => mem_chosen.mp (hpart.sub x hx)
    rw [hdrq, fold1] at hfold
    refine st_seq1 (st_asg (ev_call (ea_cons (ev_var rfl) (ea_cons (ev_var rfl) (ea_cons (ev_var rfl) ea_nil))) ⟨rs, region, p, rg, by omega, by omega, hlt, rfl, rfl⟩) rfl) ?_
    have hne := R.entered_ne hpart
    cases hent : entered (nxOf rs) region p with
    | nil => exact absurd hent hne
    | cons a r =>
      rw [hent] at hfold
      cases r with
      | cons b r =>
        refine st_ifr (b := true) (eb_is (eb_test (ev_op (ev_callR (ea_cons (ev_var rfl) ea_nil) rc_len) ev_int rv_gt)) (by simp; omega)) (fun _ => ?_) (fun h => by cases h)
        refine st_ret (ev_tup (ea_cons ev_str (ea_cons (ev_op (d := pI a) (ev_var rfl) ev_int (rv_ixL (at_0 _ _))) (ea_cons (ev_op (d := pI b) (ev_var rfl) ev_int (rv_ixL (at_1 _ _ _))) ea_nil))) (by simp)) ?_
        have h2 : fold1 (nxOf rs) rec region ps (headS (kdOf rs) (nxOf rs) head inner) = .error (a, b) := hfold.symm
        rw [tot, h2]
        rfl
      | nil =>
        have hae : a ∈ entered (nxOf rs) region p := by rw [hent]; simp
        have hap := (mem_entered.mp hae).1
        have Rp : Reg (nxOf rs) p a := Reg.sub hpart hap
        have hlabp : ∀ l ∈ inner, l ∉ p := fun l hl hlp => by
          rw [hin2] at hl
          have hx := hps2 l hlp
          split at hl
          · rcases List.mem_append.mp hl with hl | hl
            · exact hlab l hl hx.1
            · exact hx.2 (by simpa using hl)
          · exact hlab l hl hx.1
        refine st_ifr (b := false) (eb_is (eb_test (ev_op (ev_callR (ea_cons (ev_var rfl) ea_nil) rc_len) ev_int rv_gt)) (by simp)) (fun h => by cases h) (fun _ => ?_)
        have hrp : rec p a = outF (kdOf rs) (nxOf rs) f p a inner := by rw [← hrec]
        have hok := out_ok rg.ok f p a inner (by omega) Rp hlabp
        refine st_seq1 (st_asg (d := encRes (rec p a)) (ev_call (ea_cons (ev_var rfl) (ea_cons (ev_var rfl) (ea_cons (ev_op (d := pI a) (ev_var rfl) ev_int (rv_ixL (at_0 _ _))) (ea_cons (ev_var rfl) ea_nil)))) ⟨rs, p, a, inner, rg, by omega, Rp, fun x hx => hlt x (hps2 x hx).1, hlabp, by omega, rfl, by rw [hrp]⟩) rfl) ?_
        rw [← hrp] at hok
        simp only at hfold
        cases hra : rec p a with
        | error x =>
          obtain ⟨y, z⟩ := x
          rw [hra] at hfold
          refine st_ifr (b := true) (eb_is (eb_test (ev_op (ev_op (d := .str "tangled") (ev_var rfl) ev_int (rv_ixT (at_0 _ _))) ev_str rv_eqS)) (by simp)) (fun _ => ?_) (fun h => by cases h)
          refine st_ret (ev_var rfl) ?_
          have h2 : fold1 (nxOf rs) rec region ps (headS (kdOf rs) (nxOf rs) head inner) = .error (y, z) := hfold.symm
          rw [tot, h2]
        | ok s2 =>
          rw [hra] at hfold hok
          have hsz : szS s2 + 1 ≤ 15 * p.length := hok.sz
          have hl2 := len_sz s2
          refine st_ifr (b := false) (eb_is (eb_test (ev_op (ev_op (d := .str "structured") (ev_var rfl) ev_int (rv_ixT (at_0 _ _))) ev_str rv_eqS)) (by decide +kernel)) (fun h => by cases h) (fun _ => ?_)
          refine st_asg (d := encT (.scope false a sh :: s2)) (ev_is (ev_op (ev_tup (ea_cons (ev_tup (ea_cons ev_str (ea_cons (ev_op (d := pI a) (ev_var rfl) ev_int (rv_ixL (at_0 _ _))) (ea_cons (ev_var rfl) ea_nil))) (by simp)) ea_nil) (by simp)) (ev_op (d := encT s2) (ev_var rfl) ev_int (rv_ixT (at_1 _ _ _))) (rv_catT (by rw [encS_length]; simp; omega))) (by simp [encS, encI, tagS])) ⟨.scope false a sh :: s2, dat (encL p), dat (encL [a]), dat (encRes (.ok s2)), x10, rfl, hfold⟩
  · subst e
    rw [hfin] at tot
    simp only at tot
    rw [tot]
    refine st_seq (N := fun δ => ∃ x7 x8 x9 x10, δ = [dat (encRows rs), dat (encL region), dat (pI head), dat (encL labels), dat (.bool (isLoop (nxOf rs) region head)), dat (encL inner), dat (encT (if isLoop (nxOf rs) region head = true then [.scope true head sh] else sh)), x7, x8, x9, x10]) ?_ fun δ' ⟨x7, x8, x9, x10, e⟩ => e ▸ st_ret (ev_tup (ea_cons ev_str (ea_cons (ev_var rfl) ea_nil)) (by simp)) rfl
    refine st_if (b := isLoop (nxOf rs) region head) (eb_truth (ev_var rfl) rfl) (fun h => ?_) (fun h => ?_)
    · refine st_asg (d := encT [.scope true head sh]) (ev_is (ev_tup (ea_cons (ev_tup (ea_cons ev_str (ea_cons (ev_var rfl) (ea_cons (ev_var rfl) ea_nil))) (by simp)) ea_nil) (by simp)) (by simp [encS, encI, tagS])) ⟨x7, x8, x9, x10, by rw [if_pos h]; rfl⟩
    · exact st_next ⟨x7, x8, x9, x10, by rw [if_neg (by simp [h])]⟩
theorem all_outline_of {c Pt : Addr} (hPt : Pt ∈ Ts) (TB : TabB base mg c Pt) (T : Txt mg) (D_head_shape : Df K mg "head_shape" 7 ["rows", "head", "labels"]) (D_components : Df K mg "components" 3 ["rows", "chosen"]) (D_entered_at : Df K mg "entered_at" 4 ["rows", "region", "component"]) (D : Dc K mg "outline_of" 8 PP_out c)
    (G_head_shape : FnOk P w K mg base CX0 2 D_head_shape.a D_head_shape.fd ["rows", "head", "labels"] (spP Ts R_hs)) (G_components : FnOk P w K mg base CX0 2 D_components.a D_components.fd ["rows", "chosen"] (spP Ts R_comps)) (G_entered_at : FnOk P w K mg base CX0 2 D_entered_at.a D_entered_at.fd ["rows", "region", "component"] (spP Ts R_ent)) :
    ∀ f, FnOk P w K mg base CX0 (f + 2) D.a D.fd PP_out (spP Ts (R_out f))
  | 0 => fn_none fun ds d h => by
    obtain ⟨rs, region, head, labels, rg, hf, R, _⟩ := h
    have : region = [] := List.length_eq_zero_iff.mp (by omega)
    have m := R.mem
    rw [this] at m
    cases m
  | f + 1 => ok_outline_of hPt TB T D_head_shape D_components D_entered_at D G_head_shape G_components G_entered_at (all_outline_of hPt TB T D_head_shape D_components D_entered_at D G_head_shape G_components G_entered_at f)
end
/-! ### plain: what an outline's shape is made of -/
theorem okS_app (rs : List Row) : ∀ (s r : List I), okS rs (s ++ r) ↔ okS rs s ∧ okS rs r
  | [], r => by simp [okS]
  | i :: s, r => by
    show okS rs (i :: (s ++ r)) ↔ _
    simp only [okS, okS_app rs s r, and_assoc]
theorem jumps_wf (rs : List Row) (labels : List Nat) : ∀ l : List Nat, (∀ m ∈ l, m < 1000000) → wfC (l.map fun m => [jump labels m]) ∧ okC rs (l.map fun m => [jump labels m])
  | [], _ => by simp [wfC, okC]
  | m :: l, h => by
    have := jumps_wf rs labels l fun m hm => h m (List.mem_cons_of_mem _ hm)
    simp only [List.map_cons, wfC, okC, wfS, okS, jump, wfI, okI, and_true, true_and]
    exact ⟨this.1, h m List.mem_cons_self, this.2⟩
theorem head_wf {rs : List Row} (rg : RG rs) {head : Nat} (hh : head < rs.length) (labels : List Nat) : wfS (headS (kdOf rs) (nxOf rs) head labels) ∧ okS rs (headS (kdOf rs) (nxOf rs) head labels) := by
  have hlen := rg.len
  have j := jumps_wf rs labels (nxOf rs head) fun m hm => by have := rg.nx head m hm; omega
  have f := rg.ok.four head
  unfold headS
  cases hk : kdOf rs head with
  | br =>
    have h2 := rg.ok.br head hk
    simp only [wfS, okS, wfI, okI, and_true, List.length_map]
    exact ⟨⟨h2, j.1⟩, hh, hk, j.2⟩
  | sel =>
    simp only [wfS, okS, wfI, okI, and_true, List.length_map]
    exact ⟨⟨by omega, j.1⟩, hh, hk, j.2⟩
  | oth =>
    cases hx : nxOf rs head with
    | nil => simp only [wfS, okS, wfI, okI, wfC, okC, and_true]; exact ⟨trivial, hh, hk⟩
    | cons m ms =>
      have hm : m < rs.length := rg.nx head m (by rw [hx]; simp)
      simp only [wfS, okS, wfI, okI, wfC, okC, jump, and_true]
      exact ⟨trivial, ⟨hh, hk⟩, by omega⟩
theorem fold_wf {rs : List Row} {rec : List Nat → Nat → Res} {region : List Nat} : ∀ (ps : List (List Nat)) (sh : List I), (∀ p ∈ ps, ∀ e ∈ p, e < 1000000 ∧ ∀ s, rec p e = .ok s → wfS s ∧ okS rs s) → wfS sh ∧ okS rs sh → ∀ s, fold1 (nxOf rs) rec region ps sh = .ok s → wfS s ∧ okS rs s
  | [], sh, _, h, s, e => by
    simp only [fold1] at e
    cases e
    exact h
  | p :: ps, sh, hr, h, s, e => by
    simp only [fold1] at e
    split at e
    · cases e
    · rename_i a he
      have ha : a ∈ p := (mem_entered.mp (by rw [he]; simp : a ∈ entered (nxOf rs) region p)).1
      split at e
      · cases e
      · rename_i s2 h2
        have q := (hr p List.mem_cons_self a ha).2 s2 h2
        have q0 := (hr p List.mem_cons_self a ha).1
        refine fold_wf ps _ (fun p' hp' => hr p' (List.mem_cons_of_mem _ hp')) ?_ s e
        simp only [wfS, okS, wfI, okI]
        exact ⟨⟨h.1, q.1⟩, ⟨q0, h.2⟩, q.2⟩
    · cases e
theorem out_wf {rs : List Row} (rg : RG rs) : ∀ (f : Nat) (region : List Nat) (head : Nat) (labels : List Nat), region.Nodup → (∀ x ∈ region, x < rs.length) → head < rs.length → ∀ s, outF (kdOf rs) (nxOf rs) f region head labels = .ok s → wfS s ∧ okS rs s
  | 0, region, head, labels, _, _, _, s, e => by cases e
  | f + 1, region, head, labels, nd, h1, h2, s, e => by
    have co := comps_ok (nx := nxOf rs) (ch := chosen region head) (nd.filter _)
    rw [outF] at e
    split at e
    · cases e
    · rename_i sh hsh
      have q := fold_wf _ _ (fun p hp a ha => ⟨by have := h1 a (mem_chosen.mp ((co.part p hp).sub a ha)).1; have := rg.len; omega, fun s2 hs2 => out_wf rg f p a _ (co.part p hp).nd (fun x hx => h1 x (mem_chosen.mp ((co.part p hp).sub x hx)).1) (h1 a (mem_chosen.mp ((co.part p hp).sub a ha)).1) s2 hs2⟩) (head_wf rg h2 _) sh hsh
      cases e
      split
      · simp only [wfS, okS, wfI, okI, and_true]
        exact ⟨q.1, by have := rg.len; omega, q.2⟩
      · exact q
theorem str_ok {rs : List Row} (rg : RG rs) {first : Nat} (hf : first < rs.length) {sh : List I} (h : outlineOf (kdOf rs) (nxOf rs) rs.length first = .ok sh) : wfS sh ∧ okS rs sh ∧ wtS sh ≤ 72 ∧ szS sh ≤ 360 ∧ dpS sh ≤ 73 := by
  have R := region_ok (nx := nxOf rs) hf
  obtain ⟨w1, w2⟩ := out_wf rg _ _ _ _ R.nd (fun x hx => (mem_spread.mp hx).1) hf sh h
  obtain ⟨_, h2, h3⟩ := structured_ok rg.ok (fun x _ => rg.nx x) hf h
  have h4 := dp_wtS sh
  have h5 := rg.len
  exact ⟨w1, w2, by omega, by omega, by omega⟩
mutual
theorem ok_putI {rs : List Row} (l : Nat) {rest : List I} (hr : okS rs rest) : ∀ i : I, okI rs i → okS rs (putI l rest i)
  | .act t n cs, h => by
    simp only [okI] at h
    simp only [putI, okS, okI, and_true]
    exact ⟨h.1, h.2.1, ok_putC l hr cs h.2.2⟩
  | .scope true l' b, h => by
    simp only [okI] at h
    simp only [putI, okS, okI, and_true]
    exact ⟨h.1, ok_putS l hr b h.2⟩
  | .scope false l' b, h => by
    simp only [okI] at h
    simp only [putI]
    split <;> simp only [okS, okI, and_true]
    · exact h
    · exact ⟨h.1, ok_putS l hr b h.2⟩
  | .jmp true l', h => by simp only [putI, okS, and_true]; exact h
  | .jmp false l', h => by
    simp only [putI]
    split
    · exact hr
    · simp only [okS, and_true]; exact h
theorem ok_putS {rs : List Row} (l : Nat) {rest : List I} (hr : okS rs rest) : ∀ s : List I, okS rs s → okS rs (putS l rest s)
  | [], h => by simp [putS, okS]
  | i :: r, h => by
    simp only [putS, okS_app]
    exact ⟨ok_putI l hr i h.1, ok_putS l hr r h.2⟩
theorem ok_putC {rs : List Row} (l : Nat) {rest : List I} (hr : okS rs rest) : ∀ s : List (List I), okC rs s → okC rs (putC l rest s)
  | [], h => by simp [putC, okC]
  | i :: r, h => by
    simp only [putC, okC]
    exact ⟨ok_putS l hr i h.1, ok_putC l hr r h.2⟩
end
mutual
theorem ok_dropI {rs : List Row} (l : Nat) : ∀ i : I, okI rs i → okS rs (dropI l i)
  | .act t n cs, h => by
    simp only [okI] at h
    simp only [dropI, okS, okI, and_true]
    exact ⟨h.1, h.2.1, ok_dropC l cs h.2.2⟩
  | .scope true l' b, h => by
    simp only [okI] at h
    simp only [dropI, okS, okI, and_true]
    exact ⟨h.1, ok_dropS l b h.2⟩
  | .scope false l' b, h => by
    simp only [okI] at h
    simp only [dropI]
    split <;> simp only [okS, okI, and_true]
    · exact h
    · exact ⟨h.1, ok_dropS l b h.2⟩
  | .jmp true l', h => by simp only [dropI, okS, and_true]; exact h
  | .jmp false l', h => by
    simp only [dropI]
    split
    · simp [okS]
    · simp only [okS, and_true]; exact h
theorem ok_dropS {rs : List Row} (l : Nat) : ∀ s : List I, okS rs s → okS rs (dropS l s)
  | [], h => by simp [dropS, okS]
  | [i], h => by
    simp only [dropS]
    exact ok_dropI l i h.1
  | i :: j :: r, h => by
    have d : dropS l (i :: j :: r) = i :: dropS l (j :: r) := by rw [dropS]
    rw [d]
    exact ⟨h.1, ok_dropS l (j :: r) h.2⟩
theorem ok_dropC {rs : List Row} (l : Nat) : ∀ s : List (List I), okC rs s → okC rs (dropC l s)
  | [], h => by simp [dropC, okC]
  | i :: r, h => by
    simp only [dropC, okC]
    exact ⟨ok_dropS l i h.1, ok_dropC l r h.2⟩
end
theorem simple_okS {rs : List Row} {l : Nat} {b r : List I} (hl : l < 1000000) (hb : okS rs b) (hr : okS rs r) : okS rs (simpleBlock l b r) := by
  unfold simpleBlock
  have d1 := ok_dropS l b hb
  split
  · exact ok_putS l hr b hb
  · split
    · simp only [okS, okI]
      exact ⟨⟨hl, d1⟩, hr⟩
    · split
      · exact d1
      · rw [okS_app]
        exact ⟨d1, hr⟩
mutual
theorem sim_okI {rs : List Row} : ∀ (i : I) (r : List I), okI rs i → okS rs r → okS rs (simI i r)
  | .act t n cs, r, h, hr => by
    simp only [okI] at h
    simp only [simI, okS, okI]
    exact ⟨⟨h.1, h.2.1, sim_okC cs h.2.2⟩, hr⟩
  | .scope true l b, r, h, hr => by
    simp only [okI] at h
    simp only [simI, okS, okI]
    exact ⟨⟨h.1, sim_okS b h.2⟩, hr⟩
  | .scope false l b, r, h, hr => by
    simp only [okI] at h
    simp only [simI]
    exact simple_okS h.1 (sim_okS b h.2) hr
  | .jmp a l, r, h, hr => by
    simp only [simI, okS]
    exact ⟨h, hr⟩
theorem sim_okS {rs : List Row} : ∀ s : List I, okS rs s → okS rs (simS s)
  | [], h => by simp [simS, okS]
  | i :: r, h => by
    simp only [simS]
    exact sim_okI i _ h.1 (sim_okS r h.2)
theorem sim_okC {rs : List Row} : ∀ s : List (List I), okC rs s → okC rs (simC s)
  | [], h => by simp [simC, okC]
  | i :: r, h => by
    simp only [simC, okC]
    exact ⟨sim_okS i h.1, sim_okC r h.2⟩
end
section
variable {P : Program} {w : World} {K : PySem.W.Frag} {mg : Str → Option Value} {base : Heap} {Ts : List Addr}
/-! ### outline, structure -/
theorem sc_outline : FnScope ["rows", "first"] ["rows", "first"] (defScope (topS 9)) := ⟨rfl, rfl, rfl, by decide +kernel, rfl, by decide +kernel, by decide +kernel⟩
def R_outline (ds : List PyData) (d : PyData) : Prop := ∃ (rs : List Row) (first : Nat), RG rs ∧ first < rs.length ∧ ds = [encRows rs, pI first] ∧ d = encRes (outlineOf (kdOf rs) (nxOf rs) rs.length first)
theorem ok_outline (D_reachable : Df K mg "reachable" 2 ["rows", "first"]) (D_outline_of : Df K mg "outline_of" 8 PP_out) (D : Df K mg "outline" 9 ["rows", "first"])
    (G_reachable : FnOk P w K mg base CX0 2 D_reachable.a D_reachable.fd ["rows", "first"] (spP Ts R_reachable)) (G_all : ∀ f, FnOk P w K mg base CX0 (f + 2) D_outline_of.a D_outline_of.fd PP_out (spP Ts (R_out f))) :
    FnOk P w K mg base CX0 27 D.a D.fd ["rows", "first"] (spP Ts R_outline) := by
  have sc := sc_outline
  refine fn_pure D.F sc (fun ds d h => ?_) (fun cdv A outer s H E ds d hr h => ?_)
  · obtain ⟨_, _, _, _, rfl, _⟩ := h; rfl
  obtain ⟨rs, first, rg, hf, rfl, rfl⟩ := h
  have hlen := rg.len
  have G_outline_of := G_all rs.length
  refine ⟨_, (pss_one (ps_ret (pe_call G_outline_of (hr.mono (by omega)) rfl D_outline_of.m D_outline_of.F.kp D_outline_of.b .nil pass0 (pa_cons (pv 0) (pa_cons (pe_call G_reachable (hr.mono (by omega)) rfl D_reachable.m D_reachable.F.kp D_reachable.b .nil pass0 (pa_cons (pv 0) (pa_cons (pv 1) pa_nil))) (pa_cons (pv 1) (pa_cons (pe_lst pa_nil) pa_nil))))))), ?_⟩
  have R := region_ok (nx := nxOf rs) hf
  exact st_ret (ev_call (ea_cons (ev_var rfl) (ea_cons (ev_call (ea_cons (ev_var rfl) (ea_cons (ev_var rfl) ea_nil)) ⟨rs, first, rg, hf, rfl, rfl⟩) (ea_cons (ev_var rfl) (ea_cons (ev_lst ea_nil (by simp)) ea_nil)))) ⟨rs, regionOf rs.length (nxOf rs) first, first, [], rg, region_len, R, fun x hx => (mem_spread.mp hx).1, (by intro l hl; cases hl), (by show 0 + _ ≤ 1000; omega), rfl, rfl⟩) rfl
theorem sc_structure : FnScope ["rows", "first", "found"] ["rows", "first"] (defScope (topS 18)) := ⟨rfl, rfl, rfl, by decide +kernel, rfl, by decide +kernel, by decide +kernel⟩
noncomputable def strOf (rs : List Row) (first : Nat) : Res := match outlineOf (kdOf rs) (nxOf rs) rs.length first with
  | .ok sh => .ok (simS sh)
  | .error x => .error x
def R_structure (ds : List PyData) (d : PyData) : Prop := ∃ (rs : List Row) (first : Nat), RG rs ∧ first < rs.length ∧ ds = [encRows rs, pI first] ∧ d = encRes (strOf rs first)
theorem ok_structure (D_outline : Df K mg "outline" 9 ["rows", "first"]) (D_simplify : Df K mg "simplify" 17 ["shape"]) (D : Df K mg "structure" 18 ["rows", "first"])
    (G_outline : FnOk P w K mg base CX0 27 D_outline.a D_outline.fd ["rows", "first"] (spP Ts R_outline)) (G_simplify : FnOk P w K mg base CX0 164 D_simplify.a D_simplify.fd ["shape"] (spP Ts (R_simplify 80 80))) :
    FnOk P w K mg base CX0 165 D.a D.fd ["rows", "first"] (spP Ts R_structure) := by
  have sc := sc_structure
  refine fn_pure D.F sc (fun ds d h => ?_) (fun cdv A outer s H E ds d hr h => ?_)
  · obtain ⟨_, _, _, _, rfl, _⟩ := h; rfl
  obtain ⟨rs, first, rg, hf, rfl, rfl⟩ := h
  refine ⟨_, (pss_cons (ps_set (i := 2) sc.nd rfl (Or.inl rfl) (pe_call G_outline (hr.mono (by omega)) rfl D_outline.m D_outline.F.kp D_outline.b .nil pass0 (pa_cons (pv 0) (pa_cons (pv 1) pa_nil))))
    (pss_cons (ps_if (pt_cmpR op_eq (pe_ix ix_seq (pv 2) pe_int (fun _ _ => rfl)) pe_str (nomark _))
      (pss_one (ps_ret (pv 2)))
      pss_nil)
    (pss_one (ps_ret (pe_tup (pa_cons pe_str (pa_cons (pe_call G_simplify (hr.mono (by omega)) rfl D_simplify.m D_simplify.F.kp D_simplify.b .nil pass0 (pa_cons (pe_ix ix_seq (pv 2) pe_int (fun _ _ => rfl)) pa_nil)) pa_nil))))))), ?_⟩
  refine st_seq1 (st_asg (ev_call (ea_cons (ev_var rfl) (ea_cons (ev_var rfl) ea_nil)) ⟨rs, first, rg, hf, rfl, rfl⟩) rfl) ?_
  cases ho : outlineOf (kdOf rs) (nxOf rs) rs.length first with
  | error x =>
    obtain ⟨y, z⟩ := x
    refine st_ifr (b := true) (eb_is (eb_test (ev_op (ev_op (d := .str "tangled") (ev_var rfl) ev_int (rv_ixT (at_0 _ _))) ev_str rv_eqS)) (by simp)) (fun _ => ?_) (fun h => by cases h)
    refine st_ret (ev_var rfl) ?_
    unfold strOf
    rw [ho]
  | ok sh =>
    obtain ⟨w1, w2, w3, w4, w5⟩ := str_ok rg hf ho
    refine st_ifr (b := false) (eb_is (eb_test (ev_op (ev_op (d := .str "structured") (ev_var rfl) ev_int (rv_ixT (at_0 _ _))) ev_str rv_eqS)) (by decide +kernel)) (fun h => by cases h) (fun _ => ?_)
    refine st_ret (ev_tup (ea_cons ev_str (ea_cons (ev_call (ea_cons (ev_op (d := encT sh) (ev_var rfl) ev_int (rv_ixT (at_1 _ _ _))) ea_nil) ⟨sh, by omega, w1, by omega, by omega, rfl, rfl⟩) ea_nil)) (by simp)) ?_
    unfold strOf
    rw [ho]
    rfl
end
end K33
end
section
set_option Elab.async false
set_option linter.all false
set_option maxRecDepth 100000
set_option maxHeartbeats 2000000
/-! L10: expressions that write on a thing of one's own. -/
namespace K33
open PySem L2 GxR
theorem DtA.set {k : Hp} {v : V} {d : PyData} (h : Dt k v d) : ∀ {vs : List V} {ds : List PyData} (j : Nat), DtA k vs ds → DtA k (vs.set j v) (ds.set j d)
  | _, _, _, .nil => .nil
  | _, _, 0, .cons _ b => .cons h b
  | _, _, j + 1, .cons a b => .cons a (DtA.set h j b)
/-- the value is d, the slots' data then δ', as post says -/
def EvW (Ts Mo : List Addr) (te : TE) (δ : Dl) (post : Dl → PyData → Prop) : Prop :=
  ∀ (k0 H0 : Hp) (σ : L2.St) (k H : Hp), Stt Ts Mo k0 H0 k H σ δ → ∀ Q : VK, (∀ v k' H' δ' d, post δ' d → Same k k' → Stt Ts Mo k0 H0 k' H' σ δ' → Dt k' v d → Q v H') → te σ H Q
def EvAW (Ts Mo : List Addr) (ta : TA) (δ : Dl) (post : Dl → List PyData → Prop) : Prop :=
  ∀ (k0 H0 : Hp) (σ : L2.St) (k H : Hp), Stt Ts Mo k0 H0 k H σ δ → ∀ Q : List V → Hp → Prop, (∀ vs k' H' δ' ds, post δ' ds → Same k k' → Stt Ts Mo k0 H0 k' H' σ δ' → DtA k' vs ds → Q vs H') → ta σ H Q
def EvTW (Ts Mo : List Addr) (tt : TT) (δ : Dl) (post : Dl → Bool → Prop) : Prop :=
  ∀ (k0 H0 : Hp) (σ : L2.St) (k H : Hp), Stt Ts Mo k0 H0 k H σ δ → ∀ Q : Bool → Hp → Prop, (∀ b k' H' δ', post δ' b → Same k k' → Stt Ts Mo k0 H0 k' H' σ δ' → Q b H') → tt σ H Q
section
variable {Ts Mo : List Addr} {δ : Dl} {ta tb te : TE} {d dx dy : PyData} {K : PySem.W.Frag} {r : R2} {post pa : Dl → PyData → Prop}
theorem ew_pure (h : EvD Ts te δ d) (p : post δ d) : EvW Ts Mo te δ post := fun k0 H0 σ k H s Q q => h σ k H s.kn s.sl Q fun v k' H' g dv => q v k' H' δ d p g.kk (s.step g) dv
theorem ew_call {R : Cont → List PyData → (Cont → PyData → Prop) → Prop} {E : XK} {ta : TA} {i : Nat} {o : Option Addr} {c : Cont} {as : List PyData} {pc : Cont → PyData → Prop} (e : δ[i]? = some (some (.own (o, c)))) (ha : EvA Ts ta δ as) (hr : R c as pc) (p : ∀ c' d, pc c' d → post (δ.set i (some (.own (o, c')))) d) :
    EvW Ts Mo (tCall (spW Ts R) [] E (tCons (tVar i) ta)) δ post := fun k0 H0 σ k H s Q q => call_W e ha hr s fun v k' H' c' d hp kk s' dv => q v k' H' _ d (p c' d hp) kk s' dv
theorem ew_op (ha : EvW Ts Mo ta δ pa) (hb : ∀ δ' dx, pa δ' dx → EvW Ts Mo tb δ' fun δ2 dy => ∃ d, RvD Ts r dx dy d ∧ post δ2 d) : EvW Ts Mo (tOp r ta tb) δ post := fun k0 H0 σ k H s Q q =>
  ha k0 H0 σ k H s _ fun x k1 H1 δ1 dx p1 kk1 s1 dvx => hb δ1 dx p1 k0 H0 σ k1 H1 s1 _ fun y k2 H2 δ2 dy ⟨d, rv, p2⟩ kk2 s2 dvy =>
    rv k2 H2 x y s2.kn (Dt.up kk2 _ _ dvx) dvy Q fun v k3 H3 g3 dv => q v k3 H3 δ2 d p2 (kk1.trans (kk2.trans g3.kk)) (s2.step g3) dv
theorem ew_mono {post' : Dl → PyData → Prop} (h : EvW Ts Mo te δ post') (m : ∀ δ d, post' δ d → post δ d) : EvW Ts Mo te δ post := fun k0 H0 σ k H s Q q => h k0 H0 σ k H s Q fun v k' H' δ' d p => q v k' H' δ' d (m δ' d p)
theorem eaw_nil {pa : Dl → List PyData → Prop} (p : pa δ []) : EvAW Ts Mo tNil δ pa := fun k0 H0 σ k H s Q q => q [] k H δ [] p (Same.refl k) s .nil
theorem eaw_cons {pa : Dl → PyData → Prop} {t : TA} {pb : Dl → List PyData → Prop} (ha : EvW Ts Mo ta δ pa) (hb : ∀ δ' d, pa δ' d → EvAW Ts Mo t δ' fun δ2 ds => pb δ2 (d :: ds)) : EvAW Ts Mo (tCons ta t) δ pb := fun k0 H0 σ k H s Q q =>
  ha k0 H0 σ k H s _ fun x k1 H1 δ1 d p1 kk1 s1 dx => hb δ1 d p1 k0 H0 σ k1 H1 s1 _ fun xs k2 H2 δ2 ds p2 kk2 s2 dxs => q (x :: xs) k2 H2 δ2 (d :: ds) p2 (kk1.trans kk2) s2 (.cons (Dt.up kk2 _ _ dx) dxs)
theorem ew_tup {t : TA} {pb : Dl → List PyData → Prop} (ha : EvAW Ts Mo t δ pb) (hz : ∀ δ ds, pb δ ds → ds.length ≤ 100000 ∧ post δ (.tuple ds)) : EvW Ts Mo (tTup t) δ post := fun k0 H0 σ k H s Q q =>
  ha k0 H0 σ k H s _ fun xs k' H' δ' ds p kk s' dv => by
    refine ⟨by rw [dv.length]; exact small5 (hz _ _ p).1, fun p' hp => ?_⟩
    have g := Gr.new (p := p') (o := .tup xs) s'.kn hp (fun _ => by simp)
    exact q _ _ _ δ' _ (hz _ _ p).2 (kk.trans g.kk) (s'.step g) (.tup upd_same (DtA.up g.kk _ _ dv))
theorem ew_callR {t : TA} {r : List V → Hp → VK → Prop} {pb : Dl → List PyData → Prop} (ha : EvAW Ts Mo t δ pb) (hr : ∀ δ ds, pb δ ds → ∃ d, RcD Ts r ds d ∧ post δ d) : EvW Ts Mo (tCB r t) δ post := fun k0 H0 σ k H s Q q =>
  ha k0 H0 σ k H s _ fun xs k' H' δ' ds p kk s' dv => by
    obtain ⟨d, rc, pd⟩ := hr _ _ p
    exact rc k' H' xs s'.kn dv Q fun v k2 H2 g2 dv2 => q v k2 H2 δ' d pd (kk.trans g2.kk) (s'.step g2) dv2
theorem et_test {pb : Dl → Bool → Prop} (h : EvW Ts Mo te δ fun δ' d => ∃ b, d = .bool b ∧ pb δ' b) : EvTW Ts Mo (tTest te) δ pb := fun k0 H0 σ k H s Q q =>
  h k0 H0 σ k H s _ fun v k' H' δ' d ⟨b, e, p⟩ kk s' dv => by
    subst e
    cases dv
    exact ⟨b, rfl, q b k' H' δ' p kk s'⟩
variable {N : Dl → Prop} {R : Dl → PyData → Prop} {B : Dl → Prop} {RD : Dl → List (Int × PyData) → Prop} {t u : TS}
theorem sw_asg {j : Nat} (h : EvW Ts Mo te δ fun δ' d => N (δ'.set j (dat d))) : StX Ts Mo (tAsg te (gName j)) δ N R B RD := fun k0 H0 σ k H D s hn _ _ =>
  h k0 H0 σ k H s _ fun v k' H' δ' d p kk s' dv => hn _ k' H' _ p kk (s'.put j dv)
theorem sw_ret (h : EvW Ts Mo te δ R) : StX Ts Mo (tRet te) δ N R B RD := fun k0 H0 σ k H D s _ hr _ =>
  h k0 H0 σ k H s _ fun v k' H' δ' d p kk s' dv => (hr σ k' H' δ' v s').1 d p dv
theorem sw_if {c : TT} {pb : Dl → Bool → Prop} (h : EvTW Ts Mo c δ pb) (h1 : ∀ δ', pb δ' true → StX Ts Mo t δ' N R B RD) (h2 : ∀ δ', pb δ' false → StX Ts Mo u δ' N R B RD) : StX Ts Mo (tIfS c t u) δ N R B RD := fun k0 H0 σ k H D s hn hr hb =>
  h k0 H0 σ k H s _ fun b k' H' δ' p kk s' => by
    have hn' : ∀ σ' k'' H'' δ', N δ' → Same k' k'' → Stt Ts Mo k0 H0 k'' H'' σ' δ' → D.nx σ' H'' := fun σ2 k2 H2 δ2 n2 kk2 s2 => hn σ2 k2 H2 δ2 n2 (kk.trans kk2) s2
    have hb' : ∀ σ' k'' H'' δ', B δ' → Same k' k'' → Stt Ts Mo k0 H0 k'' H'' σ' δ' → D.bk σ' H'' := fun σ2 k2 H2 δ2 n2 kk2 s2 => hb σ2 k2 H2 δ2 n2 (kk.trans kk2) s2
    cases b with
    | true => exact iteT (h1 δ' p k0 H0 σ k' H' D s' hn' hr hb')
    | false => exact iteF (h2 δ' p k0 H0 σ k' H' D s' hn' hr hb')
/-- l[j] = e, l a list of one's own -/
theorem st_setL {i j : Nat} {o : Option Addr} {ds : List PyData} (e : δ[i]? = some (some (.own (o, .l ds)))) (h : EvD Ts te δ d) (hj : j < ds.length) (n : N (δ.set i (some (.own (o, .l (ds.set j d)))))) : StX Ts Mo (tAsg te (gSub (tVar i) (tC (.int (j : Int))) rSetL)) δ N R B RD := fun k0 H0 σ k H D s hn _ _ =>
  h σ k H s.kn s.sl _ fun v k' H' g dv => by
    have s' := s.step g
    obtain ⟨l, xs, q1, q2, q3, q4, q5⟩ := s'.sl.own e
    refine ⟨_, q1, l, xs, (j : Int), j, rfl, rfl, q2, ?_, hn _ k' _ _ n g.kk (s'.write e q1 q2 ?_)⟩
    · unfold ixN
      rw [if_pos (by omega)]
      simp only [Int.toNat_natCast]
      rw [q4.length]
      simp [hj]
    · exact DtA.set dv j q4
variable {k0 H0 k H : Hp} {σ : L2.St}
/-- a slot is forgotten, whatever is then put there -/
theorem Stt.any (s : Stt Ts Mo k0 H0 k H σ δ) (j : Nat) (v : Option V) : Stt Ts Mo k0 H0 k H (σ.set j v) (δ.set j none) := by
  refine ⟨s.kn0, s.gr, s.mo, s.sl.forget j v, fun i w l e1 e2 => ?_, fun a b w w' l e1 e2 e3 e4 => ?_⟩
  · rcases set_some e1 with ⟨_, z⟩ | ⟨z, e1⟩
    · cases z
    · rw [List.getElem?_set_ne (Ne.symm z)] at e2
      exact s.mine i w l e1 e2
  · rcases set_some e1 with ⟨_, z⟩ | ⟨z, e1⟩
    · cases z
    · rcases set_some e2 with ⟨_, z2⟩ | ⟨z2, e2⟩
      · cases z2
      · rw [List.getElem?_set_ne (Ne.symm z)] at e3
        rw [List.getElem?_set_ne (Ne.symm z2)] at e4
        exact s.apart a b w w' l e1 e2 e3 e4
theorem set_back {α : Type} {l : List (Option α)} {j : Nat} {x : Option α} (hj : j < l.length) : ((l.set j none).set j x).set j l[j] = l := by
  rw [List.set_set, List.set_set, List.set_getElem_self]
theorem Gr.then {l : Addr} {k1 H1 k2 H2 : Hp} (hk : Kn Ts k H) (a : Gr Ts [] k H k1 H1) (b : Gr Ts [l] k1 H1 k2 H2) : Gr Ts [l] k H k2 H2 where
  same := fun c o e n1 n2 => b.same c o (a.same c o e n1 (by simp)) n1 n2
  kk := a.kk.trans b.kk
  kn := b.kn
  dom := fun c e => by
    rw [b.dom c ?_, a.dom c e]
    cases q : H c with
    | none => exact absurd q e
    | some o =>
      by_cases n1 : c ∈ Ts
      · obtain ⟨ps, e2, _⟩ := a.kn.tb c n1
        rw [e2]
        simp
      · rw [a.same c o q n1 (by simp)]
        simp
/-- as call_W, with what has not changed -/
theorem call_W2 {R : Cont → List PyData → (Cont → PyData → Prop) → Prop} {E : XK} {ta : TA} {i : Nat} {o : Option Addr} {c : Cont} {as : List PyData} {post : Cont → PyData → Prop} (e : δ[i]? = some (some (.own (o, c)))) (ha : EvA Ts ta δ as) (hr : R c as post)
    (s : Stt Ts Mo k0 H0 k H σ δ) {Q : VK} (q : ∀ v k' H' c' d l, post c' d → σ[i]? = some (some (.ref l)) → Gr Ts [l] k H k' H' → Stt Ts Mo k0 H0 k' H' σ (δ.set i (some (.own (o, c')))) → Dt k' v d → Q v H') : tCall (spW Ts R) [] E (tCons (tVar i) ta) σ H Q := by
  obtain ⟨l, u, q1, q2, q3, q4, q5⟩ := s.sl.own1 e
  refine ⟨_, q1, ha σ k H s.kn s.sl _ fun vs k1 H1 g1 a1 => ?_⟩
  have s1 := s.step g1
  have q2' : H1 l = some u := g1.same l _ q2 (s.kn.not_tab q2 q4.nt) (by simp)
  have q3' : k1 l = none := by rw [g1.dom l (by rw [q2]; simp)]; exact q3
  exact ⟨k1, l, vs ++ [], u, c, as, post, rfl, g1.kn, q2', q3', q4.up g1.kk, by rw [List.append_nil]; exact a1, hr, fun k2 H2 u' c' v d g2 e2 e3 d2 dv hp => q v k2 H2 c' d l hp q1 (Gr.then s.kn g1 g2) (s1.callW e q1 g2 e2 e3 d2) dv⟩
/-- [f(thing, ..) for k in range(n)] -/
theorem ew_lcRW {R : Cont → List PyData → (Cont → PyData → Prop) → Prop} {E : XK} {ta tb : TA} {i j : Nat} {o : Option Addr} {c : Cont} {as : List PyData} {Pn : Nat → Prop} (PC : Cont → Prop) (PE : PyData → Prop) (e : δ[i]? = some (some (.own (o, c)))) (hj : δ[j]? = some none) (hij : i ≠ j)
    (ha : EvAW Ts Mo ta δ fun δ' ds => ∃ (n : Nat) (c' : Cont), ds = [.int n] ∧ n ≤ 1000 ∧ Pn n ∧ PC c' ∧ δ' = δ.set i (some (.own (o, c')))) (he : ∀ (m : Nat) (c' : Cont), EvA Ts tb ((δ.set i (some (.own (o, c')))).set j (dat (.int m))) as)
    (hr : ∀ c', PC c' → R c' as fun c2 d => PC c2 ∧ PE d) (p : ∀ c' n ds, PC c' → ds.length = n → Pn n → (∀ d ∈ ds, PE d) → post (δ.set i (some (.own (o, c')))) (.list ds)) :
    EvW Ts Mo (tLc (iRng1 ta) (gName j) tYes (tCall (spW Ts R) [] E (tCons (tVar i) tb)) [j]) δ post := fun k0 H0 σ k H s Q q =>
  ha k0 H0 σ k H s _ fun vs k1 H1 δ1 ds ⟨n, c1, e1, hn, pn, pc1, e2⟩ kk1 s1 dvs => by
    subst e1 e2
    cases dvs with
    | cons a b =>
    cases a; cases b
    have hjd : j < δ.length := (List.getElem?_eq_some_iff.mp hj).1
    have hid : i < δ.length := (List.getElem?_eq_some_iff.mp e).1
    have hjs : j < σ.length := by rw [s.sl.len]; exact hjd
    have hback : ∀ x, ((σ.set j none).set j x).set j σ[j] = σ := fun x => set_back hjs
    have dback : ∀ c' x, ((δ.set i (some (.own (o, c')))).set j x).set j none = δ.set i (some (.own (o, c'))) := fun c' x => by
      rw [List.set_set]
      have : (δ.set i (some (.own (o, c'))))[j]? = some none := by rw [List.getElem?_set_ne hij]; exact hj
      have hlt : j < (δ.set i (some (.own (o, c')))).length := by simpa using hjd
      rw [List.getElem?_eq_getElem hlt] at this
      have := Option.some.inj this
      conv => lhs; rw [← this]
      exact List.set_getElem_self hlt
    refine ⟨n, rfl, by omega, by omega, fun D hD => ?_⟩
    rw [show ((n : Int)).toNat = n by omega]
    have hkD : ∀ {k' : Hp}, Kn Ts k' H1 → k' D = none := fun {k'} h => by
      cases z : k' D with
      | none => rfl
      | some u => rw [h.sub D u z] at hD; cases hD
    have hDTs : D ∉ Ts := fun z => by
      obtain ⟨ps, e3, _⟩ := s1.kn.tb D z
      rw [hD] at e3; cases e3
    have hDMo : D ∉ Mo := fun z => (s1.mo D z).1 hD
    have hD0 : H0 D = none := by
      cases z : H0 D with
      | none => rfl
      | some u => rw [s1.gr.same D u z hDTs hDMo] at hD; cases hD
    -- the things of one's own stand apart from the new list
    have apD : ∀ (i' : Nat) (w : OW) (l : Addr), (δ.set i (some (.own (o, c1))))[i']? = some (some (.own w)) → σ[i']? = some (some (.ref l)) → l ≠ D := fun i' w l f1 f2 z => by
      obtain ⟨l2, u, g1, g2, _⟩ := s1.sl.own1 f1
      rw [f2] at g1
      cases g1
      rw [z, hD] at g2
      cases g2
    have apC : ∀ (c' : Cont) (i' : Nat) (w : OW) (l : Addr), (δ.set i (some (.own (o, c'))))[i']? = some (some (.own w)) → σ[i']? = some (some (.ref l)) → l ≠ D := fun c' i' w l f1 f2 => by
      by_cases z : i' = i
      · subst z
        exact apD i' (o, c1) l (by rw [List.getElem?_set_self hid]) f2
      · rw [List.getElem?_set_ne (Ne.symm z)] at f1
        exact apD i' w l (by rw [List.getElem?_set_ne (Ne.symm z)]; exact f1) f2
    -- the new list is written
    have wr : ∀ (k' H' : Hp) (c' : Cont) (xs ys : List V), Stt Ts Mo k0 H0 k' H' σ (δ.set i (some (.own (o, c')))) → H' D = some (.lst xs) ∨ H' D = none → k' D = none → Stt Ts Mo k0 H0 k' (upd H' D (.lst ys)) σ (δ.set i (some (.own (o, c')))) := fun k' H' c' xs ys s' h1 h2 => by
      have g : Gr Ts Mo k0 H0 k' (upd H' D (.lst ys)) := by
        rcases h1 with h1 | h1
        · exact s'.gr.mut (.inl hD0) h2 h1
        · exact Gr.trans s'.kn0 (fun a ha => (s'.mo a ha).1) s'.gr (Gr.fresh s'.kn h1)
      refine ⟨s'.kn0, g, fun a ha => ⟨?_, (s'.mo a ha).2⟩, ⟨s'.sl.len, fun i' => ?_⟩, s'.mine, s'.apart⟩
      · by_cases z : a = D
        · subst z; rw [upd_same]; simp
        · rw [upd_ne z]; exact (s'.mo a ha).1
      · have := s'.sl.ok i'
        cases z : (δ.set i (some (.own (o, c'))))[i']? with
        | none => trivial
        | some x =>
          rw [z] at this
          cases x with
          | none => trivial
          | some x =>
            cases x with
            | dat d => exact this
            | dct es => exact this
            | own w =>
              obtain ⟨l, u, f1, f2, f3⟩ := this
              exact ⟨l, u, f1, by rw [upd_ne (apC c' i' w l z f1)]; exact f2, f3⟩
    refine lc_range (fun m H' => ∃ k' c' xs ds, Same k1 k' ∧ Stt Ts Mo k0 H0 k' H' σ (δ.set i (some (.own (o, c')))) ∧ PC c' ∧ H' D = some (.lst xs) ∧ k' D = none ∧ DtA k' xs ds ∧ ds.length = m ∧ m ≤ n ∧ ∀ d ∈ ds, PE d)
      ⟨k1, c1, [], [], Same.refl k1, wr k1 H1 c1 [] [] s1 (.inr hD) (hkD s1.kn), pc1, upd_same, hkD s1.kn, .nil, rfl, Nat.zero_le _, fun d h => by cases h⟩ (fun m H' hm P => ⟨wipe1, ?_⟩) (fun H' P => ?_)
    · obtain ⟨k2, c2, xs, ds, kk2, s2, pc2, eD, kD, a2, hl, hmn, hpe⟩ := P
      unfold tYes
      refine iteT ?_
      have s3 : Stt Ts Mo k0 H0 k2 H' ((σ.set j none).set j (some (.int (0 + (m : Int))))) ((δ.set i (some (.own (o, c2)))).set j (dat (.int m))) := by
        have z := (s2.any j none).put j (v := .int (0 + (m : Int))) (d := .int m) (by rw [Int.zero_add]; exact .int _)
        have z2 : ((δ.set i (some (.own (o, c2)))).set j none).set j (dat (.int m)) = (δ.set i (some (.own (o, c2)))).set j (dat (.int m)) := List.set_set ..
        rw [z2] at z
        exact z
      refine call_W2 (i := i) (o := o) (c := c2) (by rw [List.getElem?_set_ne (Ne.symm hij), List.getElem?_set_self hid]) (he m c2) (hr c2 pc2) s3 (fun v k4 H4 c4 d l hp hl4 g4 s4 dv => ?_)
      have hl5 : σ[i]? = some (some (.ref l)) := by
        rw [List.getElem?_set_ne (Ne.symm hij), List.getElem?_set_ne (Ne.symm hij)] at hl4
        exact hl4
      have lD : l ≠ D := apC c2 i (o, c2) l (by rw [List.getElem?_set_self hid]) hl5
      have eD4 : H4 D = some (.lst xs) := g4.same D _ eD hDTs (by simpa using fun z => lD z.symm)
      have kD4 : k4 D = none := by rw [g4.dom D (by rw [eD]; simp)]; exact kD
      have s5 : Stt Ts Mo k0 H0 k4 H4 σ (δ.set i (some (.own (o, c4)))) := by
        have z := s4.any j σ[j]
        rw [hback] at z
        have z2 : (((δ.set i (some (.own (o, c2)))).set j (dat (.int m))).set i (some (.own (o, c4)))).set j none = δ.set i (some (.own (o, c4))) := by
          have z3 : (δ.set i (some (.own (o, c2)))).set j (dat (.int m)) = (δ.set j (dat (.int m))).set i (some (.own (o, c2))) := List.set_comm _ _ hij
          have z4 : (δ.set j (dat (.int m))).set i (some (.own (o, c4))) = (δ.set i (some (.own (o, c4)))).set j (dat (.int m)) := List.set_comm _ _ (Ne.symm hij)
          rw [z3, List.set_set, z4]
          exact dback c4 _
        rw [z2] at z
        exact z
      have a4 := DtA.up g4.kk _ _ a2
      refine ⟨xs, eD4, by rw [a2.length, hl]; have : (100000 : Nat) ≤ sizeLine := by decide
                          omega, k4, c4, xs ++ [v], ds ++ [d], kk2.trans g4.kk, wr k4 H4 c4 xs _ s5 (.inl eD4) kD4, hp.1, upd_same, kD4, a4.app (.one dv), by simp [hl], by omega, fun y hy => ?_⟩
      rcases List.mem_append.mp hy with hy | hy
      · exact hpe y hy
      · have : y = d := by simpa using hy
        rw [this]
        exact hp.2
    · obtain ⟨k2, c2, xs, ds, kk2, s2, pc2, eD, kD, a2, hl, hmn, hpe⟩ := P
      have g := s2.gr.know hD0 eD (fun _ => by simp) kD
      have up := Same.add (u := .lst xs) kD
      refine q _ _ H' _ _ (p c2 n ds pc2 hl pn hpe) (kk1.trans (kk2.trans up)) ⟨s2.kn0, g, s2.mo, ⟨s2.sl.len, fun i' => ?_⟩, s2.mine, s2.apart⟩ (.lst upd_same (DtA.up up _ _ a2))
      have := s2.sl.ok i'
      cases z : (δ.set i (some (.own (o, c2))))[i']? with
      | none => trivial
      | some x =>
        rw [z] at this
        cases x with
        | none => trivial
        | some x =>
          cases x with
          | dat d =>
            obtain ⟨x, f1, f2⟩ := this
            exact ⟨x, f1, Dt.up up _ _ f2⟩
          | dct es =>
            obtain ⟨x, kvs, f1, f2, f3⟩ := this
            exact ⟨x, kvs, f1, up _ _ f2, f3.up up⟩
          | own w =>
            obtain ⟨l, u, f1, f2, f3, f4, f5⟩ := this
            exact ⟨l, u, f1, f2, by rw [upd_ne (apC c2 i' w l z f1)]; exact f3, f4.up up, f5⟩
end
section
variable {Ts : List Addr} {K : PySem.W.Frag}
theorem rv_mul {i j : Int} (h : L2.CMul i j) : RvD Ts (rI CMul fun i j => .int (i * j)) (.int i) (.int j) (.int (i * j)) := fun k H x y hk hx hy Q q => by
  cases hx; cases hy
  exact ⟨i, j, rfl, rfl, h, q _ k H (Gr.refl hk) (.int _)⟩
theorem rv_sub {i j : Int} : RvD Ts (rI0 fun i j => .int (i - j)) (.int i) (.int j) (.int (i - j)) := fun k H x y hk hx hy Q q => by
  cases hx; cases hy
  exact ⟨i, j, rfl, rfl, q _ k H (Gr.refl hk) (.int _)⟩
theorem rv_modN {i j : Int} (h : j ≠ 0) : RvD Ts (rI (fun _ j => j ≠ 0) fun i j => .int (i.fmod j)) (.int i) (.int j) (.int (i.fmod j)) := fun k H x y hk hx hy Q q => by
  cases hx; cases hy
  exact ⟨i, j, rfl, rfl, h, q _ k H (Gr.refl hk) (.int _)⟩
theorem rv_fdivN {i j : Int} (h : L2.CDivN i j) : RvD Ts (rI CDivN fun i j => .int (i.fdiv j)) (.int i) (.int j) (.int (i.fdiv j)) := fun k H x y hk hx hy Q q => by
  cases hx; cases hy
  exact ⟨i, j, rfl, rfl, h, q _ k H (Gr.refl hk) (.int _)⟩
theorem rv_pow {i j : Int} (h : L2.CPow i j) : RvD Ts (rI CPow fun i j => .int (i ^ j.toNat)) (.int i) (.int j) (.int (i ^ j.toNat)) := fun k H x y hk hx hy Q q => by
  cases hx; cases hy
  exact ⟨i, j, rfl, rfl, h, q _ k H (Gr.refl hk) (.int _)⟩
theorem rv_ge {i j : Int} : RvD Ts (rI0 fun i j => .bl (decide (j ≤ i))) (.int i) (.int j) (.bool (decide (j ≤ i))) := fun k H x y hk hx hy Q q => by
  cases hx; cases hy
  exact ⟨i, j, rfl, rfl, q _ k H (Gr.refl hk) (.bl _)⟩
theorem rc_int1 {i : Int} : RcD Ts (fun xs H Q => (∃ i, xs = [V.int i] ∧ Q (V.int i) H) ∨ ∃ k, xs = [V.bl k] ∧ Q (V.int (if k = true then 1 else 0)) H) [.int i] (.int i) := fun k H xs hk h Q q => by
  cases h with
  | cons a b =>
    cases a; cases b
    exact .inl ⟨i, rfl, q _ k H (Gr.refl hk) (.int _)⟩
theorem rc_min2 {i j : Int} : RcD Ts (fun xs H Q => ∃ i j, xs = [V.int i, V.int j] ∧ Q (V.int (if j < i then j else i)) H) [.int i, .int j] (.int (if j < i then j else i)) := fun k H xs hk h Q q => by
  cases h with
  | cons a b =>
    cases b with
    | cons b c =>
      cases a; cases b; cases c
      exact ⟨i, j, rfl, q _ k H (Gr.refl hk) (.int _)⟩
end
end K33
end
section
set_option Elab.async false
set_option linter.all false
set_option maxRecDepth 100000
set_option maxHeartbeats 4000000
/-! W10: the law's draws. -/
namespace K33
open PySem L2 GxR
abbrev stL (a : Int) (p : Nat) (sc : List Int) (b : Int) : Cont := .l [.int a, pI p, .list (sc.map PyData.int), .int b]
def IsSt (sc : List Int) (c : Cont) : Prop := ∃ a p b, c = stL a p sc b
section
variable {P : Program} {w : World} {K : PySem.W.Frag} {mg : Str → Option Value} {base : Heap} {Ts Mo : List Addr}
theorem ev_rd {δ : Dl} {i : Nat} {o : Option Addr} {ds : List PyData} {k : Int} {d : PyData} (e : δ[i]? = some (some (.own (o, .l ds)))) (ha : atI ds k = some d) (f : Flat d) : EvD Ts (tOp (rIx K) (tVar i) (tC (.int k))) δ d := by
  refine ev_frz e (ev_op (d := d) (dx := .list ds) (ev_var ?_) ev_int (rv_ixL ha)) f
  have hi : i < δ.length := (List.getElem?_eq_some_iff.mp e).1
  rw [List.getElem?_set_self (by simpa using hi)]
  rfl
/-! ### _law_draw -/
abbrev NN__law_draw : List Str := ["_law_state", "_law_limit", "_law_position", "_law_cell", "_law_mixed", "_law_value"]
theorem sc_draw : FnScope NN__law_draw ["_law_state", "_law_limit"] (defScope (topS 30)) := ⟨rfl, rfl, rfl, by decide +kernel, rfl, by decide +kernel, by decide +kernel⟩
def R_draw (c : Cont) (ds : List PyData) (post : Cont → PyData → Prop) : Prop := ∃ (sc : List Int) (n : Nat), IsSt sc c ∧ 1 ≤ n ∧ n ≤ 1000 ∧ ds = [pI n] ∧ post = fun c' d => IsSt sc c' ∧ ∃ v : Nat, v < n ∧ d = pI v
theorem ok_draw (T : Txt mg) (D : Df K mg "_law_draw" 30 ["_law_state", "_law_limit"]) : FnOk P w K mg base CX0 1 D.a D.fd ["_law_state", "_law_limit"] (spW Ts R_draw) := by
  have sc := sc_draw
  refine fn_write D.F sc (fun c ds post h => ?_) (fun cdv A outer s H E c ds post l hr h => ?_)
  · obtain ⟨_, _, _, _, _, rfl, _⟩ := h; rfl
  obtain ⟨scr, n, ⟨a, p, b, rfl⟩, hn, hn2, rfl, rfl⟩ := h
  refine ⟨_, (pss_cons (ps_if (pt_cmpR op_lt (pe_ix ix_seq (pv 0) pe_int (fun _ _ => rfl)) (pv 1) (nomark _))
      (pss_cons (ps_set (i := 2) sc.nd rfl (Or.inl rfl) (pe_ix ix_seq (pv 0) pe_int (fun _ _ => rfl)))
      (pss_cons (ps_asg (pe_op op_add (pv 2) pe_int) (pg_sub (pv 0) pe_int set_list))
      (pss_cons (ps_set (i := 3) sc.nd rfl (Or.inl rfl) pe_int)
      (pss_cons (ps_if (pt_cmpR op_lt (pv 2) (pe_callB call_len_seq (by rfl) T.len PySem.boot_len (pa_cons (pe_ix ix_seq (pv 0) pe_int (fun _ _ => rfl)) pa_nil)) (nomark _))
        (pss_one (ps_set (i := 3) sc.nd rfl (Or.inl rfl) (pe_ix ix_seq (pe_ix ix_seq (pv 0) pe_int (fun _ _ => rfl)) (pv 2) (fun _ _ => rfl))))
        pss_nil)
      (pss_one (ps_if (pt_cmpR op_ge (pv 3) (pe_op op_pow pe_int pe_int) (nomark _))
        (pss_one (ps_asg (pv 3) (pg_sub (pv 0) pe_int set_list)))
        (pss_cons (ps_asg (pe_op op_modN (pe_callTy call_int1 (by rfl) T.int (by decide +kernel) (pa_cons (pe_op op_mul (pe_op op_add (pe_op op_add (pe_op op_add (pe_ix ix_seq (pv 0) pe_int (fun _ _ => rfl)) (pe_op op_modN (pe_callTy call_int1 (by rfl) T.int (by decide +kernel) (pa_cons (pv 3) pa_nil)) pe_int)) (pv 2)) pe_int) pe_int) pa_nil)) pe_int) (pg_sub (pv 0) pe_int set_list))
        (pss_cons (ps_set (i := 4) sc.nd rfl (Or.inl rfl) (pe_op op_modN (pe_callTy call_int1 (by rfl) T.int (by decide +kernel) (pa_cons (pe_op op_add (pe_op op_mul (pe_ix ix_seq (pv 0) pe_int (fun _ _ => rfl)) pe_int) pe_int) pa_nil)) pe_int))
        (pss_one (ps_asg (pe_op op_add (pe_op op_mul (pv 4) pe_int) (pe_op op_modN (pe_callTy call_int1 (by rfl) T.int (by decide +kernel) (pa_cons (pe_op op_add (pe_op op_mul (pv 4) pe_int) (pe_ix ix_seq (pv 0) pe_int (fun _ _ => rfl))) pa_nil)) pe_int)) (pg_sub (pv 0) pe_int set_list)))))))))))
      pss_nil)
    (pss_cons (ps_set (i := 5) sc.nd rfl (Or.inl rfl) (pe_op op_modN (pe_callTy call_int1 (by rfl) T.int (by decide +kernel) (pa_cons (pe_ix ix_seq (pv 0) pe_int (fun _ _ => rfl)) pa_nil)) (pv 1)))
    (pss_cons (ps_asg (pe_op op_fdivN (pe_ix ix_seq (pv 0) pe_int (fun _ _ => rfl)) (pv 1)) (pg_sub (pv 0) pe_int set_list))
    (pss_one (ps_ret (pv 5)))))), ?_⟩
  have g0 : ∀ (a : Int) (p : Nat) (b : Int) (x2 x3 x4 x5 : Option Sl), EvD Ts (tOp (rIx K) (tVar 0) (tC (.int 0))) [some (.own (some l, stL a p scr b)), dat (pI n), x2, x3, x4, x5] (.int a) := fun a p b x2 x3 x4 x5 => ev_rd rfl (at_0 _ _) trivial
  have g1 : ∀ (a : Int) (p : Nat) (b : Int) (x2 x3 x4 x5 : Option Sl), EvD Ts (tOp (rIx K) (tVar 0) (tC (.int 1))) [some (.own (some l, stL a p scr b)), dat (pI n), x2, x3, x4, x5] (pI p) := fun a p b x2 x3 x4 x5 => ev_rd rfl (at_1 _ _ _) trivial
  have g3 : ∀ (a : Int) (p : Nat) (b : Int) (x2 x3 x4 x5 : Option Sl), EvD Ts (tOp (rIx K) (tVar 0) (tC (.int 3))) [some (.own (some l, stL a p scr b)), dat (pI n), x2, x3, x4, x5] (.int b) := fun a p b x2 x3 x4 x5 => ev_rd rfl (at_3 _ _ _ _ _) trivial
  refine st_seq (N := fun δ => ∃ (a : Int) (p : Nat) (b : Int) (x2 x3 x4 x5 : Option Sl), δ = [some (.own (some l, stL a p scr b)), dat (pI n), x2, x3, x4, x5]) ?_ fun δ' ⟨a, p, b, x2, x3, x4, x5, e⟩ => e ▸ ?_
  · refine st_if (eb_test (ev_op (g0 _ _ _ _ _ _ _) (ev_var rfl) rv_lt)) (fun _ => ?_) (fun _ => st_next ⟨_, _, _, _, _, _, _, rfl⟩)
    refine st_seq1 (st_asg (g1 _ _ _ _ _ _ _) rfl) ?_
    refine st_seq1 (st_setL (j := 1) (d := pI (p + 1)) rfl (ev_op (ev_var rfl) ev_int rv_add) (by simp) rfl) ?_
    refine st_seq1 (st_asg ev_int rfl) ?_
    refine st_seq (N := fun δ => ∃ (y : Int) (x4 x5 : Option Sl), δ = [some (.own (some l, stL a (p + 1) scr b)), dat (pI n), dat (pI p), dat (.int y), x4, x5]) ?_ fun δ' ⟨y, x4, x5, e⟩ => e ▸ ?_
    · refine st_if (b := decide ((p : Int) < ((scr.map PyData.int).length : Int))) (eb_test (ev_op (ev_var rfl) (ev_frz (d := .int ((scr.map PyData.int).length : Nat)) (i := 0) rfl (ev_callR (ea_cons (ev_op (d := .list (scr.map PyData.int)) (ev_var rfl) ev_int (rv_ixL (at_2 _ _ _ _))) ea_nil) rc_len) trivial) rv_lt)) (fun h => ?_) (fun _ => st_next ⟨0, _, _, rfl⟩)
      have h := of_decide_eq_true h
      have hp : p < scr.length := by simp at h; omega
      refine st_asg (d := .int scr[p]) (ev_frz (i := 0) rfl (ev_op (ev_op (d := .list (scr.map PyData.int)) (ev_var rfl) ev_int (rv_ixL (at_2 _ _ _ _))) (ev_var rfl) (rv_ixL (atI_nat (by rw [List.getElem?_map, List.getElem?_eq_getElem hp]; rfl)))) trivial) ⟨scr[p], none, none, rfl⟩
    refine st_if (eb_test (ev_op (ev_var rfl) (ev_op ev_int ev_int (rv_pow ⟨by decide, by decide, by decide⟩)) rv_ge)) (fun _ => ?_) (fun _ => ?_)
    · exact st_setL (j := 0) rfl (ev_var rfl) (by simp) ⟨y, p + 1, b, _, _, _, _, rfl⟩
    · refine st_seq1 (st_setL (j := 3) rfl (ev_op (ev_callR (ea_cons (ev_op (ev_op (ev_op (ev_op (g3 _ _ _ _ _ _ _) (ev_op (ev_callR (ea_cons (ev_var rfl) ea_nil) rc_int1) ev_int (rv_modN (by decide))) rv_add) (ev_var rfl) rv_add) ev_int rv_add) ev_int (rv_mul (.inr (by decide)))) ea_nil) rc_int1) ev_int (rv_modN (by decide))) (by simp) rfl) ?_
      refine st_seq1 (st_asg (ev_op (ev_callR (ea_cons (ev_op (ev_op (g3 _ _ _ _ _ _ _) ev_int (rv_mul (.inr (by decide)))) ev_int rv_add) ea_nil) rc_int1) ev_int (rv_modN (by decide))) rfl) ?_
      refine st_setL (j := 0) rfl (ev_op (ev_op (ev_var rfl) ev_int (rv_mul (.inr (by decide)))) (ev_op (ev_callR (ea_cons (ev_op (ev_op (ev_var rfl) ev_int (rv_mul (.inr (by decide)))) (g3 _ _ _ _ _ _ _) rv_add) ea_nil) rc_int1) ev_int (rv_modN (by decide))) rv_add) (by simp) ⟨_, p + 1, _, _, _, _, _, rfl⟩
  refine st_seq1 (st_asg (ev_op (ev_callR (ea_cons (g0 _ _ _ _ _ _ _) ea_nil) rc_int1) (ev_var rfl) (rv_modN (by omega))) rfl) ?_
  refine st_seq1 (st_setL (j := 0) rfl (ev_op (g0 _ _ _ _ _ _ _) (ev_var rfl) (rv_fdivN ⟨by omega, by omega⟩)) (by simp) rfl) ?_
  have h1 := Int.fmod_nonneg_of_pos a (show (0 : Int) < n by omega)
  have h2 := Int.fmod_lt_of_pos a (show (0 : Int) < n by omega)
  refine st_ret (ev_var rfl) ⟨_, rfl, ⟨_, p, b, rfl⟩, (a.fmod n).toNat, by omega, ?_⟩
  show PyData.int _ = PyData.int _
  rw [show ((a.fmod n).toNat : Int) = a.fmod n by omega]
theorem ew_draw {δ : Dl} {i : Nat} {o : Option Addr} {c : Cont} {scr : List Int} {n : Nat} {E : XK} {te : TE} {post : Dl → PyData → Prop} (e : δ[i]? = some (some (.own (o, c)))) (hc : IsSt scr c) (h1 : 1 ≤ n) (h2 : n ≤ 1000) (h : EvD Ts te δ (pI n))
    (p : ∀ c' v, IsSt scr c' → v < n → post (δ.set i (some (.own (o, c')))) (pI v)) : EvW Ts Mo (tCall (spW Ts R_draw) [] E (tCons (tVar i) (tCons te tNil))) δ post :=
  ew_call e (ea_cons h ea_nil) ⟨scr, n, hc, h1, h2, rfl, rfl⟩ fun c' d ⟨q1, v, q2, q3⟩ => q3 ▸ p c' v q1 q2
/-! ### _law_next -/
abbrev NN__law_next : List Str := ["_law_state", "_law_at", "_law_many", "_law_kind", "_law_choice"]
abbrev PP_next : List Str := ["_law_state", "_law_at", "_law_many", "_law_kind"]
theorem sc_next : FnScope NN__law_next PP_next (defScope (topS 31)) := ⟨rfl, rfl, rfl, by decide +kernel, rfl, by decide +kernel, by decide +kernel⟩
def R_next (c : Cont) (ds : List PyData) (post : Cont → PyData → Prop) : Prop := ∃ (sc : List Int) (at_ m kd : Nat), IsSt sc c ∧ at_ < m ∧ m ≤ 24 ∧ ds = [pI at_, pI m, pI kd] ∧ post = fun c' d => IsSt sc c' ∧ ∃ v : Nat, v < m ∧ d = pI v
theorem ok_next (T : Txt mg) (D__law_draw : Df K mg "_law_draw" 30 ["_law_state", "_law_limit"]) (D : Df K mg "_law_next" 31 PP_next) : FnOk P w K mg base CX0 2 D.a D.fd PP_next (spW Ts R_next) := by
  have sc := sc_next
  have G__law_draw := ok_draw (P := P) (w := w) (base := base) (Ts := Ts) T D__law_draw
  refine fn_write D.F sc (fun c ds post h => ?_) (fun cdv A outer s H E c ds post l hr h => ?_)
  · obtain ⟨_, _, _, _, _, _, _, rfl, _⟩ := h; rfl
  obtain ⟨scr, at_, m, kd, hc, hat, hm, rfl, rfl⟩ := h
  refine ⟨_, (pss_cons (ps_if (pt_cmpR op_eq (pv 3) pe_int (nomark _))
      (pss_one (ps_ret (pe_call G__law_draw (hr.mono (by omega)) rfl D__law_draw.m D__law_draw.F.kp D__law_draw.b .nil pass0 (pa_cons (pv 0) (pa_cons (pv 2) pa_nil)))))
      pss_nil)
    (pss_cons (ps_set (i := 4) sc.nd rfl (Or.inl rfl) (pe_call G__law_draw (hr.mono (by omega)) rfl D__law_draw.m D__law_draw.F.kp D__law_draw.b .nil pass0 (pa_cons (pv 0) (pa_cons pe_int pa_nil))))
    (pss_cons (ps_if (pt_cmpR op_eq (pv 4) pe_int (nomark _))
      (pss_one (ps_ret (pe_call G__law_draw (hr.mono (by omega)) rfl D__law_draw.m D__law_draw.F.kp D__law_draw.b .nil pass0 (pa_cons (pv 0) (pa_cons (pe_op op_add (pv 1) pe_int) pa_nil)))))
      pss_nil)
    (pss_cons (ps_if (pt_cmpR op_eq (pv 4) pe_int (nomark _))
      (pss_one (ps_ret (pe_callB (call_min2 rfl) (by rfl) T.min (by decide +kernel) (pa_cons (pe_op op_sub (pv 2) pe_int) (pa_cons (pe_op op_add (pe_op op_add (pv 1) pe_int) (pe_call G__law_draw (hr.mono (by omega)) rfl D__law_draw.m D__law_draw.F.kp D__law_draw.b .nil pass0 (pa_cons (pv 0) (pa_cons pe_int pa_nil)))) pa_nil)))))
      pss_nil)
    (pss_one (ps_ret (pe_callB (call_min2 rfl) (by rfl) T.min (by decide +kernel) (pa_cons (pe_op op_sub (pv 2) pe_int) (pa_cons (pe_op op_add (pv 1) pe_int) pa_nil))))))))), ?_⟩
  refine st_ifr (eb_test (ev_op (ev_var rfl) ev_int rv_eqI)) (fun _ => ?_) (fun _ => ?_)
  · exact sw_ret (ew_draw rfl hc (by omega) (by omega) (ev_var rfl) fun c' v h1 h2 => ⟨c', rfl, h1, v, h2, rfl⟩)
  refine st_seq (N := fun δ => ∃ (c : Cont) (v : Nat), IsSt scr c ∧ δ = [some (.own (some l, c)), dat (pI at_), dat (pI m), dat (pI kd), dat (pI v)]) (sw_asg (ew_draw (n := 6) rfl hc (by omega) (by omega) ev_int fun c' v h1 h2 => ⟨c', v, h1, rfl⟩)) fun δ' ⟨c, v, hc, e⟩ => e ▸ ?_
  refine st_ifr (eb_test (ev_op (ev_var rfl) ev_int rv_eqI)) (fun _ => ?_) (fun _ => ?_)
  · exact sw_ret (ew_draw (n := at_ + 1) rfl hc (by omega) (by omega) (ev_op (ev_var rfl) ev_int rv_add) fun c' v h1 h2 => ⟨c', rfl, h1, v, by omega, rfl⟩)
  have mn : ∀ a b : Nat, (.int (if (b : Int) < (a : Int) then (b : Int) else (a : Int)) : PyData) = pI (if b < a then b else a) := fun a b => by
    show PyData.int _ = PyData.int _
    by_cases q : b < a
    · rw [if_pos q, if_pos (by omega)]
    · rw [if_neg q, if_neg (by omega)]
  have ms : (.int ((m : Int) - 1) : PyData) = pI (m - 1) := by
    show PyData.int _ = PyData.int _
    rw [show ((m - 1 : Nat) : Int) = (m : Int) - 1 by omega]
  refine st_ifr (eb_test (ev_op (ev_var rfl) ev_int rv_eqI)) (fun _ => ?_) (fun _ => ?_)
  · refine sw_ret (ew_callR (pb := fun δ' ds => ∃ (c' : Cont) (u : Nat), IsSt scr c' ∧ ds = [pI (m - 1), pI (at_ + 1 + u)] ∧ δ' = [some (.own (some l, c')), dat (pI at_), dat (pI m), dat (pI kd), dat (pI v)]) (eaw_cons (pa := fun δ' d => d = pI (m - 1) ∧ δ' = [some (.own (some l, c)), dat (pI at_), dat (pI m), dat (pI kd), dat (pI v)]) (ew_pure (ev_is (ev_op (ev_var rfl) ev_int rv_sub) ms) ⟨rfl, rfl⟩) fun δ' d ⟨h1, h2⟩ => ?_) fun δ' ds ⟨c', u, h1, h2, h3⟩ => ?_)
    · subst h1 h2
      refine eaw_cons (pa := fun δ' d => ∃ (c' : Cont) (u : Nat), IsSt scr c' ∧ d = pI (at_ + 1 + u) ∧ δ' = [some (.own (some l, c')), dat (pI at_), dat (pI m), dat (pI kd), dat (pI v)]) (ew_op (pa := fun δ' d => d = pI (at_ + 1) ∧ δ' = [some (.own (some l, c)), dat (pI at_), dat (pI m), dat (pI kd), dat (pI v)]) (ew_pure (ev_op (ev_var rfl) ev_int rv_add) ⟨rfl, rfl⟩) fun δ' d ⟨h1, h2⟩ => ?_) fun δ' d ⟨c', u, h1, h2, h3⟩ => eaw_nil ⟨c', u, h1, by rw [h2], h3⟩
      subst h1 h2
      exact ew_draw (n := 3) rfl hc (by omega) (by omega) ev_int fun c' u h1 h2 => ⟨_, rv_add, c', u, h1, rfl, rfl⟩
    · subst h2 h3
      exact ⟨_, rc_min2, c', rfl, h1, _, by split <;> omega, mn _ _⟩
  · exact st_ret (d := pI (if at_ + 1 < m - 1 then at_ + 1 else m - 1)) (ev_is (ev_callR (ea_cons (ev_is (ev_op (ev_var rfl) ev_int rv_sub) ms) (ea_cons (ev_op (d := pI (at_ + 1)) (ev_var rfl) ev_int rv_add) ea_nil)) rc_min2) (mn _ _)) ⟨c, rfl, hc, _, by split <;> omega, rfl⟩
end
end K33
end
section
set_option Elab.async false
set_option linter.all false
set_option maxRecDepth 100000
set_option maxHeartbeats 2000000
/-! L14: how long a datum's text is. -/
namespace K33
open PySem L2
/-- shown in at most n signs, and showable -/
structure Sh (d : PyData) (n : Nat) : Prop where
  ok : d.showable = true
  ln : d.shown.length ≤ n
  nd : d.hasDict = false
structure ShA (ds : List PyData) (n : Nat) : Prop where
  ok : PyData.showableAll ds = true
  ln : piled (PyData.shownAll ds) ≤ n
  nd : PyData.hasDictAll ds = false
theorem ShA.nil : ShA [] 0 := ⟨rfl, by simp [PyData.shownAll, piled], rfl⟩
theorem ShA.cons {d : PyData} {ds : List PyData} {n m : Nat} (a : Sh d n) (b : ShA ds m) : ShA (d :: ds) (n + 2 + m) := ⟨by simp [PyData.showableAll, a.ok, b.ok], by
  simp only [PyData.shownAll, piled_cons]
  have := a.ln
  have := b.ln
  omega, by simp [PyData.hasDictAll, a.nd, b.nd]⟩
theorem Sh.mono {d : PyData} {n m : Nat} (a : Sh d n) (h : n ≤ m) : Sh d m := ⟨a.ok, Nat.le_trans a.ln h, a.nd⟩
theorem ShA.mono {d : List PyData} {n m : Nat} (a : ShA d n) (h : n ≤ m) : ShA d m := ⟨a.ok, Nat.le_trans a.ln h, a.nd⟩
theorem ShA.app {ds es : List PyData} {n m : Nat} (a : ShA ds n) (b : ShA es m) : ShA (ds ++ es) (n + m) := by
  induction ds generalizing n with
  | nil => exact b.mono (by omega)
  | cons d r ih =>
    have a1 := a.ok
    have a2 := a.ln
    have a3 := a.nd
    simp only [PyData.showableAll, Bool.and_eq_true] at a1
    simp only [PyData.shownAll, piled_cons] at a2
    simp only [PyData.hasDictAll, Bool.or_eq_false_iff] at a3
    have z := ShA.cons (d := d) ⟨a1.1, Nat.le_refl _, a3.1⟩ (ih ⟨a1.2, Nat.le_refl _, a3.2⟩)
    exact z.mono (by omega)
theorem str_len_append (a b : Str) : (a ++ b).length = a.length + b.length := by
  show (a.cps ++ b.cps).size = a.cps.size + b.cps.size
  exact Array.size_append
theorem Sh.tup {ds : List PyData} {n : Nat} (a : ShA ds n) : Sh (.tuple ds) (n + 4) := ⟨by simp [PyData.showable, a.ok], by
  have h := a.ln
  have e : (PyData.tuple ds).shown = tupleText (PyData.shownAll ds) := by simp [PyData.shown]
  rw [e]
  unfold tupleText
  rw [str_len_append, str_len_append]
  have h1 : (("(" : Str)).length = 1 := by decide +kernel
  have h2 : ((if (PyData.shownAll ds).length == 1 then ",)" else ")" : String) : Str).length ≤ 2 := by
    split <;> decide +kernel
  have h3 : (Str.join ", " (PyData.shownAll ds)).length ≤ piled (PyData.shownAll ds) := by
    cases hd : PyData.shownAll ds with
    | nil => exact Nat.le_of_eq (by decide +kernel)
    | cons t ts =>
      have := join_length_add (t :: ts) (by simp)
      omega
  rw [h1]
  omega, by simp [PyData.hasDict, a.nd]⟩
theorem Sh.int {n : Nat} (h : n < 1000000) : Sh (pI n) 8 := ⟨by
  have : n.log2 < 1920 := by
    by_cases z : n = 0
    · subst z; decide
    · exact (Nat.log2_lt z).mpr (Nat.lt_of_lt_of_le h (by
        have : (1000000 : Nat) ≤ 2 ^ 20 := by decide
        exact Nat.le_trans this (Nat.pow_le_pow_right (by decide) (by decide))))
  simp [PyData.showable, this], by
  have e : (pI n).shown = Str.ofString (toString (n : Int)) := by simp [PyData.shown]
  rw [e, ofString_length]
  have := int_text_length_le10 (a := (n : Int)) (k := 7) (by decide) (by
    show n < 10 ^ 7
    omega)
  omega, by simp [PyData.hasDict]⟩
theorem Sh.str {x : Str} {n : Nat} (h : (reprText x).length ≤ n) : Sh (.str x) n := ⟨by simp [PyData.showable], by simpa [PyData.shown] using h, by simp [PyData.hasDict]⟩
end K33
end
section
set_option Elab.async false
set_option linter.all false
set_option maxRecDepth 100000
set_option maxHeartbeats 8000000
/-! W11: the law's rows. -/
namespace K33
open PySem L2 GxR
structure ActG (a : Act) : Prop where
  lay : (encAct a).canLay0 = true
  dp : (encAct a).depth ≤ 5
  sh : Sh (encAct a) 300
  ex : Sh (exprA a) 300
structure GoodRow (m : Nat) (r : Row) : Prop where
  nx : ∀ x ∈ r.nexts, x < m
  four : r.nexts.length ≤ 4
  br : ∀ e, r.act = .br e → r.nexts.length = 2
  sel : ∀ e, r.act = .sel e → r.nexts ≠ []
  oth : ∀ nm l, r.act = .oth nm l → r.nexts.length ≤ 1 ∧ (nm ∈ endsL ↔ r.nexts = []) ∧ nm ≠ "branch" ∧ nm ≠ "select"
  act : ActG r.act
  cnt : r.count < 1000000
def GoodRows (rs : List Row) : Prop := 0 < rs.length ∧ rs.length ≤ 24 ∧ ∀ r ∈ rs, GoodRow rs.length r
theorem rowAt_mem {rs : List Row} {n : Nat} (h : n < rs.length) : rowAt rs n ∈ rs := by
  unfold rowAt
  rw [List.getD_eq_getElem?_getD, List.getElem?_eq_getElem h]
  exact List.getElem_mem h
theorem rowAt_out {rs : List Row} {n : Nat} (h : ¬ n < rs.length) : rowAt rs n = ⟨.oth "" [], 0, []⟩ := by
  unfold rowAt
  rw [List.getD_eq_getElem?_getD, List.getElem?_eq_none (by omega)]
  rfl
theorem GoodRows.rg {rs : List Row} (h : GoodRows rs) : RG rs := by
  obtain ⟨h1, h2, h3⟩ := h
  refine ⟨h1, h2, fun x m hm => ?_, ⟨fun x hx => ?_, fun x hx => ?_, fun x hx => ?_, fun x => ?_⟩, fun n nm l hn e => ?_, fun n nm l e => ?_⟩
  · by_cases q : x < rs.length
    · exact (h3 _ (rowAt_mem q)).nx m hm
    · rw [nxOf, rowAt_out q] at hm; cases hm
  · by_cases q : x < rs.length
    · obtain ⟨e, he⟩ := act_br hx
      exact (h3 _ (rowAt_mem q)).br e he
    · rw [kdOf, rowAt_out q] at hx; cases hx
  · by_cases q : x < rs.length
    · obtain ⟨e, he⟩ := act_sel hx
      exact (h3 _ (rowAt_mem q)).sel e he
    · rw [kdOf, rowAt_out q] at hx; cases hx
  · by_cases q : x < rs.length
    · obtain ⟨a, b, he⟩ := act_oth hx
      exact ((h3 _ (rowAt_mem q)).oth a b he).1
    · rw [nxOf, rowAt_out q]; simp
  · by_cases q : x < rs.length
    · exact (h3 _ (rowAt_mem q)).four
    · rw [nxOf, rowAt_out q]; simp
  · exact ((h3 _ (rowAt_mem hn)).oth nm l e).2.1
  · by_cases q : n < rs.length
    · exact ((h3 _ (rowAt_mem q)).oth nm l e).2.2
    · rw [rowAt_out q] at e
      cases e
      exact ⟨by decide +kernel, by decide +kernel⟩
def wordD (n : Nat) : PyData := .tuple [.str "word", pI n]
def haltD : Nat → Nat → Act
  | 0, _ => .oth "halt" []
  | 1, n => .oth "trap" [pI n]
  | 2, n => .oth "back" [.tuple [wordD n]]
  | _, _ => .oth "lost" []
def passD : Nat → Nat → Act
  | 0, n => .oth "output" [wordD n]
  | 1, n => .oth "input" [pI n]
  | 2, _ => .oth "pass" []
  | _, n => .oth "assign" [pI n, .tuple [.str "word", .int 7]]
theorem lay_pI (n : Nat) : (pI n).canLay0 = true := by simp [PyData.canLay0]
theorem actG_var (n : Nat) (s : Str) (hs : (PyData.str s).canLay0 = true) : (PyData.tuple [.str s, .tuple [.str "variable", pI n]]).canLay0 = true ∧ (PyData.tuple [.str s, .tuple [.str "variable", pI n]]).depth ≤ 5 := by
  constructor
  · have h1 : (PyData.str ("variable" : Str)).canLay0 = true := by decide +kernel
    simp only [PyData.canLay0, PyData.canLayAll0, Bool.and_true] at *
    simp [hs, h1]
  · simp [PyData.depth, PyData.depthAll]
theorem sh_none : Sh .none 4 := ⟨rfl, by decide +kernel, rfl⟩
theorem sh_nil : ShA [] 0 := ShA.nil
theorem sh_var {n : Nat} (h : n < 1000000) : Sh (.tuple [.str "variable", pI n]) 40 := (Sh.tup (ShA.cons (Sh.str (n := 20) (by decide +kernel)) (ShA.cons (Sh.int h) ShA.nil))).mono (by omega)
theorem sh_word {n : Nat} (h : n < 1000000) : Sh (wordD n) 40 := (Sh.tup (ShA.cons (Sh.str (n := 20) (by decide +kernel)) (ShA.cons (Sh.int h) ShA.nil))).mono (by omega)
theorem good_br {m n cnt a b : Nat} (hn : n < 1000000) (hc : cnt < 1000000) (ha : a < m) (hb : b < m) : GoodRow m ⟨.br (.tuple [.str "variable", pI n]), cnt, [a, b]⟩ := by
  refine ⟨fun x hx => ?_, by simp, fun e _ => rfl, fun e h => by simp at h, fun nm l h => by simp at h, ⟨(actG_var n "branch" (by decide +kernel)).1, (actG_var n "branch" (by decide +kernel)).2, (Sh.tup (ShA.cons (Sh.str (n := 20) (by decide +kernel)) (ShA.cons (sh_var hn) ShA.nil))).mono (by omega), (sh_var hn).mono (by omega)⟩, hc⟩
  simp at hx
  rcases hx with h | h <;> omega
theorem good_sel {m n cnt : Nat} {l : List Nat} (hn : n < 1000000) (hc : cnt < 1000000) (h : ∀ x ∈ l, x < m) (h1 : l ≠ []) (h2 : l.length ≤ 4) : GoodRow m ⟨.sel (.tuple [.str "variable", pI n]), cnt, l⟩ :=
  ⟨h, h2, fun e h => by simp at h, fun e _ => h1, fun nm l h => by simp at h, ⟨(actG_var n "select" (by decide +kernel)).1, (actG_var n "select" (by decide +kernel)).2, (Sh.tup (ShA.cons (Sh.str (n := 20) (by decide +kernel)) (ShA.cons (sh_var hn) ShA.nil))).mono (by omega), (sh_var hn).mono (by omega)⟩, hc⟩
theorem actG_halt (v n : Nat) (hn : n < 1000000) : ActG (haltD v n) := by
  match v with
  | 0 => exact ⟨by simp [haltD, encAct, PyData.canLay0, PyData.canLayAll0]; decide +kernel, by simp [haltD, encAct, PyData.depth, PyData.depthAll], (Sh.tup (ShA.cons (Sh.str (n := 20) (by decide +kernel)) ShA.nil)).mono (by omega), sh_none.mono (by omega)⟩
  | 1 => exact ⟨by simp [haltD, encAct, PyData.canLay0, PyData.canLayAll0]; decide +kernel, by simp [haltD, encAct, PyData.depth, PyData.depthAll], (Sh.tup (ShA.cons (Sh.str (n := 20) (by decide +kernel)) (ShA.cons (Sh.int hn) ShA.nil))).mono (by omega), sh_none.mono (by omega)⟩
  | 2 => exact ⟨by simp [haltD, encAct, wordD, PyData.canLay0, PyData.canLayAll0]; decide +kernel, by simp [haltD, encAct, wordD, PyData.depth, PyData.depthAll], (Sh.tup (ShA.cons (Sh.str (n := 20) (by decide +kernel)) (ShA.cons (Sh.tup (ShA.cons (sh_word hn) ShA.nil)) ShA.nil))).mono (by omega), sh_none.mono (by omega)⟩
  | v + 3 => exact ⟨by simp [haltD, encAct, PyData.canLay0, PyData.canLayAll0]; decide +kernel, by simp [haltD, encAct, PyData.depth, PyData.depthAll], (Sh.tup (ShA.cons (Sh.str (n := 20) (by decide +kernel)) ShA.nil)).mono (by omega), sh_none.mono (by omega)⟩
theorem actG_pass (v n : Nat) (hn : n < 1000000) : ActG (passD v n) := by
  match v with
  | 0 => exact ⟨by simp [passD, encAct, wordD, PyData.canLay0, PyData.canLayAll0]; decide +kernel, by simp [passD, encAct, wordD, PyData.depth, PyData.depthAll], (Sh.tup (ShA.cons (Sh.str (n := 20) (by decide +kernel)) (ShA.cons (sh_word hn) ShA.nil))).mono (by omega), sh_none.mono (by omega)⟩
  | 1 => exact ⟨by simp [passD, encAct, PyData.canLay0, PyData.canLayAll0]; decide +kernel, by simp [passD, encAct, PyData.depth, PyData.depthAll], (Sh.tup (ShA.cons (Sh.str (n := 20) (by decide +kernel)) (ShA.cons (Sh.int hn) ShA.nil))).mono (by omega), sh_none.mono (by omega)⟩
  | 2 => exact ⟨by simp [passD, encAct, PyData.canLay0, PyData.canLayAll0]; decide +kernel, by simp [passD, encAct, PyData.depth, PyData.depthAll], (Sh.tup (ShA.cons (Sh.str (n := 20) (by decide +kernel)) ShA.nil)).mono (by omega), sh_none.mono (by omega)⟩
  | v + 3 => exact ⟨by simp [passD, encAct, PyData.canLay0, PyData.canLayAll0]; decide +kernel, by simp [passD, encAct, PyData.depth, PyData.depthAll], (Sh.tup (ShA.cons (Sh.str (n := 20) (by decide +kernel)) (ShA.cons (Sh.int hn) (ShA.cons (sh_word (n := 7) (by omega)) ShA.nil)))).mono (by omega), sh_none.mono (by omega)⟩
theorem halt_nm (v n : Nat) : ∀ nm l, haltD v n = .oth nm l → nm ∈ endsL ∧ nm ≠ "branch" ∧ nm ≠ "select" := fun nm l h => by
  match v with
  | 0 => cases h; decide +kernel
  | 1 => cases h; decide +kernel
  | 2 => cases h; decide +kernel
  | v + 3 => cases h; decide +kernel
theorem pass_nm (v n : Nat) : ∀ nm l, passD v n = .oth nm l → nm ∉ endsL ∧ nm ≠ "branch" ∧ nm ≠ "select" := fun nm l h => by
  match v with
  | 0 => cases h; decide +kernel
  | 1 => cases h; decide +kernel
  | 2 => cases h; decide +kernel
  | v + 3 => cases h; decide +kernel
theorem halt_oth (v n : Nat) : ∃ nm l, haltD v n = .oth nm l := by
  match v with
  | 0 => exact ⟨_, _, rfl⟩
  | 1 => exact ⟨_, _, rfl⟩
  | 2 => exact ⟨_, _, rfl⟩
  | v + 3 => exact ⟨_, _, rfl⟩
theorem pass_oth (v n : Nat) : ∃ nm l, passD v n = .oth nm l := by
  match v with
  | 0 => exact ⟨_, _, rfl⟩
  | 1 => exact ⟨_, _, rfl⟩
  | 2 => exact ⟨_, _, rfl⟩
  | v + 3 => exact ⟨_, _, rfl⟩
theorem good_halt {m n cnt v : Nat} (hn : n < 1000000) (hc : cnt < 1000000) : GoodRow m ⟨haltD v n, cnt, []⟩ := by
  obtain ⟨nm0, l0, e0⟩ := halt_oth v n
  refine ⟨(fun x hx => by cases hx), by simp, fun e h => ?_, fun e h => ?_, fun nm l h => ?_, actG_halt v n hn, hc⟩
  · rw [e0] at h; cases h
  · rw [e0] at h; cases h
  · have := halt_nm v n nm l h
    exact ⟨by simp, by simp [this.1], this.2⟩
theorem good_pass {m n cnt v a : Nat} (hn : n < 1000000) (hc : cnt < 1000000) (ha : a < m) : GoodRow m ⟨passD v n, cnt, [a]⟩ := by
  obtain ⟨nm0, l0, e0⟩ := pass_oth v n
  refine ⟨fun x hx => ?_, by simp, fun e h => ?_, fun e h => ?_, fun nm l h => ?_, actG_pass v n hn, hc⟩
  · simp at hx; omega
  · rw [e0] at h; cases h
  · rw [e0] at h; cases h
  · have := pass_nm v n nm l h
    exact ⟨by simp, by simp [this.1], this.2⟩
section
variable {P : Program} {w : World} {K : PySem.W.Frag} {mg : Str → Option Value} {base : Heap} {Ts Mo : List Addr}
abbrev NN__law_rows : List Str := ["_law_state", "_law_most", "_law_many", "_law_kind", "_law_rows_here", "_law_at", "_law_choice", "_law_count", "_law_act", "_law_nexts", "_law_k"]
theorem sc_rows : FnScope NN__law_rows ["_law_state", "_law_most"] (defScope (topS 32)) := ⟨rfl, rfl, rfl, by decide +kernel, rfl, by decide +kernel, by decide +kernel⟩
def R_rows (c : Cont) (ds : List PyData) (post : Cont → PyData → Prop) : Prop := ∃ (sc : List Int) (most : Nat), IsSt sc c ∧ 1 ≤ most ∧ most ≤ 24 ∧ ds = [pI most] ∧ post = fun c' d => IsSt sc c' ∧ ∃ rs, GoodRows rs ∧ d = encRows rs
theorem ew_next {δ : Dl} {i : Nat} {o : Option Addr} {c : Cont} {scr : List Int} {at_ m kd : Nat} {E : XK} {ta tb te : TE} {post : Dl → PyData → Prop} (e : δ[i]? = some (some (.own (o, c)))) (hc : IsSt scr c) (h1 : at_ < m) (h2 : m ≤ 24) (ha : EvD Ts ta δ (pI at_)) (hb : EvD Ts tb δ (pI m)) (hk : EvD Ts te δ (pI kd))
    (p : ∀ c' v, IsSt scr c' → v < m → post (δ.set i (some (.own (o, c')))) (pI v)) : EvW Ts Mo (tCall (spW Ts R_next) [] E (tCons (tVar i) (tCons ta (tCons tb (tCons te tNil))))) δ post :=
  ew_call e (ea_cons ha (ea_cons hb (ea_cons hk ea_nil))) ⟨scr, at_, m, kd, hc, h1, h2, rfl, rfl⟩ fun c' d ⟨q1, v, q2, q3⟩ => q3 ▸ p c' v q1 q2
theorem ok_rows (T : Txt mg) (D__law_draw : Df K mg "_law_draw" 30 ["_law_state", "_law_limit"]) (D__law_next : Df K mg "_law_next" 31 PP_next) (D : Df K mg "_law_rows" 32 ["_law_state", "_law_most"]) : FnOk P w K mg base CX0 3 D.a D.fd ["_law_state", "_law_most"] (spW Ts R_rows) := by
  have sc := sc_rows
  have G__law_draw := ok_draw (P := P) (w := w) (base := base) (Ts := Ts) T D__law_draw
  have G__law_next := ok_next (P := P) (w := w) (base := base) (Ts := Ts) T D__law_draw D__law_next
  refine fn_write D.F sc (fun c ds post h => ?_) (fun cdv A outer s H E c ds post l hr h => ?_)
  · obtain ⟨_, _, _, _, _, rfl, _⟩ := h; rfl
  obtain ⟨scr, most, hc, hm1, hm2, rfl, rfl⟩ := h
  refine ⟨_, (pss_cons (ps_set (i := 2) sc.nd rfl (Or.inr rfl) (pe_op op_add pe_int (pe_call G__law_draw (hr.mono (by omega)) rfl D__law_draw.m D__law_draw.F.kp D__law_draw.b .nil pass0 (pa_cons (pv 0) (pa_cons (pv 1) pa_nil)))))
    (pss_cons (ps_set (i := 3) sc.nd rfl (Or.inr rfl) (pe_call G__law_draw (hr.mono (by omega)) rfl D__law_draw.m D__law_draw.F.kp D__law_draw.b .nil pass0 (pa_cons (pv 0) (pa_cons pe_int pa_nil))))
    (pss_cons (ps_set (i := 4) sc.nd rfl (Or.inl rfl) (pe_lst pa_nil))
    (pss_cons (ps_for PassesOwn.never rfl (pi_range1 rfl T.range (pa_cons (pv 2) pa_nil)) (pg_name (i := 5) sc.nd rfl (Or.inr rfl))
      (pss_cons (ps_set (i := 6) sc.nd rfl (Or.inl rfl) (pe_call G__law_draw (hr.mono (by omega)) rfl D__law_draw.m D__law_draw.F.kp D__law_draw.b .nil pass0 (pa_cons (pv 0) (pa_cons pe_int pa_nil))))
      (pss_cons (ps_set (i := 7) sc.nd rfl (Or.inl rfl) (pe_op op_add pe_int (pe_call G__law_draw (hr.mono (by omega)) rfl D__law_draw.m D__law_draw.F.kp D__law_draw.b .nil pass0 (pa_cons (pv 0) (pa_cons pe_int pa_nil)))))
      (pss_cons (ps_if (pt_cmpR op_le (pv 6) pe_int (nomark _))
        (pss_cons (ps_set (i := 8) sc.nd rfl (Or.inl rfl) (pe_tup (pa_cons pe_str (pa_cons (pe_tup (pa_cons pe_str (pa_cons (pv 5) pa_nil))) pa_nil))))
        (pss_one (ps_set (i := 9) sc.nd rfl (Or.inl rfl) (pe_tup (pa_cons (pe_call G__law_next (hr.mono (by omega)) rfl D__law_next.m D__law_next.F.kp D__law_next.b .nil pass0 (pa_cons (pv 0) (pa_cons (pv 5) (pa_cons (pv 2) (pa_cons (pv 3) pa_nil))))) (pa_cons (pe_call G__law_next (hr.mono (by omega)) rfl D__law_next.m D__law_next.F.kp D__law_next.b .nil pass0 (pa_cons (pv 0) (pa_cons (pv 5) (pa_cons (pv 2) (pa_cons (pv 3) pa_nil))))) pa_nil))))))
        (pss_one (ps_if (pt_cmpR op_eq (pv 6) pe_int (nomark _))
          (pss_cons (ps_set (i := 8) sc.nd rfl (Or.inl rfl) (pe_tup (pa_cons pe_str (pa_cons (pe_tup (pa_cons pe_str (pa_cons (pv 5) pa_nil))) pa_nil))))
          (pss_one (ps_set (i := 9) sc.nd rfl (Or.inl rfl) (pe_callTy call_tuple_of (by rfl) T.tuple (by decide +kernel) (pa_cons (pe_lc (own := [("_law_k", 10)]) (g := gName 10) (tt := tYes) rfl sc.nd (pi_range1 rfl T.range (pa_cons (pe_op op_add pe_int (pe_call G__law_draw (hr.mono (by omega)) rfl D__law_draw.m D__law_draw.F.kp D__law_draw.b .nil pass0 (pa_cons (pv 0) (pa_cons pe_int pa_nil)))) pa_nil)) (blkOk_by (own := [("_law_k", 10)]) (N := NN__law_rows) (sc := defScope (topS 32)) (by decide +kernel)) (fun _ _ _ _ _ => pg_name (i := 10) sc.nd rfl (Or.inl rfl)) (fun _ _ _ _ _ => pts_nil) (fun _ _ _ _ _ => (pe_call G__law_next (hr.mono (by omega)) rfl D__law_next.m D__law_next.F.kp D__law_next.b .nil pass0 (pa_cons (pv 0) (pa_cons (pv 5) (pa_cons (pv 2) (pa_cons (pv 3) pa_nil))))))) pa_nil)))))
          (pss_one (ps_if (PW.pt (pw_or (pt_cmpR op_eq (pv 6) pe_int (nomark _)) (pw_or1 (pt_cmpR op_eq (pe_op op_add (pv 5) pe_int) (pv 2) (nomark _)))))
            (pss_cons (ps_set (i := 8) sc.nd rfl (Or.inl rfl) (pe_ix ix_seq (pe_lst (pa_cons (pe_tup (pa_cons pe_str pa_nil)) (pa_cons (pe_tup (pa_cons pe_str (pa_cons (pv 5) pa_nil))) (pa_cons (pe_tup (pa_cons pe_str (pa_cons (pe_tup (pa_cons (pe_tup (pa_cons pe_str (pa_cons (pv 5) pa_nil))) pa_nil)) pa_nil))) (pa_cons (pe_tup (pa_cons pe_str pa_nil)) pa_nil))))) (pe_call G__law_draw (hr.mono (by omega)) rfl D__law_draw.m D__law_draw.F.kp D__law_draw.b .nil pass0 (pa_cons (pv 0) (pa_cons pe_int pa_nil))) (fun _ _ => rfl)))
            (pss_one (ps_set (i := 9) sc.nd rfl (Or.inl rfl) (pe_tup pa_nil))))
            (pss_cons (ps_set (i := 8) sc.nd rfl (Or.inl rfl) (pe_ix ix_seq (pe_lst (pa_cons (pe_tup (pa_cons pe_str (pa_cons (pe_tup (pa_cons pe_str (pa_cons (pv 5) pa_nil))) pa_nil))) (pa_cons (pe_tup (pa_cons pe_str (pa_cons (pv 5) pa_nil))) (pa_cons (pe_tup (pa_cons pe_str pa_nil)) (pa_cons (pe_tup (pa_cons pe_str (pa_cons (pv 5) (pa_cons (pe_tup (pa_cons pe_str (pa_cons pe_int pa_nil))) pa_nil)))) pa_nil))))) (pe_call G__law_draw (hr.mono (by omega)) rfl D__law_draw.m D__law_draw.F.kp D__law_draw.b .nil pass0 (pa_cons (pv 0) (pa_cons pe_int pa_nil))) (fun _ _ => rfl)))
            (pss_one (ps_set (i := 9) sc.nd rfl (Or.inl rfl) (pe_tup (pa_cons (pe_call G__law_next (hr.mono (by omega)) rfl D__law_next.m D__law_next.F.kp D__law_next.b .nil pass0 (pa_cons (pv 0) (pa_cons (pv 5) (pa_cons (pv 2) (pa_cons (pv 3) pa_nil))))) pa_nil))))))))))
      (pss_one (ps_expr (pe_bm PySem.F.plainAttrs_list PySem.F.slot_list_append PySem.F.type_list_append mt_append (pv 4) (pa_cons (pe_tup (pa_cons (pv 8) (pa_cons (pv 7) (pa_cons (pv 9) pa_nil)))) pa_nil))))))))
    (pss_one (ps_ret (pv 4))))))), ?_⟩
  refine st_seq (N := fun δ => ∃ (c : Cont) (m : Nat), IsSt scr c ∧ 1 ≤ m ∧ m ≤ 24 ∧ δ = [some (.own (some l, c)), dat (pI most), dat (pI m), none, none, none, none, none, none, none, none]) (sw_asg (ew_op (pa := fun δ' d => d = .int 1 ∧ δ' = [some (.own (some l, c)), dat (pI most), none, none, none, none, none, none, none, none, none]) (ew_pure ev_int ⟨rfl, rfl⟩) fun δ' d ⟨h1, h2⟩ => by
    subst h1 h2
    exact ew_draw (n := most) rfl hc (by omega) (by omega) (ev_var rfl) fun c' v h1 h2 => ⟨_, rv_add, c', 1 + v, h1, by omega, by omega, by
      show [_, _, dat (PyData.int ((1 : Int) + (v : Int))), _, _, _, _, _, _, _, _] = _
      rw [show (1 : Int) + (v : Int) = ((1 + v : Nat) : Int) by omega]⟩)) fun δ' ⟨c, m, hc, hm3, hm4, e⟩ => e ▸ ?_
  refine st_seq (N := fun δ => ∃ (c : Cont) (kd : Nat), IsSt scr c ∧ δ = [some (.own (some l, c)), dat (pI most), dat (pI m), dat (pI kd), none, none, none, none, none, none, none]) (sw_asg (ew_draw (n := 4) rfl hc (by omega) (by omega) ev_int fun c' v h1 h2 => ⟨c', v, h1, rfl⟩)) fun δ' ⟨c, kd, hc, e⟩ => e ▸ ?_
  refine st_seq1 (st_new ea_nil (by simp) rfl) ?_
  refine st_seq (N := fun δ => ∃ (c : Cont) (rs : List Row) (x5 x6 x7 x8 x9 : Option Sl), δ = [some (.own (some l, c)), dat (pI most), dat (pI m), dat (pI kd), own (rs.map encRow), x5, x6, x7, x8, x9, none] ∧ IsSt scr c ∧ rs.length = m ∧ ∀ r ∈ rs, GoodRow m r) ?_ fun δ' ⟨c, rs, x5, x6, x7, x8, x9, e, hc, hl, hg⟩ => by
    subst e
    refine st_keep (i := 4) rfl ?_
    exact st_ret (ev_var rfl) ⟨c, rfl, hc, rs, ⟨by omega, by omega, by rw [hl]; exact hg⟩, rfl⟩
  refine forR_core (n := m) (fun j δ => ∃ (c : Cont) (rs : List Row) (x5 x6 x7 x8 x9 : Option Sl), δ = [some (.own (some l, c)), dat (pI most), dat (pI m), dat (pI kd), own (rs.map encRow), x5, x6, x7, x8, x9, none] ∧ IsSt scr c ∧ rs.length = j ∧ ∀ r ∈ rs, GoodRow m r) (ea_cons (ev_var rfl) ea_nil) (by omega)
    ⟨c, [], none, none, none, none, none, rfl, hc, rfl, fun r h => by cases h⟩ (fun j δ' hj ⟨c, rs, x5, x6, x7, x8, x9, e, hc, hl, hg⟩ => ?_) (fun δ' h => h)
  subst e
  refine st_seq (N := fun δ => ∃ (c : Cont) (v : Nat), IsSt scr c ∧ δ = [some (.own (some l, c)), dat (pI most), dat (pI m), dat (pI kd), own (rs.map encRow), dat (pI j), dat (pI v), x7, x8, x9, none]) (sw_asg (ew_draw (n := 8) rfl hc (by omega) (by omega) ev_int fun c' v h1 h2 => ⟨c', v, h1, rfl⟩)) fun δ' ⟨c, ch, hc, e⟩ => e ▸ ?_
  refine st_seq (N := fun δ => ∃ (c : Cont) (cnt : Nat), IsSt scr c ∧ cnt < 1000000 ∧ δ = [some (.own (some l, c)), dat (pI most), dat (pI m), dat (pI kd), own (rs.map encRow), dat (pI j), dat (pI ch), dat (pI cnt), x8, x9, none]) (sw_asg (ew_op (pa := fun δ' d => d = .int 1 ∧ δ' = [some (.own (some l, c)), dat (pI most), dat (pI m), dat (pI kd), own (rs.map encRow), dat (pI j), dat (pI ch), x7, x8, x9, none]) (ew_pure ev_int ⟨rfl, rfl⟩) fun δ' d ⟨h1, h2⟩ => by
    subst h1 h2
    exact ew_draw (n := 3) rfl hc (by omega) (by omega) ev_int fun c' v h1 h2 => ⟨_, rv_add, c', 1 + v, h1, by omega, by
      show [_, _, _, _, _, _, _, dat (PyData.int ((1 : Int) + (v : Int))), _, _, _] = _
      rw [show (1 : Int) + (v : Int) = ((1 + v : Nat) : Int) by omega]⟩)) fun δ' ⟨c, cnt, hc, hcn, e⟩ => e ▸ ?_
  have hj6 : j < 1000000 := by omega
  refine st_seq (N := fun δ => ∃ (c : Cont) (a : Act) (nx : List Nat), IsSt scr c ∧ GoodRow m ⟨a, cnt, nx⟩ ∧ δ = [some (.own (some l, c)), dat (pI most), dat (pI m), dat (pI kd), own (rs.map encRow), dat (pI j), dat (pI ch), dat (pI cnt), dat (encAct a), dat (.tuple (nx.map pI)), none]) ?_ fun δ' ⟨c, a, nx, hc, hgr, e⟩ => e ▸ ?_
  · refine st_if (eb_test (ev_op (ev_var rfl) ev_int rv_le)) (fun _ => ?_) (fun _ => ?_)
    · refine st_seq1 (st_asg (d := encAct (.br (.tuple [.str "variable", pI j]))) (ev_tup (ea_cons ev_str (ea_cons (ev_tup (ea_cons ev_str (ea_cons (ev_var rfl) ea_nil)) (by simp)) ea_nil)) (by simp)) rfl) ?_
      refine sw_asg (ew_tup (pb := fun δ' ds => ∃ (c' : Cont) (u v : Nat), IsSt scr c' ∧ u < m ∧ v < m ∧ ds = [pI u, pI v] ∧ δ' = [some (.own (some l, c')), dat (pI most), dat (pI m), dat (pI kd), own (rs.map encRow), dat (pI j), dat (pI ch), dat (pI cnt), dat (encAct (.br (.tuple [.str "variable", pI j]))), x9, none]) (eaw_cons (pa := fun δ' d => ∃ (c' : Cont) (u : Nat), IsSt scr c' ∧ u < m ∧ d = pI u ∧ δ' = [some (.own (some l, c')), dat (pI most), dat (pI m), dat (pI kd), own (rs.map encRow), dat (pI j), dat (pI ch), dat (pI cnt), dat (encAct (.br (.tuple [.str "variable", pI j]))), x9, none]) (ew_next rfl hc hj hm4 (ev_var rfl) (ev_var rfl) (ev_var rfl) fun c' v h1 h2 => ⟨c', v, h1, h2, rfl, rfl⟩) fun δ' d ⟨c', u, h1, h2, h3, h4⟩ => ?_) fun δ' ds ⟨c', u, v, h1, h2, h3, h4, h5⟩ => ?_)
      · subst h3 h4
        exact eaw_cons (pa := fun δ' d => ∃ (c' : Cont) (v : Nat), IsSt scr c' ∧ v < m ∧ d = pI v ∧ δ' = [some (.own (some l, c')), dat (pI most), dat (pI m), dat (pI kd), own (rs.map encRow), dat (pI j), dat (pI ch), dat (pI cnt), dat (encAct (.br (.tuple [.str "variable", pI j]))), x9, none]) (ew_next rfl h1 hj hm4 (ev_var rfl) (ev_var rfl) (ev_var rfl) fun c' v h1 h2 => ⟨c', v, h1, h2, rfl, rfl⟩) fun δ' d ⟨c', v, q1, q2, q3, q4⟩ => eaw_nil ⟨c', u, v, q1, h2, q2, by rw [q3], q4⟩
      · subst h4 h5
        exact ⟨by simp, c', _, [u, v], h1, good_br hj6 hcn h2 h3, rfl⟩
    refine st_if (eb_test (ev_op (ev_var rfl) ev_int rv_eqI)) (fun _ => ?_) (fun _ => ?_)
    · refine st_seq1 (st_asg (d := encAct (.sel (.tuple [.str "variable", pI j]))) (ev_tup (ea_cons ev_str (ea_cons (ev_tup (ea_cons ev_str (ea_cons (ev_var rfl) ea_nil)) (by simp)) ea_nil)) (by simp)) rfl) ?_
      refine sw_asg (ew_callR (pb := fun δ' ds => ∃ (c' : Cont) (us : List Nat), IsSt scr c' ∧ (∀ u ∈ us, u < m) ∧ us ≠ [] ∧ us.length ≤ 4 ∧ ds = [encL us] ∧ δ' = [some (.own (some l, c')), dat (pI most), dat (pI m), dat (pI kd), own (rs.map encRow), dat (pI j), dat (pI ch), dat (pI cnt), dat (encAct (.sel (.tuple [.str "variable", pI j]))), x9, none]) (eaw_cons (pa := fun δ' d => ∃ (c' : Cont) (us : List Nat), IsSt scr c' ∧ (∀ u ∈ us, u < m) ∧ us ≠ [] ∧ us.length ≤ 4 ∧ d = encL us ∧ δ' = [some (.own (some l, c')), dat (pI most), dat (pI m), dat (pI kd), own (rs.map encRow), dat (pI j), dat (pI ch), dat (pI cnt), dat (encAct (.sel (.tuple [.str "variable", pI j]))), x9, none]) ?_ fun δ' d ⟨c', us, h1, h2, h3, h4, h5, h6⟩ => eaw_nil ⟨c', us, h1, h2, h3, h4, by rw [h5], h6⟩) fun δ' ds ⟨c', us, h1, h2, h3, h4, h5, h6⟩ => ?_)
      · refine ew_lcRW (i := 0) (j := 10) (as := [pI j, pI m, pI kd]) (Pn := fun n => 1 ≤ n ∧ n ≤ 4) (IsSt scr) (fun d => ∃ v : Nat, v < m ∧ d = pI v) rfl rfl (by decide) (eaw_cons (pa := fun δ' d => ∃ (c' : Cont) (n : Nat), IsSt scr c' ∧ 1 ≤ n ∧ n ≤ 4 ∧ d = .int (n : Nat) ∧ δ' = [some (.own (some l, c')), dat (pI most), dat (pI m), dat (pI kd), own (rs.map encRow), dat (pI j), dat (pI ch), dat (pI cnt), dat (encAct (.sel (.tuple [.str "variable", pI j]))), x9, none]) (ew_op (pa := fun δ' d => d = .int 1 ∧ δ' = [some (.own (some l, c)), dat (pI most), dat (pI m), dat (pI kd), own (rs.map encRow), dat (pI j), dat (pI ch), dat (pI cnt), dat (encAct (.sel (.tuple [.str "variable", pI j]))), x9, none]) (ew_pure ev_int ⟨rfl, rfl⟩) fun δ' d ⟨h1, h2⟩ => ?_) fun δ' d ⟨c', n, h1, h2, h3, h4, h5⟩ => eaw_nil ⟨n, c', by rw [h4], by omega, ⟨h2, h3⟩, h1, h5⟩)
          (fun q c' => ea_cons (ev_var rfl) (ea_cons (ev_var rfl) (ea_cons (ev_var rfl) ea_nil))) (fun c' h => ⟨scr, j, m, kd, h, hj, hm4, rfl, rfl⟩) fun c' n ds h1 h2 h3 h4 => ?_
        · subst h1 h2
          exact ew_draw (n := 4) rfl hc (by omega) (by omega) ev_int fun c' v h1 h2 => ⟨_, rv_add, c', 1 + v, h1, by omega, by omega, by show PyData.int _ = PyData.int _; rw [show (1 : Int) + (v : Int) = ((1 + v : Nat) : Int) by omega], rfl⟩
        · obtain ⟨us, hus, hud⟩ : ∃ us : List Nat, (∀ u ∈ us, u < m) ∧ ds = us.map pI := by
            clear h2
            induction ds with
            | nil => exact ⟨[], by simp, rfl⟩
            | cons d ds ih =>
              obtain ⟨us, z1, z2⟩ := ih fun d hd => h4 d (List.mem_cons_of_mem _ hd)
              obtain ⟨v, z3, z4⟩ := h4 d List.mem_cons_self
              exact ⟨v :: us, fun u hu => by rcases List.mem_cons.mp hu with h | h; · rw [h]; exact z3
                                             · exact z1 u h, by rw [List.map_cons, z2, z4]⟩
          have hl2 : us.length = n := by rw [← h2, hud]; simp
          exact ⟨c', us, h1, hus, fun z => by rw [z] at hl2; simp at hl2; omega, by omega, by rw [hud], rfl⟩
      · subst h5 h6
        exact ⟨_, rc_tuple, c', _, us, h1, good_sel hj6 hcn h2 h3 h4, rfl⟩
    refine st_if (eb_or (eb_test (ev_op (ev_var rfl) ev_int rv_eqI)) (fun _ => eb_test (ev_op (ev_op (ev_var rfl) ev_int rv_add) (ev_var rfl) rv_eqI))) (fun _ => ?_) (fun _ => ?_)
    · refine st_seq (N := fun δ => ∃ (c : Cont) (v : Nat), IsSt scr c ∧ v < 4 ∧ δ = [some (.own (some l, c)), dat (pI most), dat (pI m), dat (pI kd), own (rs.map encRow), dat (pI j), dat (pI ch), dat (pI cnt), dat (encAct (haltD v j)), x9, none]) (sw_asg (ew_op (pa := fun δ' d => d = .list [encAct (haltD 0 j), encAct (haltD 1 j), encAct (haltD 2 j), encAct (haltD 3 j)] ∧ δ' = [some (.own (some l, c)), dat (pI most), dat (pI m), dat (pI kd), own (rs.map encRow), dat (pI j), dat (pI ch), dat (pI cnt), x8, x9, none])
        (ew_pure (ev_lst (ea_cons (ev_tup (ea_cons ev_str ea_nil) (by simp)) (ea_cons (ev_tup (ea_cons ev_str (ea_cons (ev_var rfl) ea_nil)) (by simp)) (ea_cons (ev_tup (ea_cons ev_str (ea_cons (ev_tup (ea_cons (ev_tup (ea_cons ev_str (ea_cons (ev_var rfl) ea_nil)) (by simp)) ea_nil) (by simp)) ea_nil)) (by simp)) (ea_cons (ev_tup (ea_cons ev_str ea_nil) (by simp)) ea_nil)))) (by simp)) ⟨rfl, rfl⟩) fun δ' d ⟨h1, h2⟩ => by
          subst h1 h2
          refine ew_draw (n := 4) rfl hc (by omega) (by omega) ev_int fun c' v h1 h2 => ⟨encAct (haltD v j), rv_ixL (atI_nat ?_), c', v, h1, h2, rfl⟩
          match v, h2 with
          | 0, _ => rfl
          | 1, _ => rfl
          | 2, _ => rfl
          | 3, _ => rfl)) fun δ' ⟨c, v, hc, hv, e⟩ => e ▸ ?_
      exact st_asg (ev_tup ea_nil (by simp)) ⟨c, haltD v j, [], hc, good_halt hj6 hcn, rfl⟩
    · refine st_seq (N := fun δ => ∃ (c : Cont) (v : Nat), IsSt scr c ∧ v < 4 ∧ δ = [some (.own (some l, c)), dat (pI most), dat (pI m), dat (pI kd), own (rs.map encRow), dat (pI j), dat (pI ch), dat (pI cnt), dat (encAct (passD v j)), x9, none]) (sw_asg (ew_op (pa := fun δ' d => d = .list [encAct (passD 0 j), encAct (passD 1 j), encAct (passD 2 j), encAct (passD 3 j)] ∧ δ' = [some (.own (some l, c)), dat (pI most), dat (pI m), dat (pI kd), own (rs.map encRow), dat (pI j), dat (pI ch), dat (pI cnt), x8, x9, none])
        (ew_pure (ev_lst (ea_cons (ev_tup (ea_cons ev_str (ea_cons (ev_tup (ea_cons ev_str (ea_cons (ev_var rfl) ea_nil)) (by simp)) ea_nil)) (by simp)) (ea_cons (ev_tup (ea_cons ev_str (ea_cons (ev_var rfl) ea_nil)) (by simp)) (ea_cons (ev_tup (ea_cons ev_str ea_nil) (by simp)) (ea_cons (ev_tup (ea_cons ev_str (ea_cons (ev_var rfl) (ea_cons (ev_tup (ea_cons ev_str (ea_cons ev_int ea_nil)) (by simp)) ea_nil))) (by simp)) ea_nil)))) (by simp)) ⟨rfl, rfl⟩) fun δ' d ⟨h1, h2⟩ => by
          subst h1 h2
          refine ew_draw (n := 4) rfl hc (by omega) (by omega) ev_int fun c' v h1 h2 => ⟨encAct (passD v j), rv_ixL (atI_nat ?_), c', v, h1, h2, rfl⟩
          match v, h2 with
          | 0, _ => rfl
          | 1, _ => rfl
          | 2, _ => rfl
          | 3, _ => rfl)) fun δ' ⟨c, v, hc, hv, e⟩ => e ▸ ?_
      refine sw_asg (ew_tup (pb := fun δ' ds => ∃ (c' : Cont) (u : Nat), IsSt scr c' ∧ u < m ∧ ds = [pI u] ∧ δ' = [some (.own (some l, c')), dat (pI most), dat (pI m), dat (pI kd), own (rs.map encRow), dat (pI j), dat (pI ch), dat (pI cnt), dat (encAct (passD v j)), x9, none]) (eaw_cons (pa := fun δ' d => ∃ (c' : Cont) (u : Nat), IsSt scr c' ∧ u < m ∧ d = pI u ∧ δ' = [some (.own (some l, c')), dat (pI most), dat (pI m), dat (pI kd), own (rs.map encRow), dat (pI j), dat (pI ch), dat (pI cnt), dat (encAct (passD v j)), x9, none]) (ew_next rfl hc hj hm4 (ev_var rfl) (ev_var rfl) (ev_var rfl) fun c' v h1 h2 => ⟨c', v, h1, h2, rfl, rfl⟩) fun δ' d ⟨c', u, h1, h2, h3, h4⟩ => eaw_nil ⟨c', u, h1, h2, by rw [h3], h4⟩) fun δ' ds ⟨c', u, h1, h2, h3, h4⟩ => ?_)
      subst h3 h4
      exact ⟨by simp, c', passD v j, [u], h1, good_pass hj6 hcn h2, rfl⟩
  · refine st_append rfl (ev_tup (ea_cons (ev_var rfl) (ea_cons (ev_var rfl) (ea_cons (ev_var rfl) ea_nil))) (by simp)) (by simp; omega) ⟨c, rs ++ [⟨a, cnt, nx⟩], dat (pI j), dat (pI ch), dat (pI cnt), dat (encAct a), dat (.tuple (nx.map pI)), by rw [List.map_append]; rfl, hc, by simp [hl], fun r hr => ?_⟩
    rcases List.mem_append.mp hr with h | h
    · exact hg r h
    · have : r = ⟨a, cnt, nx⟩ := by simpa using h
      rw [this]
      exact hgr
end
end K33
end
section
set_option Elab.async false
set_option linter.all false
set_option maxRecDepth 100000
set_option maxHeartbeats 4000000
/-! W12: drawn, reach, inner, standing, filled. -/
namespace K33
open PySem L2 GxR
/-- the promise of a def that makes data alone, told by what is true of them -/
def spN (Ts : List Addr) (R : List PyData → (PyData → Prop) → Prop) : Sp := fun vs H Q _ => ∃ (k : Hp) (ds : List PyData) (post : PyData → Prop), Kn Ts k H ∧ DtA k vs ds ∧ R ds post ∧ ∀ v k' H' d, post d → Gr Ts [] k H k' H' → Dt k' v d → Q v H'
section
variable {P : Program} {w : World} {K : PySem.W.Frag} {mg : Str → Option Value} {base : Heap} {Ts Mo : List Addr}
theorem fn_nd {x qual : Str} {st : Stmt} {f : Addr} {fd : FuncData} {N ps : List Str} {j : Nat} {R : List PyData → (PyData → Prop) → Prop} (F : Fun K x qual st f fd) (S : FnScope N ps (defScope st)) (hl : ∀ ds post, R ds post → ds.length = ps.length)
    (hbody : ∀ (cdv : Value) (A : Around) (outer : List PySem.Env) (s : Shared) (H : Hp) (E : XK) (ds : List PyData) (post : PyData → Prop), Room j (A.deeper (PyProof.Rows.envOfC qual (defScope st) s.heap.objs.size f cdv)) → R ds post →
      ∃ t, PSs (cxOf CX0 P w K mg base N qual (defScope st) f cdv A outer s H E).nox (defBody st) t ∧ StD Ts [] t (startD N.length ds) (fun _ => post .none) post NoB) :
    FnOk P w K mg base CX0 (j + 1) f fd ps (spN Ts R) := by
  refine F.ok S (fun vs H Q E h => ?_) (fun cdv A outer s H vs Q E hr h => ?_)
  · obtain ⟨k, ds, post, _, h2, h3, _⟩ := h
    rw [h2.length]
    exact hl ds post h3
  · obtain ⟨k, ds, post, h1, h2, h3, h4⟩ := h
    obtain ⟨t, p, h⟩ := hbody cdv A outer s H E ds post hr h3
    refine ⟨t, p, ?_⟩
    have s0 : Slots k H (L2.start N vs) (startD N.length ds) := by
      unfold L2.start startD
      rw [h2.length]
      exact dts_some h2
    refine h k H _ k H _ ⟨h1, Gr.refl h1, fun a h => by simp at h, s0, fun i es l e => absurd e (start_own _ _ i es), fun i j es fs l e => absurd e (start_own _ _ i es)⟩ (fun σ' k' H' δ' n kk s' => ?_) (fun σ' k' H' δ' v s' => ⟨fun d' r dv => ?_, fun _ z => z.elim⟩) (fun _ _ _ _ z => z.elim)
    · exact h4 _ k' H' _ n s'.gr .non
    · exact h4 v k' H' _ r s'.gr dv
theorem ew_callN {R : List PyData → (PyData → Prop) → Prop} {E : XK} {ta : TA} {δ : Dl} {as : List PyData} {pc : PyData → Prop} {post : Dl → PyData → Prop} (ha : EvA Ts ta δ as) (hr : R as pc) (p : ∀ d, pc d → post δ d) : EvW Ts Mo (tCall (spN Ts R) [] E ta) δ post := fun k0 H0 σ k H s Q q =>
  ha σ k H s.kn s.sl _ fun vs k1 H1 g1 a1 => ⟨k1, as, pc, g1.kn, by rw [List.append_nil]; exact a1, hr, fun v k2 H2 d hp g2 dv => q v k2 H2 δ d (p d hp) (g1.kk.trans g2.kk) ((s.step g1).step g2) dv⟩
/-- l = l + e, l a list of one's own: the new one is one's own, too -/
theorem st_catO {δ : Dl} {N : Dl → Prop} {R : Dl → PyData → Prop} {B : Dl → Prop} {RD : Dl → List (Int × PyData) → Prop} {te : TE} {i : Nat} {ds es : List PyData} (e : δ[i]? = some (own ds)) (h : EvD Ts te δ (.list es)) (hz : ds.length + es.length ≤ 100000) (n : N (δ.set i (own (ds ++ es)))) :
    StX Ts Mo (tAsg (tOp rCat (tVar i) te) (gName i)) δ N R B RD := fun k0 H0 σ k H D s hn _ _ => by
  obtain ⟨l, xs, q1, q2, q3, q4, q5⟩ := s.sl.own e
  refine ⟨_, q1, h σ k H s.kn s.sl _ fun v k' H' g dv => ?_⟩
  have s' := s.step g
  have q2' : H' l = some (.lst xs) := g.same l _ q2 (s.kn.not_tab q2 (fun _ => by simp)) (by simp)
  cases dv with
  | lst e2 a =>
    exact ⟨_, _, _, _, rfl, rfl, q2', g.kn.sub _ _ e2, by rw [a.length, q4.length]; exact small5 hz, fun p hp => hn _ k' _ _ n g.kk (s'.fresh i hp ((DtA.up g.kk _ _ q4).app a))⟩
/-! ### _law_drawn -/
abbrev NN__law_drawn : List Str := ["_law_script", "_law_state", "_law_most", "_law_rows_here", "_law_first"]
theorem sc_drawn : FnScope NN__law_drawn ["_law_script"] (defScope (topS 33)) := ⟨rfl, rfl, rfl, by decide +kernel, rfl, by decide +kernel, by decide +kernel⟩
def postDr (d : PyData) : Prop := ∃ (rs : List Row) (first : Nat) (x : PyData), GoodRows rs ∧ first < rs.length ∧ d = .list [encRows rs, pI first, x]
/-- the promise of the def that reads the script -/
def spDr (Ts : List Addr) (K : PySem.W.Frag) : Sp := fun vs H Q _ => ∃ (k : Hp) (a : Addr) (sc : List Int), vs = [.ref a] ∧ Kn Ts k H ∧ SqL K H a (sc.map V.int) ∧ ∀ v k' H' d, postDr d → Gr Ts [] k H k' H' → Dt k' v d → Q v H'
theorem drawn_start {rest : TS} {D : Ends} {k H : Hp} {a : Addr} {sc : List Int} (hk : Kn Ts k H) (hq : SqL K H a (sc.map V.int)) (h : ∀ σ k' H', Stt Ts [] k H k' H' σ [none, own [.int 0, .int 0, .list (sc.map PyData.int), .int 1], none, none, none] → rest D σ H') :
    tSeq (tAsg (tLst (tCons (tC (.int 0)) (tCons (tC (.int 0)) (tCons (tCB (fun xs H Q => ∃ p ys, xs = [.ref p] ∧ (SqL K H p ys ∨ SqT K H p ys) ∧ ∀ l, H l = none → Q (.ref l) (upd H l (.lst ys))) (tCons (tVar 0) tNil)) (tCons (tC (.int 1)) tNil))))) (gName 1)) rest D [some (.ref a), none, none, none, none] H := by
  have s0 : Stt Ts [] k H k H [some (.ref a), none, none, none, none] [none, none, none, none, none] := by
    refine ⟨hk, Gr.refl hk, fun a h => by simp at h, ⟨rfl, fun i => ?_⟩, fun i w l e => ?_, fun i j w w' l e => ?_⟩
    · have : ([none, none, none, none, none] : Dl)[i]? = some none ∨ ([none, none, none, none, none] : Dl)[i]? = none := by
        match i with
        | 0 | 1 | 2 | 3 | 4 => exact .inl rfl
        | i + 5 => exact .inr rfl
      rcases this with z | z <;> rw [z] <;> trivial
    · match i, e with
      | 0, e | 1, e | 2, e | 3, e | 4, e => cases e
      | i + 5, e => cases e
    · match i, e with
      | 0, e | 1, e | 2, e | 3, e | 4, e => cases e
      | i + 5, e => cases e
  refine ⟨_, rfl, a, sc.map V.int, rfl, .inl hq, fun l hl => ⟨by show 4 ≤ sizeLine; decide, fun p hp => ?_⟩⟩
  have g := Gr.new (o := .lst (sc.map V.int)) hk hl (fun _ => by simp)
  have s1 := (s0.step g).fresh 1 (xs := [.int 0, .int 0, .ref l, .int 1]) (ds := [.int 0, .int 0, .list (sc.map PyData.int), .int 1]) hp (.cons (.int 0) (.cons (.int 0) (.cons (.lst upd_same (DtA.ints sc)) (.cons (.int 1) .nil))))
  exact h _ _ _ s1
theorem run_rest {rest : TS} {δ : Dl} {post : PyData → Prop} {k H k' H' : Hp} {σ : L2.St} {Q : VK} (h : StD Ts [] rest δ (fun _ => False) post NoB) (s : Stt Ts [] k H k' H' σ δ) (q : ∀ v k' H' d, post d → Gr Ts [] k H k' H' → Dt k' v d → Q v H') : rest { nx := fun _ H' => Q .non H', rt := Q } σ H' :=
  h k H σ k' H' _ s (fun _ _ _ _ z => z.elim) (fun σ' k2 H2 δ' v s' => ⟨fun d hp dv => q v k2 H2 d hp s'.gr dv, fun _ z => z.elim⟩) (fun _ _ _ _ z => z.elim)
theorem ok_drawn (T : Txt mg) (D__law_draw : Df K mg "_law_draw" 30 ["_law_state", "_law_limit"]) (D__law_next : Df K mg "_law_next" 31 PP_next) (D__law_rows : Df K mg "_law_rows" 32 ["_law_state", "_law_most"]) (D : Df K mg "_law_drawn" 33 ["_law_script"]) : FnOk P w K mg base CX0 4 D.a D.fd ["_law_script"] (spDr Ts K) := by
  have sc := sc_drawn
  have G__law_draw := ok_draw (P := P) (w := w) (base := base) (Ts := Ts) T D__law_draw
  have G__law_rows := ok_rows (P := P) (w := w) (base := base) (Ts := Ts) T D__law_draw D__law_next D__law_rows
  refine D.F.ok sc (fun vs H Q E h => ?_) (fun cdv A outer s H vs Q E hr h => ?_)
  · obtain ⟨_, _, _, rfl, _⟩ := h; rfl
  obtain ⟨k0, a0, scr, rfl, hk0, hq0, h0⟩ := h
  refine ⟨_, (pss_cons (ps_set (i := 1) sc.nd rfl (Or.inl rfl) (pe_lst (pa_cons pe_int (pa_cons pe_int (pa_cons (pe_callTy call_list_of (by rfl) T.list (by decide +kernel) (pa_cons (pv 0) pa_nil)) (pa_cons pe_int pa_nil))))))
    (pss_cons (ps_set (i := 2) sc.nd rfl (Or.inl rfl) pe_int)
    (pss_cons (ps_if (pt_cmpR op_eq (pe_call G__law_draw (hr.mono (by omega)) rfl D__law_draw.m D__law_draw.F.kp D__law_draw.b .nil pass0 (pa_cons (pv 1) (pa_cons pe_int pa_nil))) pe_int (nomark _))
      (pss_one (ps_set (i := 2) sc.nd rfl (Or.inl rfl) pe_int))
      pss_nil)
    (pss_cons (ps_set (i := 3) sc.nd rfl (Or.inl rfl) (pe_call G__law_rows (hr.mono (by omega)) rfl D__law_rows.m D__law_rows.F.kp D__law_rows.b .nil pass0 (pa_cons (pv 1) (pa_cons (pv 2) pa_nil))))
    (pss_cons (ps_set (i := 4) sc.nd rfl (Or.inl rfl) pe_int)
    (pss_cons (ps_if (pt_cmpR op_eq (pe_call G__law_draw (hr.mono (by omega)) rfl D__law_draw.m D__law_draw.F.kp D__law_draw.b .nil pass0 (pa_cons (pv 1) (pa_cons pe_int pa_nil))) pe_int (nomark _))
      (pss_one (ps_set (i := 4) sc.nd rfl (Or.inl rfl) (pe_call G__law_draw (hr.mono (by omega)) rfl D__law_draw.m D__law_draw.F.kp D__law_draw.b .nil pass0 (pa_cons (pv 1) (pa_cons (pe_callB call_len_seq (by rfl) T.len PySem.boot_len (pa_cons (pv 3) pa_nil)) pa_nil)))))
      pss_nil)
    (pss_one (ps_ret (pe_lst (pa_cons (pv 3) (pa_cons (pv 4) (pa_cons (pv 1) pa_nil)))))))))))), ?_⟩
  refine drawn_start hk0 hq0 fun σ k' H' s0 => run_rest (post := postDr) ?_ s0 h0
  refine st_seq1 (st_asg ev_int rfl) ?_
  have hc0 : IsSt scr (.l [.int 0, .int 0, .list (scr.map PyData.int), .int 1]) := ⟨0, 0, 1, rfl⟩
  refine st_seq (N := fun δ => ∃ (c : Cont) (m : Nat), IsSt scr c ∧ 1 ≤ m ∧ m ≤ 24 ∧ δ = [none, some (.own (none, c)), dat (pI m), none, none]) ?_ fun δ' ⟨c, m, hc, h1, h2, e⟩ => e ▸ ?_
  · refine sw_if (pb := fun δ' b => ∃ c, IsSt scr c ∧ δ' = [none, some (.own (none, c)), dat (pI 9), none, none]) (et_test (ew_op (pa := fun δ' d => ∃ (c : Cont) (v : Nat), IsSt scr c ∧ d = pI v ∧ δ' = [none, some (.own (none, c)), dat (pI 9), none, none]) (ew_draw (n := 6) rfl hc0 (by omega) (by omega) ev_int fun c' v h1 h2 => ⟨c', v, h1, rfl, rfl⟩) fun δ' d ⟨c, v, h1, h2, h3⟩ => by
      subst h2 h3
      exact ew_pure ev_int ⟨_, rv_eqI, _, rfl, c, h1, rfl⟩)) (fun δ' ⟨c, h1, h2⟩ => ?_) (fun δ' ⟨c, h1, h2⟩ => ?_)
    · subst h2
      exact st_asg ev_int ⟨c, 24, h1, by omega, by omega, rfl⟩
    · subst h2
      exact st_next ⟨c, 9, h1, by omega, by omega, rfl⟩
  refine st_seq (N := fun δ => ∃ (c : Cont) (rs : List Row), IsSt scr c ∧ GoodRows rs ∧ δ = [none, some (.own (none, c)), dat (pI m), dat (encRows rs), none]) (sw_asg (ew_call rfl (ea_cons (ev_var rfl) ea_nil) ⟨scr, m, hc, h1, h2, rfl, rfl⟩ fun c' d ⟨q1, rs, q2, q3⟩ => ⟨c', rs, q1, q2, by rw [q3]; rfl⟩)) fun δ' ⟨c, rs, hc, hg, e⟩ => e ▸ ?_
  refine st_seq1 (st_asg ev_int rfl) ?_
  have hg1 := hg.1
  have hg2 := hg.2.1
  refine st_seq (N := fun δ => ∃ (c : Cont) (f : Nat), IsSt scr c ∧ f < rs.length ∧ δ = [none, some (.own (none, c)), dat (pI m), dat (encRows rs), dat (pI f)]) ?_ fun δ' ⟨c, f, hc, hf, e⟩ => e ▸ ?_
  · refine sw_if (pb := fun δ' b => ∃ c, IsSt scr c ∧ δ' = [none, some (.own (none, c)), dat (pI m), dat (encRows rs), dat (pI 0)]) (et_test (ew_op (pa := fun δ' d => ∃ (c : Cont) (v : Nat), IsSt scr c ∧ d = pI v ∧ δ' = [none, some (.own (none, c)), dat (pI m), dat (encRows rs), dat (pI 0)]) (ew_draw (n := 4) rfl hc (by omega) (by omega) ev_int fun c' v h1 h2 => ⟨c', v, h1, rfl, rfl⟩) fun δ' d ⟨c, v, h1, h2, h3⟩ => by
      subst h2 h3
      exact ew_pure ev_int ⟨_, rv_eqI, _, rfl, c, h1, rfl⟩)) (fun δ' ⟨c, h1, h2⟩ => ?_) (fun δ' ⟨c, h1, h2⟩ => ?_)
    · subst h2
      exact sw_asg (ew_draw (n := rs.length) rfl h1 (by omega) (by omega) (ev_is (ev_callR (ea_cons (ev_var rfl) ea_nil) rc_len) (by rw [List.length_map])) fun c' v h1 h2 => ⟨c', v, h1, h2, rfl⟩)
    · subst h2
      exact st_next ⟨c, 0, h1, hg1, rfl⟩
  obtain ⟨a, p, b, rfl⟩ := hc
  refine st_keep (i := 1) rfl ?_
  exact st_ret (ev_lst (ea_cons (ev_var rfl) (ea_cons (ev_var rfl) (ea_cons (ev_var rfl) ea_nil))) (by simp)) ⟨rs, f, _, hg, hf, rfl⟩
/-! ### _law_reach -/
abbrev NN__law_reach : List Str := ["_law_rows_here", "_law_chosen", "_law_start", "_law_known", "_law_k", "_law_goal"]
abbrev PP_reach : List Str := ["_law_rows_here", "_law_chosen", "_law_start"]
theorem sc_reach : FnScope NN__law_reach PP_reach (defScope (topS 34)) := ⟨rfl, rfl, rfl, by decide +kernel, rfl, by decide +kernel, by decide +kernel⟩
def R_reach (ds : List PyData) (post : PyData → Prop) : Prop := ∃ (rs : List Row) (ch : List Nat) (a : Nat), RG rs ∧ a < rs.length ∧ ds = [encRows rs, encL ch, pI a] ∧ post = fun d => ∃ f : List Nat, f.Perm (spreadL rs.length (nxOf rs) (· ∈ ch) a) ∧ d = encL f
theorem ok_reach (T : Txt mg) (D : Df K mg "_law_reach" 34 PP_reach) : FnOk P w K mg base CX0 1 D.a D.fd PP_reach (spN Ts R_reach) := by
  have sc := sc_reach
  refine fn_nd D.F sc (fun ds d h => ?_) (fun cdv A outer s H E ds d hr h => ?_)
  · obtain ⟨_, _, _, _, _, rfl, _⟩ := h; rfl
  obtain ⟨rs, ch, a, rg, ha, rfl, rfl⟩ := h
  refine ⟨_, (pss_cons (ps_set (i := 3) sc.nd rfl (Or.inl rfl) (pe_lst (pa_cons (pv 2) pa_nil)))
    (pss_cons (ps_for PassesOwn.never rfl (pi_range1 rfl T.range (pa_cons (pe_callB call_len_seq (by rfl) T.len PySem.boot_len (pa_cons (pv 0) pa_nil)) pa_nil)) (pg_name (i := 4) sc.nd rfl (Or.inl rfl))
      (pss_one (ps_if (pt_cmpR op_lt (pv 4) (pe_callB call_len_seq (by rfl) T.len PySem.boot_len (pa_cons (pv 3) pa_nil)) (nomark _))
        (pss_one (ps_for PassesOwn.never rfl (pi_tup (pe_ix ix_seq (pe_ix ix_seq (pv 0) (pe_ix ix_seq (pv 3) (pv 4) (fun _ _ => rfl)) (fun _ _ => rfl)) pe_int (fun _ _ => rfl))) (pg_name (i := 5) sc.nd rfl (Or.inl rfl))
          (pss_one (ps_if (PW.pt (pw_and (pt_cmpR op_in_seq (pv 5) (pv 1) (by rfl)) (pw_and1 (pt_cmpR op_notIn_seq (pv 5) (pv 3) (by rfl)))))
            (pss_one (ps_expr (pe_bm PySem.F.plainAttrs_list PySem.F.slot_list_append PySem.F.type_list_append mt_append (pv 3) (pa_cons (pv 5) pa_nil))))
            pss_nil))))
        pss_nil)))
    (pss_one (ps_ret (pv 3))))), ?_⟩
  have hlen := rg.len
  refine st_seq1 (st_new (ea_cons (ev_var rfl) ea_nil) (by simp) rfl) ?_
  refine st_seq (N := fun δ => ∃ f x4 x5, δ = [dat (encRows rs), dat (encL ch), dat (pI a), own (f.map pI), x4, x5] ∧ SpI rs.length (nxOf rs) (· ∈ ch) a f f.length) ?_ fun δ' ⟨f, x4, x5, e, sp⟩ => e ▸ st_keep (i := 3) rfl (st_ret (d := encL f) (ev_var rfl) ⟨f, sp.fin, rfl⟩)
  refine forR_core (n := rs.length) (fun j δ => ∃ f p x4 x5, δ = [dat (encRows rs), dat (encL ch), dat (pI a), own (f.map pI), x4, x5] ∧ SpI rs.length (nxOf rs) (· ∈ ch) a f p ∧ (p = j ∨ (p = f.length ∧ p ≤ j))) (ea_cons (ev_is (ev_callR (ea_cons (ev_var rfl) ea_nil) rc_len) (by rw [List.length_map])) ea_nil) (by omega)
    ⟨[a], 0, none, none, rfl, SpI.start ha, .inl rfl⟩ (fun j δ' hj ⟨f, p, x4, x5, e, sp, hp⟩ => ?_) (fun δ' ⟨f, p, x4, x5, e, sp, hp⟩ => ⟨f, x4, x5, e, by
      have h1 := sp.len
      have h2 := sp.le
      have : p = f.length := by omega
      rw [← this]; exact sp⟩)
  subst e
  refine st_if (b := decide ((j : Int) < ((f.map pI).length : Int))) (eb_frz (i := 3) rfl (eb_test (ev_op (ev_var rfl) (ev_callR (ea_cons (ev_var rfl) ea_nil) rc_len) rv_lt))) (fun h => ?_) (fun h => ?_)
  · have hpl : j < f.length := by
      have := of_decide_eq_true h
      simp at this
      omega
    have hpj : p = j := by omega
    subst hpj
    have hv := List.getElem?_eq_getElem hpl
    generalize f[p] = v at hv
    have hvm : v ∈ f := List.mem_of_getElem? hv
    have hvn := (sp.rc v hvm).1
    refine forT_core (ds := (nxOf rs v).map pI) (fun q δ => ∃ f' x5, δ = [dat (encRows rs), dat (encL ch), dat (pI a), own (f'.map pI), dat (pI p), x5] ∧ SpI rs.length (nxOf rs) (· ∈ ch) a f' p ∧ f'[p]? = some v ∧ ∀ g ∈ (nxOf rs v).take q, g ∈ ch → g ∈ f')
      (ev_op (ev_op (ev_var rfl) (ev_frz (d := pI v) (i := 3) rfl (ev_op (ev_var rfl) (ev_var rfl) (rv_ixL (atI_nat (by rw [List.getElem?_map, hv]; rfl)))) trivial) (rv_ixL (rows_at hvn))) ev_int (rv_ixT (at_2 _ _ _ _)))
      ⟨f, x5, rfl, sp, hv, by simp⟩ (fun q d δ' hq ⟨f', x5, e, sp', hv', hc⟩ => ?_) (fun δ' ⟨f', x5, e, sp', hv', hc⟩ => ?_)
    · subst e
      obtain ⟨g, hg, rfl⟩ := getL hq
      have hgm : g ∈ nxOf rs v := List.mem_of_getElem? hg
      have tk : (nxOf rs v).take (q + 1) = (nxOf rs v).take q ++ [g] := by rw [List.take_add_one, hg]; rfl
      refine st_if (eb_and (eb_test (ev_op (ev_var rfl) (ev_var rfl) rv_inN)) (fun _ => eb_frz (i := 3) rfl (eb_test (ev_op (ev_var rfl) (ev_var rfl) rv_inN)))) (fun hb => ?_) (fun hb => ?_)
      · have hb : g ∈ ch ∧ g ∉ f' := by simpa using hb
        refine st_append rfl (ev_var rfl) (by have := sp'.len; simp; omega) ⟨f' ++ [g], dat (pI g), by rw [List.map_append]; rfl, sp'.add (List.mem_of_getElem? hv') hgm hb.1 (rg.nx v g hgm) hb.2, ?_, fun y hy hyc => ?_⟩
        · rw [List.getElem?_append_left (List.getElem?_eq_some_iff.mp hv').1]; exact hv'
        · rw [tk] at hy
          rcases List.mem_append.mp hy with hy | hy
          · exact List.mem_append_left _ (hc y hy hyc)
          · exact List.mem_append_right _ hy
      · refine st_next ⟨f', dat (pI g), rfl, sp', hv', fun y hy hyc => ?_⟩
        rw [tk] at hy
        rcases List.mem_append.mp hy with hy | hy
        · exact hc y hy hyc
        · have : y = g := by simpa using hy
          subst this
          by_cases q : y ∈ f'
          · exact q
          · simp [hyc, q] at hb
    · rw [List.length_map, List.take_length] at hc
      exact ⟨f', p + 1, dat (pI p), x5, e, sp'.next hv' hc, .inl rfl⟩
  · have hpl : ¬ j < f.length := by
      have := of_decide_eq_false h
      simp at this
      omega
    have h2 := sp.le
    exact st_next ⟨f, p, dat (pI j), x5, rfl, sp, .inr ⟨by omega, by omega⟩⟩
/-! ### _law_inner -/
theorem sc_inner : FnScope ["_law_item"] ["_law_item"] (defScope (topS 35)) := ⟨rfl, rfl, rfl, by decide +kernel, rfl, by decide +kernel, by decide +kernel⟩
def R_inner (ds : List PyData) (d : PyData) : Prop := ∃ i : I, wfI i ∧ ds = [encI i] ∧ d = .list (encC (ins i))
theorem ok_inner (T : Txt mg) (D : Df K mg "_law_inner" 35 ["_law_item"]) : FnOk P w K mg base CX0 1 D.a D.fd ["_law_item"] (spP Ts R_inner) := by
  have sc := sc_inner
  refine fn_pure D.F sc (fun ds d h => ?_) (fun cdv A outer s H E ds d hr h => ?_)
  · obtain ⟨_, _, rfl, _⟩ := h; rfl
  obtain ⟨i, hw, rfl, rfl⟩ := h
  refine ⟨_, (pss_cons (ps_if (pt_cmpR op_eq (pe_ix ix_seq (pv 0) pe_int (fun _ _ => rfl)) pe_str (nomark _))
      (pss_one (ps_ret (pe_lst (pa_cons (pe_ix ix_seq (pv 0) pe_int (fun _ _ => rfl)) (pa_cons (pe_ix ix_seq (pv 0) pe_int (fun _ _ => rfl)) pa_nil)))))
      pss_nil)
    (pss_cons (ps_if (pt_cmpR op_eq (pe_ix ix_seq (pv 0) pe_int (fun _ _ => rfl)) pe_str (nomark _))
      (pss_one (ps_ret (pe_callTy call_list_of (by rfl) T.list (by decide +kernel) (pa_cons (pe_ix ix_seq (pv 0) pe_int (fun _ _ => rfl)) pa_nil))))
      pss_nil)
    (pss_cons (ps_if (PW.pt (pw_or (pt_cmpR op_eq (pe_ix ix_seq (pv 0) pe_int (fun _ _ => rfl)) pe_str (nomark _)) (pw_or1 (pt_cmpR op_eq (pe_ix ix_seq (pv 0) pe_int (fun _ _ => rfl)) pe_str (nomark _)))))
      (pss_one (ps_ret (pe_lst (pa_cons (pe_ix ix_seq (pv 0) pe_int (fun _ _ => rfl)) pa_nil))))
      pss_nil)
    (pss_one (ps_ret (pe_lst pa_nil)))))), ?_⟩
  refine st_ifr (eb_test (ev_op (ev_tagV i rfl) ev_str rv_eqS)) (fun h => ?_) (fun h => ?_)
  · obtain ⟨n, cs, rfl⟩ := kind1 ((tag_ifr i).mp (of_decide_eq_true h))
    simp only [wfI] at hw
    obtain ⟨a, b, rfl⟩ := two_of hw.1
    refine st_ret (ev_lst (ea_cons (ev_op (d := encT a) (ev_var rfl) ev_int ?_) (ea_cons (ev_op (d := encT b) (ev_var rfl) ev_int ?_) ea_nil)) (by simp)) ?_
    · simp only [encI, encC]; exact rv_ixT (at_2 _ _ _ _)
    · simp only [encI, encC]; exact rv_ixT (at_3 _ _ _ _ _)
    · simp [ins, encC]
  have h1 := mt (tag_ifr i).mpr (of_decide_eq_false h)
  refine st_ifr (eb_test (ev_op (ev_tagV i rfl) ev_str rv_eqS)) (fun h => ?_) (fun h => ?_)
  · obtain ⟨n, cs, rfl⟩ := kind2 ((tag_sw i).mp (of_decide_eq_true h))
    refine st_ret (d := .list (encC cs)) (ev_callR (ea_cons (ev_op (d := .tuple (encC cs)) (ev_var rfl) ev_int ?_) ea_nil) rc_listT) ?_
    · simp only [encI]; exact rv_ixT (at_2 _ _ _ _)
    · simp [ins]
  have h2 := mt (tag_sw i).mpr (of_decide_eq_false h)
  refine st_ifr (eb_or (eb_test (ev_op (ev_tagV i rfl) ev_str rv_eqS)) (fun _ => eb_test (ev_op (ev_tagV i rfl) ev_str rv_eqS))) (fun h3 => ?_) (fun h3 => ?_)
  · have h3 : tag i = "loop" ∨ tag i = "block" := by simpa using h3
    obtain ⟨lp, l, b, rfl⟩ := kind34 (h3.imp (tag_loop i).mp (tag_block i).mp)
    refine st_ret (ev_lst (ea_cons (ev_op (d := encT b) (ev_var rfl) ev_int ?_) ea_nil) (by simp)) ?_
    · simp only [encI]; exact rv_ixT (at_2 _ _ _ _)
    · simp [ins, encC]
  have h3 : ¬ (tag i = "loop" ∨ tag i = "block") := by
    intro z
    rcases z with z | z <;> simp [z] at h3
  refine st_ret (ev_lst ea_nil (by simp)) ?_
  rcases kind_rest h1 h2 (fun q => h3 (q.imp (tag_loop i).mpr (tag_block i).mpr)) with ⟨n, cs', rfl⟩ | ⟨ag, l, rfl⟩
  · simp only [wfI] at hw; simp [ins, hw.1, encC]
  · simp [ins, encC]
/-! ### _law_standing -/
abbrev NN__law_standing : List Str := ["_law_shape", "_law_found", "_law_item", "_law_inner_here"]
theorem sc_standing : FnScope NN__law_standing ["_law_shape"] (defScope (topS 36)) := ⟨rfl, rfl, rfl, by decide +kernel, rfl, by decide +kernel, by decide +kernel⟩
def R_standing (n : Nat) (ds : List PyData) (d : PyData) : Prop := ∃ s : List I, dpS s < n ∧ wfS s ∧ wtS s ≤ 1000 ∧ ds = [encT s] ∧ d = encL (stS s)
theorem stS_snoc {s : List I} {n : Nat} {i : I} (h : s[n]? = some i) : stS (s.take (n + 1)) = stS (s.take n) ++ stI i := by
  rw [List.take_add_one, h, stS_app]
  simp [stS]
theorem stC_app : ∀ s r : List (List I), stC (s ++ r) = stC s ++ stC r
  | [], r => by simp [stC]
  | i :: s, r => by
    show stC (i :: (s ++ r)) = _
    simp only [stC, stC_app s r, List.append_assoc]
theorem stC_snoc {s : List (List I)} {n : Nat} {i : List I} (h : s[n]? = some i) : stC (s.take (n + 1)) = stC (s.take n) ++ stS i := by
  rw [List.take_add_one, h, stC_app]
  simp [stC]
mutual
theorem st_wtI : ∀ i : I, (stI i).length ≤ wtI i
  | .act _ _ cs => by have := st_wtC cs; simp [stI, wtI]; omega
  | .scope _ _ b => by have := st_wtS b; simp [stI, wtI]; omega
  | .jmp _ _ => by simp [stI]
theorem st_wtS : ∀ s : List I, (stS s).length ≤ wtS s
  | [] => by simp [stS]
  | i :: r => by have := st_wtI i; have := st_wtS r; simp [stS, wtS]; omega
theorem st_wtC : ∀ s : List (List I), (stC s).length ≤ wtC s
  | [] => by simp [stC]
  | i :: r => by have := st_wtS i; have := st_wtC r; simp [stC, wtC]; omega
end
theorem ok_standing {n : Nat} (T : Txt mg) (D__law_inner : Df K mg "_law_inner" 35 ["_law_item"]) (D : Df K mg "_law_standing" 36 ["_law_shape"]) (G : FnOk P w K mg base CX0 (n + 1) D.a D.fd ["_law_shape"] (spP Ts (R_standing n))) :
    FnOk P w K mg base CX0 (n + 2) D.a D.fd ["_law_shape"] (spP Ts (R_standing (n + 1))) := by
  have sc := sc_standing
  have G__law_inner := ok_inner (P := P) (w := w) (base := base) (Ts := Ts) T D__law_inner
  refine fn_pure D.F sc (fun ds d h => ?_) (fun cdv A outer s H E ds d hr h => ?_)
  · obtain ⟨_, _, _, _, rfl, _⟩ := h; rfl
  obtain ⟨s, hd, hw, hwt, rfl, rfl⟩ := h
  refine ⟨_, (pss_cons (ps_set (i := 1) sc.nd rfl (Or.inl rfl) (pe_lst pa_nil))
    (pss_cons (ps_for PassesOwn.never rfl (pi_tup (pv 0)) (pg_name (i := 2) sc.nd rfl (Or.inl rfl))
      (pss_cons (ps_if (pt_cmpR op_in_seq (pe_ix ix_seq (pv 2) pe_int (fun _ _ => rfl)) (pe_lst (pa_cons pe_str (pa_cons pe_str (pa_cons pe_str pa_nil)))) (by rfl))
        (pss_one (ps_expr (pe_bm PySem.F.plainAttrs_list PySem.F.slot_list_append PySem.F.type_list_append mt_append (pv 1) (pa_cons (pe_ix ix_seq (pv 2) pe_int (fun _ _ => rfl)) pa_nil))))
        pss_nil)
      (pss_one (ps_for PassesOwn.never rfl (pi_list (pe_call G__law_inner (hr.mono (by omega)) rfl D__law_inner.m D__law_inner.F.kp D__law_inner.b .nil pass0 (pa_cons (pv 2) pa_nil))) (pg_name (i := 3) sc.nd rfl (Or.inl rfl))
        (pss_one (ps_set (i := 1) sc.nd rfl (Or.inl rfl) (pe_op op_cat (pv 1) (pe_call G (hr.mono (by omega)) rfl D.m D.F.kp D.b .nil pass0 (pa_cons (pv 3) pa_nil)))))))))
    (pss_one (ps_ret (pv 1))))), ?_⟩
  refine st_seq1 (st_new ea_nil (by simp) rfl) ?_
  refine st_seq (N := fun δ => ∃ x2 x3, δ = [dat (encT s), own ((stS s).map pI), x2, x3]) ?_ fun δ' ⟨x2, x3, e⟩ => e ▸ st_keep (i := 1) rfl (st_ret (ev_var rfl) rfl)
  refine forT_core (fun j δ => ∃ x2 x3, δ = [dat (encT s), own ((stS (s.take j)).map pI), x2, x3]) (ev_var rfl) ⟨none, none, by simp [stS]; rfl⟩ (fun j d δ' hj ⟨x2, x3, e⟩ => ?_) (fun δ' ⟨x2, x3, e⟩ => ⟨x2, x3, by rw [e, encS_length, List.take_length]⟩)
  obtain ⟨i, hi, rfl⟩ := encS_get hj
  have hwi := wfS_get hw hi
  have hdi := dpS_get hi
  rw [dp_ins] at hdi
  have hti := wtS_get hi
  have hst := st_wtS s
  have hsn := stS_snoc hi
  have htk : (stS (s.take (j + 1))).length ≤ (stS s).length := by
    have := congrArg List.length (stS_app (s.take (j + 1)) (s.drop (j + 1)))
    rw [List.take_append_drop, List.length_append] at this
    omega
  rw [hsn, List.length_append] at htk
  subst e
  have hbase : ∃ bs : List Nat, stI i = bs ++ stC (ins i) ∧ (kindI i = 0 ∨ kindI i = 1 ∨ kindI i = 2 → bs = [num i]) ∧ (¬ (kindI i = 0 ∨ kindI i = 1 ∨ kindI i = 2) → bs = []) := by
    cases i with
    | act t n cs => exact ⟨[n], by simp [stI, ins], fun _ => rfl, fun h => by cases t <;> simp [kindI] at h⟩
    | scope lp l b => exact ⟨[], by simp [stI, ins, stC], fun h => by cases lp <;> simp [kindI] at h, fun _ => rfl⟩
    | jmp ag l => exact ⟨[], by simp [stI, ins, stC], fun h => by cases ag <;> simp [kindI] at h, fun _ => rfl⟩
  obtain ⟨bs, hb1, hb2, hb3⟩ := hbase
  have hlen : (stS (s.take j)).length + bs.length + (stC (ins i)).length ≤ 1000 := by
    have := congrArg List.length hb1
    rw [List.length_append] at this
    omega
  refine st_seq (N := fun δ => δ = [dat (encT s), own ((stS (s.take j) ++ bs).map pI), dat (encI i), x3]) ?_ fun δ' e => e ▸ ?_
  · refine st_if (eb_test (ev_op (ev_tagV i rfl) (ev_lst (ea_cons ev_str (ea_cons ev_str (ea_cons ev_str ea_nil))) (by simp)) (by rw [str3]; exact rv_inSL))) (fun h => ?_) (fun h => ?_)
    · have h : tag i = "row" ∨ tag i = "if_row" ∨ tag i = "switch_row" := by simpa using h
      have h := hb2 (h.imp (tag_row i).mp fun q => q.imp (tag_ifr i).mp (tag_sw i).mp)
      refine st_append rfl (ev_numV i rfl) (by simp; omega) ?_
      rw [h, List.map_append]
      rfl
    · have h : ¬ (tag i = "row" ∨ tag i = "if_row" ∨ tag i = "switch_row") := by simpa using h
      have h := hb3 (fun z => h (z.imp (tag_row i).mpr fun q => q.imp (tag_ifr i).mpr (tag_sw i).mpr))
      refine st_next ?_
      rw [h, List.append_nil]
      rfl
  refine forL_core (fun q δ => ∃ x3, δ = [dat (encT s), own ((stS (s.take j) ++ bs ++ stC ((ins i).take q)).map pI), dat (encI i), x3]) (ev_call (ea_cons (ev_var rfl) ea_nil) ⟨i, hwi, rfl, rfl⟩) ⟨x3, by simp [stC]⟩ (fun q d δ' hq ⟨x3, e⟩ => ?_) (fun δ' ⟨x3, e⟩ => ⟨dat (encI i), x3, by rw [e, encC_length, List.take_length, hsn, hb1, List.append_assoc]⟩)
  obtain ⟨c, hc, rfl⟩ := encC_get hq
  have hdc := dpC_get hc
  have htc := wtC_get hc
  have hwi2 := wt_ins i
  have hsc := stC_snoc hc
  have htk2 : (stC ((ins i).take (q + 1))).length ≤ (stC (ins i)).length := by
    have := congrArg List.length (stC_app ((ins i).take (q + 1)) ((ins i).drop (q + 1)))
    rw [List.take_append_drop, List.length_append] at this
    omega
  rw [hsc, List.length_append] at htk2
  subst e
  refine st_catO rfl (ev_call (ea_cons (ev_var rfl) ea_nil) ⟨c, by omega, wfC_get (wf_ins hwi) hc, by omega, rfl, rfl⟩) (by simp only [List.length_map, List.length_append]; omega) ⟨dat (encT c), ?_⟩
  rw [hsc, ← List.append_assoc, show (stS (s.take j) ++ bs ++ stC ((ins i).take q) ++ stS c).map pI = (stS (s.take j) ++ bs ++ stC ((ins i).take q)).map pI ++ (stS c).map pI from List.map_append]
  rfl
theorem all_standing (T : Txt mg) (D__law_inner : Df K mg "_law_inner" 35 ["_law_item"]) (D : Df K mg "_law_standing" 36 ["_law_shape"]) : ∀ n, FnOk P w K mg base CX0 (n + 1) D.a D.fd ["_law_shape"] (spP Ts (R_standing n))
  | 0 => fn_none fun ds d h => by obtain ⟨s, h, _⟩ := h; omega
  | n + 1 => ok_standing T D__law_inner D (all_standing T D__law_inner D n)
end
end K33
end
section
set_option Elab.async false
set_option linter.all false
set_option maxRecDepth 100000
set_option maxHeartbeats 4000000
/-! W13: the law's own filling. -/
namespace K33
open PySem L2 GxR
section
variable {P : Program} {w : World} {K : PySem.W.Frag} {mg : Str → Option Value} {base : Heap} {Ts Mo : List Addr}
abbrev NN__law_filled : List Str := ["_law_shape", "_law_rows_here", "_law_found", "_law_item", "_law_inner_here", "_law_part"]
abbrev PP_filled : List Str := ["_law_shape", "_law_rows_here"]
theorem sc_filled : FnScope NN__law_filled PP_filled (defScope (topS 40)) := ⟨rfl, rfl, rfl, by decide +kernel, rfl, by decide +kernel, by decide +kernel⟩
theorem fillS_snoc (rs : List Row) {s : List I} {n : Nat} {i : I} (h : s[n]? = some i) : fillS rs (s.take (n + 1)) = fillS rs (s.take n) ++ [fillI rs i] := by
  rw [List.take_add_one, h, fillS_map, fillS_map, List.map_append]
  rfl
theorem ok_filled {n : Nat} (T : Txt mg) (D__law_inner : Df K mg "_law_inner" 35 ["_law_item"]) (D : Df K mg "_law_filled" 40 PP_filled) (G : FnOk P w K mg base CX0 (n + 1) D.a D.fd PP_filled (spP Ts (R_fill n))) :
    FnOk P w K mg base CX0 (n + 2) D.a D.fd PP_filled (spP Ts (R_fill (n + 1))) := by
  have sc := sc_filled
  have G__law_inner := ok_inner (P := P) (w := w) (base := base) (Ts := Ts) T D__law_inner
  refine fn_pure D.F sc (fun ds d h => ?_) (fun cdv A outer s H E ds d hr h => ?_)
  · obtain ⟨_, _, _, _, _, _, rfl, _⟩ := h; rfl
  obtain ⟨rs, s, hd, hw, ho, hz, rfl, rfl⟩ := h
  refine ⟨_, (pss_cons (ps_set (i := 2) sc.nd rfl (Or.inl rfl) (pe_lst pa_nil))
    (pss_cons (ps_for PassesOwn.never rfl (pi_tup (pv 0)) (pg_name (i := 3) sc.nd rfl (Or.inl rfl))
      (pss_cons (ps_setLc (i := 4) (own := [("_law_part", 5)]) (g := gName 5) (tt := tYes) rfl sc.nd rfl rfl (sw_true rfl rfl rfl (by decide +kernel)) (pi_list (pe_call G__law_inner (hr.mono (by omega)) rfl D__law_inner.m D__law_inner.F.kp D__law_inner.b .nil pass0 (pa_cons (pv 3) pa_nil))) (blkOk_by (own := [("_law_part", 5)]) (N := NN__law_filled) (sc := defScope (topS 40)) (by decide +kernel)) (fun _ _ _ _ _ => pg_name (i := 5) sc.nd rfl (Or.inl rfl)) (fun _ _ _ _ _ => pts_nil) (fun _ _ _ _ _ => (pe_call G (hr.mono (by omega)) rfl D.m D.F.kp D.b .nil pass0 (pa_cons (pv 5) (pa_cons (pv 1) pa_nil)))))
      (pss_one (ps_if (pt_cmpR op_eq (pe_ix ix_seq (pv 3) pe_int (fun _ _ => rfl)) pe_str (nomark _))
        (pss_one (ps_expr (pe_bm PySem.F.plainAttrs_list PySem.F.slot_list_append PySem.F.type_list_append mt_append (pv 2) (pa_cons (pe_tup (pa_cons pe_str (pa_cons (pe_ix ix_seq (pe_ix ix_seq (pv 1) (pe_ix ix_seq (pv 3) pe_int (fun _ _ => rfl)) (fun _ _ => rfl)) pe_int (fun _ _ => rfl)) (pa_cons (pe_ix ix_seq (pe_ix ix_seq (pv 1) (pe_ix ix_seq (pv 3) pe_int (fun _ _ => rfl)) (fun _ _ => rfl)) pe_int (fun _ _ => rfl)) pa_nil)))) pa_nil))))
        (pss_one (ps_if (pt_cmpR op_eq (pe_ix ix_seq (pv 3) pe_int (fun _ _ => rfl)) pe_str (nomark _))
          (pss_one (ps_expr (pe_bm PySem.F.plainAttrs_list PySem.F.slot_list_append PySem.F.type_list_append mt_append (pv 2) (pa_cons (pe_tup (pa_cons pe_str (pa_cons (pe_ix ix_seq (pe_ix ix_seq (pe_ix ix_seq (pv 1) (pe_ix ix_seq (pv 3) pe_int (fun _ _ => rfl)) (fun _ _ => rfl)) pe_int (fun _ _ => rfl)) pe_int (fun _ _ => rfl)) (pa_cons (pe_ix ix_seq (pe_ix ix_seq (pv 1) (pe_ix ix_seq (pv 3) pe_int (fun _ _ => rfl)) (fun _ _ => rfl)) pe_int (fun _ _ => rfl)) (pa_cons (pe_ix ix_seq (pv 4) pe_int (fun _ _ => rfl)) (pa_cons (pe_ix ix_seq (pv 4) pe_int (fun _ _ => rfl)) pa_nil)))))) pa_nil))))
          (pss_one (ps_if (pt_cmpR op_eq (pe_ix ix_seq (pv 3) pe_int (fun _ _ => rfl)) pe_str (nomark _))
            (pss_one (ps_expr (pe_bm PySem.F.plainAttrs_list PySem.F.slot_list_append PySem.F.type_list_append mt_append (pv 2) (pa_cons (pe_tup (pa_cons pe_str (pa_cons (pe_ix ix_seq (pe_ix ix_seq (pe_ix ix_seq (pv 1) (pe_ix ix_seq (pv 3) pe_int (fun _ _ => rfl)) (fun _ _ => rfl)) pe_int (fun _ _ => rfl)) pe_int (fun _ _ => rfl)) (pa_cons (pe_ix ix_seq (pe_ix ix_seq (pv 1) (pe_ix ix_seq (pv 3) pe_int (fun _ _ => rfl)) (fun _ _ => rfl)) pe_int (fun _ _ => rfl)) (pa_cons (pe_callTy call_tuple_of (by rfl) T.tuple (by decide +kernel) (pa_cons (pv 4) pa_nil)) pa_nil))))) pa_nil))))
            (pss_one (ps_if (pt_cmpR op_eq (pe_callB call_len_seq (by rfl) T.len PySem.boot_len (pa_cons (pv 4) pa_nil)) pe_int (nomark _))
              (pss_one (ps_expr (pe_bm PySem.F.plainAttrs_list PySem.F.slot_list_append PySem.F.type_list_append mt_append (pv 2) (pa_cons (pe_tup (pa_cons (pe_ix ix_seq (pv 3) pe_int (fun _ _ => rfl)) (pa_cons (pe_ix ix_seq (pv 3) pe_int (fun _ _ => rfl)) (pa_cons (pe_ix ix_seq (pv 4) pe_int (fun _ _ => rfl)) pa_nil)))) pa_nil))))
              (pss_one (ps_expr (pe_bm PySem.F.plainAttrs_list PySem.F.slot_list_append PySem.F.type_list_append mt_append (pv 2) (pa_cons (pv 3) pa_nil))))))))))))))
    (pss_one (ps_ret (pe_callTy call_tuple_of (by rfl) T.tuple (by decide +kernel) (pa_cons (pv 2) pa_nil)))))), ?_⟩
  have hls := len_sz s
  refine st_seq1 (st_new ea_nil (by simp) rfl) ?_
  refine st_seq (N := fun δ => ∃ x3 x4 x5, δ = [dat (encT s), dat (encRows rs), own (fillS rs s), x3, x4, x5]) ?_ fun δ' ⟨x3, x4, x5, e⟩ => ?_
  rotate_left
  · subst e
    refine st_keep (i := 2) rfl ?_
    exact st_ret (ev_callR (ea_cons (ev_var rfl) ea_nil) rc_tuple) rfl
  refine forT_core (fun j δ => ∃ x3 x4 x5, δ = [dat (encT s), dat (encRows rs), own (fillS rs (s.take j)), x3, x4, x5]) (ev_var rfl) ⟨none, none, none, by simp [fillS]; rfl⟩ (fun j d δ' hj ⟨x3, x4, x5, e⟩ => ?_) (fun δ' ⟨x3, x4, x5, e⟩ => ⟨x3, x4, x5, by rw [e, encS_length, List.take_length]⟩)
  obtain ⟨i, hi, rfl⟩ := encS_get hj
  have hjl : j < s.length := (List.getElem?_eq_some_iff.mp hi).1
  have hwi := wfS_get hw hi
  have hoi := okS_get ho hi
  have hdi := dpS_get hi
  rw [dp_ins] at hdi
  have hzi := szS_get hi
  have hzz := sz_ins i
  have hil := ins_len hwi
  subst e
  refine st_seq1 (st_asg (d := .list (fillC rs (ins i))) (ev_is (ev_lcLi (ds := encC (ins i)) (fun _ => true) (atF rs (ins i)) (ev_call (ea_cons (ev_var rfl) ea_nil) ⟨i, hwi, rfl, rfl⟩) (by rw [encC_length]; omega) (fun _ _ _ => eb_yes) (fun q d hq _ => ?_)) (by rw [lcIx_all, atF_map])) rfl) ?_
  · obtain ⟨c, hc, rfl⟩ := encC_get hq
    have hdc := dpC_get hc
    have hzc := szC_get hc
    rw [atF_get hc]
    exact ev_call (ea_cons (ev_var rfl) (ea_cons (ev_var rfl) ea_nil)) ⟨rs, c, by omega, wfC_get (wf_ins hwi) hc, okC_get (ok_ins hoi) hc, by omega, rfl, rfl⟩
  -- each way, one more statement
  have fin : ∀ {te : TE}, EvD Ts te [dat (encT s), dat (encRows rs), own (fillS rs (s.take j)), dat (encI i), dat (.list (fillC rs (ins i))), x5] (fillI rs i) →
      StD Ts [] (tDrop (tBM K "list" rAppend (tVar 2) (tCons te tNil))) [dat (encT s), dat (encRows rs), own (fillS rs (s.take j)), dat (encI i), dat (.list (fillC rs (ins i))), x5] (fun δ => ∃ x3 x4 x5, δ = [dat (encT s), dat (encRows rs), own (fillS rs (s.take (j + 1))), x3, x4, x5]) (· = fillT rs s) (fun δ => ∃ x3 x4 x5, δ = [dat (encT s), dat (encRows rs), own (fillS rs s), x3, x4, x5]) := fun {te} h =>
    st_append rfl h (by rw [fillS_length, List.length_take]; omega) ⟨dat (encI i), dat (.list (fillC rs (ins i))), x5, by rw [fillS_snoc rs hi]; rfl⟩
  have rowE : ∀ m, num i = m → m < rs.length → EvD Ts (tOp (rIx K) (tVar 1) (tOp (rIx K) (tVar 3) (tC (.int 1)))) [dat (encT s), dat (encRows rs), own (fillS rs (s.take j)), dat (encI i), dat (.list (fillC rs (ins i))), x5] (encRow (rowAt rs m)) := fun m hm hlt =>
    ev_op (ev_var rfl) (ev_numV i rfl) (by rw [hm]; exact rv_ixL (rows_at hlt))
  refine st_if (eb_test (ev_op (ev_tagV i rfl) ev_str rv_eqS)) (fun h => ?_) (fun h => ?_)
  · obtain ⟨m, cs, rfl⟩ := kind0 ((tag_row i).mp (of_decide_eq_true h))
    simp only [okI] at hoi
    refine fin (ev_is (ev_tup (ea_cons ev_str (ea_cons (ev_op (rowE m rfl hoi.1) ev_int (rv_ixT (at_0 _ _))) (ea_cons (ev_op (rowE m rfl hoi.1) ev_int (rv_ixT (at_1 _ _ _))) ea_nil))) (by simp)) ?_)
    simp [fillI]
  have h0 := mt (tag_row i).mpr (of_decide_eq_false h)
  refine st_if (eb_test (ev_op (ev_tagV i rfl) ev_str rv_eqS)) (fun h => ?_) (fun h => ?_)
  · obtain ⟨m, cs, rfl⟩ := kind1 ((tag_ifr i).mp (of_decide_eq_true h))
    simp only [okI] at hoi
    obtain ⟨ee, he⟩ := act_br hoi.2.1
    simp only [wfI] at hwi
    obtain ⟨a, b, rfl⟩ := two_of hwi.1
    refine fin (ev_is (ev_tup (ea_cons ev_str (ea_cons (ev_op (d := ee) (ev_op (rowE m rfl hoi.1) ev_int (rv_ixT (at_0 _ _))) ev_int ?_) (ea_cons (ev_op (rowE m rfl hoi.1) ev_int (rv_ixT (at_1 _ _ _))) (ea_cons (ev_op (d := fillT rs a) (ev_var rfl) ev_int ?_) (ea_cons (ev_op (d := fillT rs b) (ev_var rfl) ev_int ?_) ea_nil))))) (by simp)) ?_)
    · rw [he]; exact rv_ixT (at_1 _ _ _)
    · simp only [ins, fillC]; exact rv_ixL (at_0 _ _)
    · simp only [ins, fillC]; exact rv_ixL (at_1 _ _ _)
    · simp [fillI, he, exprA, fillC]
  have h1 := mt (tag_ifr i).mpr (of_decide_eq_false h)
  refine st_if (eb_test (ev_op (ev_tagV i rfl) ev_str rv_eqS)) (fun h => ?_) (fun h => ?_)
  · obtain ⟨m, cs, rfl⟩ := kind2 ((tag_sw i).mp (of_decide_eq_true h))
    simp only [okI] at hoi
    obtain ⟨ee, he⟩ := act_sel hoi.2.1
    refine fin (ev_is (ev_tup (ea_cons ev_str (ea_cons (ev_op (d := ee) (ev_op (rowE m rfl hoi.1) ev_int (rv_ixT (at_0 _ _))) ev_int ?_) (ea_cons (ev_op (rowE m rfl hoi.1) ev_int (rv_ixT (at_1 _ _ _))) (ea_cons (ev_callR (ea_cons (ev_var rfl) ea_nil) rc_tuple) ea_nil)))) (by simp)) ?_)
    · rw [he]; exact rv_ixT (at_1 _ _ _)
    · simp [fillI, he, exprA, ins]
  have h2 := mt (tag_sw i).mpr (of_decide_eq_false h)
  refine st_if (eb_test (ev_op (ev_callR (ea_cons (ev_var rfl) ea_nil) rc_len) ev_int rv_eqI)) (fun h => ?_) (fun h => ?_)
  · have h := of_decide_eq_true h
    rw [fillC_length] at h
    have hs : ∃ lp l b, i = .scope lp l b := by
      cases i with
      | act t m cs => cases t <;> simp [kindI] at h0 h1 h2
      | scope lp l b => exact ⟨_, _, _, rfl⟩
      | jmp ag l => simp [ins] at h
    obtain ⟨lp, l, b, rfl⟩ := hs
    refine fin (ev_is (ev_tup (ea_cons (ev_tagV _ rfl) (ea_cons (ev_numV _ rfl) (ea_cons (ev_op (d := fillT rs b) (ev_var rfl) ev_int ?_) ea_nil))) (by simp)) ?_)
    · simp only [ins, fillC]; exact rv_ixL (at_0 _ _)
    · simp [fillI, tag, num]
  · have h := of_decide_eq_false h
    rw [fillC_length] at h
    have hs : ∃ ag l, i = .jmp ag l := by
      cases i with
      | act t m cs => cases t <;> simp [kindI] at h0 h1 h2
      | scope lp l b => simp [ins] at h
      | jmp ag l => exact ⟨_, _, rfl⟩
    obtain ⟨ag, l, rfl⟩ := hs
    exact fin (ev_is (ev_var rfl) (by simp [fillI, encI]))
theorem all_filled (T : Txt mg) (D__law_inner : Df K mg "_law_inner" 35 ["_law_item"]) (D : Df K mg "_law_filled" 40 PP_filled) : ∀ n, FnOk P w K mg base CX0 (n + 1) D.a D.fd PP_filled (spP Ts (R_fill n))
  | 0 => fn_none fun ds d h => by obtain ⟨rs, s, h, _⟩ := h; omega
  | n + 1 => ok_filled T D__law_inner D (all_filled T D__law_inner D n)
end
end K33
end
section
set_option Elab.async false
set_option linter.all false
set_option maxRecDepth 100000
set_option maxHeartbeats 4000000
/-! L11: set of a list of ints. -/
namespace K33
open PySem PySem.Spec PyProof.Rows L2
/-- a new set's object -/
abbrev setN (w : World) : Obj := { cls := .type "set", dict := none, data := .set #[] 0 (.fresh 0 0 (!w.params.followText "set-order")) }
/-- s' is s with a new set at the next address that holds just the ints ns -/
def MadeS (w : World) (s : Shared) (ns : List Int) (s' : Shared) : Prop :=
  ∃ (g : Heap) (t c : Nat), s' = { s with heap := g, toks := t } ∧ SetR w g s.heap.objs.size (fun j => decide (j ∈ ns)) c ∧ c ≤ ns.length ∧ ∀ b o, s.heap.get? b = some o → g.get? b = some o
section
variable {P : Program} {w : World} {A : Around} {E : Value → Shared → Prop} {s : Shared} {l : Addr} {items : Array Value} {ns : List Int}
theorem item_int (hi : IntsAre items.toList ns) {i : Nat} {v : Value} (e : items[i]? = some v) : ∃ k t, ns[i]? = some k ∧ v = .int k t := by
  have n : items.size = ns.length := by simpa using hi.length
  have lt : i < ns.length := n ▸ (Array.getElem?_eq_some_iff.mp e).1
  obtain ⟨t, z⟩ := PyProof.Rows.IntsAre.int_at hi i v (by simpa using e)
  exact ⟨ns[i], t, List.getElem?_eq_getElem lt, by rw [z, List.getD_eq_getElem?_getD, List.getElem?_eq_getElem lt] <;> rfl⟩
set_option maxRecDepth 100000 in
set_option maxHeartbeats 3200000 in
/-- the new set, filled from the list -/
theorem fill_list (quiet : A.handled = none) (hl : s.heap.IsList l items) (hi : IntsAre items.toList ns) (hb : ns.length + 1 < scanBound) {R : Result → Shared → Prop} (hR : ∀ s', MadeS w s ns s' → R (.ok (.ret .none)) s') :
    codeAny (model P w) A (.call (.builtin "set.__init__") ⟨[.ref s.heap.objs.size, .ref l], []⟩) R { s with heap := s.heap.push (setN w) } := by
  have size : items.size = ns.length := by simpa using hi.length
  have new : (s.heap.push (setN w)).get? s.heap.objs.size = some (setN w) := Heap.get?_push_size _ rfl
  have grown : (s.heap.push (setN w)).objs.size = s.heap.objs.size + 1 := Heap.size_push ..
  have isl := hl.push (setN w)
  obtain ⟨⟨_, _, _, _⟩, at_l, rfl, n, rfl⟩ := hl
  have low := Heap.lt_size at_l
  have at_l1 := Heap.get?_push_of_some (setN w) at_l
  refine codeAny_call_builtin F.called_set.init.plain F.entry_set_init (check_set_init_1 ⟨_, new, rfl⟩ ?_)
  have k1 := F.sub_list_set
  have k2 := F.sub_list_frozenset
  have k3 : (Value.type "list" == Value.type "dict") = false := by decide
  have quiet2 : A.in1.in1.handled = none := by simp [quiet]
  unfold Builtin.«set.__init__» noKeywords Builtin.Frozenset.updateFrom
  generalize walk : pyIter = it
  wp_walk
  subst walk
  refine wpAny_pyIter_list isl (wpAny_bind (wpAny_runValue ?_))
  have apart : l ≠ (s.heap.push (setN w)).objs.size := grown ▸ Nat.ne_of_lt (Nat.lt_succ_of_lt low)
  refine set_update_ints (Walks.list quiet2 _ l apart items).toS s.heap.objs.size (fun z => ?_) ns size hb (fun i v e => item_int hi e) items.size 0 _ rfl (Nat.zero_le _) ?_ ⟨0, Nat.le_refl _, ?_⟩ fun s' c moved most holds => ?_
  · rcases List.mem_cons.mp z with z | z
    · exact Nat.ne_of_lt (Nat.lt_succ_self _) (z.trans grown)
    · exact Nat.ne_of_gt low (List.mem_singleton.mp z)
  · exact ⟨⟨_, Heap.get?_push_size _ rfl, rfl, rfl⟩, isl.push _⟩
  · exact setR_new_at (Heap.get?_push_of_some _ new)
  · have same : s' = { s with heap := s'.heap, toks := s'.toks } := by
      have g1 : s'.gens = s.gens := moved.gens
      have g2 : s'.drawn = s.drawn := moved.drawn
      have g3 : s'.os = s.os := moved.os
      rw [← g1, ← g2, ← g3]
    refine wpAny_pure (wpAny_pure (hR s' ⟨_, _, c, same, holds, size ▸ most, fun b o e => ?_⟩))
    have lb := Heap.lt_size e
    refine moved.heap b o (fun z => ?_) (Heap.get?_push_of_some _ (Heap.get?_push_of_some _ e))
    rcases List.mem_cons.mp z with z | z
    · exact Nat.ne_of_lt lb z
    · exact Nat.ne_of_lt (Nat.lt_succ_of_lt lb) ((List.mem_singleton.mp z).trans grown)
set_option maxRecDepth 100000 in
set_option maxHeartbeats 3200000 in
/-- set(l), l a list of ints -/
theorem call_set_listI {Q : Value → Shared → Prop} (quiet : A.handled = none) (hl : s.heap.IsList l items) (hi : IntsAre items.toList ns) (hb : ns.length + 1 < scanBound) (h : ∀ s', MadeS w s ns s' → Q (.ref s.heap.objs.size) s') :
    wpAny (model P w) A (call (.type "set") [.ref l]) Q E s := by
  have C := F.called_set
  obtain ⟨c, tl, mro⟩ := C.mro
  have a1 := C.made
  have a2 := C.sub
  have a3 := C.notType
  have a4 := C.canCreate
  have a5 := F.typeCall_set_1 (.ref l)
  refine wpAny_call (codeAny_of_tree ?_)
  show wpAny _ _ (callAny (.type "set") ⟨[.ref l], []⟩) _ _ s
  refine wpAny_pure ⟨Code.quiet_builtin _ (by decide +kernel), codeAny_builtin F.entry_type_call ?_⟩
  rw [Around.under_plain (weight_type_call_type "set" [.ref l] []) rfl]
  repeat (any_goals (first | assumption | wp_step))
  refine codeAny_mono (code_set_led1 (.ref l) (E := E) (Q₁ := fun x s1 => x = .ref s.heap.objs.size ∧ s1 = { s with heap := s.heap.push (setN w) }) ⟨rfl, rfl⟩) fun r s1 hr => ?_
  match r, hr with
  | .error _, z => exact z
  | .ok (.ret x), ⟨e1, e2⟩ =>
    subst e1 e2
    have isS : Shared.TypeIs { s with heap := s.heap.push (setN w) } (.ref s.heap.objs.size) "set" := ⟨_, Heap.get?_push_size _ rfl, rfl⟩
    have b1 := C.init.lookup
    have b2 := C.init.bind (.ref s.heap.objs.size)
    repeat (any_goals (first | assumption | wp_step))
    refine fill_list ?_ hl hi hb fun s2 made => ?_
    · simpa using quiet
    · repeat (any_goals (first | assumption | wp_step))
      exact h _ made
end
section
variable {X : Cx}
def rSetLI (K : PySem.W.Frag) (w : World) : List V → Hp → VK → Prop := fun xs H Q => ∃ (p : Addr) (ns : List Int), xs = [.ref p] ∧ SqL K H p (ns.map V.int) ∧ ns.length ≤ 60 ∧ ∀ (a : Addr) (c : Nat), H a = none → c ≤ ns.length → Q (.ref a) (upd H a (SetO w a (fun j => decide (j ∈ ns)) c))
theorem cr_setLI (hc : X.calm = true) : CallR X (.type "set") (rSetLI X.K X.w) := by
  intro pins s σ H xs us Q I r h
  obtain ⟨p, ns, rfl, hq, hn, q⟩ := h
  rw [Vals.ref1 r]
  obtain ⟨its, rv, pl, hz⟩ := I.list hq
  have hi : IntsAre its.toArray.toList ns := ints_of_vals rv
  have hd := I.ok.hd hc
  refine call_set_listI hd pl.isList hi (by unfold scanBound; omega) fun s' ⟨h', tk, c, es, R1, hcn, k⟩ => ?_
  subst es
  exact ⟨.ref _, upd H s.heap.objs.size (SetO X.w s.heap.objs.size (fun j => decide (j ∈ ns)) c), I.laid k (Nat.le_refl _) (setO_new R1), rfl, q _ c (I.hok.fresh (Nat.le_refl _)) hcn⟩
end
section
variable {Ts : List Addr} {δ : Dl} {te : TE} {K : PySem.W.Frag} {w : World}
/-- sorted(set(l)) -/
theorem ev_sortedSet {ns ms : List Int} (h : EvD Ts te δ (.list (ns.map PyData.int))) (hn : ns.length ≤ 60) (hm : ms.Pairwise (· < ·)) (hmem : ∀ k, k ∈ ms ↔ k ∈ ns) : EvD Ts (tCB (rSortedSet w) (tCons (tCB (rSetLI K w) (tCons te tNil)) tNil)) δ (.list (ms.map PyData.int)) := fun σ k H hk s Q q =>
  h σ k H hk s _ fun v k1 H1 g1 dv => by
    cases dv with
    | lst e a =>
      have z := a.of_ints
      subst z
      refine ⟨_, ns, rfl, SqL.of (g1.kn.sub _ _ e), hn, fun b c hb hc => ?_⟩
      have g2 : Gr Ts [] k1 H1 k1 (upd H1 b (SetO w b (fun j => decide (j ∈ ns)) c)) := Gr.freshU g1.kn hb
      refine ⟨b, _, c, rfl, upd_same, by omega, fun ns' p p1 p2 p3 hp => ?_⟩
      have : ns' = ms := List.Perm.eq_of_pairwise (le := (· < ·)) (fun a b _ _ h1 h2 => by omega) p1 hm ((List.perm_ext_iff_of_nodup (p1.imp fun h => by omega) (hm.imp fun h => by omega)).mpr fun k => by rw [p2 k, hmem k]; simp)
      subst this
      have g3 := Gr.new (o := .lst (ns'.map V.int)) g2.kn hp (fun _ => by simp)
      exact q _ _ _ (Gr.trans0 hk (Gr.trans0 hk g1 g2) g3) (.lst upd_same (DtA.ints ns'))
end
end K33
end
section
set_option Elab.async false
set_option linter.all false
set_option maxRecDepth 100000
set_option maxHeartbeats 2000000
/-! L12: dicts of one's own. -/
namespace K33
open PySem L2 GxR
def putE (es : List (Int × PyData)) (n : Int) (d : PyData) : List (Int × PyData) := if (es.any fun p => decide (p.1 = n)) = true then es.map (fun p => if p.1 = n then (p.1, d) else p) else es ++ [(n, d)]
theorem DtK.any {k : Hp} {n : Int} : ∀ {kvs : List (Key × V)} {es : List (Int × PyData)}, DtK k kvs es → (kvs.any fun kv => decide (kv.1 = (.inl n : Key))) = es.any fun p => decide (p.1 = n)
  | _, _, .nil => rfl
  | _, _, .cons (i := i) a b => by
    rw [List.any_cons, List.any_cons, DtK.any b]
    refine congrArg (· || _) ?_
    rw [Bool.eq_iff_iff]
    simp only [decide_eq_true_iff]
    exact ⟨fun h => Sum.inl.inj h, fun h => by rw [h]⟩
theorem DtK.put {k : Hp} {n : Int} {v : V} {d : PyData} {kvs : List (Key × V)} {es : List (Int × PyData)} (h : DtK k kvs es) (hv : Dt k v d) : DtK k (putK kvs (.inl n) v) (putE es n d) := by
  unfold putK putE
  rw [h.any]
  split
  · induction h with
    | nil => exact .nil
    | cons a b ih =>
      rename_i i v' d' kvs' es' hany
      rw [List.map_cons, List.map_cons]
      have ih' : DtK k (kvs'.map fun kv => if kv.1 = (.inl n : Key) then (kv.1, v) else kv) (es'.map fun p => if p.1 = n then (p.1, d) else p) := by
        clear ih hany
        induction b with
        | nil => exact .nil
        | cons a b ih =>
          rename_i i2 v2 d2 kvs2 es2
          rw [List.map_cons, List.map_cons]
          by_cases q : i2 = n
          · subst q
            simp only [if_true]
            exact .cons hv ih
          · rw [if_neg (fun z => q (Sum.inl.inj z)), if_neg q]
            exact .cons a ih
      by_cases q : i = n
      · subst q
        simp only [if_true]
        exact .cons hv ih'
      · rw [if_neg (fun z => q (Sum.inl.inj z)), if_neg q]
        exact .cons a ih'
  · exact h.app (.cons hv .nil)
section
variable {Ts Mo : List Addr} {δ : Dl} {N : Dl → Prop} {R : Dl → PyData → Prop} {B : Dl → Prop} {RD : Dl → List (Int × PyData) → Prop} {te tk tb : TE} {d : PyData} {K : PySem.W.Frag} {t : TS}
theorem st_dnew {i : Nat} (n : N (δ.set i (ownD []))) : StX Ts Mo (tAsg tDNewK (gName i)) δ N R B RD := fun k0 H0 σ k H D s hn _ _ => fun p hp => hn _ k _ _ n (Same.refl k) (s.freshU i (c := .d []) hp .nil)
theorem st_setD {i : Nat} {o : Option Addr} {es : List (Int × PyData)} {n : Int} (e : δ[i]? = some (some (.own (o, .d es)))) (h : EvD Ts te δ d) (hk : EvD Ts tk δ (.int n)) (hz : es.length < 100000) (nn : N (δ.set i (some (.own (o, .d (putE es n d)))))) : StX Ts Mo (tAsg te (gSub (tVar i) tk rSetD)) δ N R B RD := fun k0 H0 σ k H D s hn _ _ =>
  h σ k H s.kn s.sl _ fun v k1 H1 g1 dv => by
    have s1 := s.step g1
    obtain ⟨l, kvs, q1, q2, q3, q4, q5⟩ := s1.sl.ownD e
    refine ⟨_, q1, hk σ k1 H1 s1.kn s1.sl _ fun y k2 H2 g2 dy => ?_⟩
    cases dy
    have s2 := s1.step g2
    have q2' : H2 l = some (.dK kvs) := g2.same l _ q2 (s1.kn.not_tab q2 (fun _ => by simp)) (by simp)
    unfold rSetD
    refine ⟨l, _, rfl, .inl ⟨kvs, .inl n, q2', rfl, ?_, rfl⟩, hn _ k2 _ _ nn (g1.kk.trans g2.kk) (s2.writeU (c' := .d (putE es n d)) e q1 q2' ((q4.up g2.kk).put (Dt.up g2.kk _ _ dv)))⟩
    rw [q4.length]
    exact Nat.lt_of_lt_of_le hz (by decide)
/-- d[n], d a dict of one's own -/
theorem ev_dgetO {i : Nat} {o : Option Addr} {es : List (Int × PyData)} {n : Int} (e : δ[i]? = some (some (.own (o, .d es)))) (h : EvD Ts te δ (.int n)) (l : es.lookup n = some d) : EvD Ts (tDGet (tVar i) te) δ d := fun σ k H hk s Q q => by
  obtain ⟨p, kvs, e1, e2, e3, e4, e5⟩ := s.ownD e
  obtain ⟨v, z1, z2⟩ := e4.look l
  refine ⟨_, e1, h σ k H hk s _ fun y k1 H1 g1 dy => ?_⟩
  cases dy
  exact ⟨p, v, rfl, .inl ⟨kvs, .inl n, .inl (g1.same p _ e2 (hk.not_tab e2 (fun _ => by simp)) (by simp)), rfl, z1.symm⟩, q v k1 H1 g1 (Dt.up g1.kk _ _ z2)⟩
theorem Slots.ownF {k H : Hp} {σ : L2.St} (s : Slots k H σ δ) {i : Nat} {o : Option Addr} {od : Obj} {kvs : List (Key × V)} {es : List (Int × PyData)} (e : δ[i]? = some (some (.own (o, .f od kvs es)))) : ∃ l, σ[i]? = some (some (.ref l)) ∧ H l = some (.frz od (.dK kvs)) ∧ k l = none ∧ DtK k kvs es ∧ ∀ a, o = some a → l = a := by
  obtain ⟨l, u, h1, h2, h3, h4, h5⟩ := s.own1 e
  obtain ⟨e6, h6⟩ := CoOk.frz h4
  subst e6
  exact ⟨l, h1, h2, h3, h6, h5⟩
/-- .. while a loop walks it -/
theorem ev_dgetF {i : Nat} {o : Option Addr} {od : Obj} {kvs : List (Key × V)} {es : List (Int × PyData)} {n : Int} (e : δ[i]? = some (some (.own (o, .f od kvs es)))) (h : EvD Ts te δ (.int n)) (l : es.lookup n = some d) : EvD Ts (tDGet (tVar i) te) δ d := fun σ k H hk s Q q => by
  obtain ⟨p, e1, e2, e3, e4, e5⟩ := s.ownF e
  obtain ⟨v, z1, z2⟩ := e4.look l
  refine ⟨_, e1, h σ k H hk s _ fun y k1 H1 g1 dy => ?_⟩
  cases dy
  exact ⟨p, v, rfl, .inl ⟨kvs, .inl n, .inr ⟨od, g1.same p _ e2 (hk.not_tab e2 (fun _ => by simp)) (by simp)⟩, rfl, z1.symm⟩, q v k1 H1 g1 (Dt.up g1.kk _ _ z2)⟩
theorem Stt.moreMo {k0 H0 k H : Hp} {σ : L2.St} (s : Stt Ts Mo k0 H0 k H σ δ) {l : Addr} (h1 : H l ≠ none) (h2 : l ∉ Ts) : Stt Ts (l :: Mo) k0 H0 k H σ δ :=
  ⟨s.kn0, ⟨fun a o e n1 n2 => s.gr.same a o e n1 (fun z => n2 (List.mem_cons_of_mem _ z)), s.gr.kk, s.gr.kn, s.gr.dom⟩, fun a ha => by
    rcases List.mem_cons.mp ha with z | z
    · rw [z]; exact ⟨h1, h2⟩
    · exact s.mo a z, s.sl, fun i w l2 e1 e2 => (s.mine i w l2 e1 e2).imp id fun z => ⟨z.1, List.mem_cons_of_mem _ z.2⟩, s.apart⟩
/-- the slot's address is known -/
theorem Stt.named {k0 H0 k H : Hp} {σ : L2.St} {i : Nat} {o : Option Addr} {c : Cont} {l : Addr} (s : Stt Ts Mo k0 H0 k H σ δ) (e : δ[i]? = some (some (.own (o, c)))) (e2 : σ[i]? = some (some (.ref l))) (hl : l ∈ Mo) : Stt Ts Mo k0 H0 k H σ (δ.set i (some (.own (some l, c)))) := by
  have hi : i < δ.length := (List.getElem?_eq_some_iff.mp e).1
  obtain ⟨l', u, q1, q2, q3, q4, q5⟩ := s.sl.own1 e
  rw [e2] at q1
  cases q1
  have key : ∀ (j : Nat) (w : OW), (δ.set i (some (.own (some l, c))))[j]? = some (some (.own w)) → ∃ w', δ[j]? = some (some (.own w')) ∧ (j = i → w = (some l, c)) ∧ (j ≠ i → w' = w) := fun j w h => by
    rcases set_some h with ⟨z, ze⟩ | ⟨z, h⟩
    · subst z
      cases ze
      exact ⟨(o, c), e, fun _ => rfl, fun z => absurd rfl z⟩
    · exact ⟨w, h, fun z2 => absurd z2 z, fun _ => rfl⟩
  refine ⟨s.kn0, s.gr, s.mo, ⟨by simp [s.sl.len], fun j => ?_⟩, fun j w l2 f1 f2 => ?_, fun a b w w' l2 f1 f2 f3 f4 => ?_⟩
  · by_cases q : i = j
    · subst q
      rw [List.getElem?_set_self hi, e2]
      exact ⟨l, u, rfl, q2, q3, q4, fun a z => by cases z; rfl⟩
    · rw [List.getElem?_set_ne q]
      exact s.sl.ok j
  · obtain ⟨w', h1, h2, h3⟩ := key j w f1
    by_cases z : j = i
    · rw [h2 z]
      rw [z, e2] at f2
      cases f2
      exact .inr ⟨by simp, hl⟩
    · rw [← h3 z]; exact s.mine j w' l2 h1 f2
  · obtain ⟨w1, h1, _⟩ := key a w f1
    obtain ⟨w2, h2, _⟩ := key b w' f2
    exact s.apart a b w1 w2 l2 h1 h2 f3 f4
/-- back: the slot's address is forgotten -/
theorem Stt.unnamed {k0 H0 k H : Hp} {σ : L2.St} {i : Nat} {o : Option Addr} {c : Cont} {l : Addr} (s : Stt Ts (l :: Mo) k0 H0 k H σ δ) (e : δ[i]? = some (some (.own (some l, c)))) (ho : (o = none ∧ H0 l = none) ∨ (o = some l ∧ l ∈ Mo)) : Stt Ts Mo k0 H0 k H σ (δ.set i (some (.own (o, c)))) := by
  have hi : i < δ.length := (List.getElem?_eq_some_iff.mp e).1
  obtain ⟨l', u, q1, q2, q3, q4, q5⟩ := s.sl.own1 e
  have := q5 l rfl
  subst this
  have key : ∀ (j : Nat) (w : OW), (δ.set i (some (.own (o, c))))[j]? = some (some (.own w)) → ∃ w', δ[j]? = some (some (.own w')) ∧ (j = i → w = (o, c)) ∧ (j ≠ i → w' = w) := fun j w h => by
    rcases set_some h with ⟨z, ze⟩ | ⟨z, h⟩
    · subst z
      cases ze
      exact ⟨(some l', c), e, fun _ => rfl, fun z => absurd rfl z⟩
    · exact ⟨w, h, fun z2 => absurd z2 z, fun _ => rfl⟩
  refine ⟨s.kn0, ⟨fun a u2 z n1 n2 => ?_, s.gr.kk, s.gr.kn, s.gr.dom⟩, fun a ha => s.mo a (List.mem_cons_of_mem _ ha), ⟨by simp [s.sl.len], fun j => ?_⟩, fun j w l2 f1 f2 => ?_, fun a b w w' l2 f1 f2 f3 f4 => ?_⟩
  · refine s.gr.same a u2 z n1 fun y => ?_
    rcases List.mem_cons.mp y with y | y
    · subst y
      rcases ho with ho | ho
      · rw [ho.2] at z; cases z
      · exact n2 ho.2
    · exact n2 y
  · by_cases q : i = j
    · subst q
      rw [List.getElem?_set_self hi, q1]
      refine ⟨l', u, rfl, q2, q3, q4, fun a z => ?_⟩
      rcases ho with ho | ho
      · rw [ho.1] at z; cases z
      · rw [ho.1] at z; cases z; rfl
    · rw [List.getElem?_set_ne q]
      exact s.sl.ok j
  · obtain ⟨w', h1, h2, h3⟩ := key j w f1
    by_cases z : j = i
    · rw [h2 z]
      rw [z, q1] at f2
      cases f2
      rcases ho with ho | ho
      · exact .inl ho
      · exact .inr ⟨by rw [ho.1]; simp, ho.2⟩
    · rw [← h3 z]
      rcases s.mine j w' l2 h1 f2 with y | y
      · exact .inl y
      · refine .inr ⟨y.1, ?_⟩
        rcases List.mem_cons.mp y.2 with y2 | y2
        · subst y2
          exact absurd (s.apart j i w' _ _ h1 e f2 q1) z
        · exact y2
  · obtain ⟨w1, h1, _⟩ := key a w f1
    obtain ⟨w2, h2, _⟩ := key b w' f2
    exact s.apart a b w1 w2 l2 h1 h2 f3 f4
/-- a statement that walks a dict of one's own: meanwhile the dict is not written -/
theorem st_lockD {i : Nat} {o : Option Addr} {es : List (Int × PyData)} (e : δ[i]? = some (some (.own (o, .d es))))
    (h : ∀ (l : Addr) (od : Obj) (kvs : List (Key × V)), StX Ts (l :: Mo) t (δ.set i (some (.own (some l, .f od kvs es)))) (fun δ' => δ'[i]? = some (some (.own (some l, .f od kvs es))) ∧ N (δ'.set i (some (.own (o, .d es))))) (fun _ _ => False) (fun _ => False) NoD) :
    StX Ts Mo (tLock t) δ N R B RD := fun k0 H0 σ k H D s hn hr hb => by
  obtain ⟨l, kvs, q1, q2, q3, q4, q5⟩ := s.sl.ownD e
  have hi : i < δ.length := (List.getElem?_eq_some_iff.mp e).1
  have m := s.mine i _ l e q1
  have hTs : l ∉ Ts := s.kn.not_tab q2 (fun _ => by simp)
  refine ⟨l, .dK kvs, q2, trivial, fun od => ?_⟩
  have s1 := (s.moreMo (l := l) (by rw [q2]; simp) hTs).named e q1 List.mem_cons_self
  have e1 : (δ.set i (some (.own (some l, .d es))))[i]? = some (some (.own (some l, .d es))) := List.getElem?_set_self hi
  have s2 := s1.writeU (c' := .f od kvs es) (v := .frz od (.dK kvs)) e1 q1 q2 ⟨rfl, rfl, q4⟩
  rw [List.set_set] at s2
  refine h l od kvs k0 H0 σ k _ _ s2 (fun σ' k' H' δ' n kk s' => ?_) (fun σ' k' H' δ' v s' => ⟨fun d r => r.elim, fun es r => r.elim⟩) (fun _ _ _ _ z => z.elim)
  obtain ⟨n1, n2⟩ := n
  obtain ⟨l2, f1, f2, f3, f4, f5⟩ := s'.sl.ownF n1
  have := f5 l rfl
  subst this
  refine ⟨f2, ?_⟩
  have s3 := s'.writeU (c' := .d es) (v := .dK kvs) n1 f1 f2 f4
  have hi' : i < δ'.length := (List.getElem?_eq_some_iff.mp n1).1
  have s4 := s3.unnamed (o := o) (List.getElem?_set_self hi') (m.imp (fun z => z) (fun z => ⟨by
    have z1 : o ≠ none := z.1
    cases o with
    | none => exact absurd rfl z1
    | some a => rw [q5 a rfl], z.2⟩))
  rw [List.set_set] at s4
  exact hn σ' k' _ _ n2 kk s4
theorem DtK.getV {k : Hp} : ∀ {kvs : List (Key × V)} {es : List (Int × PyData)} {i : Nat} {ky : Key} {v : V}, DtK k kvs es → kvs[i]? = some (ky, v) → ∃ p : Int × PyData, es[i]? = some p ∧ ky = .inl p.1
  | _, _, _, _, _, .nil, h => by simp at h
  | _, _, 0, _, _, .cons a b, h => by simp at h; exact ⟨_, rfl, h.1.symm⟩
  | _, _, i + 1, _, _, .cons a b, h => by
    obtain ⟨p, h1, h2⟩ := DtK.getV (i := i) b (by simpa using h)
    exact ⟨p, by simpa using h1, h2⟩
/-- for n in d -/
theorem forK_core {i j : Nat} {l : Addr} {od : Obj} {kvs : List (Key × V)} {es : List (Int × PyData)} {body : TS} (Inv : Nat → Dl → Prop) (h0 : Inv 0 δ) (hI : ∀ q δ', Inv q δ' → δ'[i]? = some (some (.own (some l, .f od kvs es))))
    (hs : ∀ (q : Nat) (p : Int × PyData) (δ' : Dl), es[q]? = some p → Inv q δ' → StX Ts Mo body (δ'.set j (dat (.int p.1))) (Inv (q + 1)) R N RD) (hd : ∀ δ', Inv es.length δ' → N δ') :
    StX Ts Mo (tFor (iKeys (tVar i)) (gName j) body) δ N R B RD := fun k0 H0 σ k H D s hn hr hb => by
  obtain ⟨l', q1, q2, q3, q4, q5⟩ := s.sl.ownF (hI 0 δ h0)
  have := q5 l rfl
  subst this
  have frz : ∀ {q k' H' σ' δ'}, Inv q δ' → Stt Ts Mo k0 H0 k' H' σ' δ' → H' l' = some (.frz od (.dK kvs)) := fun {q k' H' σ' δ'} inv s' => by
    obtain ⟨l2, f1, f2, f3, f4, f5⟩ := s'.sl.ownF (hI q δ' inv)
    have := f5 l' rfl
    subst this
    exact f2
  have hlen := q4.length
  refine ⟨_, q1, l', od, rfl, .inl ⟨kvs, q2, fun q m σ' H' => m = kvs.length - q ∧ q ≤ kvs.length ∧ ∃ k' δ', Inv q δ' ∧ Same k k' ∧ Stt Ts Mo k0 H0 k' H' σ' δ', ⟨_, rfl, Nat.zero_le _, k, δ, h0, Same.refl _, s⟩, ?_⟩⟩
  rintro q m σ' H' ⟨rfl, hi, k', δ', inv, kk, s'⟩
  by_cases hlt : q < kvs.length
  · refine .inr ⟨⟨frz inv s', hlt⟩, fun σ2 H2 => ∃ k2 δ2, Inv (q + 1) δ2 ∧ Same k k2 ∧ Stt Ts Mo k0 H0 k2 H2 σ2 δ2, ?_, fun x H'' hy => ?_⟩
    · rintro σ2 H2 ⟨k2, δ2, i2, kk2, s2⟩
      exact ⟨kvs.length - (q + 1), by omega, rfl, hlt, k2, δ2, i2, kk2, s2⟩
    · obtain ⟨rfl, ky, v, hk, rfl⟩ := hy
      obtain ⟨p, hp, rfl⟩ := q4.getV hk
      refine hs q p δ' hp inv k0 H0 _ k' H'' _ (s'.put j (.int p.1)) (fun σ2 k2 H2 δ2 n2 kk2 s2 => ⟨k2, δ2, n2, kk.trans kk2, s2⟩) hr (fun σ2 k2 H2 δ2 n2 kk2 s2 => hn σ2 k2 H2 δ2 n2 (kk.trans kk2) s2)
  · have e2 : q = es.length := by omega
    exact .inl ⟨⟨frz inv s', by omega⟩, hn σ' k' H' δ' (hd δ' (e2 ▸ inv)) kk s'⟩
/-- [n for n in d if ..] -/
theorem ev_lcK {i j : Nat} {o : Option Addr} {od : Obj} {kvs : List (Key × V)} {es : List (Int × PyData)} {ns : List Nat} {tt : TT} (p : Nat → Bool) (e : δ[i]? = some (some (.own (o, .f od kvs es)))) (hk : es.map (·.1) = ns.map fun n : Nat => (n : Int)) (hz : ns.length ≤ 10000) (hij : i ≠ j) (hj : j < δ.length)
    (ht : ∀ n ∈ ns, EvB Ts tt ((δ.set j none).set j (dat (pI n))) (p n)) : EvD Ts (tLc (iKeys (tVar i)) (gName j) tt (tVar j) [j]) δ (encL (ns.filter p)) := fun σ k H hkn s Q q => by
  obtain ⟨l, q1, q2, q3, q4, q5⟩ := s.ownF e
  have hlen := q4.length
  have hln : es.length = ns.length := by have := congrArg List.length hk; simpa using this
  refine ⟨_, q1, l, od, rfl, .inl ⟨kvs, q2, fun D hD => ?_⟩⟩
  have lD : l ≠ D := fun z => by rw [z, hD] at q2; cases q2
  have hnt := hkn.not_tab q2 (fun _ => by simp)
  refine ⟨fun m mm H' => mm = kvs.length - m ∧ m ≤ kvs.length ∧ Grow Ts k H σ δ D ((ns.take m).filter p |>.map pI) H', ⟨_, rfl, Nat.zero_le _, ⟨k, [], Gr.fresh hkn hD, upd_same, ?_, by simpa using DtA.nil⟩⟩, ?_⟩
  · cases z : k D with
    | none => rfl
    | some u => rw [hkn.sub D u z] at hD; cases hD
  rintro m mm H' ⟨rfl, hm, P⟩
  have fz : H' l = some (.frz od (.dK kvs)) := by
    obtain ⟨k2, xs, g2, e1, e2, a2⟩ := P
    exact g2.same l _ q2 hnt (by simp)
  by_cases hlt : m < kvs.length
  · refine .inr ⟨⟨fz, hlt⟩, fun H2 => Grow Ts k H σ δ D ((ns.take (m + 1)).filter p |>.map pI) H2, fun H2 g => ⟨kvs.length - (m + 1), by omega, rfl, hlt, g⟩, fun x H'' hy => ?_⟩
    obtain ⟨rfl, ky, v, hk1, rfl⟩ := hy
    obtain ⟨pr, hp, rfl⟩ := q4.getV hk1
    have hnm : ∃ n, ns[m]? = some n ∧ pr.1 = (n : Int) := by
      have h1 : (es.map (·.1))[m]? = some pr.1 := by rw [List.getElem?_map, hp]; rfl
      rw [hk, List.getElem?_map] at h1
      cases z : ns[m]? with
      | none => rw [z] at h1; cases h1
      | some n => rw [z] at h1; exact ⟨n, rfl, (Option.some.inj h1).symm⟩
    obtain ⟨n, hn, hpn⟩ := hnm
    have hnm := List.mem_of_getElem? hn
    have hx : Dt k (kV (.inl pr.1)) (pI n) := by show Dt k (.int pr.1) (.int (n : Int)); rw [hpn]; exact .int _
    refine ⟨wipe1, ?_⟩
    have hg := grow_turn (j := j) (te := tVar j) (dy := pI n) (b := p n) hkn hD s hx (by
      rw [List.length_map]
      have := List.length_filter_le p (ns.take m)
      rw [List.length_take] at this
      omega) P (ht n hnm) (fun _ => ev_var (by rw [List.getElem?_set_self (by simpa using hj)]))
    have eq : (if p n = true then ((ns.take m).filter p).map pI ++ [pI n] else ((ns.take m).filter p).map pI) = ((ns.take (m + 1)).filter p).map pI := by
      rw [List.take_add_one, hn, List.filter_append, List.map_append]
      by_cases z : p n = true
      · rw [if_pos z]; simp [z]
      · rw [if_neg z]; simp [z]
    rw [eq] at hg
    exact hg
  · have e2 : m = ns.length := by omega
    subst e2
    rw [List.take_length] at P
    refine .inl ⟨⟨fz, by omega⟩, ?_⟩
    obtain ⟨k2, g2, d2⟩ := P.done hD
    exact q _ k2 H' g2 d2
end
end K33
end
section
set_option Elab.async false
set_option linter.all false
set_option maxRecDepth 100000
set_option maxHeartbeats 2000000
/-! L13: defs that hand back a dict. -/
namespace K33
open PySem L2 GxR
section
variable {k : Hp} {l : Addr} {kvs0 : List (Key × V)}
mutual
theorem Dt.less (h : k l = some (.dK kvs0)) : ∀ (d : PyData) (v : V), Dt k v d → Dt (less k l) v d
  | .none, _, .non => .non
  | .bool _, _, .bl b => .bl b
  | .int _, _, .int i => .int i
  | .str _, _, .str x => .str x
  | .list ds, _, .lst (a := a) e q => .lst (a := a) (by
      unfold K33.less
      rw [if_neg (fun z => by rw [z, h] at e; cases e)]
      exact e) (DtA.less h ds _ q)
  | .tuple ds, _, .tup (a := a) e q => .tup (a := a) (by
      unfold K33.less
      rw [if_neg (fun z => by rw [z, h] at e; cases e)]
      exact e) (DtA.less h ds _ q)
theorem DtA.less (h : k l = some (.dK kvs0)) : ∀ (ds : List PyData) (vs : List V), DtA k vs ds → DtA (less k l) vs ds
  | [], _, .nil => .nil
  | d :: ds, _, .cons a b => .cons (Dt.less h d _ a) (DtA.less h ds _ b)
end
theorem DtK.less (h : k l = some (.dK kvs0)) : ∀ {kvs : List (Key × V)} {es : List (Int × PyData)}, DtK k kvs es → DtK (less k l) kvs es
  | _, _, .nil => .nil
  | _, _, .cons a b => .cons (Dt.less h _ _ a) (DtK.less h b)
theorem CoOk.less (h : k l = some (.dK kvs0)) {u : HO} {c : Cont} (a : CoOk k u c) : CoOk (less k l) u c := by
  cases u <;> cases c <;> first | exact a.elim | exact DtA.less h _ _ a | exact DtK.less h a | exact ⟨a.1, a.2.1, DtK.less h a.2.2⟩
end
section
variable {Ts Mo : List Addr} {k0 H0 k H k' H' : Hp} {σ : L2.St} {δ : Dl}
theorem Gr.less {M : List Addr} {l : Addr} (h : Kn Ts k H) (hl : H l = none) (g : Gr Ts M k H k' H') : Gr Ts M k H (less k' l) H' where
  same := g.same
  kk := fun a o e => by
    have : a ≠ l := fun y => by subst y; rw [h.sub a o e] at hl; cases hl
    unfold K33.less
    rw [if_neg this]
    exact g.kk a o e
  kn := ⟨fun a o e => by
      unfold K33.less at e
      split at e
      · cases e
      · exact g.kn.sub a o e, fun a ps e => by
      unfold K33.less at e
      split at e
      · cases e
      · exact g.kn.nt a ps e, g.kn.tb⟩
  dom := fun a e => by
    unfold K33.less
    rw [if_neg (fun z => e (by rw [z]; exact hl))]
    exact g.dom a e
theorem less_same {l : Addr} : less k l l = none := by unfold K33.less; rw [if_pos rfl]
/-- a new thing that stands already becomes one's own -/
theorem Stt.adopt (s : Stt Ts Mo k0 H0 k H σ δ) (i : Nat) {l : Addr} {u : HO} {c : Cont} (hl : H l = some u) (hk : k l = none) (h0 : H0 l = none) (hc : CoOk k u c) (fr : ∀ j w, j ≠ i → δ[j]? = some (some (.own w)) → σ[j]? ≠ some (some (.ref l))) :
    Stt Ts Mo k0 H0 k H (σ.set i (some (.ref l))) (δ.set i (some (.own (none, c)))) := by
  refine ⟨s.kn0, s.gr, s.mo, s.sl.set i ⟨l, u, rfl, hl, hk, hc, fun _ z => by cases z⟩, fun j es l2 e1 e2 => ?_, fun a b es fs l2 e1 e2 e3 e4 => ?_⟩
  · rcases set_some e1 with ⟨z, ze⟩ | ⟨z, e1⟩
    · rcases set_some e2 with ⟨_, y⟩ | ⟨y, _⟩
      · cases y
        cases ze
        exact .inl ⟨rfl, h0⟩
      · exact absurd z y
    · rw [List.getElem?_set_ne (Ne.symm z)] at e2
      exact s.mine j es l2 e1 e2
  · rcases set_some e1 with ⟨z, _⟩ | ⟨z, e1⟩
    · rcases set_some e2 with ⟨z2, _⟩ | ⟨z2, e2⟩
      · rw [z, z2]
      · rcases set_some e3 with ⟨_, y⟩ | ⟨y, _⟩
        · cases y
          rw [List.getElem?_set_ne (Ne.symm z2)] at e4
          exact absurd e4 (fr b _ z2 e2)
        · exact absurd z y
    · rw [List.getElem?_set_ne (Ne.symm z)] at e3
      rcases set_some e2 with ⟨z2, _⟩ | ⟨z2, e2⟩
      · rcases set_some e4 with ⟨_, y⟩ | ⟨y, _⟩
        · cases y
          exact absurd e3 (fr a _ z e1)
        · exact absurd z2 y
      · rw [List.getElem?_set_ne (Ne.symm z2)] at e4
        exact s.apart a b es fs l2 e1 e2 e3 e4
theorem Stt.new0 (s : Stt Ts Mo k0 H0 k H σ δ) {l : Addr} (hl : H l = none) : H0 l = none := by
  cases q : H0 l with
  | none => rfl
  | some o =>
    by_cases z : l ∈ Ts
    · obtain ⟨ps, e, _⟩ := s.kn.tb l z
      rw [hl] at e; cases e
    · by_cases y : l ∈ Mo
      · exact absurd hl (s.mo l y).1
      · rw [s.gr.same l o q z y] at hl; cases hl
theorem Stt.off (s : Stt Ts Mo k0 H0 k H σ δ) {l : Addr} (hl : H l = none) {j : Nat} {w : OW} (e : δ[j]? = some (some (.own w))) : σ[j]? ≠ some (some (.ref l)) := fun z => by
  obtain ⟨l2, u, h1, h2, _⟩ := s.sl.own1 e
  rw [z] at h1
  cases h1
  rw [hl] at h2
  cases h2
/-- the promise of a def that hands back a new dict -/
def spKP (Ts : List Addr) (R : List PyData → List (Int × PyData) → Prop) : Sp := fun vs H Q _ => ∃ (k : Hp) (ds : List PyData) (es : List (Int × PyData)), Kn Ts k H ∧ DtA k vs ds ∧ R ds es ∧ ∀ v k' H', Gr Ts [] k H k' H' → NewD k H k' v es → Q v H'
/-- .. that writes on the thing handed in first -/
def spKW (Ts : List Addr) (R : Cont → List PyData → List (Int × PyData) → Prop) : Sp := fun vs H Q _ => ∃ (k : Hp) (l : Addr) (vs' : List V) (u : HO) (c : Cont) (ds : List PyData) (es : List (Int × PyData)), vs = .ref l :: vs' ∧ Kn Ts k H ∧ H l = some u ∧ k l = none ∧ CoOk k u c ∧ DtA k vs' ds ∧ R c ds es ∧
  ∀ v k' H' u' c', Gr Ts [l] k H k' H' → H' l = some u' → k' l = none → CoOk k' u' c' → NewD k H k' v es → Q v H'
variable {N : Dl → Prop} {R' : Dl → PyData → Prop} {B : Dl → Prop} {RD : Dl → List (Int × PyData) → Prop}
theorem st_callK {R : List PyData → List (Int × PyData) → Prop} {E : XK} {ta : TA} {i : Nat} {as : List PyData} {es : List (Int × PyData)} (ha : EvA Ts ta δ as) (hr : R as es) (n : N (δ.set i (ownD es))) : StX Ts Mo (tAsg (tCall (spKP Ts R) [] E ta) (gName i)) δ N R' B RD := fun k0 H0 σ k H D s hn _ _ =>
  ha σ k H s.kn s.sl _ fun vs k1 H1 g1 a1 => ⟨k1, as, es, g1.kn, by rw [List.append_nil]; exact a1, hr, fun v k2 H2 g2 ⟨l, kvs, e, h1, h2, h3⟩ => by
    subst e
    have s1 := s.step g1
    have g3 := g2.less g1.kn h1
    exact hn _ _ H2 _ n (g1.kk.trans g3.kk) ((s1.step g3).adopt i (c := .d es) (g2.kn.sub _ _ h2) less_same (s1.new0 h1) (h3.less h2) fun j w _ e => s1.off h1 e)⟩
theorem st_callKW {R : Cont → List PyData → List (Int × PyData) → Prop} {E : XK} {ta : TA} {i : Nat} {o : Option Addr} {c : Cont} {as : List PyData} {es : List (Int × PyData)} (e : δ[i]? = some (some (.own (o, c)))) (ha : EvA Ts ta δ as) (hr : R c as es) (n : N (δ.set i (ownD es))) :
    StX Ts Mo (tAsg (tCall (spKW Ts R) [] E (tCons (tVar i) ta)) (gName i)) δ N R' B RD := fun k0 H0 σ k H D s hn _ _ => by
  obtain ⟨l, u, q1, q2, q3, q4, q5⟩ := s.sl.own1 e
  refine ⟨_, q1, ha σ k H s.kn s.sl _ fun vs k1 H1 g1 a1 => ?_⟩
  have s1 := s.step g1
  have q2' : H1 l = some u := g1.same l _ q2 (s.kn.not_tab q2 q4.nt) (by simp)
  have q3' : k1 l = none := by rw [g1.dom l (by rw [q2]; simp)]; exact q3
  refine ⟨k1, l, vs ++ [], u, c, as, es, rfl, g1.kn, q2', q3', q4.up g1.kk, by rw [List.append_nil]; exact a1, hr, fun v k2 H2 u' c' g2 e2 e3 d2 ⟨l2, kvs, ev, h1, h2, h3⟩ => ?_⟩
  subst ev
  have g3 := g2.less g1.kn h1
  have ll : l ≠ l2 := fun z => by rw [z, h1] at q2'; cases q2'
  have e3' : less k2 l2 l = none := by
    unfold K33.less
    split
    · rfl
    · exact e3
  have s2 := s1.callW e q1 g3 e2 e3' (d2.less h2)
  have s3 := s2.adopt i (c := .d es) (g2.kn.sub _ _ h2) less_same (s1.new0 h1) (h3.less h2) fun j w hj e4 => by
    rw [List.getElem?_set_ne (Ne.symm hj)] at e4
    exact s1.off h1 e4
  rw [List.set_set] at s3
  exact hn _ _ H2 _ n (g1.kk.trans g3.kk) s3
end
section
variable {P : Program} {w : World} {K : PySem.W.Frag} {mg : Str → Option Value} {base : Heap}
theorem fn_dict {Ts : List Addr} {x qual : Str} {st : Stmt} {f : Addr} {fd : FuncData} {N ps : List Str} {j : Nat} {R : List PyData → List (Int × PyData) → Prop} (F : Fun K x qual st f fd) (S : FnScope N ps (defScope st)) (hl : ∀ ds es, R ds es → ds.length = ps.length)
    (hbody : ∀ (cdv : Value) (A : Around) (outer : List PySem.Env) (s : Shared) (H : Hp) (E : XK) (ds : List PyData) (es : List (Int × PyData)), Room j (A.deeper (PyProof.Rows.envOfC qual (defScope st) s.heap.objs.size f cdv)) → R ds es →
      ∃ t, PSs (cxOf CX0 P w K mg base N qual (defScope st) f cdv A outer s H E).nox (defBody st) t ∧ StX Ts [] t (startD N.length ds) (fun _ => False) (fun _ _ => False) NoB (fun _ es' => es' = es)) :
    FnOk P w K mg base CX0 (j + 1) f fd ps (spKP Ts R) := by
  refine F.ok S (fun vs H Q E h => ?_) (fun cdv A outer s H vs Q E hr h => ?_)
  · obtain ⟨k, ds, es, _, h2, h3, _⟩ := h
    rw [h2.length]
    exact hl ds es h3
  · obtain ⟨k, ds, es, h1, h2, h3, h4⟩ := h
    obtain ⟨t, p, h⟩ := hbody cdv A outer s H E ds es hr h3
    refine ⟨t, p, ?_⟩
    have s0 : Slots k H (L2.start N vs) (startD N.length ds) := by
      unfold L2.start startD
      rw [h2.length]
      exact dts_some h2
    refine h k H _ k H _ ⟨h1, Gr.refl h1, fun a h => by simp at h, s0, fun i es l e => absurd e (start_own _ _ i es), fun i j es fs l e => absurd e (start_own _ _ i es)⟩ (fun σ' k' H' δ' n kk s' => n.elim) (fun σ' k' H' δ' v s' => ⟨fun d' r dv => r.elim, fun es' z nd => ?_⟩) (fun _ _ _ _ z => z.elim)
    subst z
    exact h4 v k' H' s'.gr nd
theorem fn_dictW {Ts : List Addr} {x qual : Str} {st : Stmt} {f : Addr} {fd : FuncData} {N ps : List Str} {j : Nat} {R : Cont → List PyData → List (Int × PyData) → Prop} (F : Fun K x qual st f fd) (S : FnScope N ps (defScope st)) (hl : ∀ c ds es, R c ds es → ds.length + 1 = ps.length)
    (hbody : ∀ (cdv : Value) (A : Around) (outer : List PySem.Env) (s : Shared) (H : Hp) (E : XK) (c : Cont) (ds : List PyData) (es : List (Int × PyData)) (l : Addr), Room j (A.deeper (PyProof.Rows.envOfC qual (defScope st) s.heap.objs.size f cdv)) → R c ds es →
      ∃ t, PSs (cxOf CX0 P w K mg base N qual (defScope st) f cdv A outer s H E).nox (defBody st) t ∧
        StX Ts [l] t (some (.own (some l, c)) :: startD (N.length - 1) ds) (fun _ => False) (fun _ _ => False) NoB (fun δ es' => es' = es ∧ ∃ c', δ[0]? = some (some (.own (some l, c'))))) :
    FnOk P w K mg base CX0 (j + 1) f fd ps (spKW Ts R) := by
  refine F.ok S (fun vs H Q E h => ?_) (fun cdv A outer s H vs Q E hr h => ?_)
  · obtain ⟨k, l, vs', u, c, ds, es, rfl, _, _, _, _, h5, h6, _⟩ := h
    rw [List.length_cons, h5.length]
    exact hl c ds es h6
  · obtain ⟨k, l, vs', u, c, ds, es, rfl, h1, h2, h3, h4, h5, h6, h7⟩ := h
    obtain ⟨t, p, h⟩ := hbody cdv A outer s H E c ds es l hr h6
    refine ⟨t, p, ?_⟩
    have s0 : Slots k H (L2.start N (.ref l :: vs')) (some (.own (some l, c)) :: startD (N.length - 1) ds) := by
      unfold L2.start startD
      rw [List.length_cons, h5.length, show N.length - (ds.length + 1) = N.length - 1 - ds.length by omega]
      exact Slots.cons ⟨l, u, rfl, h2, h3, h4, fun a e => by cases e; rfl⟩ (dts_some h5)
    have one : ∀ (i : Nat) (w : OW), (some (.own (some l, c)) :: startD (N.length - 1) ds)[i]? = some (some (.own w)) → i = 0 ∧ w = (some l, c) := fun i w e => by
      cases i with
      | zero => cases e; exact ⟨rfl, rfl⟩
      | succ i => exact absurd e (start_own _ _ i w)
    refine h k H _ k H _ ⟨h1, Gr.refl h1, fun a ha => ?_, s0, fun i w l2 e1 e2 => ?_, fun i j w w' l2 e1 e2 _ _ => (one i w e1).1.trans (one j w' e2).1.symm⟩ (fun σ' k' H' δ' n kk s' => n.elim) (fun σ' k' H' δ' v s' => ⟨fun d r dv => r.elim, fun es' z nd => ?_⟩) (fun _ _ _ _ z => z.elim)
    · have ha : a = l := by simpa using ha
      subst ha
      exact ⟨by rw [h2]; simp, h1.not_tab h2 h4.nt⟩
    · obtain ⟨rfl, rfl⟩ := one i w e1
      have : l2 = l := by
        have e3 : (some (some (V.ref l)) : Option (Option V)) = some (some (.ref l2)) := e2
        cases e3
        rfl
      exact .inr ⟨by simp, by simp [this]⟩
    · obtain ⟨rfl, c', e⟩ := z
      obtain ⟨l', u', q1, q2, q3, q4, q5⟩ := s'.sl.own1 e
      have := q5 l rfl
      subst this
      exact h7 v k' H' u' c' s'.gr q2 q3 q4 nd
end
end K33
end
section
set_option Elab.async false
set_option linter.all false
set_option maxRecDepth 100000
set_option maxHeartbeats 4000000
/-! W14: edges, merge, reducible. -/
namespace K33
open PySem L2 GxR
abbrev DE (ks : List Nat) (E : Nat → List Nat) : List (Int × PyData) := ks.map fun x : Nat => ((x : Int), encL (E x))
theorem putE_new {es : List (Int × PyData)} {n : Int} {d : PyData} (h : ∀ p ∈ es, p.1 ≠ n) : putE es n d = es ++ [(n, d)] := by
  unfold putE
  rw [if_neg]
  intro q
  obtain ⟨p, hp, hq⟩ := List.any_eq_true.mp q
  exact h p hp (of_decide_eq_true hq)
theorem DE_new {ks : List Nat} {E : Nat → List Nat} {x : Nat} (h : x ∉ ks) : putE (DE ks E) (x : Int) (encL (E x)) = DE (ks ++ [x]) E := by
  rw [putE_new, DE, DE, List.map_append]
  · rfl
  · intro p hp z
    obtain ⟨y, hy, rfl⟩ := List.mem_map.mp hp
    have : y = x := by have z : (y : Int) = x := z; omega
    exact h (this ▸ hy)
theorem DE_old {ks : List Nat} {E : Nat → List Nat} {x : Nat} {J : List Nat} (h : x ∈ ks) : putE (DE ks E) (x : Int) (encL J) = DE ks (fun z => if z = x then J else E z) := by
  unfold putE
  rw [if_pos, DE, DE, List.map_map]
  · refine List.map_congr_left fun z _ => ?_
    simp only [Function.comp]
    by_cases q : z = x
    · subst q; simp
    · rw [if_neg (by simpa using fun e => q (by omega)), if_neg q]
  · exact List.any_eq_true.mpr ⟨((x : Int), encL (E x)), List.mem_map.mpr ⟨x, h, rfl⟩, by simp⟩
theorem DE_look {ks : List Nat} {E : Nat → List Nat} {x : Nat} (h : x ∈ ks) : (DE ks E).lookup (x : Int) = some (encL (E x)) := look_map (fun x => encL (E x)) h
def srt (n : Nat) (p : Nat → Bool) : List Nat := (List.range n).filter p
theorem srt_mem {n : Nat} {p : Nat → Bool} {x : Nat} : x ∈ srt n p ↔ x < n ∧ p x = true := by
  unfold srt; rw [List.mem_filter, List.mem_range]
theorem srt_len {n : Nat} {p : Nat → Bool} : (srt n p).length ≤ n := by
  have := List.length_filter_le p (List.range n)
  rwa [List.length_range] at this
theorem srt_sorted {n : Nat} {p : Nat → Bool} : ((srt n p).map fun j : Nat => (j : Int)).Pairwise (· < ·) := by
  rw [List.pairwise_map]
  exact (List.Pairwise.filter _ List.pairwise_lt_range).imp fun h => by omega
def edgeE (rs : List Row) (x : Nat) : List Nat := srt rs.length fun g => decide (g ∈ nxOf rs x) && !decide (g = x)
def mergeE (n : Nat) (E : Nat → List Nat) (x y : Nat) (z : Nat) : List Nat := if z = x then (srt n fun g => decide (g ∈ E x ++ E y)).filter (fun g => !decide (g = x) && !decide (g = y)) else E z
section
variable {P : Program} {w : World} {K : PySem.W.Frag} {mg : Str → Option Value} {base : Heap} {Ts Mo : List Addr}
theorem ev_sortedSetN {δ : Dl} {te : TE} {l : List Nat} {n : Nat} {p : Nat → Bool} (h : EvD Ts te δ (encL l)) (hl : l.length ≤ 60) (hp : ∀ g, g ∈ l ↔ g < n ∧ p g = true) : EvD Ts (tCB (rSortedSet w) (tCons (tCB (rSetLI K w) (tCons te tNil)) tNil)) δ (encL (srt n p)) := by
  have h' : EvD Ts te δ (.list ((l.map fun j : Nat => (j : Int)).map PyData.int)) := by rw [← map_pI]; exact h
  have := ev_sortedSet (K := K) (w := w) (ms := (srt n p).map fun j : Nat => (j : Int)) h' (by rw [List.length_map]; exact hl) srt_sorted (fun k => by
    simp only [List.mem_map, srt_mem, hp])
  rw [← map_pI] at this
  exact this
theorem ev_lcNT {δ : Dl} {tl : TE} {t : TT} {j : Nat} {ns : List Nat} (p : Nat → Bool) (h : EvD Ts tl δ (.tuple (ns.map pI))) (hz : ns.length ≤ 10000) (hj : j < δ.length) (ht : ∀ n ∈ ns, EvB Ts t ((δ.set j none).set j (dat (pI n))) (p n)) : EvD Ts (tLc (iTup K tl) (gName j) t (tVar j) [j]) δ (encL (ns.filter p)) := by
  refine ev_is (ev_lcT (fun d => match d with | .int i => p i.toNat | _ => false) (fun d => d) h (by simpa using hz) (fun i d hi => ?_) (fun i d hi _ => ?_)) ?_
  · obtain ⟨n, hn, rfl⟩ := getL hi
    exact ht n (List.mem_of_getElem? hn)
  · refine ev_var ?_
    rw [List.getElem?_set_self (by simpa using hj)]
  · unfold lcOf
    rw [List.map_id', List.filter_map]
    rfl
/-! ### _law_edges -/
abbrev NN__law_edges : List Str := ["_law_rows_here", "_law_chosen", "_law_edges_here", "_law_one", "_law_goal"]
abbrev PP_edges : List Str := ["_law_rows_here", "_law_chosen"]
theorem sc_edges : FnScope NN__law_edges PP_edges (defScope (topS 37)) := ⟨rfl, rfl, rfl, by decide +kernel, rfl, by decide +kernel, by decide +kernel⟩
def R_edges (ds : List PyData) (es : List (Int × PyData)) : Prop := ∃ (rs : List Row) (ks : List Nat), RG rs ∧ ks.Nodup ∧ (∀ x ∈ ks, x < rs.length) ∧ ks.length ≤ 24 ∧ ds = [encRows rs, encL ks] ∧ es = DE ks (edgeE rs)
theorem ok_edges (T : Txt mg) (D : Df K mg "_law_edges" 37 PP_edges) : FnOk P w K mg base CX0 1 D.a D.fd PP_edges (spKP Ts R_edges) := by
  have sc := sc_edges
  refine fn_dict D.F sc (fun ds d h => ?_) (fun cdv A outer s H E ds es hr h => ?_)
  · obtain ⟨_, _, _, _, _, _, rfl, _⟩ := h; rfl
  obtain ⟨rs, ks, rg, nd, hlt, hkl, rfl, rfl⟩ := h
  have hu : (A.deeper (PyProof.Rows.envOfC "_law_edges" (defScope (topS 37)) s.heap.objs.size D.a cdv)).units + 1 < cLine := by have := hr.units; omega
  refine ⟨_, (pss_cons (ps_set (i := 2) sc.nd rfl (Or.inl rfl) pe_dnewK)
    (pss_cons (ps_for PassesOwn.never rfl (pi_list (pv 1)) (pg_name (i := 3) sc.nd rfl (Or.inr rfl))
      (pss_one (ps_asg (pe_callB (cr_sortedSet rfl) (by rfl) T.sorted (by decide +kernel) (pa_cons (pe_callTy (cr_setLI rfl) (by rfl) T.set (by decide +kernel) (pa_cons (pe_lc (own := [("_law_goal", 4)]) (g := gName 4) rfl sc.nd (pi_tup (pe_ix ix_seq (pe_ix ix_seq (pv 0) (pv 3) (fun _ _ => rfl)) pe_int (fun _ _ => rfl))) (blkOk_by (own := [("_law_goal", 4)]) (N := NN__law_edges) (sc := defScope (topS 37)) (by decide +kernel)) (fun _ _ _ _ _ => pg_name (i := 4) sc.nd rfl (Or.inl rfl)) (fun _ _ _ _ _ => pts_one (pt_cmpR op_ne (pv 4) (pv 3) (nomark _))) (fun _ _ _ _ _ => (pv 4))) pa_nil)) pa_nil)) (pg_sub (pv 2) (pv 3) (set_dict hu)))))
    (pss_one (ps_ret (pv 2))))), ?_⟩
  refine st_seq1 (st_dnew rfl) ?_
  refine st_seq (N := fun δ => ∃ x3 x4, δ = [dat (encRows rs), dat (encL ks), ownD (DE ks (edgeE rs)), x3, x4]) ?_ fun δ' ⟨x3, x4, e⟩ => ?_
  rotate_left
  · subst e
    exact st_retD (i := 2) rfl rfl
  refine forL_core (ds := ks.map pI) (fun j δ => ∃ x3, δ = [dat (encRows rs), dat (encL ks), ownD (DE (ks.take j) (edgeE rs)), x3, none]) (ev_var rfl) ⟨none, rfl⟩ (fun j d δ' hj ⟨x3, e⟩ => ?_) (fun δ' ⟨x3, e⟩ => ⟨x3, none, by rw [e, List.length_map, List.take_length]⟩)
  subst e
  obtain ⟨x, hx, rfl⟩ := getL hj
  have hxm := List.mem_of_getElem? hx
  have hjl := (List.getElem?_eq_some_iff.mp hx).1
  have four := rg.ok.four x
  have hnot : x ∉ ks.take j := fun z => by
    obtain ⟨t, ht, e⟩ := List.getElem_of_mem z
    rw [List.length_take] at ht
    rw [List.getElem_take] at e
    have : t = j := (List.getElem?_inj (by omega) nd).mp (by rw [hx, ← e]; exact List.getElem?_eq_getElem (by omega))
    omega
  refine st_setD (n := (x : Int)) (d := encL (edgeE rs x)) rfl (ev_sortedSetN (l := (nxOf rs x).filter fun g => !decide (g = x)) (ev_lcNT (fun g => !decide (g = x)) (ev_op (ev_op (ev_var rfl) (ev_var rfl) (rv_ixL (rows_at (hlt x hxm)))) ev_int (rv_ixT (at_2 _ _ _ _))) (by show (nxOf rs x).length ≤ _; omega) (by simp) (fun g hg => eb_test (ev_op (ev_var rfl) (ev_var rfl) rv_neN))) (by have := List.length_filter_le (fun g => !decide (g = x)) (nxOf rs x); omega) (fun g => ?_)) (ev_var rfl) (by simp; omega) ⟨dat (pI x), ?_⟩
  · simp only [List.mem_filter, Bool.and_eq_true, decide_eq_true_eq]
    exact ⟨fun h => ⟨rg.nx x g h.1, h.1, h.2⟩, fun h => h.2⟩
  · rw [DE_new hnot]
    have : ks.take j ++ [x] = ks.take (j + 1) := by rw [List.take_add_one, hx]; rfl
    rw [this]
    rfl
/-! ### _law_merge -/
abbrev NN__law_merge : List Str := ["_law_edges_here", "_law_one", "_law_other", "_law_joined", "_law_del_done", "_law_key", "_law_goal"]
abbrev PP_merge : List Str := ["_law_edges_here", "_law_one", "_law_other"]
theorem sc_merge : FnScope NN__law_merge PP_merge (defScope (topS 38)) := ⟨rfl, rfl, rfl, by decide +kernel, rfl, by decide +kernel, by decide +kernel⟩
def R_merge (c : Cont) (ds : List PyData) (es : List (Int × PyData)) : Prop := ∃ (n : Nat) (ks : List Nat) (E : Nat → List Nat) (x y : Nat), n ≤ 24 ∧ ks.Nodup ∧ ks.length ≤ 24 ∧ (∀ z, ∀ g ∈ E z, g < n) ∧ (∀ z, (E z).length ≤ 24) ∧ x ∈ ks ∧ y ∈ ks ∧
  c = .d (DE ks E) ∧ ds = [pI x, pI y] ∧ es = DE (ks.filter fun z => !decide (z = y)) (mergeE n E x y)
theorem ok_merge (T : Txt mg) (D : Df K mg "_law_merge" 38 PP_merge) : FnOk P w K mg base CX0 1 D.a D.fd PP_merge (spKW Ts R_merge) := by
  have sc := sc_merge
  refine fn_dictW D.F sc (fun c ds d h => ?_) (fun cdv A outer s H E c ds es l hr h => ?_)
  · obtain ⟨_, _, _, _, _, _, _, _, _, _, _, _, _, rfl, _⟩ := h; rfl
  obtain ⟨n, ks, Ed, x, y, hn, nd, hkl, hE, hEl, hx, hy, rfl, rfl, rfl⟩ := h
  have hu : (A.deeper (PyProof.Rows.envOfC "_law_merge" (defScope (topS 38)) s.heap.objs.size D.a cdv)).units + 1 < cLine := by have := hr.units; omega
  refine ⟨_, (pss_cons (ps_set (i := 3) sc.nd rfl (Or.inl rfl) (pe_callB (cr_sortedSet rfl) (by rfl) T.sorted (by decide +kernel) (pa_cons (pe_callTy (cr_setLI rfl) (by rfl) T.set (by decide +kernel) (pa_cons (pe_op op_cat (pe_dget hu (pv 0) (pv 1) (fun _ _ => rfl)) (pe_dget hu (pv 0) (pv 2) (fun _ _ => rfl))) pa_nil)) pa_nil)))
    (pss_cons (ps_asg (pe_lc (own := [("_law_goal", 6)]) (g := gName 6) rfl sc.nd (pi_list (pv 3)) (blkOk_by (own := [("_law_goal", 6)]) (N := NN__law_merge) (sc := defScope (topS 38)) (by decide +kernel)) (fun _ _ _ _ _ => pg_name (i := 6) sc.nd rfl (Or.inl rfl)) (fun _ _ _ _ _ => pts_one (PW.pt (pw_and (pt_cmpR op_ne (pv 6) (pv 1) (nomark _)) (pw_and1 (pt_cmpR op_ne (pv 6) (pv 2) (nomark _)))))) (fun _ _ _ _ _ => (pv 6))) (pg_sub (pv 0) (pv 1) (set_dict hu)))
    (pss_cons (ps_set (i := 4) sc.nd rfl (Or.inl rfl) pe_dnewK)
    (pss_cons (ps_lock (ps_for PassesOwn.never rfl (pi_keys (pv 0)) (pg_name (i := 5) sc.nd rfl (Or.inl rfl))
      (pss_one (ps_if (pt_cmpR op_ne (pv 5) (pv 2) (nomark _))
        (pss_one (ps_asg (pe_dget hu (pv 0) (pv 5) (fun _ _ => rfl)) (pg_sub (pv 4) (pv 5) (set_dict hu))))
        pss_nil))))
    (pss_one (ps_ret (pv 4))))))), ?_⟩
  have hxl := hEl x
  have hyl := hEl y
  refine st_seq1 (st_asg (d := encL (srt n fun g => decide (g ∈ Ed x ++ Ed y))) (ev_sortedSetN (l := Ed x ++ Ed y) (ev_is (ev_op (ev_dgetO (i := 0) rfl (ev_var rfl) (DE_look hx)) (ev_dgetO (i := 0) rfl (ev_var rfl) (DE_look hy)) (rv_catL (by simp; omega))) (congrArg PyData.list List.map_append.symm)) (by simp; omega) (fun g => ?_)) rfl) ?_
  · simp only [decide_eq_true_eq]
    exact ⟨fun h => ⟨by rcases List.mem_append.mp h with h | h; · exact hE x g h
                        · exact hE y g h, h⟩, fun h => h.2⟩
  have hsl := srt_len (n := n) (p := fun g => decide (g ∈ Ed x ++ Ed y))
  refine st_seq1 (st_setD (n := (x : Int)) rfl (ev_lcN (fun g => !decide (g = x) && !decide (g = y)) (ev_var rfl) (by omega) (by simp [startD]) (fun g hg => eb_and (eb_test (ev_op (ev_var rfl) (ev_var rfl) rv_neN)) (fun _ => eb_test (ev_op (ev_var rfl) (ev_var rfl) rv_neN)))) (ev_var rfl) (by simp; omega) rfl) ?_
  have hput : putE (DE ks Ed) (x : Int) (encL ((srt n fun g => decide (g ∈ Ed x ++ Ed y)).filter fun g => !decide (g = x) && !decide (g = y))) = DE ks (mergeE n Ed x y) := DE_old hx
  rw [hput]
  refine st_seq1 (st_dnew rfl) ?_
  refine st_seq (N := fun δ => ∃ x5 x6, δ = [some (.own (some l, .d (DE ks (mergeE n Ed x y)))), dat (pI x), dat (pI y), dat (encL (srt n fun g => decide (g ∈ Ed x ++ Ed y))), ownD (DE (ks.filter fun z => !decide (z = y)) (mergeE n Ed x y)), x5, x6]) ?_ fun δ' ⟨x5, x6, e⟩ => ?_
  rotate_left
  · subst e
    exact st_retD (i := 4) rfl ⟨rfl, _, rfl⟩
  refine st_lockD (i := 0) rfl fun l' od kvs => ?_
  refine forK_core (i := 0) (l := l') (od := od) (kvs := kvs) (es := DE ks (mergeE n Ed x y)) (fun q δ => ∃ x5, δ = [some (.own (some l', .f od kvs (DE ks (mergeE n Ed x y)))), dat (pI x), dat (pI y), dat (encL (srt n fun g => decide (g ∈ Ed x ++ Ed y))), ownD (DE ((ks.take q).filter fun z => !decide (z = y)) (mergeE n Ed x y)), x5, none])
    ⟨none, rfl⟩ (fun q δ' ⟨x5, e⟩ => by rw [e]; rfl) (fun q p δ' hq ⟨x5, e⟩ => ?_) (fun δ' ⟨x5, e⟩ => ⟨by rw [e]; rfl, x5, none, by rw [e, List.length_map, List.take_length]; rfl⟩)
  subst e
  rw [List.getElem?_map] at hq
  obtain ⟨z, hz, rfl⟩ : ∃ z, ks[q]? = some z ∧ ((z : Int), encL (mergeE n Ed x y z)) = p := by
    cases z : ks[q]? with
    | none => rw [z] at hq; cases hq
    | some a => rw [z] at hq; exact ⟨a, rfl, Option.some.inj hq⟩
  have hzm := List.mem_of_getElem? hz
  have tk : ks.take (q + 1) = ks.take q ++ [z] := by rw [List.take_add_one, hz]; rfl
  have hql := (List.getElem?_eq_some_iff.mp hz).1
  refine st_if (eb_test (ev_op (d := .bool (!decide (z = y))) (ev_var rfl) (ev_var rfl) rv_neN)) (fun h => ?_) (fun h => ?_)
  · have hnot : z ∉ (ks.take q).filter fun z => !decide (z = y) := fun m => by
      have m := (List.mem_filter.mp m).1
      obtain ⟨t, ht, e⟩ := List.getElem_of_mem m
      rw [List.length_take] at ht
      rw [List.getElem_take] at e
      have : t = q := (List.getElem?_inj (by omega) nd).mp (by rw [hz, ← e]; exact List.getElem?_eq_getElem (by omega))
      omega
    refine st_setD (n := (z : Int)) (d := encL (mergeE n Ed x y z)) rfl (ev_dgetF (i := 0) rfl (ev_var rfl) (DE_look hzm)) (ev_var rfl) (by
      rw [List.length_map]
      have := List.length_filter_le (fun z => !decide (z = y)) (ks.take q)
      rw [List.length_take] at this
      omega) ⟨dat (pI z), ?_⟩
    rw [DE_new hnot, tk, List.filter_append]
    have : [z].filter (fun z => !decide (z = y)) = [z] := by simp [h]
    rw [this]
    rfl
  · refine st_next ⟨dat (pI z), ?_⟩
    rw [tk, List.filter_append]
    have : [z].filter (fun z => !decide (z = y)) = [] := by simp [h]
    rw [this, List.append_nil]
    rfl
/-! ### _law_reducible -/
abbrev NN__law_reducible : List Str := ["_law_rows_here", "_law_first", "_law_chosen", "_law_edges_here", "_law_k", "_law_merged", "_law_other", "_law_before", "_law_one"]
abbrev PP_red : List Str := ["_law_rows_here", "_law_first"]
theorem sc_red : FnScope NN__law_reducible PP_red (defScope (topS 39)) := ⟨rfl, rfl, rfl, by decide +kernel, rfl, by decide +kernel, by decide +kernel⟩
def R_red (ds : List PyData) (d : PyData) : Prop := ∃ (rs : List Row) (first a b : Nat), RG rs ∧ first < rs.length ∧ outlineOf (kdOf rs) (nxOf rs) rs.length first = .error (a, b) ∧ ds = [encRows rs, pI first] ∧ d = .bool false
/-- what stays true of the graph while rows are drawn together -/
structure RedI (n first a b : Nat) (ks : List Nat) (E : Nat → List Nat) : Prop where
  nd : ks.Nodup
  len : ks.length ≤ 24
  lt : ∀ z, ∀ g ∈ E z, g < n
  el : ∀ z, (E z).length ≤ 24
  lp : ∀ u v, v ∈ E u → u ≠ v
  wr : ∃ C, WR (· ∈ ks) (fun u v => v ∈ E u) first C a b
theorem RedI.two {n first a b : Nat} {ks : List Nat} {E : Nat → List Nat} (h : RedI n first a b ks E) : ks.length ≠ 1 := fun z => by
  obtain ⟨C, w⟩ := h.wr
  have ha := w.sub a w.ca
  have hb := w.sub b w.cb
  match ks, z with
  | [u], _ =>
    have ha : a = u := by simpa using ha
    have hb : b = u := by simpa using hb
    exact w.ne (ha.trans hb.symm)
theorem RedI.merge {n first a b : Nat} {ks : List Nat} {E : Nat → List Nat} (h : RedI n first a b ks E) (hn : n ≤ 24) {x y : Nat} (hx : x ∈ ks) (hy : y ∈ ks) (hf : y ≠ first) (hb : ks.filter (fun u => decide (y ∈ E u)) = [x]) :
    RedI n first a b (ks.filter fun z => !decide (z = y)) (mergeE n E x y) := by
  have hyx : y ∈ E x := by
    have : x ∈ ks.filter (fun u => decide (y ∈ E u)) := by rw [hb]; simp
    simpa using (List.mem_filter.mp this).2
  have hJ : ∀ g, g ∈ mergeE n E x y x ↔ g < n ∧ (g ∈ E x ∨ g ∈ E y) ∧ g ≠ x ∧ g ≠ y := fun g => by
    unfold mergeE
    rw [if_pos rfl, List.mem_filter, srt_mem]
    simp [and_assoc]
  have hO : ∀ z, z ≠ x → mergeE n E x y z = E z := fun z q => by unfold mergeE; rw [if_neg q]
  refine ⟨h.nd.filter _, Nat.le_trans (List.length_filter_le _ _) h.len, fun z g hg => ?_, fun z => ?_, fun u v hv => ?_, ?_⟩
  · by_cases q : z = x
    · subst q; exact ((hJ g).mp hg).1
    · rw [hO z q] at hg; exact h.lt z g hg
  · by_cases q : z = x
    · subst q
      unfold mergeE
      rw [if_pos rfl]
      exact Nat.le_trans (Nat.le_trans (List.length_filter_le _ _) srt_len) hn
    · rw [hO z q]; exact h.el z
  · by_cases q : u = x
    · subst q; exact Ne.symm ((hJ v).mp hv).2.2.1
    · rw [hO u q] at hv; exact h.lp u v hv
  · obtain ⟨C, w⟩ := h.wr
    refine merge_ok (x := x) (y := y) ⟨hx, hy, hf, fun u hu hr => ?_, fun u v hr => h.lp u v hr, fun u => ?_, fun v h1 h2 h3 => ?_, fun u v hu h1 h2 h3 => ?_⟩ w
    · have : u ∈ ks.filter (fun u => decide (y ∈ E u)) := List.mem_filter.mpr ⟨hu, by simpa using hr⟩
      rw [hb] at this
      simpa using this
    · simp [List.mem_filter]
    · refine (hJ v).mpr ⟨?_, h3, h1, h2⟩
      rcases h3 with h3 | h3
      · exact h.lt x v h3
      · exact h.lt y v h3
    · show v ∈ mergeE n E x y u
      rw [hO u h1]; exact h3
theorem RedI.start {rs : List Row} (rg : RG rs) {first a b : Nat} (hf : first < rs.length) (ho : outlineOf (kdOf rs) (nxOf rs) rs.length first = .error (a, b)) {ks : List Nat} (hp : ks.Perm (regionOf rs.length (nxOf rs) first)) : RedI rs.length first a b ks (edgeE rs) := by
  have hl := rg.len
  obtain ⟨C, w⟩ := tangled_ok rg.ok hf ho
  have hmem : ∀ x, x ∈ ks ↔ x ∈ regionOf rs.length (nxOf rs) first := fun x => hp.mem_iff
  have hE : ∀ u v, v ∈ edgeE rs u ↔ v < rs.length ∧ v ∈ nxOf rs u ∧ v ≠ u := fun u v => by
    unfold edgeE; rw [srt_mem]; simp
  refine ⟨hp.nodup_iff.mpr spread_nd, by rw [hp.length_eq]; exact Nat.le_trans region_len hl, fun z g hg => ((hE z g).mp hg).1, fun z => Nat.le_trans srt_len hl, fun u v hv => Ne.symm ((hE u v).mp hv).2.2, C, ?_⟩
  exact wr_of_wit hmem (fun u v hu hv huv => (hE u v).mpr ⟨rg.nx u v hv, hv, Ne.symm huv⟩) ((region_ok hf).mem) w
theorem ev_lenD {δ : Dl} {i : Nat} {o : Option Addr} {es : List (Int × PyData)} (e : δ[i]? = some (some (.own (o, .d es)))) : EvD Ts (tCB (fun xs H Q => ∃ (a : Addr) (kvs : List (Key × V)), xs = [V.ref a] ∧ H a = some (.dK kvs) ∧ Q (.int kvs.length) H) (tCons (tVar i) tNil)) δ (.int es.length) := fun σ k H hk s Q q => by
  obtain ⟨p, kvs, e1, e2, e3, e4, e5⟩ := s.ownD e
  refine ⟨_, e1, p, kvs, rfl, e2, ?_⟩
  rw [e4.length]
  exact q _ k H (Gr.refl hk) (.int _)
theorem ok_red (T : Txt mg) (D__law_reach : Df K mg "_law_reach" 34 PP_reach) (D__law_edges : Df K mg "_law_edges" 37 PP_edges) (D__law_merge : Df K mg "_law_merge" 38 PP_merge) (D : Df K mg "_law_reducible" 39 PP_red) : FnOk P w K mg base CX0 2 D.a D.fd PP_red (spP Ts R_red) := by
  have sc := sc_red
  have G__law_reach := ok_reach (P := P) (w := w) (base := base) (Ts := Ts) T D__law_reach
  have G__law_edges := ok_edges (P := P) (w := w) (base := base) (Ts := Ts) T D__law_edges
  have G__law_merge := ok_merge (P := P) (w := w) (base := base) (Ts := Ts) T D__law_merge
  refine fn_pure D.F sc (fun ds d h => ?_) (fun cdv A outer s H E ds d hr h => ?_)
  · obtain ⟨_, _, _, _, _, _, _, rfl, _⟩ := h; rfl
  obtain ⟨rs, first, a, b, rg, hf, ho, rfl, rfl⟩ := h
  have hu : (A.deeper (PyProof.Rows.envOfC "_law_reducible" (defScope (topS 39)) s.heap.objs.size D.a cdv)).units + 1 < cLine := by have := hr.units; omega
  refine ⟨_, (pss_cons (ps_set (i := 2) sc.nd rfl (Or.inl rfl) (pe_call G__law_reach (hr.mono (by omega)) rfl D__law_reach.m D__law_reach.F.kp D__law_reach.b .nil pass0 (pa_cons (pv 0) (pa_cons (pe_listRg rfl rfl T.list (prg_1 rfl T.range (pe_callB call_len_seq (by rfl) T.len PySem.boot_len (pa_cons (pv 0) pa_nil)))) (pa_cons (pv 1) pa_nil)))))
    (pss_cons (ps_set (i := 3) sc.nd rfl (Or.inr rfl) (pe_call G__law_edges (hr.mono (by omega)) rfl D__law_edges.m D__law_edges.F.kp D__law_edges.b .nil pass0 (pa_cons (pv 0) (pa_cons (pv 2) pa_nil))))
    (pss_cons (ps_for PassesOwn.never rfl (pi_range1 rfl T.range (pa_cons (pe_callB call_len_seq (by rfl) T.len PySem.boot_len (pa_cons (pv 2) pa_nil)) pa_nil)) (pg_name (i := 4) sc.nd rfl (Or.inl rfl))
      (pss_cons (ps_set (i := 5) sc.nd rfl (Or.inl rfl) pe_non)
      (pss_cons (ps_lock (ps_for PassesOwn.never rfl (pi_keys (pv 3)) (pg_name (i := 6) sc.nd rfl (Or.inr rfl))
        (pss_cons (ps_setLc (i := 7) (own := [("_law_one", 8)]) (g := gName 8) (tt := tTest (tOp (rIn K false) (tVar 6) (tDGet (tVar 3) (tVar 8)))) rfl sc.nd rfl rfl (sw_true rfl rfl rfl (by decide +kernel)) (pi_keys (pv 3)) (blkOk_by (own := [("_law_one", 8)]) (N := NN__law_reducible) (sc := defScope (topS 39)) (by decide +kernel)) (fun _ _ _ _ _ => pg_name (i := 8) sc.nd rfl (Or.inl rfl)) (fun _ _ _ _ _ => pts_one (pt_cmpR op_in_seq (pv 6) (pe_dget hu (pv 3) (pv 8) (fun _ _ => rfl)) (by rfl))) (fun _ _ _ _ _ => (pv 8)))
        (pss_one (ps_if (PW.pt (pw_and (pt_cmpR op_isN (pv 5) pe_non (nomark _)) (pw_and (pt_cmpR op_ne (pv 6) (pv 1) (nomark _)) (pw_and1 (pt_cmpR op_eq (pe_callB call_len_seq (by rfl) T.len PySem.boot_len (pa_cons (pv 7) pa_nil)) pe_int (nomark _))))))
          (pss_one (ps_set (i := 5) sc.nd rfl (Or.inl rfl) (pe_tup (pa_cons (pe_ix ix_seq (pv 7) pe_int (fun _ _ => rfl)) (pa_cons (pv 6) pa_nil)))))
          pss_nil)))))
      (pss_cons (ps_if (pt_cmpR op_isN (pv 5) pe_non (nomark _))
        (pss_one ps_break)
        pss_nil)
      (pss_one (ps_set (i := 3) sc.nd rfl (Or.inr rfl) (pe_call G__law_merge (hr.mono (by omega)) rfl D__law_merge.m D__law_merge.F.kp D__law_merge.b .nil pass0 (pa_cons (pv 3) (pa_cons (pe_ix ix_seq (pv 5) pe_int (fun _ _ => rfl)) (pa_cons (pe_ix ix_seq (pv 5) pe_int (fun _ _ => rfl)) pa_nil))))))))))
    (pss_one (ps_ret (pe_cmpR op_eq (pe_callB call_lenD (by rfl) T.len PySem.boot_len (pa_cons (pv 3) pa_nil)) pe_int (nomark _))))))), ?_⟩
  have hlen := rg.len
  refine st_seq (N := fun δ => ∃ ks : List Nat, ks.Perm (regionOf rs.length (nxOf rs) first) ∧ δ = [dat (encRows rs), dat (pI first), dat (encL ks), none, none, none, none, none, none]) (sw_asg (ew_callN (ea_cons (ev_var rfl) (ea_cons (ev_listRg (n := rs.length) (ev_is (ev_callR (ea_cons (ev_var rfl) ea_nil) rc_len) (by rw [List.length_map])) (by omega)) (ea_cons (ev_var rfl) ea_nil))) ⟨rs, List.range rs.length, first, rg, hf, rfl, rfl⟩ fun d ⟨ks, h1, h2⟩ => ⟨ks, by
    unfold regionOf
    rw [show (fun x => x < rs.length) = (fun x => x ∈ List.range rs.length) from funext fun x => propext List.mem_range.symm]
    exact h1, by rw [h2]; rfl⟩)) fun δ' ⟨ks0, hp, e⟩ => e ▸ ?_
  have i0 := RedI.start rg hf ho hp
  refine st_seq1 (st_callK (ea_cons (ev_var rfl) (ea_cons (ev_var rfl) ea_nil)) ⟨rs, ks0, rg, i0.nd, fun x hx => (mem_spread.mp (hp.mem_iff.mp hx)).1, i0.len, rfl, rfl⟩ rfl) ?_
  refine st_seq (N := fun δ => ∃ ks Ed x4 x5 x6 x7 x8, δ = [dat (encRows rs), dat (pI first), dat (encL ks0), ownD (DE ks Ed), x4, x5, x6, x7, x8] ∧ RedI rs.length first a b ks Ed) ?_ fun δ' ⟨ks, Ed, x4, x5, x6, x7, x8, e, hi⟩ => ?_
  rotate_left
  · subst e
    refine st_ret (ev_op (ev_lenD rfl) ev_int rv_eqI) ?_
    rw [List.length_map]
    have := hi.two
    have : ¬ ((ks.length : Int) = 1) := by omega
    rw [decide_eq_false this]
  refine forR_core (n := ks0.length) (fun j δ => ∃ ks Ed x4 x5 x6 x7, δ = [dat (encRows rs), dat (pI first), dat (encL ks0), ownD (DE ks Ed), x4, x5, x6, x7, none] ∧ RedI rs.length first a b ks Ed) (ea_cons (ev_is (ev_callR (ea_cons (ev_var rfl) ea_nil) rc_len) (by rw [List.length_map])) ea_nil) (by have := i0.len; omega)
    ⟨ks0, edgeE rs, none, none, none, none, rfl, i0⟩ (fun j δ' hj ⟨ks, Ed, x4, x5, x6, x7, e, hi⟩ => ?_) (fun δ' ⟨ks, Ed, x4, x5, x6, x7, e, hi⟩ => ⟨ks, Ed, x4, x5, x6, x7, none, e, hi⟩)
  subst e
  refine st_seq1 (st_asg ev_non rfl) ?_
  have hkl := hi.len
  refine st_seq (N := fun δ => ∃ mg x6 x7, δ = [dat (encRows rs), dat (pI first), dat (encL ks0), ownD (DE ks Ed), dat (pI j), dat mg, x6, x7, none] ∧ (mg = .none ∨ ∃ x y, mg = .tuple [pI x, pI y] ∧ x ∈ ks ∧ y ∈ ks ∧ y ≠ first ∧ ks.filter (fun u => decide (y ∈ Ed u)) = [x])) ?_ fun δ' ⟨mg, x6, x7, e, hm⟩ => e ▸ ?_
  · refine st_lockD (i := 3) rfl fun l od kvs => ?_
    refine forK_core (i := 3) (l := l) (od := od) (kvs := kvs) (es := DE ks Ed) (fun q δ => ∃ mg x6 x7, δ = [dat (encRows rs), dat (pI first), dat (encL ks0), some (.own (some l, .f od kvs (DE ks Ed))), dat (pI j), dat mg, x6, x7, none] ∧ (mg = .none ∨ ∃ x y, mg = .tuple [pI x, pI y] ∧ x ∈ ks ∧ y ∈ ks ∧ y ≠ first ∧ ks.filter (fun u => decide (y ∈ Ed u)) = [x]))
      ⟨.none, x6, x7, rfl, .inl rfl⟩ (fun q δ' ⟨mg, x6, x7, e, _⟩ => by rw [e]; rfl) (fun q p δ' hq ⟨mg, x6, x7, e, hm⟩ => ?_) (fun δ' ⟨mg, x6, x7, e, hm⟩ => ⟨by rw [e]; rfl, mg, x6, x7, by rw [e]; rfl, hm⟩)
    subst e
    rw [List.getElem?_map] at hq
    obtain ⟨z, hz, rfl⟩ : ∃ z, ks[q]? = some z ∧ ((z : Int), encL (Ed z)) = p := by
      cases z : ks[q]? with
      | none => rw [z] at hq; cases hq
      | some a => rw [z] at hq; exact ⟨a, rfl, Option.some.inj hq⟩
    have hzm := List.mem_of_getElem? hz
    refine st_seq1 (st_asg (d := encL (ks.filter fun u => decide (z ∈ Ed u))) (ev_lcK (i := 3) (j := 8) (fun u => decide (z ∈ Ed u)) rfl (by rw [DE, List.map_map]; rfl) (by omega) (by decide) (by simp) (fun u hu => eb_test (ev_op (ev_var rfl) (ev_dgetF (i := 3) rfl (ev_var rfl) (DE_look hu)) rv_inN))) rfl) ?_
    refine st_if (b := (match mg with | .none => true | _ => false) && (!decide (z = first) && decide (((ks.filter fun u => decide (z ∈ Ed u)).length : Int) = 1))) (eb_and (eb_is (eb_test (ev_op (ev_var rfl) ev_non (rv_isN false))) (by cases mg <;> rfl)) (fun _ => eb_and (eb_test (ev_op (ev_var rfl) (ev_var rfl) rv_neN)) (fun _ => eb_is (eb_test (ev_op (ev_callR (ea_cons (ev_var rfl) ea_nil) rc_len) ev_int rv_eqI)) (by rw [List.length_map])))) (fun h => ?_) (fun h => ?_)
    · simp only [Bool.and_eq_true, Bool.not_eq_true', decide_eq_true_eq, decide_eq_false_iff_not] at h
      obtain ⟨h1, h2, h3⟩ := h
      obtain ⟨x, hx⟩ : ∃ x, ks.filter (fun u => decide (z ∈ Ed u)) = [x] := by
        match hfl : ks.filter (fun u => decide (z ∈ Ed u)), h3 with
        | [x], _ => exact ⟨x, rfl⟩
        | [], h3 => simp at h3
        | _ :: _ :: _, h3 => simp at h3; omega
      have hxm : x ∈ ks := by
        have : x ∈ ks.filter (fun u => decide (z ∈ Ed u)) := by rw [hx]; simp
        exact (List.mem_filter.mp this).1
      refine st_asg (d := .tuple [pI x, pI z]) (ev_tup (ea_cons (ev_op (d := pI x) (ev_var rfl) ev_int (by rw [hx]; exact rv_ixL (at_0 _ _))) (ea_cons (ev_var rfl) ea_nil)) (by simp)) ⟨.tuple [pI x, pI z], dat (pI z), dat (encL (ks.filter fun u => decide (z ∈ Ed u))), rfl, .inr ⟨x, z, rfl, hxm, hzm, h2, hx⟩⟩
    · exact st_next ⟨mg, dat (pI z), dat (encL (ks.filter fun u => decide (z ∈ Ed u))), rfl, hm⟩
  rcases hm with hm | ⟨x, y, hm, hx, hy, hyf, hfl⟩
  · subst hm
    refine st_seq (N := fun _ => False) (st_if (b := true) (eb_is (eb_test (ev_op (ev_var rfl) ev_non (rv_isN false))) rfl) (fun _ => st_break ⟨ks, Ed, dat (pI j), dat .none, x6, x7, none, rfl, hi⟩) (fun h => by cases h)) fun δ' h => h.elim
  · subst hm
    refine st_seq1 (st_if (b := false) (eb_is (eb_test (ev_op (ev_var rfl) ev_non (rv_isN false))) rfl) (fun h => by cases h) (fun _ => st_next rfl)) ?_
    refine st_callKW (c := .d (DE ks Ed)) rfl (ea_cons (ev_op (d := pI x) (ev_var rfl) ev_int (rv_ixT (at_0 _ _))) (ea_cons (ev_op (d := pI y) (ev_var rfl) ev_int (rv_ixT (at_1 _ _ _))) ea_nil)) ⟨rs.length, ks, Ed, x, y, hlen, hi.nd, hi.len, hi.lt, hi.el, hx, hy, rfl, rfl, rfl⟩ ⟨_, _, dat (pI j), dat (.tuple [pI x, pI y]), x6, x7, rfl, hi.merge hlen hx hy hyf hfl⟩
end
end K33
end
section
set_option Elab.async false
set_option linter.all false
set_option maxRecDepth 100000
set_option maxHeartbeats 4000000
/-! W15: repr, the filled's text, the law. -/
namespace K33
open PySem L2 GxR
section
variable {X : Cx}
def rRepr (K : PySem.W.Frag) : List V → Hp → VK → Prop := fun xs H Q => ∃ (a : Addr) (d : PyData), xs = [.ref a] ∧ Dp K H (.ref a) d ∧ d.showable = true ∧ d.hasDict = false ∧ d.shown.length ≤ sizeLine ∧ d.depth ≤ 300 ∧ Q (.str d.shown) H
theorem call_reprW {k : Nat} (hg : X.A.guards = some []) (hr : Room k X.A) (hk : 10 ≤ k) : CallR X (.builtin "repr") (rRepr X.K) := by
  intro pins s σ H xs us Q I r h
  obtain ⟨a, d, rfl, hd, h1, h2, h3, h4, q⟩ := h
  rw [Vals.ref1 r]
  obtain ⟨as, r1⟩ := Dp.reads I d (.ref a) (.ref a) hd rfl
  refine repr_of_reads' r1 h1 (PyData.noDict_hsm h2) hg (by have := hr.un; omega) (fun _ _ e => e) (fun h' u tk kk => ⟨.str d.shown, H, I.kept kk, ⟨_, rfl⟩, q⟩) h3
end
section
variable {Ts Mo : List Addr} {δ : Dl} {ta tb tc : TE} {K : PySem.W.Frag}
theorem rc_repr {ds : List PyData} {n : Nat} (h : Sh (.tuple ds) n) (hn : n ≤ 16000000) (hd : (PyData.tuple ds).depth ≤ 300) : RcD Ts (rRepr K) [.tuple ds] (.str (PyData.tuple ds).shown) := fun k H xs hk hx Q q => by
  cases hx with
  | cons h1 h2 =>
    cases h2
    cases h1 with
    | tup e a =>
      exact ⟨_, _, rfl, Dt.dp _ _ (Dt.up hk.sub _ _ (.tup e a)), h.ok, h.nd, Nat.le_trans h.ln (Nat.le_trans hn (by decide)), hd, q _ k H (Gr.refl hk) (.str _)⟩
theorem eb_chain {i j n : Int} (ha : EvD Ts ta δ (.int i)) (hb : EvD Ts tb δ (.int j)) (hc : EvD Ts tc δ (.int n)) : EvB Ts (tTest (tChain (rI0 fun i j => .bl (decide (i ≤ j))) (rI0 fun i j => .bl (decide (i < j))) ta tb tc)) δ (decide (i ≤ j) && decide (j < n)) := fun σ k H hk s Q q =>
  ha σ k H hk s _ fun x k1 H1 g1 dx => hb σ k1 H1 g1.kn (s.up hk g1) _ fun y k2 H2 g2 dy => by
    cases dx
    cases dy
    refine ⟨i, j, rfl, rfl, decide (i ≤ j), rfl, ?_⟩
    by_cases z : i ≤ j
    · rw [decide_eq_true z] at q ⊢
      refine iteT (hc σ k2 H2 g2.kn ((s.up hk g1).up g1.kn g2) _ fun w k3 H3 g3 dw => ?_)
      cases dw
      exact ⟨j, n, rfl, rfl, _, rfl, q k3 H3 (Gr.trans0 hk (Gr.trans0 hk g1 g2) g3)⟩
    · rw [decide_eq_false z] at q ⊢
      exact iteF ⟨false, rfl, q k2 H2 (Gr.trans0 hk g1 g2)⟩
theorem ev_not {te : TE} {b : Bool} (h : EvD Ts te δ (.bool b)) : EvD Ts (tNotV te) δ (.bool (!b)) := fun σ k H hk s Q q => h σ k H hk s _ fun v k1 H1 g1 dv => by
  cases dv
  exact ⟨b, rfl, q _ k1 H1 g1 (.bl _)⟩
end
/-! ### the filled's text -/
def ActsG (rs : List Row) : Prop := ∀ n, n < rs.length → ActG (rowAt rs n).act ∧ (rowAt rs n).count < 1000000
theorem GoodRows.acts {rs : List Row} (h : GoodRows rs) : ActsG rs := fun n hn => ⟨(h.2.2 _ (rowAt_mem hn)).act, (h.2.2 _ (rowAt_mem hn)).cnt⟩
mutual
theorem sh_fillI {rs : List Row} (g : ActsG rs) : ∀ i : I, okI rs i → Sh (fillI rs i) (1000 * szI i - 10)
  | .act .row n cs, h => by
    simp only [okI] at h
    obtain ⟨g1, g2⟩ := g n h.1
    rw [fillI]
    refine (Sh.tup (ShA.cons (Sh.str (n := 20) (by decide +kernel)) (ShA.cons g1.sh (ShA.cons (Sh.int g2) ShA.nil)))).mono ?_
    simp only [szI]; omega
  | .act .ifr n cs, h => by
    simp only [okI] at h
    obtain ⟨g1, g2⟩ := g n h.1
    have hc := sh_fillC g cs h.2.2
    rw [fillI]
    refine (Sh.tup (ShA.cons (Sh.str (n := 20) (by decide +kernel)) (ShA.cons g1.ex (ShA.cons (Sh.int g2) hc)))).mono ?_
    simp only [szI]; omega
  | .act .sw n cs, h => by
    simp only [okI] at h
    obtain ⟨g1, g2⟩ := g n h.1
    have hc := sh_fillC g cs h.2.2
    rw [fillI]
    refine (Sh.tup (ShA.cons (Sh.str (n := 20) (by decide +kernel)) (ShA.cons g1.ex (ShA.cons (Sh.int g2) (ShA.cons (Sh.tup hc) ShA.nil))))).mono ?_
    simp only [szI]; omega
  | .scope lp l b, h => by
    simp only [okI] at h
    have hb := sh_fillS g b h.2
    rw [fillI]
    refine (Sh.tup (ShA.cons (Sh.str (n := 20) (by cases lp <;> decide +kernel)) (ShA.cons (Sh.int h.1) (ShA.cons (Sh.tup hb) ShA.nil)))).mono ?_
    simp only [szI]; omega
  | .jmp ag l, h => by
    simp only [okI] at h
    rw [fillI]
    refine (Sh.tup (ShA.cons (Sh.str (n := 20) (by cases ag <;> decide +kernel)) (ShA.cons (Sh.int h) ShA.nil))).mono ?_
    simp only [szI]; omega
theorem sh_fillS {rs : List Row} (g : ActsG rs) : ∀ s : List I, okS rs s → ShA (fillS rs s) (1000 * szS s)
  | [], _ => by simp only [fillS]; exact ShA.nil.mono (by omega)
  | i :: r, h => by
    have h1 := sh_fillI g i h.1
    have h2 := sh_fillS g r h.2
    have : 1 ≤ szI i := by cases i <;> simp [szI] <;> omega
    simp only [fillS, szS]
    exact (ShA.cons h1 h2).mono (by omega)
theorem sh_fillC {rs : List Row} (g : ActsG rs) : ∀ s : List (List I), okC rs s → ShA (fillC rs s) (1000 * szC s)
  | [], _ => by simp only [fillC]; exact ShA.nil.mono (by omega)
  | i :: r, h => by
    have h1 := Sh.tup (sh_fillS g i h.1)
    have h2 := sh_fillC g r h.2
    simp only [fillC, szC]
    exact (ShA.cons h1 h2).mono (by omega)
end
theorem expr_dp {a : Act} (h : (encAct a).depth ≤ 5) : (exprA a).depth ≤ 5 := by
  cases a with
  | br e => simp [encAct, exprA, PyData.depth, PyData.depthAll] at *; omega
  | sel e => simp [encAct, exprA, PyData.depth, PyData.depthAll] at *; omega
  | oth nm l => simp [exprA, PyData.depth]
mutual
theorem dp_fillI {rs : List Row} (g : ActsG rs) : ∀ i : I, okI rs i → (fillI rs i).depth ≤ 3 * dpI i + 6
  | .act .row n cs, h => by
    simp only [okI] at h
    have h1 := (g n h.1).1.dp
    simp [fillI, PyData.depth, PyData.depthAll, dpI]; omega
  | .act .ifr n cs, h => by
    simp only [okI] at h
    have h1 := expr_dp (g n h.1).1.dp
    have hc := dp_fillC g cs h.2.2
    simp [fillI, PyData.depth, PyData.depthAll, dpI]; omega
  | .act .sw n cs, h => by
    simp only [okI] at h
    have h1 := expr_dp (g n h.1).1.dp
    have hc := dp_fillC g cs h.2.2
    simp [fillI, PyData.depth, PyData.depthAll, dpI]; omega
  | .scope lp l b, h => by
    simp only [okI] at h
    have hb := dp_fillS g b h.2
    simp [fillI, PyData.depth, PyData.depthAll, dpI]; omega
  | .jmp ag l, h => by simp [fillI, PyData.depth, PyData.depthAll, dpI]
theorem dp_fillS {rs : List Row} (g : ActsG rs) : ∀ s : List I, okS rs s → PyData.depthAll (fillS rs s) ≤ 3 * dpS s + 6
  | [], _ => by simp [fillS, PyData.depthAll]
  | i :: r, h => by
    have h1 := dp_fillI g i h.1
    have h2 := dp_fillS g r h.2
    simp only [fillS, PyData.depthAll, dpS]; omega
theorem dp_fillC {rs : List Row} (g : ActsG rs) : ∀ s : List (List I), okC rs s → PyData.depthAll (fillC rs s) ≤ 3 * dpC s + 7
  | [], _ => by simp [fillC, PyData.depthAll]
  | i :: r, h => by
    have h1 := dp_fillS g i h.1
    have h2 := dp_fillC g r h.2
    simp only [fillC, PyData.depthAll, PyData.depth, dpC]; omega
end
end K33
end
section
set_option Elab.async false
set_option linter.all false
set_option maxRecDepth 100000
set_option maxHeartbeats 8000000
/-! W16: the law. -/
namespace K33
open PySem L2 GxR
section
variable {P : Program} {w : World} {K : PySem.W.Frag} {mg : Str → Option Value} {base : Heap} {Ts Mo : List Addr}
theorem Stt.blank {k H : Hp} (hk : Kn Ts k H) (σ : L2.St) : Stt Ts [] k H k H σ (List.replicate σ.length none) := by
  have none_ : ∀ i : Nat, (List.replicate σ.length none : Dl)[i]? = some none ∨ (List.replicate σ.length none : Dl)[i]? = none := fun i => by
    rw [List.getElem?_replicate]
    split
    · exact .inl rfl
    · exact .inr rfl
  refine ⟨hk, Gr.refl hk, fun a h => by simp at h, ⟨by simp, fun i => ?_⟩, fun i w l e => ?_, fun i j w w' l e => ?_⟩
  · rcases none_ i with z | z <;> rw [z] <;> trivial
  · rcases none_ i with z | z <;> rw [z] at e <;> cases e
  · rcases none_ i with z | z <;> rw [z] at e <;> cases e
theorem law_start {rest : TS} {D : Ends} {k H : Hp} {a : Addr} {sc : List Int} {E : XK} (hk : Kn Ts k H) (hq : SqL K H a (sc.map V.int)) (h : ∀ σ k' H' d, postDr d → Stt Ts [] k H k' H' σ [none, dat d, none, none, none, none, none, none, none, none, none, none, none] → rest D σ H') :
    tSeq (tAsg (tCall (spDr Ts K) [] E (tCons (tVar 0) tNil)) (gName 1)) rest D [some (.ref a), none, none, none, none, none, none, none, none, none, none, none, none] H :=
  ⟨_, rfl, k, a, sc, rfl, hk, hq, fun v k' H' d hp g dv => h _ k' H' d hp (((Stt.blank hk [some (.ref a), none, none, none, none, none, none, none, none, none, none, none, none]).step g).put 1 dv)⟩
theorem rv_same {d : PyData} (h : d.canLay0 = true) (hd : d.depth ≤ 64) : RvD Ts (rNeW K) d d (.bool false) := by
  have := rv_neW (Ts := Ts) (K := K) h h (by omega : min d.depth d.depth ≤ 64)
  rw [PySem.SeqAt.eqv_refl d h] at this
  exact this
theorem lay_ints : ∀ ns : List Nat, PyData.canLayAll0 (ns.map pI) = true
  | [] => by simp [PyData.canLayAll0]
  | n :: ns => by simp [PyData.canLayAll0, lay_ints ns, PyData.canLay0]
theorem dp_ints : ∀ ns : List Nat, PyData.depthAll (ns.map pI) = 0
  | [] => by simp [PyData.depthAll]
  | n :: ns => by simp [PyData.depthAll, dp_ints ns, PyData.depth]
theorem lay_encL (ns : List Nat) : (encL ns).canLay0 = true := by simp [PyData.canLay0, lay_ints ns]
theorem dp_encL (ns : List Nat) : (encL ns).depth ≤ 64 := by simp [PyData.depth, dp_ints ns]
theorem dp_pI (n : Nat) : (pI n).depth ≤ 64 := by simp [PyData.depth]
abbrev NN_law : List Str := ["_law_script", "_law_built", "_law_rows_here", "_law_found", "_law_order", "_law_filled_here", "_law_actual", "_law_k", "_law_act", "_law_count", "_law_nexts", "_law_goals", "_law_goal"]
theorem sc_law : FnScope NN_law ["_law_script"] (defScope (topS 41)) := ⟨rfl, rfl, rfl, by decide +kernel, rfl, by decide +kernel, by decide +kernel⟩
theorem law_body {cdv : Value} {A : Around} {outer : List PySem.Env} {s : Shared} {H : Hp} {E : XK} {a0 : Addr} {scr : List Int} {k0 : Hp} {Q : VK} (T : Txt mg)
    (D__law_drawn : Df K mg "_law_drawn" 33 ["_law_script"]) (D_structure : Df K mg "structure" 18 ["rows", "first"]) (D__law_reducible : Df K mg "_law_reducible" 39 PP_red) (D__law_standing : Df K mg "_law_standing" 36 ["_law_shape"]) (D__law_reach : Df K mg "_law_reach" 34 PP_reach)
    (D_fill : Df K mg "fill" 20 ["shape", "rows"]) (D__law_filled : Df K mg "_law_filled" 40 PP_filled) (D_lower : Df K mg "lower" 28 ["sequence"]) (D : Df K mg "law" 41 ["_law_script"])
    (G__law_drawn : FnOk P w K mg base CX0 4 D__law_drawn.a D__law_drawn.fd ["_law_script"] (spDr Ts K)) (G_structure : FnOk P w K mg base CX0 165 D_structure.a D_structure.fd ["rows", "first"] (spP Ts R_structure)) (G__law_reducible : FnOk P w K mg base CX0 2 D__law_reducible.a D__law_reducible.fd PP_red (spP Ts R_red))
    (G__law_standing : FnOk P w K mg base CX0 81 D__law_standing.a D__law_standing.fd ["_law_shape"] (spP Ts (R_standing 80))) (G__law_reach : FnOk P w K mg base CX0 1 D__law_reach.a D__law_reach.fd PP_reach (spN Ts R_reach)) (G_fill : FnOk P w K mg base CX0 162 D_fill.a D_fill.fd ["shape", "rows"] (spP Ts (R_fill 80)))
    (G__law_filled : FnOk P w K mg base CX0 81 D__law_filled.a D__law_filled.fd PP_filled (spP Ts (R_fill 80))) (G_lower : FnOk P w K mg base CX0 162 D_lower.a D_lower.fd ["sequence"] (spP Ts (R_lower 80)))
    (hr : Room 170 (A.deeper (PyProof.Rows.envOfC "law" (defScope (topS 41)) s.heap.objs.size D.a cdv))) (hg : (A.deeper (PyProof.Rows.envOfC "law" (defScope (topS 41)) s.heap.objs.size D.a cdv)).guards = some [])
    (hk0 : Kn Ts k0 H) (hq0 : SqL K H a0 (scr.map V.int)) (q0 : ∀ H', Q (.bl true) H') :
    ∃ t, PSs (cxOf CX0 P w K mg base NN_law "law" (defScope (topS 41)) D.a cdv A outer s H E).nox (defBody (topS 41)) t ∧ t { nx := fun _ H' => Q .non H', rt := Q } (L2.start NN_law [.ref a0]) H := by
  have sc := sc_law
  refine ⟨_, (pss_cons (ps_set (i := 1) sc.nd rfl (Or.inl rfl) (pe_call G__law_drawn (hr.mono (by omega)) rfl D__law_drawn.m D__law_drawn.F.kp D__law_drawn.b .nil pass0 (pa_cons (pv 0) pa_nil)))
    (pss_cons (ps_set (i := 2) sc.nd rfl (Or.inl rfl) (pe_ix ix_seq (pv 1) pe_int (fun _ _ => rfl)))
    (pss_cons (ps_set (i := 3) sc.nd rfl (Or.inl rfl) (pe_call G_structure (hr.mono (by omega)) rfl D_structure.m D_structure.F.kp D_structure.b .nil pass0 (pa_cons (pe_callTy call_list_of (by rfl) T.list (by decide +kernel) (pa_cons (pv 2) pa_nil)) (pa_cons (pe_ix ix_seq (pv 1) pe_int (fun _ _ => rfl)) pa_nil))))
    (pss_cons (ps_if (pt_cmpR op_ne (pe_ix ix_seq (pv 3) pe_int (fun _ _ => rfl)) pe_str (nomark _))
      (pss_one (ps_ret (pe_not (pe_call G__law_reducible (hr.mono (by omega)) rfl D__law_reducible.m D__law_reducible.F.kp D__law_reducible.b .nil pass0 (pa_cons (pv 2) (pa_cons (pe_ix ix_seq (pv 1) pe_int (fun _ _ => rfl)) pa_nil))))))
      pss_nil)
    (pss_cons (ps_set (i := 4) sc.nd rfl (Or.inr rfl) (pe_call G__law_standing (hr.mono (by omega)) rfl D__law_standing.m D__law_standing.F.kp D__law_standing.b .nil pass0 (pa_cons (pe_ix ix_seq (pv 3) pe_int (fun _ _ => rfl)) pa_nil)))
    (pss_cons (ps_if (pt_cmpR (op_neW hr) (pe_callB cr_sortedI (by rfl) T.sorted (by decide +kernel) (pa_cons (pv 4) pa_nil)) (pe_callB cr_sortedI (by rfl) T.sorted (by decide +kernel) (pa_cons (pe_call G__law_reach (hr.mono (by omega)) rfl D__law_reach.m D__law_reach.F.kp D__law_reach.b .nil pass0 (pa_cons (pv 2) (pa_cons (pe_listRg rfl rfl T.list (prg_1 rfl T.range (pe_callB call_len_seq (by rfl) T.len PySem.boot_len (pa_cons (pv 2) pa_nil)))) (pa_cons (pe_ix ix_seq (pv 1) pe_int (fun _ _ => rfl)) pa_nil)))) pa_nil)) (nomark _))
      (pss_one (ps_ret pe_bl))
      pss_nil)
    (pss_cons (ps_set (i := 5) sc.nd rfl (Or.inl rfl) (pe_call G_fill (hr.mono (by omega)) rfl D_fill.m D_fill.F.kp D_fill.b .nil pass0 (pa_cons (pe_ix ix_seq (pv 3) pe_int (fun _ _ => rfl)) (pa_cons (pe_callTy call_list_of (by rfl) T.list (by decide +kernel) (pa_cons (pv 2) pa_nil)) pa_nil))))
    (pss_cons (ps_if (pt_cmpR op_ne (pe_callB (call_reprW hg hr (by decide)) (by rfl) T.repr (by decide +kernel) (pa_cons (pv 5) pa_nil)) (pe_callB (call_reprW hg hr (by decide)) (by rfl) T.repr (by decide +kernel) (pa_cons (pe_call G__law_filled (hr.mono (by omega)) rfl D__law_filled.m D__law_filled.F.kp D__law_filled.b .nil pass0 (pa_cons (pe_ix ix_seq (pv 3) pe_int (fun _ _ => rfl)) (pa_cons (pv 2) pa_nil))) pa_nil)) (nomark _))
      (pss_one (ps_ret pe_bl))
      pss_nil)
    (pss_cons (ps_set (i := 6) sc.nd rfl (Or.inl rfl) (pe_call G_lower (hr.mono (by omega)) rfl D_lower.m D_lower.F.kp D_lower.b .nil pass0 (pa_cons (pv 5) pa_nil)))
    (pss_cons (ps_if (PW.pt (pw_or (pt_cmpR (op_neW hr) (pe_callB call_len_seq (by rfl) T.len PySem.boot_len (pa_cons (pe_ix ix_seq (pv 6) pe_int (fun _ _ => rfl)) pa_nil)) (pe_callB call_len_seq (by rfl) T.len PySem.boot_len (pa_cons (pv 4) pa_nil)) (nomark _)) (pw_or1 (pt_cmpR (op_neW hr) (pe_ix ix_seq (pv 4) (pe_ix ix_seq (pv 6) pe_int (fun _ _ => rfl)) (fun _ _ => rfl)) (pe_ix ix_seq (pv 1) pe_int (fun _ _ => rfl)) (nomark _)))))
      (pss_one (ps_ret pe_bl))
      pss_nil)
    (pss_cons (ps_for PassesOwn.never rfl (pi_range1 rfl T.range (pa_cons (pe_callB call_len_seq (by rfl) T.len PySem.boot_len (pa_cons (pv 4) pa_nil)) pa_nil)) (pg_name (i := 7) sc.nd rfl (Or.inl rfl))
      (pss_cons (ps_asg (pe_ix ix_seq (pv 2) (pe_ix ix_seq (pv 4) (pv 7) (fun _ _ => rfl)) (fun _ _ => rfl)) (pg_tup rfl (pgs_cons (pg_name (i := 8) sc.nd rfl (Or.inl rfl)) (pgs_cons (pg_name (i := 9) sc.nd rfl (Or.inl rfl)) (pgs_cons (pg_name (i := 10) sc.nd rfl (Or.inl rfl)) pgs_nil)))))
      (pss_cons (ps_if (PW.pt (pw_or (pt_cmpR (op_neW hr) (pe_ix ix_seq (pe_ix ix_seq (pe_ix ix_seq (pv 6) pe_int (fun _ _ => rfl)) (pv 7) (fun _ _ => rfl)) pe_int (fun _ _ => rfl)) (pv 8) (nomark _)) (pw_or1 (pt_cmpR (op_neW hr) (pe_ix ix_seq (pe_ix ix_seq (pe_ix ix_seq (pv 6) pe_int (fun _ _ => rfl)) (pv 7) (fun _ _ => rfl)) pe_int (fun _ _ => rfl)) (pv 9) (nomark _)))))
        (pss_one (ps_ret pe_bl))
        pss_nil)
      (pss_cons (ps_set (i := 11) sc.nd rfl (Or.inl rfl) (pe_callTy call_list_of (by rfl) T.list (by decide +kernel) (pa_cons (pe_ix ix_seq (pe_ix ix_seq (pe_ix ix_seq (pv 6) pe_int (fun _ _ => rfl)) (pv 7) (fun _ _ => rfl)) pe_int (fun _ _ => rfl)) pa_nil)))
      (pss_one (ps_if (PW.pt (pw_or (pt_cmpR op_ne (pe_callB call_len_seq (by rfl) T.len PySem.boot_len (pa_cons (pv 11) pa_nil)) (pe_callB call_len_seq (by rfl) T.len PySem.boot_len (pa_cons (pv 10) pa_nil)) (nomark _)) (pw_or1 (pt_cmpR (op_neW hr) (pe_lc (own := [("_law_goal", 12)]) (g := gName 12) (te := tOp (rIx K) (tVar 4) (tVar 12)) (tt := tTest (tChain (rI0 fun i j => .bl (decide (i ≤ j))) (rI0 fun i j => .bl (decide (i < j))) (tC (.int 0)) (tVar 12) (tCB (fun xs H Q => ∃ p ys, xs = [.ref p] ∧ (SqL K H p ys ∨ SqT K H p ys) ∧ Q (.int ys.length) H) (tCons (tVar 4) tNil)))) rfl sc.nd (pi_list (pv 11)) (blkOk_by (own := [("_law_goal", 12)]) (N := NN_law) (sc := defScope (topS 41)) (by decide +kernel)) (fun _ _ _ _ _ => pg_name (i := 12) sc.nd rfl (Or.inl rfl)) (fun _ _ _ _ _ => pts_one (pt_chain op_le op_lt pe_int (pv 12) (pe_callB call_len_seq (by rfl) T.len PySem.boot_len (pa_cons (pv 4) pa_nil)))) (fun _ _ _ _ _ => (pe_ix ix_seq (pv 4) (pv 12) (fun _ _ => rfl)))) (pe_callTy call_list_of (by rfl) T.list (by decide +kernel) (pa_cons (pv 10) pa_nil)) (nomark _)))))
        (pss_one (ps_ret pe_bl))
        pss_nil))))))
    (pss_one (ps_ret pe_bl))))))))))))), ?_⟩
  refine law_start hk0 hq0 fun σ k' H' d hd s0 => run_rest (post := (· = .bool true)) ?_ s0 fun v k2 H2 d hd g dv => by
    subst hd
    cases dv
    exact q0 H2
  obtain ⟨rs, first, x, hgr, hf, rfl⟩ := hd
  have rg := hgr.rg
  have ag := hgr.acts
  have hlen := rg.len
  refine st_seq1 (st_asg (d := encRows rs) (ev_op (ev_var rfl) ev_int (rv_ixL (at_0 _ _))) rfl) ?_
  refine st_seq1 (st_asg (ev_call (ea_cons (ev_callR (ea_cons (ev_var rfl) ea_nil) rc_list) (ea_cons (ev_op (d := pI first) (ev_var rfl) ev_int (rv_ixL (at_1 _ _ _))) ea_nil)) ⟨rs, first, rg, hf, rfl, rfl⟩) rfl) ?_
  cases ho : outlineOf (kdOf rs) (nxOf rs) rs.length first with
  | error ab =>
    obtain ⟨a, b⟩ := ab
    have hs : strOf rs first = .error (a, b) := by unfold strOf; rw [ho]
    rw [hs]
    refine st_ifr (b := true) (eb_is (eb_test (ev_op (ev_op (d := .str "tangled") (ev_var rfl) ev_int (rv_ixT (at_0 _ _))) ev_str rv_neS)) (by decide +kernel)) (fun _ => ?_) (fun h => by cases h)
    exact st_ret (ev_not (ev_call (ea_cons (ev_var rfl) (ea_cons (ev_op (d := pI first) (ev_var rfl) ev_int (rv_ixL (at_1 _ _ _))) ea_nil)) ⟨rs, first, a, b, rg, hf, ho, rfl, rfl⟩)) rfl
  | ok sh =>
    have hs : strOf rs first = .ok (simS sh) := by unfold strOf; rw [ho]
    rw [hs]
    obtain ⟨w1, w2, w3, w4, w5⟩ := str_ok rg hf ho
    obtain ⟨back, _, _⟩ := structured_ok rg.ok (fun x _ => rg.nx x) hf ho
    obtain ⟨v1, v2, v3⟩ := sim_wfS sh w1
    have v4 := sim_okS sh w2
    have v5 := dp_wtS (simS sh)
    generalize simS sh = S at back v1 v2 v3 v4 v5 hs
    have hst := st_wtS S
    have hna := naS_st S
    refine st_ifr (b := false) (eb_is (eb_test (ev_op (ev_op (d := .str "structured") (ev_var rfl) ev_int (rv_ixT (at_0 _ _))) ev_str rv_neS)) (by decide +kernel)) (fun h => by cases h) (fun _ => ?_)
    have hf1 : ∀ δ : Dl, δ[3]? = some (dat (encRes (.ok S))) → EvD Ts (tOp (rIx K) (tVar 3) (tC (.int 1))) δ (encT S) := fun δ e => ev_op (ev_var e) ev_int (rv_ixT (at_1 _ _ _))
    refine st_seq1 (st_asg (ev_call (ea_cons (hf1 _ rfl) ea_nil) ⟨S, by omega, v1, by omega, rfl, rfl⟩) rfl) ?_
    -- the rows that stand are the rows that are reached
    have hreg : (stS S).Perm (spreadL rs.length (nxOf rs) (fun x => x < rs.length) first) := back.st
    refine st_seq (N := fun δ => δ = [none, dat (.list [encRows rs, pI first, x]), dat (encRows rs), dat (encRes (.ok S)), dat (encL (stS S)), none, none, none, none, none, none, none, none]) (sw_if (pb := fun δ' b => b = false ∧ δ' = [none, dat (.list [encRows rs, pI first, x]), dat (encRows rs), dat (encRes (.ok S)), dat (encL (stS S)), none, none, none, none, none, none, none, none]) (et_test (ew_op (pa := fun δ' d => d = encL (regionOf rs.length (nxOf rs) first) ∧ δ' = [none, dat (.list [encRows rs, pI first, x]), dat (encRows rs), dat (encRes (.ok S)), dat (encL (stS S)), none, none, none, none, none, none, none, none]) (ew_pure (ev_callR (ea_cons (ev_var rfl) ea_nil) (by
        show RcD Ts (rSortedI K) [encL (stS S)] (encL (regionOf rs.length (nxOf rs) first))
        unfold encL
        rw [map_pI, map_pI]
        exact rc_sortedI spread_sorted (hreg.map _))) ⟨rfl, rfl⟩) fun δ' d ⟨h1, h2⟩ => by
      subst h1 h2
      refine ew_mono (ew_callR (post := fun δ2 d2 => d2 = encL (regionOf rs.length (nxOf rs) first) ∧ δ2 = [none, dat (.list [encRows rs, pI first, x]), dat (encRows rs), dat (encRes (.ok S)), dat (encL (stS S)), none, none, none, none, none, none, none, none]) (pb := fun δ' ds => ∃ f : List Nat, f.Perm (regionOf rs.length (nxOf rs) first) ∧ ds = [encL f] ∧ δ' = [none, dat (.list [encRows rs, pI first, x]), dat (encRows rs), dat (encRes (.ok S)), dat (encL (stS S)), none, none, none, none, none, none, none, none]) (eaw_cons (pa := fun δ' d => ∃ f : List Nat, f.Perm (regionOf rs.length (nxOf rs) first) ∧ d = encL f ∧ δ' = [none, dat (.list [encRows rs, pI first, x]), dat (encRows rs), dat (encRes (.ok S)), dat (encL (stS S)), none, none, none, none, none, none, none, none]) (ew_callN (ea_cons (ev_var rfl) (ea_cons (ev_listRg (n := rs.length) (ev_is (ev_callR (ea_cons (ev_var rfl) ea_nil) rc_len) (by rw [List.length_map])) (by omega)) (ea_cons (ev_op (d := pI first) (ev_var rfl) ev_int (rv_ixL (at_1 _ _ _))) ea_nil))) ⟨rs, List.range rs.length, first, rg, hf, rfl, rfl⟩ fun d ⟨f, h1, h2⟩ => ⟨f, by
          unfold regionOf
          rw [show (fun x => x < rs.length) = (fun x => x ∈ List.range rs.length) from funext fun x => propext List.mem_range.symm]
          exact h1, h2, rfl⟩) fun δ' d ⟨f, h1, h2, h3⟩ => eaw_nil ⟨f, h1, by rw [h2], h3⟩) fun δ' ds ⟨f, h1, h2, h3⟩ => ⟨encL (regionOf rs.length (nxOf rs) first), by
            subst h2
            show RcD Ts (rSortedI K) [encL f] (encL (regionOf rs.length (nxOf rs) first))
            unfold encL
            rw [map_pI, map_pI]
            exact rc_sortedI spread_sorted (h1.map _), rfl, h3⟩) fun δ2 d2 ⟨h1, h2⟩ => ?_
      subst h1
      exact ⟨_, rv_same (lay_encL _) (dp_encL _), _, rfl, rfl, h2⟩)) (fun δ' h => by cases h.1) (fun δ' h => st_next h.2)) fun δ' e => e ▸ ?_
    refine st_seq1 (st_asg (ev_call (ea_cons (hf1 _ rfl) (ea_cons (ev_callR (ea_cons (ev_var rfl) ea_nil) rc_list) ea_nil)) ⟨rs, S, by omega, v1, v4, by omega, rfl, rfl⟩) rfl) ?_
    have shT := Sh.tup (sh_fillS ag S v4)
    have dpT : (PyData.tuple (fillS rs S)).depth ≤ 300 := by
      have := dp_fillS ag S v4
      simp only [PyData.depth]
      omega
    refine st_ifr (b := false) (eb_is (eb_test (ev_op (ev_callR (ea_cons (ev_var rfl) ea_nil) (rc_repr shT (by omega) dpT)) (ev_callR (ea_cons (ev_call (ea_cons (hf1 _ rfl) (ea_cons (ev_var rfl) ea_nil)) ⟨rs, S, by omega, v1, v4, by omega, rfl, rfl⟩) ea_nil) (rc_repr shT (by omega) dpT)) rv_neS)) (by simp)) (fun h => by cases h) (fun _ => ?_)
    refine st_seq1 (st_asg (ev_call (ea_cons (ev_var rfl) ea_nil) ⟨rs, S, by omega, by omega, v1, v4, rg.ends, by omega, by omega, by omega, rfl, rfl⟩) rfl) ?_
    have hrows := back.rows
    have hnext := back.nexts
    have hfirst := back.first
    generalize fnS (naS S) S 0 (naS S) ⟨fun _ => naS S, fun _ => naS S⟩ = fst at hfirst ⊢
    generalize arS (nxOf rs) (naS S) S 0 (naS S) ⟨fun _ => naS S, fun _ => naS S⟩ = ar at hrows hnext ⊢
    have hal : ar.length = (stS S).length := by rw [← hrows, List.length_map]
    have a1 : ∀ δ : Dl, δ[6]? = some (dat (.tuple [pI fst, .list (ar.map (encLow rs))])) → EvD Ts (tOp (rIx K) (tVar 6) (tC (.int 1))) δ (.list (ar.map (encLow rs))) := fun δ e => ev_op (ev_var e) ev_int (rv_ixT (at_1 _ _ _))
    have a0 : ∀ δ : Dl, δ[6]? = some (dat (.tuple [pI fst, .list (ar.map (encLow rs))])) → EvD Ts (tOp (rIx K) (tVar 6) (tC (.int 0))) δ (pI fst) := fun δ e => ev_op (ev_var e) ev_int (rv_ixT (at_0 _ _))
    refine st_ifr (b := false) (eb_is (a := false || false) (eb_or (eb_test (ev_op (d := .bool false) (dx := pI (stS S).length) (dy := pI (stS S).length) (ev_is (ev_callR (ea_cons (a1 _ rfl) ea_nil) rc_len) (by rw [List.length_map, hal])) (ev_is (ev_callR (ea_cons (ev_var rfl) ea_nil) rc_len) (by rw [List.length_map])) (rv_same (lay_pI _) (dp_pI _)))) (fun _ => eb_test (ev_op (d := .bool false) (dx := pI first) (dy := pI first) (ev_op (ev_var rfl) (a0 _ rfl) (rv_ixL (atI_nat (by rw [List.getElem?_map, hfirst]; rfl)))) (ev_op (ev_var rfl) ev_int (rv_ixL (at_1 _ _ _))) (rv_same (lay_pI _) (dp_pI _))))) rfl) (fun h => by cases h) (fun _ => ?_)
    refine st_seq (N := fun δ => True) ?_ fun δ' _ => st_ret ev_bl rfl
    refine forR_core (n := (stS S).length) (fun j δ => ∃ x7 x8 x9 x10 x11, δ = [none, dat (.list [encRows rs, pI first, x]), dat (encRows rs), dat (encRes (.ok S)), dat (encL (stS S)), dat (fillT rs S), dat (.tuple [pI fst, .list (ar.map (encLow rs))]), x7, x8, x9, x10, x11, none]) (ea_cons (ev_is (ev_callR (ea_cons (ev_var rfl) ea_nil) rc_len) (by rw [List.length_map])) ea_nil) (by omega)
      ⟨none, none, none, none, none, rfl⟩ (fun j δ' hj ⟨x7, x8, x9, x10, x11, e⟩ => ?_) (fun δ' _ => trivial)
    subst e
    have hm := List.getElem?_eq_getElem hj
    generalize (stS S)[j] = m at hm
    have hmm : m < rs.length := (mem_spread.mp (back.st.mem_iff.mp (List.mem_of_getElem? hm))).1
    have hja : j < ar.length := by omega
    have hp := List.getElem?_eq_getElem hja
    generalize ar[j] = p at hp
    obtain ⟨m', l⟩ := p
    have hmp : m' = m := by
      have h1 : (ar.map (·.1))[j]? = some m' := by rw [List.getElem?_map, hp]; rfl
      rw [hrows, hm] at h1
      exact (Option.some.inj h1).symm
    subst hmp
    have hrel : (l.map fun j => (stS S)[j]?) = (nxOf rs m').map some := hnext (m', l) (List.mem_of_getElem? hp)
    have hll : l.length = (nxOf rs m').length := by have := congrArg List.length hrel; simpa using this
    have four := rg.ok.four m'
    refine st_seq1 (st_asg3 (d1 := encAct (rowAt rs m').act) (d2 := pI (rowAt rs m').count) (d3 := .tuple ((nxOf rs m').map pI)) (ev_op (ev_var rfl) (ev_op (d := pI m') (ev_var rfl) (ev_var rfl) (rv_ixL (atI_nat (by rw [List.getElem?_map, hm]; rfl)))) (rv_ixL (rows_at hmm))) rfl) ?_
    have lk : ∀ δ : Dl, δ[6]? = some (dat (.tuple [pI fst, .list (ar.map (encLow rs))])) → δ[7]? = some (dat (.int (j : Nat))) → EvD Ts (tOp (rIx K) (tOp (rIx K) (tVar 6) (tC (.int 1))) (tVar 7)) δ (.tuple [encAct (rowAt rs m').act, pI (rowAt rs m').count, .tuple (l.map pI)]) := fun δ e1 e2 => ev_op (a1 δ e1) (ev_var e2) (rv_ixL (atI_nat (by rw [List.getElem?_map, hp]; rfl)))
    have gact := (ag m' hmm).1
    have dact := gact.dp
    refine st_ifr (b := false) (eb_is (a := false || false) (eb_or (eb_test (ev_op (d := .bool false) (ev_op (d := encAct (rowAt rs m').act) (lk _ rfl rfl) ev_int (rv_ixT (at_0 _ _))) (ev_var rfl) (rv_same gact.lay (by omega)))) (fun _ => eb_test (ev_op (d := .bool false) (ev_op (d := pI (rowAt rs m').count) (lk _ rfl rfl) ev_int (rv_ixT (at_1 _ _ _))) (ev_var rfl) (rv_same (lay_pI _) (dp_pI _))))) rfl) (fun h => by cases h) (fun _ => ?_)
    refine st_seq1 (st_asg (d := encL l) (ev_callR (ea_cons (ev_op (d := .tuple (l.map pI)) (lk _ rfl rfl) ev_int (rv_ixT (at_2 _ _ _ _))) ea_nil) rc_listT) rfl) ?_
    refine st_if (b := false) (eb_is (a := false || false) (eb_or (eb_is (eb_test (ev_op (ev_callR (ea_cons (ev_var rfl) ea_nil) rc_len) (ev_callR (ea_cons (ev_var rfl) ea_nil) rc_lenT) rv_neI)) (by simp [hll])) (fun _ => eb_test (ev_op (d := .bool false) (dx := encL (nxOf rs m')) (dy := encL (nxOf rs m')) (ev_is (ev_lcLi (ds := l.map pI) (fun _ => true) (fun i => pI ((nxOf rs m').getD i 0)) (ev_var rfl) (by rw [List.length_map]; omega) (fun i d hi => ?_) (fun i d hi _ => ?_)) ?_) (ev_callR (ea_cons (ev_var rfl) ea_nil) rc_listT) (rv_same (lay_encL _) (dp_encL _))))) rfl) (fun h => by cases h) (fun _ => st_next ⟨_, _, _, _, _, rfl⟩)
    · obtain ⟨g, hg2, rfl⟩ := getL hi
      have hlt : g < (stS S).length := by
        have h1 : (l.map fun j => (stS S)[j]?)[i]? = some ((stS S)[g]?) := by rw [List.getElem?_map, hg2]; rfl
        rw [hrel, List.getElem?_map] at h1
        cases z : (nxOf rs m')[i]? with
        | none => rw [z] at h1; cases h1
        | some y =>
          rw [z] at h1
          exact (List.getElem?_eq_some_iff.mp (Option.some.inj h1).symm).1
      exact eb_is (eb_chain (i := 0) (j := (g : Int)) (n := ((stS S).length : Nat)) ev_int (ev_var rfl) (ev_is (ev_callR (ea_cons (ev_var rfl) ea_nil) rc_len) (by rw [List.length_map]))) (by simp; omega)
    · obtain ⟨g, hg2, rfl⟩ := getL hi
      have h1 : (l.map fun j => (stS S)[j]?)[i]? = some ((stS S)[g]?) := by rw [List.getElem?_map, hg2]; rfl
      rw [hrel, List.getElem?_map] at h1
      cases z : (nxOf rs m')[i]? with
      | none => rw [z] at h1; cases h1
      | some y =>
        rw [z] at h1
        have h2 : (stS S)[g]? = some y := (Option.some.inj h1).symm
        have h3 : (nxOf rs m').getD i 0 = y := by rw [List.getD_eq_getElem?_getD, z]; rfl
        rw [h3]
        exact ev_op (ev_var rfl) (ev_var rfl) (rv_ixL (atI_nat (by rw [List.getElem?_map, h2]; rfl)))
    · rw [lcIx_all, List.length_map, hll]
      refine congrArg PyData.list ?_
      apply List.ext_getElem?
      intro i
      rw [List.getElem?_map, List.getElem?_map]
      by_cases q : i < (nxOf rs m').length
      · rw [List.getElem?_range q, List.getElem?_eq_getElem q]
        simp [List.getD_eq_getElem?_getD, List.getElem?_eq_getElem q]
      · rw [List.getElem?_eq_none (by simpa using q), List.getElem?_eq_none (by omega)]
        rfl
end
end K33
end
section
set_option Elab.async false
set_option linter.all false
set_option maxRecDepth 100000
set_option maxHeartbeats 8000000
/-! W17: the end: the law's def, called by the claim's caller. -/
namespace K33
open PySem PySem.Spec PyProof.Rows L2 GxR
section
variable {P : Program} {w : World} {K : PySem.W.Frag} {mg : Str → Option Value} {base : Heap} {A : Around} {outer : List PySem.Env} {s : Shared} {H : Hp} {Q : VK} {E : XK}
/-- a block's end, told as the call's end -/
theorem end_run {X : Cx} {σ : L2.St} {r : Except Value Flow} {s' : Shared} (hP : X.prog = P) (hw : X.w = w)
    (un : ∀ {σ' : L2.St} {H' : Hp}, Inv X [] σ' H' s' → s'.os = s.os ∧ Un (frs outer) [] H H' s.heap s'.heap) :
    (∀ {u : Value}, (∃ (v : V) (σ' : L2.St) (H' : Hp), Inv X [] σ' H' s' ∧ RelV v u ∧ Q v H') → CE outer P w H s Q u s') ∧ ((∃ (σ' : L2.St) (H' : Hp), Inv X [] σ' H' s' ∧ Q .non H') → CE outer P w H s Q .none s') := by
  subst hP hw
  constructor
  · rintro u ⟨v, σ', H', J, rv, q⟩
    exact ⟨v, H', (un J).1, J.bare, (un J).2, J.hok, rv, q⟩
  · rintro ⟨σ', H', J, q⟩
    exact ⟨.non, H', (un J).1, J.bare, (un J).2, J.hok, rfl, q⟩
/-- one def, run where the caller stands -/
theorem fn_run {k : Nat} {f : Addr} {fd : FuncData} {name : Str} {st : Stmt} {N ps : List Str} (F : Fun K name name st f fd) (S : FnScope N ps (defScope st))
    {args : Args} {us : List Value} {vs : List V} (hr : Room (k + 1) A) (e0 : Env0 P w K mg base A outer s H) (hb : BindsTo s fd args (ps.zip us)) (r : Vals vs us) (hl : vs.length = ps.length)
    (hbody : ∀ cdv : Value, Room k (A.deeper (envOfC name (defScope st) s.heap.objs.size f cdv)) → ∃ t, PSs (cxOf CX0 P w K mg base N name (defScope st) f cdv A outer s H E).nox (defBody st) t ∧ t { nx := fun _ H' => Q .non H', rt := Q } (L2.start N vs) H) :
    codeAny (model P w) A (.call (.ref f) args) (CR CX0 outer P w H s Q E) s := by
  have up : ∀ b o, base.get? b = some o → s.heap.get? b = some o := fun b o e => (e0.bs b o e).1
  obtain ⟨_, _, _, _, _, _, cdv, _, _, rfl, here, isCode⟩ := F.ex
  have known : K.In s.heap := e0.mod.kin.keeps up
  have unlimited := e0.mod.nolimit.keeps up
  obtain ⟨t, runs, wish⟩ := hbody cdv (hr.deeper _)
  refine codeAny_call_function hr.depth (known f _ here) rfl S.co S.gen rfl (PySem.W.codeRec_of known isCode) (hb _ _ _ _ (wpAny_newFunctionEnv_cells S.kind (fun y hy => ?_) ?_))
  · exact (S.par y.1 (List.of_mem_zip (show (y.1, y.2) ∈ ps.zip us from hy)).1).imp id fun c => ⟨c, PySem.W.cellsFrom_some _ _ _ (.inl c)⟩
  · intro env isEnv s1 new
    subst isEnv
    have I0 := inv_start (CX := CX0) (E := E) (f := f) (cd := cdv) (qual := name) S hr.hd e0 hl r new
    refine ⟨unlimited.keeps new.toInCall.keep, codeAny_func (wpAny_mono (runs.nox.run [] s1 _ H _ I0 wish) (fun fl s' hs => ?_) fun _ _ z => z)⟩
    have ends := end_run (P := P) (w := w) (s := s) (H := H) (Q := Q) (outer := outer) (X := cxOf CX0 P w K mg base N name (defScope st) f cdv A outer s H E) (s' := s') (σ := L2.start N vs) (r := .ok fl) rfl rfl fun J => ⟨J.os, J.base⟩
    match fl, hs with
    | .ret u, z => exact ends.1 z
    | .next, z => exact ends.2 z
    | .brk, ⟨_, _, _, z⟩ => exact z.elim
    | .cont, ⟨_, _, _, z⟩ => exact z.elim
end
/-- the script's one object -/
abbrev scrO (vs : List Value) : Obj := { cls := .type "list", data := .seq vs.toArray }
/-- what the caller of the law holds: the known objects, the script, code objects with empty tables -/
structure LawAt (K : PySem.W.Frag) (mg mb : Str → Option Value) (cs : List (Addr × Addr)) (a : Addr) (vs : List Value) (ns : List Int) (s : Shared) : Prop where
  known : K.In s.heap
  glob : s.heap.Ns mainGlobals mg
  bltn : s.heap.Ns builtinsNs mb
  boot : ∀ x : Str, x ≠ "__name__" → mb x = bootBuiltins x
  lim : s.heap.NoLimit
  gens : s.gens = #[]
  main : ∃ (m : Addr) (o : Obj), mg "__builtins__" = some (.ref m) ∧ m ≠ builtinsNs ∧ s.heap.get? m = some o ∧ o.cls = .type "module" ∧ o.dict = some builtinsNs ∧ o.data = .plain
  tabs : ∀ p ∈ cs, PySem.W.CodeHd s.heap p.1 p.2 ∧ s.heap.get? p.2 = some (PySem.W.tabObj #[]) ∧ K.lookup p.2 = none
  script : s.heap.get? a = some (scrO vs)
  nums : IntsAre vs ns
  len : ns.length ≤ sizeLine
/-- what is tracked at the law's call: the tables, and the script where it is none of the known objects -/
def lawH (K : PySem.W.Frag) (cs : List (Addr × Addr)) (a : Addr) (vs : List Value) (ns : List Int) : Hp := fun b =>
  if cs.any (fun p => p.2 == b) = true then some (.tbl #[])
  else if (b == a && (K.lookup a).isNone) = true then some (.frz (scrO vs) (.lst (ns.map V.int)))
  else none
/-- neither a sequence nor an empty table -/
def odd : Data → Bool
  | .seq _ _ => false
  | .fields us => us.size != 0
  | _ => true
section
variable {K : PySem.W.Frag} {mg mb : Str → Option Value} {cs : List (Addr × Addr)} {a b : Addr} {vs : List Value} {ns : List Int} {s : Shared} {o : Obj} {u : HO}
theorem lawH_of (e : lawH K cs a vs ns b = some u) : (∃ p ∈ cs, p.2 = b ∧ u = .tbl #[]) ∨ (b = a ∧ K.lookup a = none ∧ u = .frz (scrO vs) (.lst (ns.map V.int))) := by
  unfold lawH at e
  split at e
  · rename_i q
    simp only [List.any_eq_true, beq_iff_eq] at q
    obtain ⟨p, hp, z⟩ := q
    cases e
    exact .inl ⟨p, hp, z, rfl⟩
  · split at e
    · rename_i q
      simp only [Bool.and_eq_true, beq_iff_eq, Option.isNone_iff_eq_none] at q
      cases e
      exact .inr ⟨q.1, q.2, rfl⟩
    · cases e
theorem lawH_tab {p : Addr × Addr} (hp : p ∈ cs) : lawH K cs a vs ns p.2 = some (.tbl #[]) := if_pos (List.any_eq_true.mpr ⟨p, hp, by simp⟩)
namespace LawAt
variable (L : LawAt K mg mb cs a vs ns s)
include L
theorem clear (e : s.heap.get? b = some o) (q : odd o.data = true) : lawH K cs a vs ns b = none := by
  cases z : lawH K cs a vs ns b with
  | none => rfl
  | some u =>
    rcases lawH_of z with ⟨p, hp, rfl, _⟩ | ⟨rfl, _⟩
    · cases e.symm.trans (L.tabs p hp).2.1
      cases q
    · cases e.symm.trans L.script
      cases q
theorem keep (e : s.heap.get? b = some o) (q : odd o.data = true) : (hidT s.heap (lawH K cs a vs ns)).get? b = some o := hidT_get e (L.clear e q)
theorem keepNs {m : Str → Option Value} : s.heap.Ns b m → (hidT s.heap (lawH K cs a vs ns)).Ns b m
  | ⟨o, es, ep, e, d, r⟩ => ⟨o, es, ep, L.keep e (by rw [d]; rfl), d, r⟩
theorem mod : L2.Mod K mg (hidT s.heap (lawH K cs a vs ns)) where
  kin := fun b o e => hidT_get (L.known b o e) (by
    cases z : lawH K cs a vs ns b with
    | none => rfl
    | some u =>
      rcases lawH_of z with ⟨p, hp, rfl, _⟩ | ⟨rfl, n, _⟩
      · cases e.symm.trans (L.tabs p hp).2.2
      · cases e.symm.trans n)
  glob := L.keepNs L.glob
  blt := ⟨mb, L.keepNs L.bltn, L.boot⟩
  nolimit := L.lim.elim fun mc z => ⟨mc, L.keepNs z.1, z.2⟩
theorem ne_glob (e : s.heap.get? b = some o) (q : ∀ es n, o.data ≠ .dict es n) : b ≠ mainGlobals := by
  rintro rfl
  obtain ⟨o', es, n, e', d, _⟩ := L.glob
  cases e.symm.trans e'
  exact q es n d
theorem tab {p : Addr × Addr} (hp : p ∈ cs) : TabB (hidT s.heap (lawH K cs a vs ns)) mg p.1 p.2 where
  code := by
    obtain ⟨o, us, f1, f2, f3, f4, f5, f6, f7, e, c, d, at11, more⟩ := (L.tabs p hp).1
    refine ⟨o, us, f1, f2, f3, f4, f5, f6, f7, L.keep e ?_, c, d, at11, more⟩
    have big : 11 < us.size := (Array.getElem?_eq_some_iff.mp at11).1
    rw [d]
    exact bne_iff_ne.mpr (by omega)
  bm := by
    obtain ⟨m, o, e1, e2, e3, e4, e5, e6⟩ := L.main
    refine ⟨m, o, e1, e2, L.ne_glob e3 (by simp [e6]), ?_, L.keep e3 (by rw [e6]; rfl), e4, e5, e6⟩
    rintro rfl
    cases e3.symm.trans (L.tabs p hp).2.1
    cases e6
  gP := (L.ne_glob (L.tabs p hp).2.1 fun _ _ z => by cases z).symm
theorem hok {P : Program} {w : World} : HOk P w (lawH K cs a vs ns) s.heap := fun b u e => by
  rcases lawH_of e with ⟨p, hp, rfl, rfl⟩ | ⟨rfl, _, rfl⟩
  · exact (L.tabs p hp).2.1
  · exact ⟨L.script, by simpa using L.len, vs, 0, vals_ints L.nums, L.script⟩
theorem seq : SqL K (lawH K cs a vs ns) a (ns.map V.int) := by
  have away : cs.any (fun p => p.2 == a) = false := by
    rw [Bool.eq_false_iff]
    intro z
    simp only [List.any_eq_true, beq_iff_eq] at z
    obtain ⟨p, hp, rfl⟩ := z
    cases L.script.symm.trans (L.tabs p hp).2.1
  cases z : K.lookup a with
  | none => exact .inl (.inr ⟨scrO vs, by unfold lawH; rw [away, z]; simp⟩)
  | some o =>
    cases L.script.symm.trans (L.known a o z)
    exact .inr ⟨scrO vs, vs.toArray, 0, z, rfl, rfl, rfl, by simpa [← L.nums.length] using L.len, vals_ints L.nums⟩
theorem env0 {P : Program} {w : World} : Env0 P w K mg (hidT s.heap (lawH K cs a vs ns)) callerA [] s (lawH K cs a vs ns) where
  frames := rfl
  mod := L.mod
  bs := fun _ _ => of_hidT
  bsz := Nat.le_of_eq (hidT_size _ _)
  funs := trivial
  frf := fun _ z => nomatch z
  hok := L.hok
  bare := .of_eq L.gens
/-- afterwards every object is as it was, or it is a table that has grown -/
theorem after {P : Program} {w : World} {H' : Hp} {h' : Heap} (un : Un (frs []) [] (lawH K cs a vs ns) H' s.heap h') (ok : HOk P w H' h') (e : s.heap.get? b = some o) : asItWas s.heap h' b o ∧ ∃ o', h'.get? b = some o' := by
  refine (fun z => ⟨z, un.there b o e (fun q => nomatch q)⟩) ?_
  cases z : lawH K cs a vs ns b with
  | none => exact .inl (un.keep b o e z (fun q => nomatch q) fun q => nomatch q)
  | some u =>
    rcases lawH_of z with ⟨p, hp, rfl, rfl⟩ | ⟨rfl, _, rfl⟩
    · obtain ⟨more, grown⟩ := un.tbls _ _ z
      cases e.symm.trans (L.tabs p hp).2.1
      exact .inr (.inl ⟨((L.tabs p hp).1.tab (L.tabs p hp).2.1).isCodeTable, rfl, #[], more, rfl, ok _ _ grown⟩)
    · cases e.symm.trans L.script
      exact .inl (ok _ _ (un.frzs _ _ _ z)).1
/-- THE END: the law's def answers True, and nothing that was there is another -/
theorem call {P : Program} {w : World} (D : Df K mg "law" 41 ["_law_script"])
    (body : ∀ base : Heap, (∀ p ∈ cs, TabB base mg p.1 p.2) → ∀ (cdv : Value) (H : Hp) (Q : VK) (E : XK), Room 170 (callerA.deeper (envOfC "law" (defScope (topS 41)) s.heap.objs.size D.a cdv)) → (∀ p ∈ cs, H p.2 = some (.tbl #[])) → SqL K H a (ns.map V.int) → (∀ H', Q (.bl true) H') →
      ∃ t, PSs (cxOf CX0 P w K mg base NN_law "law" (defScope (topS 41)) D.a cdv callerA [] s H E).nox (defBody (topS 41)) t ∧ t { nx := fun _ H' => Q .non H', rt := Q } (L2.start NN_law [.ref a]) H) :
    codeAny (model P w) callerA (.call (.ref D.a) ⟨[.ref a], []⟩) (fun r s' => r = .ok (.ret (.bool true)) ∧ OldK s.heap s'.heap ∧ s'.os = s.os ∧ AllBare s'.gens) s := by
  have room : Room 171 callerA := ⟨rfl, by decide, by decide⟩
  have run := fn_run (Q := fun v _ => v = .bl true) (E := fun _ _ _ => False) (vs := [.ref a]) D.F sc_law room (L.env0 (P := P) (w := w)) (D.b s [.ref a] L.known rfl) (.cons rfl .nil) rfl fun cdv hr =>
    body _ (fun p hp => L.tab hp) cdv _ (fun v _ => v = .bl true) (fun _ _ _ => False) hr (fun p hp => lawH_tab hp) L.seq fun _ => rfl
  refine codeAny_mono run fun r s' z => ?_
  match r, z with
  | .ok (.ret u), ⟨v, H', os, bare, un, ok, rel, q⟩ =>
    subst q
    have true_ : u = .bool true := rel
    exact ⟨by rw [true_], ⟨fun b o e => (L.after un ok e).1, fun b o e => (L.after un ok e).2⟩, os, bare⟩
end LawAt
end
end K33
end
section
set_option Elab.async false
set_option linter.all false
set_option maxRecDepth 100000
set_option maxHeartbeats 8000000
/-! W18: all defs together; the walk of the law. -/
namespace K33
open PySem PySem.Spec PyProof.Rows L2 GxR
/-- the program's defs, its tuple and the built-ins, by their names -/
structure AllD (K : PySem.W.Frag) (mg : Str → Option Value) (c3 c4 c8 : Addr) where
  T : Txt mg
  En : TupG K mg "ENDS" endsL
  D1 : Df K mg "spread" 1 ["rows", "chosen", "start"]
  D2 : Df K mg "reachable" 2 ["rows", "first"]
  D3 : Dc K mg "components" 3 ["rows", "chosen"] c3
  D4 : Dc K mg "entered_at" 4 ["rows", "region", "component"] c4
  D6 : Df K mg "jump" 6 ["labels", "number"]
  D7 : Df K mg "head_shape" 7 ["rows", "head", "labels"]
  D8 : Dc K mg "outline_of" 8 PP_out c8
  D9 : Df K mg "outline" 9 ["rows", "first"]
  D10 : Df K mg "insides" 10 ["item"]
  D11 : Df K mg "rebuilt" 11 ["item", "shapes"]
  D12 : Df K mg "counted" 12 ["shape", "label", "with_loops"]
  D13 : Df K mg "leaves" 13 ["shape", "label"]
  D14 : Df K mg "drop_at_end" 14 ["shape", "label"]
  D15 : Df K mg "put_in" 15 ["shape", "label", "rest"]
  D16 : Df K mg "simple_block" 16 ["label", "inner", "rest"]
  D17 : Df K mg "simplify" 17 ["shape"]
  D18 : Df K mg "structure" 18 ["rows", "first"]
  D19 : Df K mg "filled_item" 19 ["item", "rows"]
  D20 : Df K mg "fill" 20 ["shape", "rows"]
  D23 : Df K mg "bodies_of" 23 ["statement"]
  D24 : Df K mg "numbered" 24 ["sequence", "start"]
  D25 : Df K mg "target" 25 ["goals", "kind", "label", "none"]
  D26 : Df K mg "first_in" 26 ["sequence", "position", "behind", "goals", "none"]
  D27 : Df K mg "add_rows" 27 PP_add
  D28 : Df K mg "lower" 28 ["sequence"]
  D30 : Df K mg "_law_draw" 30 ["_law_state", "_law_limit"]
  D31 : Df K mg "_law_next" 31 PP_next
  D32 : Df K mg "_law_rows" 32 ["_law_state", "_law_most"]
  D33 : Df K mg "_law_drawn" 33 ["_law_script"]
  D34 : Df K mg "_law_reach" 34 PP_reach
  D35 : Df K mg "_law_inner" 35 ["_law_item"]
  D36 : Df K mg "_law_standing" 36 ["_law_shape"]
  D37 : Df K mg "_law_edges" 37 PP_edges
  D38 : Df K mg "_law_merge" 38 PP_merge
  D39 : Df K mg "_law_reducible" 39 PP_red
  D40 : Df K mg "_law_filled" 40 PP_filled
  D41 : Df K mg "law" 41 ["_law_script"]
theorem law_all {P : Program} {w : World} {K : PySem.W.Frag} {mg : Str → Option Value} {base : Heap} {c3 c4 c8 P3 P4 P8 : Addr} (Z : AllD K mg c3 c4 c8) (TB : ∀ p ∈ [(c3, P3), (c4, P4), (c8, P8)], TabB base mg p.1 p.2)
    (cdv : Value) (s : Shared) (H : Hp) (Q : VK) (E : XK) {a : Addr} {scr : List Int} (hr : Room 170 (callerA.deeper (envOfC "law" (defScope (topS 41)) s.heap.objs.size Z.D41.a cdv))) (hH : ∀ p ∈ [(c3, P3), (c4, P4), (c8, P8)], H p.2 = some (.tbl #[]))
    (hS : SqL K H a (scr.map V.int)) (q0 : ∀ H', Q (.bl true) H') :
    ∃ t, PSs (cxOf CX0 P w K mg base NN_law "law" (defScope (topS 41)) Z.D41.a cdv callerA [] s H E).nox (defBody (topS 41)) t ∧ t { nx := fun _ H' => Q .non H', rt := Q } (L2.start NN_law [.ref a]) H := by
  have T := Z.T
  have p3 : P3 ∈ [P3, P4, P8] := .head _
  have p4 : P4 ∈ [P3, P4, P8] := .tail _ (.head _)
  have p8 : P8 ∈ [P3, P4, P8] := .tail _ (.tail _ (.head _))
  have TB3 : TabB base mg c3 P3 := TB (c3, P3) (.head _)
  have TB4 : TabB base mg c4 P4 := TB (c4, P4) (.tail _ (.head _))
  have TB8 : TabB base mg c8 P8 := TB (c8, P8) (.tail _ (.tail _ (.head _)))
  have g_drawn := ok_drawn (P := P) (w := w) (base := base) (Ts := [P3, P4, P8]) T Z.D30 Z.D31 Z.D32 Z.D33
  have g_reach := ok_reach (P := P) (w := w) (base := base) (Ts := [P3, P4, P8]) T Z.D34
  have g_standing := all_standing (P := P) (w := w) (base := base) (Ts := [P3, P4, P8]) T Z.D35 Z.D36 80
  have g_filled := all_filled (P := P) (w := w) (base := base) (Ts := [P3, P4, P8]) T Z.D35 Z.D40 80
  have g_red := ok_red (P := P) (w := w) (base := base) (Ts := [P3, P4, P8]) T Z.D34 Z.D37 Z.D38 Z.D39
  have g_fill := all_fill (P := P) (w := w) (base := base) (Ts := [P3, P4, P8]) T Z.D10 Z.D11 Z.D19 Z.D20 80
  have g_num := all_numbered (P := P) (w := w) (base := base) (Ts := [P3, P4, P8]) Z.D23 Z.D24 80
  have g_first := all_first (P := P) (w := w) (base := base) (Ts := [P3, P4, P8]) T Z.D25 Z.D26 80
  have g_add := all_add (P := P) (w := w) (base := base) (Ts := [P3, P4, P8]) (m := 80) T Z.En Z.D26 Z.D27 g_first 80
  have g_lower := ok_lower (P := P) (w := w) (base := base) (Ts := [P3, P4, P8]) (m := 80) Z.D24 Z.D26 Z.D27 Z.D28 g_num g_first g_add
  have g_sb := ok_sb (P := P) (w := w) (base := base) (Ts := [P3, P4, P8]) (n := 80) T Z.D10 Z.D11 Z.D12 Z.D13 Z.D14 Z.D15 Z.D16
  have g_sim := all_simplify (P := P) (w := w) (base := base) (Ts := [P3, P4, P8]) (m := 80) T Z.D10 Z.D11 Z.D16 Z.D17 g_sb 80
  have g_hs := ok_hs (P := P) (w := w) (base := base) (Ts := [P3, P4, P8]) T Z.D6 Z.D7
  have g_comp := ok_components (P := P) (w := w) (base := base) (Ts := [P3, P4, P8]) p3 TB3 T Z.D1 Z.D3
  have g_ent := ok_entered (P := P) (w := w) (base := base) (Ts := [P3, P4, P8]) p4 TB4 T Z.D4
  have g_oof := all_outline_of (P := P) (w := w) (base := base) (Ts := [P3, P4, P8]) p8 TB8 T Z.D7 Z.D3.toDf Z.D4.toDf Z.D8 g_hs g_comp g_ent
  have g_reachable := ok_reachable (P := P) (w := w) (base := base) (Ts := [P3, P4, P8]) T Z.D1 Z.D2
  have g_out := ok_outline (P := P) (w := w) (base := base) (Ts := [P3, P4, P8]) Z.D2 Z.D8.toDf Z.D9 g_reachable g_oof
  have g_str := ok_structure (P := P) (w := w) (base := base) (Ts := [P3, P4, P8]) Z.D9 Z.D17 Z.D18 g_out g_sim
  refine law_body (P := P) (w := w) (base := base) (Ts := [P3, P4, P8]) (k0 := fun _ => none) T Z.D33 Z.D18 Z.D39 Z.D36 Z.D34 Z.D20 Z.D40 Z.D28 Z.D41 g_drawn g_str g_red g_standing g_reach g_fill g_filled g_lower hr rfl
    ⟨(by intro b o z; cases z), (by intro b ps z; cases z), fun Q hQ => ?_⟩ hS q0
  have ht : H Q = some (.tbl #[]) := by
    rcases List.mem_cons.mp hQ with e | e
    · rw [e]; exact hH (c3, P3) (.head _)
    · rcases List.mem_cons.mp e with e | e
      · rw [e]; exact hH (c4, P4) (.tail _ (.head _))
      · rcases List.mem_cons.mp e with e | e
        · rw [e]; exact hH (c8, P8) (.tail _ (.tail _ (.head _)))
        · cases e
  exact ⟨#[], ht, by trivial⟩
end K33
end
section
set_option Elab.async false
set_option linter.all false
set_option maxRecDepth 100000
set_option maxHeartbeats 8000000
/-! W19: the walk of the claim; the facts of the program's objects. -/
namespace K33
open PySem PySem.Spec PyProof.Rows L2 GxR
theorem walkK {l : PySem.W.OpenLaw} {n : Nat} {q : Program} {loose : List Str} {XP : (Str → Option Value) → Heap → Prop} {YP : World → Heap → Prop} {d : DefRec} {K : Params → PySem.W.Frag}
    (hn : l.most = some n) (hn2 : n ≤ sizeLine) (hdf : d.params.defaults = []) (hY : ∀ (w : World) (h : Heap), YP w h → (K w.params).In h)
    (F : ∀ (w : World) (s₀ : Shared) (mg mb : Str → Option Value) (fa : Addr) (h : Heap), PySem.W.Ground q loose [] XP w s₀ mg mb h → (K w.params).In h → mg d.name = some (.ref fa) →
      ∃ (c3 c4 c8 P3 P4 P8 : Addr) (Z : AllD (K w.params) mg c3 c4 c8), fa = Z.D41.a ∧ ∀ p ∈ [(c3, P3), (c4, P4), (c8, P8)], PySem.W.CodeHd h p.1 p.2 ∧ h.get? p.2 = some (PySem.W.tabObj #[]) ∧ (K w.params).lookup p.2 = none) : PySem.W.WalkO q loose XP YP l.row.toRowW d [] fun f us => PySem.call f us := by
  refine Att.attach_callB hn hdf fun w s1 s mg mb fa fo pm cd dc a vs ns G known _ _ _ named script nums short _ gens => ?_
  obtain ⟨c3, c4, c8, P3, P4, P8, Z, rfl, tabs⟩ := F w s1 mg mb fa _ G (hY w _ known) named
  exact LawAt.call ⟨hY w _ known, G.T.g, G.T.b, G.T.builtins, G.T.nolimit, gens, G.T.bmain, tabs, script, nums, Nat.le_trans short hn2⟩ Z.D41 fun _ TB cdv H Q E => law_all Z TB cdv s H Q E
section
variable {K : PySem.W.Frag} {h : Heap} {mg : Str → Option Value}
def df_mk (X : K.In h) (G : h.Ns mainGlobals mg) {name : Str} {i : Nat} {ps : List Str} {f : Addr} {od an : Option Addr} {sl : Array (Option Value)} {oc kV dc pm cd ct : Value}
    (a : PySem.W.nsIn K mainGlobals name = some (some (.ref f))) (l : K.lookup f = some ⟨oc, od, .func (PySem.W.fnOf name name (defArgs (topS i)) (defBody (topS i)) (defScope (topS i)) .none kV dc pm an cd ct), sl⟩) (c : PySem.W.codeIn K cd name = true) (k : PySem.W.keepIn K (.ref f) = true)
    (hb : ∀ (kV doc pm : Value) (an : Option Addr) (cdv ct : Value) (us : List Value), us.length = ps.length → bindArgs (PySem.W.fnOf name name (defArgs (topS i)) (defBody (topS i)) (defScope (topS i)) .none kV doc pm an cdv ct) ⟨us, []⟩ = pure (ps.zip us)) : Df K mg name i ps :=
  ⟨f, _, fun_mk l c k, (fun_mk l c k).binds hb, PySem.W.mg_of X G a⟩
def dc_mk (X : K.In h) (G : h.Ns mainGlobals mg) {name : Str} {i : Nat} {ps : List Str} {f c : Addr} {od an : Option Addr} {sl : Array (Option Value)} {oc kV dc pm ct : Value}
    (a : PySem.W.nsIn K mainGlobals name = some (some (.ref f))) (l : K.lookup f = some ⟨oc, od, .func (PySem.W.fnOf name name (defArgs (topS i)) (defBody (topS i)) (defScope (topS i)) .none kV dc pm an (.ref c) ct), sl⟩) (cc : PySem.W.codeIn K (.ref c) name = true) (k : PySem.W.keepIn K (.ref f) = true)
    (hb : ∀ (kV doc pm : Value) (an : Option Addr) (cdv ct : Value) (us : List Value), us.length = ps.length → bindArgs (PySem.W.fnOf name name (defArgs (topS i)) (defBody (topS i)) (defScope (topS i)) .none kV doc pm an cdv ct) ⟨us, []⟩ = pure (ps.zip us)) : Dc K mg name i ps c :=
  ⟨⟨f, _, fun_mk l cc k, (fun_mk l cc k).binds hb, PySem.W.mg_of X G a⟩, ⟨⟨oc, od, kV, dc, pm, an, ct, sl, rfl, l, cc⟩, k⟩⟩
theorem tabIn_mk {x : Str} {f c P : Addr} {fd : FuncData} {oc oc' : Value} {od od' : Option Addr} {sl sl' : Array (Option Value)} {vs : Array Value} (a : PySem.W.nsIn K mainGlobals x = some (some (.ref f))) (l : K.lookup f = some ⟨oc, od, .func fd, sl⟩) (hc : fd.code = .ref c)
    (lc : K.lookup c = some ⟨oc', od', .fields vs, sl'⟩) (v : vs[11]? = some (.ref P)) : PySem.W.tabIn K x = some (c, P) := by
  unfold PySem.W.tabIn
  simp only [a, l, hc, lc, v]
theorem tab_all {q : Program} {loose mean} {mb : Str → Option Value} {x : Str} {c P : Addr} (T : Top q loose mean mg mb h) (X : K.In h) (r : ((recsOf q).find? (fun e => e.name == x)).isSome = true) (t : PySem.W.tabIn K x = some (c, P)) (n : K.lookup P = none) :
    PySem.W.CodeHd h c P ∧ h.get? P = some (PySem.W.tabObj #[]) ∧ K.lookup P = none := by
  obtain ⟨d, hd⟩ := Option.isSome_iff_exists.mp r
  obtain ⟨h1, h2⟩ := PySem.W.tab_of T X hd t
  exact ⟨h1, h2, n⟩

theorem all_mk {q : Program} {loose : List Str} {XP : (Str → Option Value) → Heap → Prop} {w : World} {s₀ : Shared} {mb : Str → Option Value} {fa : Addr} (X : K.In h) (G : PySem.W.Ground q loose [] XP w s₀ mg mb h) (hfa : mg "law" = some (.ref fa))
    {f1 f2 f3 f4 f6 f7 f8 f9 f10 f11 f12 f13 f14 f15 f16 f17 f18 f19 f20 f23 f24 f25 f26 f27 f28 f30 f31 f32 f33 f34 f35 f36 f37 f38 f39 f40 f41 c3 c4 c8 P3 P4 P8 fE : Addr}
    {od1 an1 od2 an2 od3 an3 od4 an4 od6 an6 od7 an7 od8 an8 od9 an9 od10 an10 od11 an11 od12 an12 od13 an13 od14 an14 od15 an15 od16 an16 od17 an17 od18 an18 od19 an19 od20 an20 od23 an23 od24 an24 od25 an25 od26 an26 od27 an27 od28 an28 od30 an30 od31 an31 od32 an32 od33 an33 od34 an34 od35 an35 od36 an36 od37 an37 od38 an38 od39 an39 od40 an40 od41 an41 odc3 odc4 odc8 odE : Option Addr}
    {sl1 sl2 sl3 sl4 sl6 sl7 sl8 sl9 sl10 sl11 sl12 sl13 sl14 sl15 sl16 sl17 sl18 sl19 sl20 sl23 sl24 sl25 sl26 sl27 sl28 sl30 sl31 sl32 sl33 sl34 sl35 sl36 sl37 sl38 sl39 sl40 sl41 slc3 slc4 slc8 slE : Array (Option Value)}
    {oc1 kV1 dc1 pm1 ct1 cd1 oc2 kV2 dc2 pm2 ct2 cd2 oc3 kV3 dc3 pm3 ct3 oc4 kV4 dc4 pm4 ct4 oc6 kV6 dc6 pm6 ct6 cd6 oc7 kV7 dc7 pm7 ct7 cd7 oc8 kV8 dc8 pm8 ct8 oc9 kV9 dc9 pm9 ct9 cd9 oc10 kV10 dc10 pm10 ct10 cd10 oc11 kV11 dc11 pm11 ct11 cd11 oc12 kV12 dc12 pm12 ct12 cd12 oc13 kV13 dc13 pm13 ct13 cd13 oc14 kV14 dc14 pm14 ct14 cd14 oc15 kV15 dc15 pm15 ct15 cd15 oc16 kV16 dc16 pm16 ct16 cd16 oc17 kV17 dc17 pm17 ct17 cd17 oc18 kV18 dc18 pm18 ct18 cd18 oc19 kV19 dc19 pm19 ct19 cd19 oc20 kV20 dc20 pm20 ct20 cd20 oc23 kV23 dc23 pm23 ct23 cd23 oc24 kV24 dc24 pm24 ct24 cd24 oc25 kV25 dc25 pm25 ct25 cd25 oc26 kV26 dc26 pm26 ct26 cd26 oc27 kV27 dc27 pm27 ct27 cd27 oc28 kV28 dc28 pm28 ct28 cd28 oc30 kV30 dc30 pm30 ct30 cd30 oc31 kV31 dc31 pm31 ct31 cd31 oc32 kV32 dc32 pm32 ct32 cd32 oc33 kV33 dc33 pm33 ct33 cd33 oc34 kV34 dc34 pm34 ct34 cd34 oc35 kV35 dc35 pm35 ct35 cd35 oc36 kV36 dc36 pm36 ct36 cd36 oc37 kV37 dc37 pm37 ct37 cd37 oc38 kV38 dc38 pm38 ct38 cd38 oc39 kV39 dc39 pm39 ct39 cd39 oc40 kV40 dc40 pm40 ct40 cd40 oc41 kV41 dc41 pm41 ct41 cd41 occ3 occ4 occ8 : Value} {vs3 vs4 vs8 : Array Value} {nE : Nat} {tE1 tE2 tE3 tE4 : Tok}
    (a1 : PySem.W.nsIn K mainGlobals "spread" = some (some (.ref f1))) (l1 : K.lookup f1 = some ⟨oc1, od1, .func (PySem.W.fnOf "spread" "spread" (defArgs (topS 1)) (defBody (topS 1)) (defScope (topS 1)) .none kV1 dc1 pm1 an1 cd1 ct1), sl1⟩) (c1c : PySem.W.codeIn K cd1 "spread" = true) (k1 : PySem.W.keepIn K (.ref f1) = true)
    (a2 : PySem.W.nsIn K mainGlobals "reachable" = some (some (.ref f2))) (l2 : K.lookup f2 = some ⟨oc2, od2, .func (PySem.W.fnOf "reachable" "reachable" (defArgs (topS 2)) (defBody (topS 2)) (defScope (topS 2)) .none kV2 dc2 pm2 an2 cd2 ct2), sl2⟩) (c2c : PySem.W.codeIn K cd2 "reachable" = true) (k2 : PySem.W.keepIn K (.ref f2) = true)
    (a3 : PySem.W.nsIn K mainGlobals "components" = some (some (.ref f3))) (l3 : K.lookup f3 = some ⟨oc3, od3, .func (PySem.W.fnOf "components" "components" (defArgs (topS 3)) (defBody (topS 3)) (defScope (topS 3)) .none kV3 dc3 pm3 an3 (.ref c3) ct3), sl3⟩) (c3c : PySem.W.codeIn K (.ref c3) "components" = true) (k3 : PySem.W.keepIn K (.ref f3) = true)
    (a4 : PySem.W.nsIn K mainGlobals "entered_at" = some (some (.ref f4))) (l4 : K.lookup f4 = some ⟨oc4, od4, .func (PySem.W.fnOf "entered_at" "entered_at" (defArgs (topS 4)) (defBody (topS 4)) (defScope (topS 4)) .none kV4 dc4 pm4 an4 (.ref c4) ct4), sl4⟩) (c4c : PySem.W.codeIn K (.ref c4) "entered_at" = true) (k4 : PySem.W.keepIn K (.ref f4) = true)
    (a6 : PySem.W.nsIn K mainGlobals "jump" = some (some (.ref f6))) (l6 : K.lookup f6 = some ⟨oc6, od6, .func (PySem.W.fnOf "jump" "jump" (defArgs (topS 6)) (defBody (topS 6)) (defScope (topS 6)) .none kV6 dc6 pm6 an6 cd6 ct6), sl6⟩) (c6c : PySem.W.codeIn K cd6 "jump" = true) (k6 : PySem.W.keepIn K (.ref f6) = true)
    (a7 : PySem.W.nsIn K mainGlobals "head_shape" = some (some (.ref f7))) (l7 : K.lookup f7 = some ⟨oc7, od7, .func (PySem.W.fnOf "head_shape" "head_shape" (defArgs (topS 7)) (defBody (topS 7)) (defScope (topS 7)) .none kV7 dc7 pm7 an7 cd7 ct7), sl7⟩) (c7c : PySem.W.codeIn K cd7 "head_shape" = true) (k7 : PySem.W.keepIn K (.ref f7) = true)
    (a8 : PySem.W.nsIn K mainGlobals "outline_of" = some (some (.ref f8))) (l8 : K.lookup f8 = some ⟨oc8, od8, .func (PySem.W.fnOf "outline_of" "outline_of" (defArgs (topS 8)) (defBody (topS 8)) (defScope (topS 8)) .none kV8 dc8 pm8 an8 (.ref c8) ct8), sl8⟩) (c8c : PySem.W.codeIn K (.ref c8) "outline_of" = true) (k8 : PySem.W.keepIn K (.ref f8) = true)
    (a9 : PySem.W.nsIn K mainGlobals "outline" = some (some (.ref f9))) (l9 : K.lookup f9 = some ⟨oc9, od9, .func (PySem.W.fnOf "outline" "outline" (defArgs (topS 9)) (defBody (topS 9)) (defScope (topS 9)) .none kV9 dc9 pm9 an9 cd9 ct9), sl9⟩) (c9c : PySem.W.codeIn K cd9 "outline" = true) (k9 : PySem.W.keepIn K (.ref f9) = true)
    (a10 : PySem.W.nsIn K mainGlobals "insides" = some (some (.ref f10))) (l10 : K.lookup f10 = some ⟨oc10, od10, .func (PySem.W.fnOf "insides" "insides" (defArgs (topS 10)) (defBody (topS 10)) (defScope (topS 10)) .none kV10 dc10 pm10 an10 cd10 ct10), sl10⟩) (c10c : PySem.W.codeIn K cd10 "insides" = true) (k10 : PySem.W.keepIn K (.ref f10) = true)
    (a11 : PySem.W.nsIn K mainGlobals "rebuilt" = some (some (.ref f11))) (l11 : K.lookup f11 = some ⟨oc11, od11, .func (PySem.W.fnOf "rebuilt" "rebuilt" (defArgs (topS 11)) (defBody (topS 11)) (defScope (topS 11)) .none kV11 dc11 pm11 an11 cd11 ct11), sl11⟩) (c11c : PySem.W.codeIn K cd11 "rebuilt" = true) (k11 : PySem.W.keepIn K (.ref f11) = true)
    (a12 : PySem.W.nsIn K mainGlobals "counted" = some (some (.ref f12))) (l12 : K.lookup f12 = some ⟨oc12, od12, .func (PySem.W.fnOf "counted" "counted" (defArgs (topS 12)) (defBody (topS 12)) (defScope (topS 12)) .none kV12 dc12 pm12 an12 cd12 ct12), sl12⟩) (c12c : PySem.W.codeIn K cd12 "counted" = true) (k12 : PySem.W.keepIn K (.ref f12) = true)
    (a13 : PySem.W.nsIn K mainGlobals "leaves" = some (some (.ref f13))) (l13 : K.lookup f13 = some ⟨oc13, od13, .func (PySem.W.fnOf "leaves" "leaves" (defArgs (topS 13)) (defBody (topS 13)) (defScope (topS 13)) .none kV13 dc13 pm13 an13 cd13 ct13), sl13⟩) (c13c : PySem.W.codeIn K cd13 "leaves" = true) (k13 : PySem.W.keepIn K (.ref f13) = true)
    (a14 : PySem.W.nsIn K mainGlobals "drop_at_end" = some (some (.ref f14))) (l14 : K.lookup f14 = some ⟨oc14, od14, .func (PySem.W.fnOf "drop_at_end" "drop_at_end" (defArgs (topS 14)) (defBody (topS 14)) (defScope (topS 14)) .none kV14 dc14 pm14 an14 cd14 ct14), sl14⟩) (c14c : PySem.W.codeIn K cd14 "drop_at_end" = true) (k14 : PySem.W.keepIn K (.ref f14) = true)
    (a15 : PySem.W.nsIn K mainGlobals "put_in" = some (some (.ref f15))) (l15 : K.lookup f15 = some ⟨oc15, od15, .func (PySem.W.fnOf "put_in" "put_in" (defArgs (topS 15)) (defBody (topS 15)) (defScope (topS 15)) .none kV15 dc15 pm15 an15 cd15 ct15), sl15⟩) (c15c : PySem.W.codeIn K cd15 "put_in" = true) (k15 : PySem.W.keepIn K (.ref f15) = true)
    (a16 : PySem.W.nsIn K mainGlobals "simple_block" = some (some (.ref f16))) (l16 : K.lookup f16 = some ⟨oc16, od16, .func (PySem.W.fnOf "simple_block" "simple_block" (defArgs (topS 16)) (defBody (topS 16)) (defScope (topS 16)) .none kV16 dc16 pm16 an16 cd16 ct16), sl16⟩) (c16c : PySem.W.codeIn K cd16 "simple_block" = true) (k16 : PySem.W.keepIn K (.ref f16) = true)
    (a17 : PySem.W.nsIn K mainGlobals "simplify" = some (some (.ref f17))) (l17 : K.lookup f17 = some ⟨oc17, od17, .func (PySem.W.fnOf "simplify" "simplify" (defArgs (topS 17)) (defBody (topS 17)) (defScope (topS 17)) .none kV17 dc17 pm17 an17 cd17 ct17), sl17⟩) (c17c : PySem.W.codeIn K cd17 "simplify" = true) (k17 : PySem.W.keepIn K (.ref f17) = true)
    (a18 : PySem.W.nsIn K mainGlobals "structure" = some (some (.ref f18))) (l18 : K.lookup f18 = some ⟨oc18, od18, .func (PySem.W.fnOf "structure" "structure" (defArgs (topS 18)) (defBody (topS 18)) (defScope (topS 18)) .none kV18 dc18 pm18 an18 cd18 ct18), sl18⟩) (c18c : PySem.W.codeIn K cd18 "structure" = true) (k18 : PySem.W.keepIn K (.ref f18) = true)
    (a19 : PySem.W.nsIn K mainGlobals "filled_item" = some (some (.ref f19))) (l19 : K.lookup f19 = some ⟨oc19, od19, .func (PySem.W.fnOf "filled_item" "filled_item" (defArgs (topS 19)) (defBody (topS 19)) (defScope (topS 19)) .none kV19 dc19 pm19 an19 cd19 ct19), sl19⟩) (c19c : PySem.W.codeIn K cd19 "filled_item" = true) (k19 : PySem.W.keepIn K (.ref f19) = true)
    (a20 : PySem.W.nsIn K mainGlobals "fill" = some (some (.ref f20))) (l20 : K.lookup f20 = some ⟨oc20, od20, .func (PySem.W.fnOf "fill" "fill" (defArgs (topS 20)) (defBody (topS 20)) (defScope (topS 20)) .none kV20 dc20 pm20 an20 cd20 ct20), sl20⟩) (c20c : PySem.W.codeIn K cd20 "fill" = true) (k20 : PySem.W.keepIn K (.ref f20) = true)
    (a23 : PySem.W.nsIn K mainGlobals "bodies_of" = some (some (.ref f23))) (l23 : K.lookup f23 = some ⟨oc23, od23, .func (PySem.W.fnOf "bodies_of" "bodies_of" (defArgs (topS 23)) (defBody (topS 23)) (defScope (topS 23)) .none kV23 dc23 pm23 an23 cd23 ct23), sl23⟩) (c23c : PySem.W.codeIn K cd23 "bodies_of" = true) (k23 : PySem.W.keepIn K (.ref f23) = true)
    (a24 : PySem.W.nsIn K mainGlobals "numbered" = some (some (.ref f24))) (l24 : K.lookup f24 = some ⟨oc24, od24, .func (PySem.W.fnOf "numbered" "numbered" (defArgs (topS 24)) (defBody (topS 24)) (defScope (topS 24)) .none kV24 dc24 pm24 an24 cd24 ct24), sl24⟩) (c24c : PySem.W.codeIn K cd24 "numbered" = true) (k24 : PySem.W.keepIn K (.ref f24) = true)
    (a25 : PySem.W.nsIn K mainGlobals "target" = some (some (.ref f25))) (l25 : K.lookup f25 = some ⟨oc25, od25, .func (PySem.W.fnOf "target" "target" (defArgs (topS 25)) (defBody (topS 25)) (defScope (topS 25)) .none kV25 dc25 pm25 an25 cd25 ct25), sl25⟩) (c25c : PySem.W.codeIn K cd25 "target" = true) (k25 : PySem.W.keepIn K (.ref f25) = true)
    (a26 : PySem.W.nsIn K mainGlobals "first_in" = some (some (.ref f26))) (l26 : K.lookup f26 = some ⟨oc26, od26, .func (PySem.W.fnOf "first_in" "first_in" (defArgs (topS 26)) (defBody (topS 26)) (defScope (topS 26)) .none kV26 dc26 pm26 an26 cd26 ct26), sl26⟩) (c26c : PySem.W.codeIn K cd26 "first_in" = true) (k26 : PySem.W.keepIn K (.ref f26) = true)
    (a27 : PySem.W.nsIn K mainGlobals "add_rows" = some (some (.ref f27))) (l27 : K.lookup f27 = some ⟨oc27, od27, .func (PySem.W.fnOf "add_rows" "add_rows" (defArgs (topS 27)) (defBody (topS 27)) (defScope (topS 27)) .none kV27 dc27 pm27 an27 cd27 ct27), sl27⟩) (c27c : PySem.W.codeIn K cd27 "add_rows" = true) (k27 : PySem.W.keepIn K (.ref f27) = true)
    (a28 : PySem.W.nsIn K mainGlobals "lower" = some (some (.ref f28))) (l28 : K.lookup f28 = some ⟨oc28, od28, .func (PySem.W.fnOf "lower" "lower" (defArgs (topS 28)) (defBody (topS 28)) (defScope (topS 28)) .none kV28 dc28 pm28 an28 cd28 ct28), sl28⟩) (c28c : PySem.W.codeIn K cd28 "lower" = true) (k28 : PySem.W.keepIn K (.ref f28) = true)
    (a30 : PySem.W.nsIn K mainGlobals "_law_draw" = some (some (.ref f30))) (l30 : K.lookup f30 = some ⟨oc30, od30, .func (PySem.W.fnOf "_law_draw" "_law_draw" (defArgs (topS 30)) (defBody (topS 30)) (defScope (topS 30)) .none kV30 dc30 pm30 an30 cd30 ct30), sl30⟩) (c30c : PySem.W.codeIn K cd30 "_law_draw" = true) (k30 : PySem.W.keepIn K (.ref f30) = true)
    (a31 : PySem.W.nsIn K mainGlobals "_law_next" = some (some (.ref f31))) (l31 : K.lookup f31 = some ⟨oc31, od31, .func (PySem.W.fnOf "_law_next" "_law_next" (defArgs (topS 31)) (defBody (topS 31)) (defScope (topS 31)) .none kV31 dc31 pm31 an31 cd31 ct31), sl31⟩) (c31c : PySem.W.codeIn K cd31 "_law_next" = true) (k31 : PySem.W.keepIn K (.ref f31) = true)
    (a32 : PySem.W.nsIn K mainGlobals "_law_rows" = some (some (.ref f32))) (l32 : K.lookup f32 = some ⟨oc32, od32, .func (PySem.W.fnOf "_law_rows" "_law_rows" (defArgs (topS 32)) (defBody (topS 32)) (defScope (topS 32)) .none kV32 dc32 pm32 an32 cd32 ct32), sl32⟩) (c32c : PySem.W.codeIn K cd32 "_law_rows" = true) (k32 : PySem.W.keepIn K (.ref f32) = true)
    (a33 : PySem.W.nsIn K mainGlobals "_law_drawn" = some (some (.ref f33))) (l33 : K.lookup f33 = some ⟨oc33, od33, .func (PySem.W.fnOf "_law_drawn" "_law_drawn" (defArgs (topS 33)) (defBody (topS 33)) (defScope (topS 33)) .none kV33 dc33 pm33 an33 cd33 ct33), sl33⟩) (c33c : PySem.W.codeIn K cd33 "_law_drawn" = true) (k33 : PySem.W.keepIn K (.ref f33) = true)
    (a34 : PySem.W.nsIn K mainGlobals "_law_reach" = some (some (.ref f34))) (l34 : K.lookup f34 = some ⟨oc34, od34, .func (PySem.W.fnOf "_law_reach" "_law_reach" (defArgs (topS 34)) (defBody (topS 34)) (defScope (topS 34)) .none kV34 dc34 pm34 an34 cd34 ct34), sl34⟩) (c34c : PySem.W.codeIn K cd34 "_law_reach" = true) (k34 : PySem.W.keepIn K (.ref f34) = true)
    (a35 : PySem.W.nsIn K mainGlobals "_law_inner" = some (some (.ref f35))) (l35 : K.lookup f35 = some ⟨oc35, od35, .func (PySem.W.fnOf "_law_inner" "_law_inner" (defArgs (topS 35)) (defBody (topS 35)) (defScope (topS 35)) .none kV35 dc35 pm35 an35 cd35 ct35), sl35⟩) (c35c : PySem.W.codeIn K cd35 "_law_inner" = true) (k35 : PySem.W.keepIn K (.ref f35) = true)
    (a36 : PySem.W.nsIn K mainGlobals "_law_standing" = some (some (.ref f36))) (l36 : K.lookup f36 = some ⟨oc36, od36, .func (PySem.W.fnOf "_law_standing" "_law_standing" (defArgs (topS 36)) (defBody (topS 36)) (defScope (topS 36)) .none kV36 dc36 pm36 an36 cd36 ct36), sl36⟩) (c36c : PySem.W.codeIn K cd36 "_law_standing" = true) (k36 : PySem.W.keepIn K (.ref f36) = true)
    (a37 : PySem.W.nsIn K mainGlobals "_law_edges" = some (some (.ref f37))) (l37 : K.lookup f37 = some ⟨oc37, od37, .func (PySem.W.fnOf "_law_edges" "_law_edges" (defArgs (topS 37)) (defBody (topS 37)) (defScope (topS 37)) .none kV37 dc37 pm37 an37 cd37 ct37), sl37⟩) (c37c : PySem.W.codeIn K cd37 "_law_edges" = true) (k37 : PySem.W.keepIn K (.ref f37) = true)
    (a38 : PySem.W.nsIn K mainGlobals "_law_merge" = some (some (.ref f38))) (l38 : K.lookup f38 = some ⟨oc38, od38, .func (PySem.W.fnOf "_law_merge" "_law_merge" (defArgs (topS 38)) (defBody (topS 38)) (defScope (topS 38)) .none kV38 dc38 pm38 an38 cd38 ct38), sl38⟩) (c38c : PySem.W.codeIn K cd38 "_law_merge" = true) (k38 : PySem.W.keepIn K (.ref f38) = true)
    (a39 : PySem.W.nsIn K mainGlobals "_law_reducible" = some (some (.ref f39))) (l39 : K.lookup f39 = some ⟨oc39, od39, .func (PySem.W.fnOf "_law_reducible" "_law_reducible" (defArgs (topS 39)) (defBody (topS 39)) (defScope (topS 39)) .none kV39 dc39 pm39 an39 cd39 ct39), sl39⟩) (c39c : PySem.W.codeIn K cd39 "_law_reducible" = true) (k39 : PySem.W.keepIn K (.ref f39) = true)
    (a40 : PySem.W.nsIn K mainGlobals "_law_filled" = some (some (.ref f40))) (l40 : K.lookup f40 = some ⟨oc40, od40, .func (PySem.W.fnOf "_law_filled" "_law_filled" (defArgs (topS 40)) (defBody (topS 40)) (defScope (topS 40)) .none kV40 dc40 pm40 an40 cd40 ct40), sl40⟩) (c40c : PySem.W.codeIn K cd40 "_law_filled" = true) (k40 : PySem.W.keepIn K (.ref f40) = true)
    (a41 : PySem.W.nsIn K mainGlobals "law" = some (some (.ref f41))) (l41 : K.lookup f41 = some ⟨oc41, od41, .func (PySem.W.fnOf "law" "law" (defArgs (topS 41)) (defBody (topS 41)) (defScope (topS 41)) .none kV41 dc41 pm41 an41 cd41 ct41), sl41⟩) (c41c : PySem.W.codeIn K cd41 "law" = true) (k41 : PySem.W.keepIn K (.ref f41) = true)
    (m3 : K.lookup c3 = some ⟨occ3, odc3, .fields vs3, slc3⟩) (v3 : vs3[11]? = some (.ref P3)) (n3 : K.lookup P3 = none) (r3 : ((recsOf q).find? (fun e => e.name == ("components" : Str))).isSome = true)
    (m4 : K.lookup c4 = some ⟨occ4, odc4, .fields vs4, slc4⟩) (v4 : vs4[11]? = some (.ref P4)) (n4 : K.lookup P4 = none) (r4 : ((recsOf q).find? (fun e => e.name == ("entered_at" : Str))).isSome = true)
    (m8 : K.lookup c8 = some ⟨occ8, odc8, .fields vs8, slc8⟩) (v8 : vs8[11]? = some (.ref P8)) (n8 : K.lookup P8 = none) (r8 : ((recsOf q).find? (fun e => e.name == ("outline_of" : Str))).isSome = true)
    (aE : PySem.W.nsIn K mainGlobals "ENDS" = some (some (.ref fE))) (lE : K.lookup fE = some ⟨.type "tuple", odE, .seq #[.str "back" tE1, .str "halt" tE2, .str "trap" tE3, .str "lost" tE4] nE, slE⟩)
    (z0 : PySem.W.nsIn K mainGlobals "len" = some none)
    (z1 : PySem.W.nsIn K mainGlobals "list" = some none)
    (z2 : PySem.W.nsIn K mainGlobals "tuple" = some none)
    (z3 : PySem.W.nsIn K mainGlobals "sorted" = some none)
    (z4 : PySem.W.nsIn K mainGlobals "range" = some none)
    (z5 : PySem.W.nsIn K mainGlobals "reversed" = some none)
    (z6 : PySem.W.nsIn K mainGlobals "any" = some none)
    (z7 : PySem.W.nsIn K mainGlobals "all" = some none)
    (z8 : PySem.W.nsIn K mainGlobals "int" = some none)
    (z9 : PySem.W.nsIn K mainGlobals "min" = some none)
    (z10 : PySem.W.nsIn K mainGlobals "set" = some none)
    (z11 : PySem.W.nsIn K mainGlobals "repr" = some none)
    : ∃ (c3 c4 c8 P3 P4 P8 : Addr) (Z : AllD K mg c3 c4 c8), fa = Z.D41.a ∧ ∀ p ∈ [(c3, P3), (c4, P4), (c8, P8)], PySem.W.CodeHd h p.1 p.2 ∧ h.get? p.2 = some (PySem.W.tabObj #[]) ∧ K.lookup p.2 = none := by
  have e := hfa.symm.trans (PySem.W.mg_of X G.T.g a41)
  cases e
  refine ⟨c3, c4, c8, P3, P4, P8, {
    T := ⟨PySem.W.mg_none_of X G.T.g z0, PySem.W.mg_none_of X G.T.g z1, PySem.W.mg_none_of X G.T.g z2, PySem.W.mg_none_of X G.T.g z3, PySem.W.mg_none_of X G.T.g z4, PySem.W.mg_none_of X G.T.g z5, PySem.W.mg_none_of X G.T.g z6, PySem.W.mg_none_of X G.T.g z7, PySem.W.mg_none_of X G.T.g z8, PySem.W.mg_none_of X G.T.g z9, PySem.W.mg_none_of X G.T.g z10, PySem.W.mg_none_of X G.T.g z11⟩
    En := ⟨fE, PySem.W.mg_of X G.T.g aE, fun H => .inr ⟨_, _, _, lE, rfl, rfl, (show 4 ≤ sizeLine by decide), .cons ⟨_, rfl⟩ (.cons ⟨_, rfl⟩ (.cons ⟨_, rfl⟩ (.cons ⟨_, rfl⟩ .nil)))⟩⟩
    D1 := df_mk X G.T.g a1 l1 c1c k1 fun _ _ _ _ _ _ us hl => match us, hl with | [_, _, _], _ => rfl
    D2 := df_mk X G.T.g a2 l2 c2c k2 fun _ _ _ _ _ _ us hl => match us, hl with | [_, _], _ => rfl
    D3 := dc_mk X G.T.g a3 l3 c3c k3 fun _ _ _ _ _ _ us hl => match us, hl with | [_, _], _ => rfl
    D4 := dc_mk X G.T.g a4 l4 c4c k4 fun _ _ _ _ _ _ us hl => match us, hl with | [_, _, _], _ => rfl
    D6 := df_mk X G.T.g a6 l6 c6c k6 fun _ _ _ _ _ _ us hl => match us, hl with | [_, _], _ => rfl
    D7 := df_mk X G.T.g a7 l7 c7c k7 fun _ _ _ _ _ _ us hl => match us, hl with | [_, _, _], _ => rfl
    D8 := dc_mk X G.T.g a8 l8 c8c k8 fun _ _ _ _ _ _ us hl => match us, hl with | [_, _, _, _], _ => rfl
    D9 := df_mk X G.T.g a9 l9 c9c k9 fun _ _ _ _ _ _ us hl => match us, hl with | [_, _], _ => rfl
    D10 := df_mk X G.T.g a10 l10 c10c k10 fun _ _ _ _ _ _ us hl => match us, hl with | [_], _ => rfl
    D11 := df_mk X G.T.g a11 l11 c11c k11 fun _ _ _ _ _ _ us hl => match us, hl with | [_, _], _ => rfl
    D12 := df_mk X G.T.g a12 l12 c12c k12 fun _ _ _ _ _ _ us hl => match us, hl with | [_, _, _], _ => rfl
    D13 := df_mk X G.T.g a13 l13 c13c k13 fun _ _ _ _ _ _ us hl => match us, hl with | [_, _], _ => rfl
    D14 := df_mk X G.T.g a14 l14 c14c k14 fun _ _ _ _ _ _ us hl => match us, hl with | [_, _], _ => rfl
    D15 := df_mk X G.T.g a15 l15 c15c k15 fun _ _ _ _ _ _ us hl => match us, hl with | [_, _, _], _ => rfl
    D16 := df_mk X G.T.g a16 l16 c16c k16 fun _ _ _ _ _ _ us hl => match us, hl with | [_, _, _], _ => rfl
    D17 := df_mk X G.T.g a17 l17 c17c k17 fun _ _ _ _ _ _ us hl => match us, hl with | [_], _ => rfl
    D18 := df_mk X G.T.g a18 l18 c18c k18 fun _ _ _ _ _ _ us hl => match us, hl with | [_, _], _ => rfl
    D19 := df_mk X G.T.g a19 l19 c19c k19 fun _ _ _ _ _ _ us hl => match us, hl with | [_, _], _ => rfl
    D20 := df_mk X G.T.g a20 l20 c20c k20 fun _ _ _ _ _ _ us hl => match us, hl with | [_, _], _ => rfl
    D23 := df_mk X G.T.g a23 l23 c23c k23 fun _ _ _ _ _ _ us hl => match us, hl with | [_], _ => rfl
    D24 := df_mk X G.T.g a24 l24 c24c k24 fun _ _ _ _ _ _ us hl => match us, hl with | [_, _], _ => rfl
    D25 := df_mk X G.T.g a25 l25 c25c k25 fun _ _ _ _ _ _ us hl => match us, hl with | [_, _, _, _], _ => rfl
    D26 := df_mk X G.T.g a26 l26 c26c k26 fun _ _ _ _ _ _ us hl => match us, hl with | [_, _, _, _, _], _ => rfl
    D27 := df_mk X G.T.g a27 l27 c27c k27 fun _ _ _ _ _ _ us hl => match us, hl with | [_, _, _, _, _], _ => rfl
    D28 := df_mk X G.T.g a28 l28 c28c k28 fun _ _ _ _ _ _ us hl => match us, hl with | [_], _ => rfl
    D30 := df_mk X G.T.g a30 l30 c30c k30 fun _ _ _ _ _ _ us hl => match us, hl with | [_, _], _ => rfl
    D31 := df_mk X G.T.g a31 l31 c31c k31 fun _ _ _ _ _ _ us hl => match us, hl with | [_, _, _, _], _ => rfl
    D32 := df_mk X G.T.g a32 l32 c32c k32 fun _ _ _ _ _ _ us hl => match us, hl with | [_, _], _ => rfl
    D33 := df_mk X G.T.g a33 l33 c33c k33 fun _ _ _ _ _ _ us hl => match us, hl with | [_], _ => rfl
    D34 := df_mk X G.T.g a34 l34 c34c k34 fun _ _ _ _ _ _ us hl => match us, hl with | [_, _, _], _ => rfl
    D35 := df_mk X G.T.g a35 l35 c35c k35 fun _ _ _ _ _ _ us hl => match us, hl with | [_], _ => rfl
    D36 := df_mk X G.T.g a36 l36 c36c k36 fun _ _ _ _ _ _ us hl => match us, hl with | [_], _ => rfl
    D37 := df_mk X G.T.g a37 l37 c37c k37 fun _ _ _ _ _ _ us hl => match us, hl with | [_, _], _ => rfl
    D38 := df_mk X G.T.g a38 l38 c38c k38 fun _ _ _ _ _ _ us hl => match us, hl with | [_, _, _], _ => rfl
    D39 := df_mk X G.T.g a39 l39 c39c k39 fun _ _ _ _ _ _ us hl => match us, hl with | [_, _], _ => rfl
    D40 := df_mk X G.T.g a40 l40 c40c k40 fun _ _ _ _ _ _ us hl => match us, hl with | [_, _], _ => rfl
    D41 := df_mk X G.T.g a41 l41 c41c k41 fun _ _ _ _ _ _ us hl => match us, hl with | [_], _ => rfl
  }, rfl, fun p hp => ?_⟩
  have t3 := tab_all G.T X r3 (tabIn_mk a3 l3 rfl m3 v3) n3
  have t4 := tab_all G.T X r4 (tabIn_mk a4 l4 rfl m4 v4) n4
  have t8 := tab_all G.T X r8 (tabIn_mk a8 l8 rfl m8 v8) n8
  rcases List.mem_cons.mp hp with e | e
  · rw [e]; exact t3
  · rcases List.mem_cons.mp e with e | e
    · rw [e]; exact t4
    · rcases List.mem_cons.mp e with e | e
      · rw [e]; exact t8
      · cases e
end
end K33
end
section
set_option Elab.async false
set_option maxRecDepth 100000
open PySem PySem.W PyProof.Rows
set_option maxRecDepth 100000 in
set_option maxHeartbeats 0 in
theorem PySem.Challenge.cw_unweave_k33_whole_structure_and_back_holds : PySem.Challenge.rw_unweave_k33_whole_structure_and_back.Holds := by
  w_on; o_law; k_head; (case hw => w_witness2)
  k_fill
  refine K33.walkK (l := PySem.Challenge.rw_unweave_k33_whole_structure_and_back) rfl (by decide) rfl (fun w h Y => PySem.W.kIn_of Y) ?F
  case F =>
    intro w s₀ mg mb fa h G KX hmg
    refine' K33.all_mk KX G hmg ?a1 ?l1 ?c1c ?k1 ?a2 ?l2 ?c2c ?k2 ?a3 ?l3 ?c3c ?k3 ?a4 ?l4 ?c4c ?k4 ?a6 ?l6 ?c6c ?k6 ?a7 ?l7 ?c7c ?k7 ?a8 ?l8 ?c8c ?k8 ?a9 ?l9 ?c9c ?k9 ?a10 ?l10 ?c10c ?k10 ?a11 ?l11 ?c11c ?k11 ?a12 ?l12 ?c12c ?k12 ?a13 ?l13 ?c13c ?k13 ?a14 ?l14 ?c14c ?k14 ?a15 ?l15 ?c15c ?k15 ?a16 ?l16 ?c16c ?k16 ?a17 ?l17 ?c17c ?k17 ?a18 ?l18 ?c18c ?k18 ?a19 ?l19 ?c19c ?k19 ?a20 ?l20 ?c20c ?k20 ?a23 ?l23 ?c23c ?k23 ?a24 ?l24 ?c24c ?k24 ?a25 ?l25 ?c25c ?k25 ?a26 ?l26 ?c26c ?k26 ?a27 ?l27 ?c27c ?k27 ?a28 ?l28 ?c28c ?k28 ?a30 ?l30 ?c30c ?k30 ?a31 ?l31 ?c31c ?k31 ?a32 ?l32 ?c32c ?k32 ?a33 ?l33 ?c33c ?k33 ?a34 ?l34 ?c34c ?k34 ?a35 ?l35 ?c35c ?k35 ?a36 ?l36 ?c36c ?k36 ?a37 ?l37 ?c37c ?k37 ?a38 ?l38 ?c38c ?k38 ?a39 ?l39 ?c39c ?k39 ?a40 ?l40 ?c40c ?k40 ?a41 ?l41 ?c41c ?k41 ?m3 ?v3 ?n3 ?r3 ?m4 ?v4 ?n4 ?r4 ?m8 ?v8 ?n8 ?r8 ?aE ?lE ?z0 ?z1 ?z2 ?z3 ?z4 ?z5 ?z6 ?z7 ?z8 ?z9 ?z10 ?z11
    (case a1 => k_is); (case l1 => k_is); (case c1c => k_is); (case k1 => k_is)
    (case a2 => k_is); (case l2 => k_is); (case c2c => k_is); (case k2 => k_is)
    (case a3 => k_is); (case l3 => k_is); (case c3c => k_is); (case k3 => k_is)
    (case a4 => k_is); (case l4 => k_is); (case c4c => k_is); (case k4 => k_is)
    (case a6 => k_is); (case l6 => k_is); (case c6c => k_is); (case k6 => k_is)
    (case a7 => k_is); (case l7 => k_is); (case c7c => k_is); (case k7 => k_is)
    (case a8 => k_is); (case l8 => k_is); (case c8c => k_is); (case k8 => k_is)
    (case a9 => k_is); (case l9 => k_is); (case c9c => k_is); (case k9 => k_is)
    (case a10 => k_is); (case l10 => k_is); (case c10c => k_is); (case k10 => k_is)
    (case a11 => k_is); (case l11 => k_is); (case c11c => k_is); (case k11 => k_is)
    (case a12 => k_is); (case l12 => k_is); (case c12c => k_is); (case k12 => k_is)
    (case a13 => k_is); (case l13 => k_is); (case c13c => k_is); (case k13 => k_is)
    (case a14 => k_is); (case l14 => k_is); (case c14c => k_is); (case k14 => k_is)
    (case a15 => k_is); (case l15 => k_is); (case c15c => k_is); (case k15 => k_is)
    (case a16 => k_is); (case l16 => k_is); (case c16c => k_is); (case k16 => k_is)
    (case a17 => k_is); (case l17 => k_is); (case c17c => k_is); (case k17 => k_is)
    (case a18 => k_is); (case l18 => k_is); (case c18c => k_is); (case k18 => k_is)
    (case a19 => k_is); (case l19 => k_is); (case c19c => k_is); (case k19 => k_is)
    (case a20 => k_is); (case l20 => k_is); (case c20c => k_is); (case k20 => k_is)
    (case a23 => k_is); (case l23 => k_is); (case c23c => k_is); (case k23 => k_is)
    (case a24 => k_is); (case l24 => k_is); (case c24c => k_is); (case k24 => k_is)
    (case a25 => k_is); (case l25 => k_is); (case c25c => k_is); (case k25 => k_is)
    (case a26 => k_is); (case l26 => k_is); (case c26c => k_is); (case k26 => k_is)
    (case a27 => k_is); (case l27 => k_is); (case c27c => k_is); (case k27 => k_is)
    (case a28 => k_is); (case l28 => k_is); (case c28c => k_is); (case k28 => k_is)
    (case a30 => k_is); (case l30 => k_is); (case c30c => k_is); (case k30 => k_is)
    (case a31 => k_is); (case l31 => k_is); (case c31c => k_is); (case k31 => k_is)
    (case a32 => k_is); (case l32 => k_is); (case c32c => k_is); (case k32 => k_is)
    (case a33 => k_is); (case l33 => k_is); (case c33c => k_is); (case k33 => k_is)
    (case a34 => k_is); (case l34 => k_is); (case c34c => k_is); (case k34 => k_is)
    (case a35 => k_is); (case l35 => k_is); (case c35c => k_is); (case k35 => k_is)
    (case a36 => k_is); (case l36 => k_is); (case c36c => k_is); (case k36 => k_is)
    (case a37 => k_is); (case l37 => k_is); (case c37c => k_is); (case k37 => k_is)
    (case a38 => k_is); (case l38 => k_is); (case c38c => k_is); (case k38 => k_is)
    (case a39 => k_is); (case l39 => k_is); (case c39c => k_is); (case k39 => k_is)
    (case a40 => k_is); (case l40 => k_is); (case c40c => k_is); (case k40 => k_is)
    (case a41 => k_is); (case l41 => k_is); (case c41c => k_is); (case k41 => k_is)
    (case m3 => k_is); (case v3 => exact rfl); (case n3 => first | kernel_rfl | exact rfl); (case r3 => exact rfl)
    (case m4 => k_is); (case v4 => exact rfl); (case n4 => first | kernel_rfl | exact rfl); (case r4 => exact rfl)
    (case m8 => k_is); (case v8 => exact rfl); (case n8 => first | kernel_rfl | exact rfl); (case r8 => exact rfl)
    (case aE => k_is); (case lE => k_is)
    (case z0 => k_is); (case z1 => k_is); (case z2 => k_is); (case z3 => k_is); (case z4 => k_is); (case z5 => k_is); (case z6 => k_is); (case z7 => k_is); (case z8 => k_is); (case z9 => k_is); (case z10 => k_is); (case z11 => k_is)
end

import PyProof.Rows.All
import HandS.ForMost
import HandS.Exc
import HandS.IsInst
import HandS.Gcd
import HandS.Conv
import HandS.TupAny
import HandS.TupMul
import HandS.Deep
import HandS.Wide
import HandS.WideBits
import HandS.Style
import HandS.SortInts
import HandS.Flow
import HandS.CallSlots
import HandS.Zip
import HandS.Rev
import HandS.NoneIn
import HandS.Iter
import HandS.ExcSuper
import HandS.Words
import HandS.WordsExc
import HandS.Ends
import HandS.List
import HandS.More
import HandS.Small
import HandS.Dict
import HandS.Flt
import PySem.Challenge.RW_fewcursors_k32_alike_bound
set_option Elab.async false
set_option linter.all false
set_option maxRecDepth 100000
set_option maxHeartbeats 4000000
/-! VS1: plain data D; when a value stands for data (Rp: to be read; Own: owned to a depth); what changes keep it. -/
namespace VS
open PySem PySem.Spec PyProof.Rows L2

inductive D where
  | un | non | bl (b : Bool) | int (i : Int) | str (x : Str) | tup (xs : List D) | lst (xs : List D)
  | dic (kvs : List (Key × D)) | obj (c : Str) (fs : List (Str × D)) | scr (ns : List Int)
  deriving Inhabited

mutual
def D.imm : D → Bool
  | .un | .lst _ | .dic _ | .obj _ _ => false
  | .non | .bl _ | .int _ | .str _ | .scr _ => true
  | .tup xs => D.immL xs
def D.immL : List D → Bool
  | [] => true
  | x :: xs => D.imm x && D.immL xs
end
def D.flat : D → Bool
  | .lst _ | .dic _ | .obj _ _ | .un => false
  | _ => true
theorem D.flat_of_imm {d : D} (h : d.imm = true) : d.flat = true := by cases d <;> simp_all [D.imm, D.flat]

abbrev Cl := Str → Addr → Prop
/-- the script: locked, or written -/
def ScrL (K : PySem.W.Frag) (H : Hp) (a : Addr) (xs : List V) : Prop :=
  (∃ o, H a = some (.frz o (.lst xs))) ∨
    ∃ (o : Obj) (its : Array Value) (n : Nat), K.lookup a = some o ∧ o.cls = .type "list" ∧ o.dict = none ∧ o.data = .seq its n ∧ its.size ≤ sizeLine ∧ Vals xs its.toList
theorem ScrL.seq {K : PySem.W.Frag} {H : Hp} {a : Addr} {xs : List V} (h : ScrL K H a xs) : SqL K H a xs := by
  rcases h with ⟨o, h⟩ | h
  · exact .inl (.inr ⟨o, h⟩)
  · exact .inr h

mutual
inductive Rp (K : PySem.W.Frag) (cl : Cl) (H : Hp) (S : Addr → Prop) : V → D → Prop
  | non : Rp K cl H S .non .non
  | bl (b : Bool) : Rp K cl H S (.bl b) (.bl b)
  | int (i : Int) : Rp K cl H S (.int i) (.int i)
  | str (x : Str) : Rp K cl H S (.str x) (.str x)
  | tup {a : Addr} {vs : List V} {ds : List D} : SqT K H a vs → RpL K cl H S vs ds → Rp K cl H S (.ref a) (.tup ds)
  | lst {a : Addr} {vs : List V} {ds : List D} : H a = some (.lst vs) → S a → RpL K cl H S vs ds → Rp K cl H S (.ref a) (.lst ds)
  | scr {a : Addr} {ns : List Int} : ScrL K H a (ns.map V.int) → Rp K cl H S (.ref a) (.scr ns)
  | dic {a : Addr} {kvs : List (Key × V)} {es : List (Key × D)} : H a = some (.dK kvs) → S a → kvs.map (·.1) = es.map (·.1) → RpL K cl H S (kvs.map (·.2)) (es.map (·.2)) → Rp K cl H S (.ref a) (.dic es)
  | obj {a C dx : Addr} {c : Str} {fs : List (Str × V)} {es : List (Str × D)} : H a = some (.ins C dx fs) → S a → cl c C → fs.map (·.1) = es.map (·.1) → RpL K cl H S (fs.map (·.2)) (es.map (·.2)) → Rp K cl H S (.ref a) (.obj c es)
inductive RpL (K : PySem.W.Frag) (cl : Cl) (H : Hp) (S : Addr → Prop) : List V → List D → Prop
  | nil : RpL K cl H S [] []
  | cons {v : V} {vs : List V} {d : D} {ds : List D} : Rp K cl H S v d → RpL K cl H S vs ds → RpL K cl H S (v :: vs) (d :: ds)
end

mutual
inductive Own (K : PySem.W.Frag) (cl : Cl) (H : Hp) (S : Addr → Prop) : Nat → List Addr → V → D → Prop
  | fr {k : Nat} {v : V} {d : D} : Rp K cl H S v d → (k = 0 ∨ d.flat = true) → Own K cl H S k [] v d
  | lst {k : Nat} {Fs : List Addr} {a : Addr} {vs : List V} {ds : List D} : H a = some (.lst vs) → OwnL K cl H S k Fs vs ds → Own K cl H S (k + 1) (a :: Fs) (.ref a) (.lst ds)
  | dic {k : Nat} {Fs : List Addr} {a : Addr} {kvs : List (Key × V)} {es : List (Key × D)} : H a = some (.dK kvs) → kvs.map (·.1) = es.map (·.1) → OwnL K cl H S k Fs (kvs.map (·.2)) (es.map (·.2)) → Own K cl H S (k + 1) (a :: Fs) (.ref a) (.dic es)
  | obj {k : Nat} {Fs : List Addr} {a C dx : Addr} {c : Str} {fs : List (Str × V)} {es : List (Str × D)} : H a = some (.ins C dx fs) → cl c C → fs.map (·.1) = es.map (·.1) → OwnL K cl H S k Fs (fs.map (·.2)) (es.map (·.2)) → Own K cl H S (k + 1) (a :: Fs) (.ref a) (.obj c es)
inductive OwnL (K : PySem.W.Frag) (cl : Cl) (H : Hp) (S : Addr → Prop) : Nat → List Addr → List V → List D → Prop
  | nil {k : Nat} : OwnL K cl H S k [] [] []
  | cons {k : Nat} {F Fs : List Addr} {v : V} {vs : List V} {d : D} {ds : List D} : Own K cl H S k F v d → OwnL K cl H S k Fs vs ds → OwnL K cl H S k (F ++ Fs) (v :: vs) (d :: ds)
end

/-- what never changes -/
def Still : HO → Prop
  | .tup _ => True
  | .frz _ _ => True
  | .own _ => True
  | _ => False
/-- only what P tells may have changed -/
structure Ext (P : Addr → Prop) (H H' : Hp) : Prop where
  keep : ∀ b o, H b = some o → ¬ P b → H' b = some o
  still : ∀ b o, H b = some o → Still o → H' b = some o
  al : ∀ b, H b ≠ none → H' b ≠ none
theorem Ext.refl {P : Addr → Prop} {H : Hp} : Ext P H H := ⟨fun _ _ e _ => e, fun _ _ e _ => e, fun _ e => e⟩
theorem Ext.trans {P P2 : Addr → Prop} {H H1 H2 : Hp} (a : Ext P H H1) (b : Ext P2 H1 H2) (h : ∀ x, P2 x → P x ∨ H x = none) : Ext P H H2 :=
  ⟨fun x o e n => b.keep x o (a.keep x o e n) (fun p => (h x p).elim n (fun z => by rw [z] at e; cases e)), fun x o e s => b.still x o (a.still x o e s) s, fun x e => b.al x (a.al x e)⟩
theorem Ext.mono {P P2 : Addr → Prop} {H H1 : Hp} (a : Ext P H H1) (h : ∀ x, P x → P2 x ∨ H x = none) : Ext P2 H H1 :=
  ⟨fun x o e n => a.keep x o e (fun p => (h x p).elim n (fun z => by rw [z] at e; cases e)), a.still, a.al⟩
theorem Ext.new {P : Addr → Prop} {H : Hp} {p : Addr} {o : HO} (h : H p = none) : Ext P H (upd H p o) :=
  ⟨fun b u e _ => by rw [upd_ne (ne_of_none e h)]; exact e, fun b u e _ => by rw [upd_ne (ne_of_none e h)]; exact e, fun b e => by
    by_cases hb : b = p
    · subst hb; rw [upd_same]; simp
    · rw [upd_ne hb]; exact e⟩
theorem Ext.set {P : Addr → Prop} {H : Hp} {p : Addr} {o u : HO} (h : H p = some u) (n : ¬ Still u) (hp : P p) : Ext P H (upd H p o) :=
  ⟨fun b w e q => by rw [upd_ne (fun z : b = p => q (by rw [z]; exact hp))]; exact e, fun b w e q => by
    by_cases hb : b = p
    · subst hb; rw [h] at e; cases e; exact absurd q n
    · rw [upd_ne hb]; exact e, fun b e => by
    by_cases hb : b = p
    · subst hb; rw [upd_same]; simp
    · rw [upd_ne hb]; exact e⟩

theorem SqT.ext {P : Addr → Prop} {K : PySem.W.Frag} {H H' : Hp} {a : Addr} {xs : List V} (e : Ext P H H') (h : SqT K H a xs) : SqT K H' a xs := by
  rcases h with (h | ⟨o, h⟩) | h
  · exact .inl (.inl (e.still _ _ h trivial))
  · exact .inl (.inr ⟨o, e.still _ _ h trivial⟩)
  · exact .inr h
theorem ScrL.ext {P : Addr → Prop} {K : PySem.W.Frag} {H H' : Hp} {a : Addr} {xs : List V} (e : Ext P H H') (h : ScrL K H a xs) : ScrL K H' a xs := by
  rcases h with ⟨o, h⟩ | h
  · exact .inl ⟨o, e.still _ _ h trivial⟩
  · exact .inr h
section
variable {K : PySem.W.Frag} {cl : Cl} {H H' : Hp} {P S S' : Addr → Prop}
mutual
theorem Rp.ext (e : Ext P H H') (hs : ∀ b, S b → H b ≠ none → S' b ∧ ¬ P b) : ∀ {v : V} {d : D}, Rp K cl H S v d → Rp K cl H' S' v d
  | _, _, .non => .non
  | _, _, .bl b => .bl b
  | _, _, .int i => .int i
  | _, _, .str x => .str x
  | _, _, .tup h r => .tup (SqT.ext e h) (RpL.ext e hs r)
  | _, _, .scr h => .scr (ScrL.ext e h)
  | _, _, .lst h s r => by
    have q := hs _ s (by rw [h]; simp)
    exact .lst (e.keep _ _ h q.2) q.1 (RpL.ext e hs r)
  | _, _, .dic h s k r => by
    have q := hs _ s (by rw [h]; simp)
    exact .dic (e.keep _ _ h q.2) q.1 k (RpL.ext e hs r)
  | _, _, .obj h s c k r => by
    have q := hs _ s (by rw [h]; simp)
    exact .obj (e.keep _ _ h q.2) q.1 c k (RpL.ext e hs r)
theorem RpL.ext (e : Ext P H H') (hs : ∀ b, S b → H b ≠ none → S' b ∧ ¬ P b) : ∀ {vs : List V} {ds : List D}, RpL K cl H S vs ds → RpL K cl H' S' vs ds
  | _, _, .nil => .nil
  | _, _, .cons h r => .cons (Rp.ext e hs h) (RpL.ext e hs r)
end
mutual
theorem Own.ext (e : Ext P H H') (hs : ∀ b, S b → H b ≠ none → S' b ∧ ¬ P b) : ∀ {k : Nat} {F : List Addr} {v : V} {d : D}, (∀ b ∈ F, ¬ P b) → Own K cl H S k F v d → Own K cl H' S' k F v d
  | _, _, _, _, _, .fr h f => .fr (h.ext e hs) f
  | _, _, _, _, hf, .lst h r => .lst (e.keep _ _ h (hf _ (List.mem_cons_self))) (OwnL.ext e hs (fun b hb => hf b (List.mem_cons_of_mem _ hb)) r)
  | _, _, _, _, hf, .dic h k r => .dic (e.keep _ _ h (hf _ (List.mem_cons_self))) k (OwnL.ext e hs (fun b hb => hf b (List.mem_cons_of_mem _ hb)) r)
  | _, _, _, _, hf, .obj h c k r => .obj (e.keep _ _ h (hf _ (List.mem_cons_self))) c k (OwnL.ext e hs (fun b hb => hf b (List.mem_cons_of_mem _ hb)) r)
theorem OwnL.ext (e : Ext P H H') (hs : ∀ b, S b → H b ≠ none → S' b ∧ ¬ P b) : ∀ {k : Nat} {F : List Addr} {v : List V} {d : List D}, (∀ b ∈ F, ¬ P b) → OwnL K cl H S k F v d → OwnL K cl H' S' k F v d
  | _, _, _, _, _, .nil => .nil
  | _, _, _, _, hf, .cons h r => .cons (Own.ext e hs (fun b hb => hf b (List.mem_append_left _ hb)) h) (OwnL.ext e hs (fun b hb => hf b (List.mem_append_right _ hb)) r)
end
mutual
theorem Own.al : ∀ {k : Nat} {F : List Addr} {v : V} {d : D}, Own K cl H S k F v d → ∀ b ∈ F, H b ≠ none
  | _, _, _, _, .fr _ _, b, hb => by cases hb
  | _, _, _, _, .lst h r, b, hb => by
    rcases List.mem_cons.mp hb with e | hb
    · subst e; rw [h]; simp
    · exact OwnL.al r b hb
  | _, _, _, _, .dic h _ r, b, hb => by
    rcases List.mem_cons.mp hb with e | hb
    · subst e; rw [h]; simp
    · exact OwnL.al r b hb
  | _, _, _, _, .obj h _ _ r, b, hb => by
    rcases List.mem_cons.mp hb with e | hb
    · subst e; rw [h]; simp
    · exact OwnL.al r b hb
theorem OwnL.al : ∀ {k : Nat} {F : List Addr} {v : List V} {d : List D}, OwnL K cl H S k F v d → ∀ b ∈ F, H b ≠ none
  | _, _, _, _, .nil, b, hb => by cases hb
  | _, _, _, _, .cons h r, b, hb => by
    rcases List.mem_append.mp hb with hb | hb
    · exact Own.al h b hb
    · exact OwnL.al r b hb
end
mutual
/-- an immutable datum may be read and shared everywhere -/
theorem Rp.imm : ∀ {v : V} {d : D}, d.imm = true → Rp K cl H S v d → Rp K cl H S' v d
  | _, _, _, .non => .non
  | _, _, _, .bl b => .bl b
  | _, _, _, .int i => .int i
  | _, _, _, .str x => .str x
  | _, _, h, .tup q r => .tup q (RpL.imm (by simpa [D.imm] using h) r)
  | _, _, _, .scr q => .scr q
  | _, _, h, .lst _ _ _ => by simp [D.imm] at h
  | _, _, h, .dic _ _ _ _ => by simp [D.imm] at h
  | _, _, h, .obj _ _ _ _ _ => by simp [D.imm] at h
theorem RpL.imm : ∀ {v : List V} {d : List D}, D.immL d = true → RpL K cl H S v d → RpL K cl H S' v d
  | _, _, _, .nil => .nil
  | _, _, h, .cons q r => by
    simp only [D.immL, Bool.and_eq_true] at h
    exact .cons (Rp.imm h.1 q) (RpL.imm h.2 r)
end
theorem RpL.length : ∀ {vs : List V} {ds : List D}, RpL K cl H S vs ds → vs.length = ds.length
  | _, _, .nil => rfl
  | _, _, .cons _ r => by simp [RpL.length r]
theorem RpL.get : ∀ {vs : List V} {ds : List D} {i : Nat} {d : D}, RpL K cl H S vs ds → ds[i]? = some d → ∃ v, vs[i]? = some v ∧ Rp K cl H S v d
  | _, _, _, _, .nil, h => by simp at h
  | _, _, 0, _, .cons q _, h => by simp at h; subst h; exact ⟨_, rfl, q⟩
  | _, _, i + 1, _, .cons _ r, h => by
    obtain ⟨v, a, b⟩ := RpL.get (i := i) r (by simpa using h)
    exact ⟨v, by simpa using a, b⟩
theorem RpL.getV : ∀ {vs : List V} {ds : List D} {i : Nat} {v : V}, RpL K cl H S vs ds → vs[i]? = some v → ∃ d, ds[i]? = some d ∧ Rp K cl H S v d
  | _, _, _, _, .nil, h => by simp at h
  | _, _, 0, _, .cons q _, h => by simp at h; subst h; exact ⟨_, rfl, q⟩
  | _, _, i + 1, _, .cons _ r, h => by
    obtain ⟨v, a, b⟩ := RpL.getV (i := i) r (by simpa using h)
    exact ⟨v, by simpa using a, b⟩
theorem RpL.append : ∀ {vs ws : List V} {ds es : List D}, RpL K cl H S vs ds → RpL K cl H S ws es → RpL K cl H S (vs ++ ws) (ds ++ es)
  | _, _, _, _, .nil, b => b
  | _, _, _, _, .cons q r, b => .cons q (RpL.append r b)
theorem RpL.take : ∀ {vs : List V} {ds : List D} (n : Nat), RpL K cl H S vs ds → RpL K cl H S (vs.take n) (ds.take n)
  | _, _, 0, _ => by simp; exact .nil
  | _, _, _ + 1, .nil => by simp; exact .nil
  | _, _, n + 1, .cons q r => by simp; exact .cons q (RpL.take n r)
theorem RpL.drop : ∀ {vs : List V} {ds : List D} (n : Nat), RpL K cl H S vs ds → RpL K cl H S (vs.drop n) (ds.drop n)
  | _, _, 0, r => by simpa using r
  | _, _, _ + 1, .nil => by simp; exact .nil
  | _, _, n + 1, .cons q r => by simp; exact RpL.drop n r
theorem RpL.rev : ∀ {vs : List V} {ds : List D}, RpL K cl H S vs ds → RpL K cl H S vs.reverse ds.reverse
  | _, _, .nil => .nil
  | _, _, .cons q r => by simp only [List.reverse_cons]; exact RpL.append (RpL.rev r) (.cons q .nil)
/-- frozen items make an owned list of depth 0 -/
theorem RpL.own : ∀ {vs : List V} {ds : List D}, RpL K cl H S vs ds → OwnL K cl H S 0 [] vs ds
  | _, _, .nil => .nil
  | _, _, .cons q r => by
    have z := OwnL.cons (F := []) (Fs := []) (Own.fr (k := 0) q (.inl rfl)) (RpL.own r)
    simpa using z
theorem RpL.ownImm {k : Nat} : ∀ {vs : List V} {ds : List D}, D.immL ds = true → RpL K cl H S vs ds → OwnL K cl H S k [] vs ds
  | _, _, _, .nil => .nil
  | _, _, h, .cons q r => by
    simp only [D.immL, Bool.and_eq_true] at h
    have z := OwnL.cons (F := []) (Fs := []) (Own.fr (k := k) q (.inr (D.flat_of_imm h.1))) (RpL.ownImm h.2 r)
    simpa using z
mutual
/-- what is owned may be read: its own nodes besides -/
theorem Own.read : ∀ {k : Nat} {F : List Addr} {v : V} {d : D}, Own K cl H S k F v d → (∀ b, S b → S' b) → (∀ b ∈ F, S' b) → Rp K cl H S' v d
  | _, _, _, _, .fr h _, hs, _ => h.ext (P := fun _ => False) Ext.refl fun b s _ => ⟨hs b s, fun z => z⟩
  | _, _, _, _, .lst h r, hs, hf => .lst h (hf _ List.mem_cons_self) (OwnL.read r hs fun b hb => hf b (List.mem_cons_of_mem _ hb))
  | _, _, _, _, .dic h k r, hs, hf => .dic h (hf _ List.mem_cons_self) k (OwnL.read r hs fun b hb => hf b (List.mem_cons_of_mem _ hb))
  | _, _, _, _, .obj h c k r, hs, hf => .obj h (hf _ List.mem_cons_self) c k (OwnL.read r hs fun b hb => hf b (List.mem_cons_of_mem _ hb))
theorem OwnL.read : ∀ {k : Nat} {F : List Addr} {v : List V} {d : List D}, OwnL K cl H S k F v d → (∀ b, S b → S' b) → (∀ b ∈ F, S' b) → RpL K cl H S' v d
  | _, _, _, _, .nil, _, _ => .nil
  | _, _, _, _, .cons h r, hs, hf => .cons (Own.read h hs fun b hb => hf b (List.mem_append_left _ hb)) (OwnL.read r hs fun b hb => hf b (List.mem_append_right _ hb))
end
end
end VS

set_option Elab.async false
set_option linter.all false
set_option maxRecDepth 100000
set_option maxHeartbeats 4000000
/-! VS2: the evaluator's monad; the state's invariant SI; steps Stp; readings WE; the judgements SE, SEs, ST. -/
namespace VS
open PySem PySem.Spec PyProof.Rows L2

/-! ### the monad -/
inductive R (α : Type) where | ok (a : α) (ρ : List D) | err (x : D) (ρ : List D) | stuck
  deriving Inhabited
abbrev M (α : Type) := List D → R α
def ret {α : Type} (a : α) : M α := fun ρ => .ok a ρ
def bnd {α β : Type} (f : M α) (g : α → M β) : M β := fun ρ => match f ρ with
  | .ok a ρ' => g a ρ'
  | .err x ρ' => .err x ρ'
  | .stuck => .stuck
def fail {α : Type} : M α := fun _ => .stuck
def ofO {α : Type} (o : Option α) : M α := match o with | some a => ret a | none => fail
def wpx {α : Type} (r : R α) (Q : α → List D → Prop) (E : D → List D → Prop) : Prop := match r with
  | .ok a ρ => Q a ρ
  | .err x ρ => E x ρ
  | .stuck => False
theorem wpx_bnd {α β : Type} {f : M α} {g : α → M β} {ρ : List D} {Q : β → List D → Prop} {E : D → List D → Prop} (h : wpx (bnd f g ρ) Q E) : wpx (f ρ) (fun a ρ' => wpx (g a ρ') Q E) E := by
  unfold bnd at h
  cases e : f ρ <;> rw [e] at h <;> exact h
theorem wpx_mono {α : Type} {r : R α} {Q Q' : α → List D → Prop} {E E' : D → List D → Prop} (h : wpx r Q E) (hq : ∀ a ρ, Q a ρ → Q' a ρ) (he : ∀ x ρ, E x ρ → E' x ρ) : wpx r Q' E' := by
  cases r with
  | ok a ρ => exact hq _ _ h
  | err x ρ => exact he _ _ h
  | stuck => exact h
theorem wpx_ofO {α : Type} {o : Option α} {ρ : List D} {Q : α → List D → Prop} {E : D → List D → Prop} (h : wpx (ofO o ρ) Q E) : ∃ a, o = some a ∧ Q a ρ := by
  cases o with
  | none => exact h.elim
  | some a => exact ⟨a, rfl, h⟩

/-! ### kinds of slots -/
inductive Kd where | F | B | R | L (k : Nat) | X (k : Nat)
  deriving DecidableEq, Repr
def Kd.light : Kd → Bool
  | .F => true
  | .B => true
  | .R => true
  | _ => false
/-- an owning slot -/
def hv (κ : List Kd) (i : Nat) : Prop := ∃ c, κ[i]? = some c ∧ c.light = false
def isX (κ : List Kd) (i : Nat) : Prop := ∃ k, κ[i]? = some (.X k)
def OX (κ : List Kd) (fp : Nat → List Addr) (b : Addr) : Prop := ∃ i, isX κ i ∧ b ∈ fp i
def OS (fp : Nat → List Addr) (b : Addr) : Prop := ∃ i, b ∈ fp i
def OO (fp : Nat → List Addr) (tmp : Addr → Prop) (b : Addr) : Prop := (∃ i, b ∈ fp i) ∨ tmp b
def tF (tmp : Addr → Prop) (F : List Addr) (b : Addr) : Prop := tmp b ∨ b ∈ F
theorem tF_nil {tmp : Addr → Prop} : tF tmp [] = tmp := by
  funext b
  simp [tF]
theorem tF_app {tmp : Addr → Prop} {F G : List Addr} : tF (tF tmp F) G = tF tmp (F ++ G) := by
  funext b
  simp [tF, or_assoc]
/-- what a def knows of the heap at its entry: what may be shared on, what is owned by its callers -/
structure Gd where
  ok : Addr → Prop
  C : Addr → Prop
/-- what may be shared -/
def Sh (A : Gd) (fp : Nat → List Addr) (tmp : Addr → Prop) (b : Addr) : Prop := A.ok b ∧ ¬ OO fp tmp b
/-- what may be read -/
def SRd (κ : List Kd) (A : Gd) (fp : Nat → List Addr) (tmp : Addr → Prop) (b : Addr) : Prop := ¬ OX κ fp b ∧ (tmp b → A.C b)
/-- what a borrowed value stands on -/
def SBd (A : Gd) (fp : Nat → List Addr) (tmp : Addr → Prop) (b : Addr) : Prop := ¬ OS fp b ∧ (tmp b → A.C b)
theorem OX.os {κ : List Kd} {fp : Nat → List Addr} {b : Addr} (h : OX κ fp b) : OS fp b := let ⟨i, _, h⟩ := h; ⟨i, h⟩
def clX (mg : Str → Option Value) : Cl := fun c C => mg c = some (.ref C)

def Slot (K : PySem.W.Frag) (cl : Cl) (κ : List Kd) (A : Gd) (fp : Nat → List Addr) (tmp : Addr → Prop) (H : Hp) (i : Nat) (v : V) (d : D) : Kd → Prop
  | .F => Rp K cl H (Sh A fp tmp) v d
  | .B => Rp K cl H (SBd A fp tmp) v d
  | .R => Rp K cl H (SRd κ A fp tmp) v d
  | .L k => Own K cl H (Sh A fp tmp) k (fp i) v d
  | .X k => Own K cl H (Sh A fp tmp) k (fp i) v d

structure SI (K : PySem.W.Frag) (cl : Cl) (κ : List Kd) (A : Gd) (fp : Nat → List Addr) (tmp : Addr → Prop) (σ : L2.St) (H : Hp) (ρ : List D) : Prop where
  sz : σ.length = κ.length ∧ ρ.length = κ.length
  an : ∀ b, H b = none → A.ok b
  ca : ∀ b, A.C b → H b ≠ none
  fa : ∀ b, OO fp tmp b → H b ≠ none
  fA : ∀ i b, b ∈ fp i → A.ok b
  dj : ∀ i j b, b ∈ fp i → b ∈ fp j → i = j
  nd : ∀ i, (fp i).Nodup
  dt : ∀ i b, b ∈ fp i → ¬ tmp b
  cd : ∀ i b, b ∈ fp i → ¬ A.C b
  lf : ∀ i b, b ∈ fp i → hv κ i
  sl : ∀ i d c, ρ[i]? = some d → d ≠ .un → κ[i]? = some c → ∃ v, σ[i]? = some (some v) ∧ Slot K cl κ A fp tmp H i v d c

/-- a step of expressions: only X slots' nodes change; the other slots stand, or are given away -/
structure Stp (κ : List Kd) (fp : Nat → List Addr) (tmp : Addr → Prop) (H : Hp) (ρ : List D) (fp' : Nat → List Addr) (tmp' : Addr → Prop) (H' : Hp) (ρ' : List D) : Prop where
  ex : Ext (OX κ fp) H H'
  ow : ∀ b, OO fp' tmp' b → OO fp tmp b ∨ H b = none
  ox : ∀ b, OX κ fp' b → OX κ fp b ∨ H b = none
  tw : ∀ b, tmp' b → tmp b ∨ H b = none
  st : ∀ i b, ¬ isX κ i → b ∈ fp' i → b ∈ fp i
  rs : ∀ i, ¬ isX κ i → ρ'[i]? = ρ[i]? ∨ ρ'[i]? = some .un
  si : ∀ i b, b ∈ fp' i → b ∈ fp i ∨ H b = none
theorem Stp.refl {κ : List Kd} {fp : Nat → List Addr} {tmp : Addr → Prop} {H : Hp} {ρ : List D} : Stp κ fp tmp H ρ fp tmp H ρ := ⟨.refl, fun _ h => .inl h, fun _ h => .inl h, fun _ h => .inl h, fun _ _ _ h => h, fun _ _ => .inl rfl, fun _ _ h => .inl h⟩
theorem none_back {P : Addr → Prop} {H H' : Hp} (e : Ext P H H') {b : Addr} (h : H' b = none) : H b = none := by
  cases q : H b with
  | none => rfl
  | some o => exact absurd h (e.al b (by rw [q]; simp))
theorem Stp.trans {κ : List Kd} {fp fp1 fp2 : Nat → List Addr} {tmp tmp1 tmp2 : Addr → Prop} {H H1 H2 : Hp} {ρ ρ1 ρ2 : List D} (a : Stp κ fp tmp H ρ fp1 tmp1 H1 ρ1) (b : Stp κ fp1 tmp1 H1 ρ1 fp2 tmp2 H2 ρ2) : Stp κ fp tmp H ρ fp2 tmp2 H2 ρ2 :=
  ⟨a.ex.trans b.ex a.ox, fun x h => (b.ow x h).elim (a.ow x) (fun z => .inr (none_back a.ex z)), fun x h => (b.ox x h).elim (a.ox x) (fun z => .inr (none_back a.ex z)), fun x h => (b.tw x h).elim (a.tw x) (fun z => .inr (none_back a.ex z)), fun i x n h => a.st i x n (b.st i x n h),
    fun i n => (b.rs i n).elim (fun e => by rw [e]; exact a.rs i n) .inr, fun i x h => (b.si i x h).elim (a.si i x) fun z => .inr (none_back a.ex z)⟩
theorem Stp.drop {κ : List Kd} {fp fp1 : Nat → List Addr} {tmp tmp1 tmp2 : Addr → Prop} {H H1 : Hp} {ρ ρ1 : List D} (a : Stp κ fp tmp H ρ fp1 tmp1 H1 ρ1) (h : ∀ b, tmp2 b → tmp1 b) : Stp κ fp tmp H ρ fp1 tmp2 H1 ρ1 :=
  ⟨a.ex, fun x q => a.ow x (q.imp id (h x)), a.ox, fun x q => a.tw x (h x q), a.st, a.rs, a.si⟩
/-- a new object, heaps as they are told -/
theorem Stp.new {κ : List Kd} {fp fp1 : Nat → List Addr} {tmp tmp1 tmp2 : Addr → Prop} {H H1 : Hp} {ρ ρ1 : List D} {p : Addr} {o : HO} (a : Stp κ fp tmp H ρ fp1 tmp1 H1 ρ1) (hp : H1 p = none) (h : ∀ b, tmp2 b → tmp1 b ∨ b = p) : Stp κ fp tmp H ρ fp1 tmp2 (upd H1 p o) ρ1 :=
  ⟨a.ex.trans (P2 := fun _ => False) (.new hp) (fun _ z => z.elim), fun x q => by
    rcases q with q | q
    · exact a.ow x (.inl q)
    · rcases h x q with q | q
      · exact a.ow x (.inr q)
      · exact .inr (none_back a.ex (by rw [q]; exact hp)), a.ox, fun x q => (h x q).elim (a.tw x) (fun z => .inr (none_back a.ex (by rw [z]; exact hp))), a.st, a.rs, a.si⟩

section
variable {K : PySem.W.Frag} {cl : Cl} {κ : List Kd} {A : Gd} {fp fp' : Nat → List Addr} {tmp tmp' : Addr → Prop} {σ : L2.St} {H H' : Hp} {ρ ρ' : List D}
theorem Sh.step (s : Stp κ fp tmp H ρ fp' tmp' H' ρ') : ∀ b, Sh A fp tmp b → H b ≠ none → Sh A fp' tmp' b ∧ ¬ OX κ fp b := fun b h n =>
  ⟨⟨h.1, fun z => (s.ow b z).elim h.2 n⟩, fun z => h.2 (.inl z.os)⟩
theorem SRd.step (s : Stp κ fp tmp H ρ fp' tmp' H' ρ') : ∀ b, SRd κ A fp tmp b → H b ≠ none → SRd κ A fp' tmp' b ∧ ¬ OX κ fp b := fun b h n => ⟨⟨fun z => (s.ox b z).elim h.1 n, fun z => (s.tw b z).elim h.2 fun q => absurd q n⟩, h.1⟩
theorem Sh.srd : ∀ b, Sh A fp tmp b → SRd κ A fp tmp b := fun b s => ⟨fun z => s.2 (.inl z.os), fun z => absurd (.inr z) s.2⟩
theorem Rp.shrd {v : V} {d : D} (h : Rp K cl H (Sh A fp tmp) v d) : Rp K cl H (SRd κ A fp tmp) v d :=
  h.ext (P := fun _ => False) Ext.refl fun b s _ => ⟨Sh.srd b s, fun z => z⟩
theorem Rp.up {T T' : Addr → Prop} {v : V} {d : D} (h : Rp K cl H T v d) (hs : ∀ b, T b → T' b) : Rp K cl H T' v d := h.ext (P := fun _ => False) Ext.refl fun b s _ => ⟨hs b s, fun z => z⟩
theorem RpL.up {T T' : Addr → Prop} {v : List V} {d : List D} (h : RpL K cl H T v d) (hs : ∀ b, T b → T' b) : RpL K cl H T' v d := h.ext (P := fun _ => False) Ext.refl fun b s _ => ⟨hs b s, fun z => z⟩
/-- the slots where nothing owned has changed but tmp may have shrunk, the heap grown -/
theorem Slot.grow {i : Nat} {v : V} {d : D} {c : Kd} (e : Ext (fun _ => False) H H') (ht : ∀ b, tmp' b → tmp b ∨ H b = none) (h : Slot K cl κ A fp tmp H i v d c) : Slot K cl κ A fp tmp' H' i v d c := by
  have hO : ∀ b, ¬ OO fp tmp b → H b ≠ none → ¬ OO fp tmp' b := fun b n a z => z.elim (fun q => n (.inl q)) fun q => (ht b q).elim (fun q => n (.inr q)) a
  have hS : ∀ b, Sh A fp tmp b → H b ≠ none → Sh A fp tmp' b ∧ ¬ False := fun b s a => ⟨⟨s.1, hO b s.2 a⟩, fun z => z⟩
  cases c with
  | F => exact Rp.ext e hS h
  | B => exact Rp.ext e (fun b n a => ⟨⟨n.1, fun z => (ht b z).elim n.2 fun q => absurd q a⟩, fun z => z⟩) h
  | R => exact Rp.ext e (fun b n a => ⟨⟨n.1, fun z => (ht b z).elim n.2 fun q => absurd q a⟩, fun z => z⟩) h
  | L k => exact Own.ext e hS (fun _ _ z => z) h
  | X k => exact Own.ext e hS (fun _ _ z => z) h
theorem SI.grow (I : SI K cl κ A fp tmp σ H ρ) (e : Ext (fun _ => False) H H') (ht : ∀ b, tmp' b → tmp b ∨ H b = none) (ha : ∀ b, tmp' b → H' b ≠ none) : SI K cl κ A fp tmp' σ H' ρ where
  sz := I.sz
  an := fun b h => I.an b (none_back e h)
  ca := fun b h => e.al b (I.ca b h)
  fa := fun b h => h.elim (fun q => e.al b (I.fa b (.inl q))) fun q => ha b q
  fA := I.fA
  dj := I.dj
  nd := I.nd
  dt := fun i b h q => (ht b q).elim (I.dt i b h) fun z => I.fa b (.inl ⟨i, h⟩) z
  cd := I.cd
  lf := I.lf
  sl := fun i d c e1 e2 e3 => let ⟨v, a, b⟩ := I.sl i d c e1 e2 e3; ⟨v, a, b.grow e ht⟩
/-- owned temporaries are let go -/
theorem SI.drop (I : SI K cl κ A fp tmp σ H ρ) (h : ∀ b, tmp' b → tmp b) : SI K cl κ A fp tmp' σ H ρ :=
  I.grow Ext.refl (fun b q => .inl (h b q)) fun b q => I.fa b (.inr (h b q))
/-- a new object, owned or not -/
theorem SI.new {p : Addr} {o : HO} (I : SI K cl κ A fp tmp σ H ρ) (hp : H p = none) (h : ∀ b, tmp' b → tmp b ∨ b = p) : SI K cl κ A fp tmp' σ (upd H p o) ρ :=
  I.grow (Ext.new hp) (fun b q => (h b q).imp id fun z => by rw [z]; exact hp) fun b q => by
    by_cases hb : b = p
    · subst hb; rw [upd_same]; simp
    · rw [upd_ne hb]
      exact (h b q).elim (fun q => I.fa b (.inr q)) fun z => absurd z hb
end

/-! ### what an expression's value is, by mode -/
inductive Mode where | rd | el | val (k : Nat)
  deriving DecidableEq, Repr
/-- a container that may be read, its items shared -/
inductive RpE (K : PySem.W.Frag) (cl : Cl) (H : Hp) (Sr Ss : Addr → Prop) : V → D → Prop
  | sh {v : V} {d : D} : Rp K cl H Ss v d → RpE K cl H Sr Ss v d
  | lst {a : Addr} {vs : List V} {ds : List D} : H a = some (.lst vs) → Sr a → RpL K cl H Ss vs ds → RpE K cl H Sr Ss (.ref a) (.lst ds)
  | dic {a : Addr} {kvs : List (Key × V)} {es : List (Key × D)} : H a = some (.dK kvs) → Sr a → kvs.map (·.1) = es.map (·.1) → RpL K cl H Ss (kvs.map (·.2)) (es.map (·.2)) → RpE K cl H Sr Ss (.ref a) (.dic es)
  | obj {a C dx : Addr} {c : Str} {fs : List (Str × V)} {es : List (Str × D)} : H a = some (.ins C dx fs) → Sr a → cl c C → fs.map (·.1) = es.map (·.1) → RpL K cl H Ss (fs.map (·.2)) (es.map (·.2)) → RpE K cl H Sr Ss (.ref a) (.obj c es)
def Res (K : PySem.W.Frag) (cl : Cl) (κ : List Kd) (A : Gd) (fp : Nat → List Addr) (tmp : Addr → Prop) (H : Hp) (F : List Addr) (v : V) (d : D) : Mode → Prop
  | .rd => F = [] ∧ Rp K cl H (SRd κ A fp tmp) v d
  | .el => F = [] ∧ RpE K cl H (SRd κ A fp tmp) (Sh A fp tmp) v d
  | .val k => F.Nodup ∧ (∀ b ∈ F, tmp b ∧ A.ok b) ∧ Own K cl H (Sh A fp tmp) k F v d
section
variable {K : PySem.W.Frag} {cl : Cl} {κ : List Kd} {A : Gd} {fp fp' : Nat → List Addr} {tmp tmp' : Addr → Prop} {σ : L2.St} {H H' : Hp} {ρ ρ' : List D} {F : List Addr} {v : V} {d : D} {m : Mode}
theorem RpE.ext {P S S' T T' : Addr → Prop} (e : Ext P H H') (hs : ∀ b, S b → H b ≠ none → S' b ∧ ¬ P b) (ht : ∀ b, T b → H b ≠ none → T' b ∧ ¬ P b) (h : RpE K cl H S T v d) : RpE K cl H' S' T' v d := by
  cases h with
  | sh h => exact .sh (h.ext e ht)
  | lst h s r =>
    have q := hs _ s (by rw [h]; simp)
    exact .lst (e.keep _ _ h q.2) q.1 (r.ext e ht)
  | dic h s k r =>
    have q := hs _ s (by rw [h]; simp)
    exact .dic (e.keep _ _ h q.2) q.1 k (r.ext e ht)
  | obj h s c k r =>
    have q := hs _ s (by rw [h]; simp)
    exact .obj (e.keep _ _ h q.2) q.1 c k (r.ext e ht)
/-- a held value through a step: the step knows its own nodes as temporaries -/
theorem Res.step (s : Stp κ fp tmp H ρ fp' tmp' H' ρ') (I : SI K cl κ A fp tmp σ H ρ) (ht : ∀ b, tmp b → tmp' b) (h : Res K cl κ A fp tmp H F v d m) : Res K cl κ A fp' tmp' H' F v d m := by
  cases m with
  | rd => exact ⟨h.1, h.2.ext s.ex (SRd.step s)⟩
  | el => exact ⟨h.1, h.2.ext s.ex (SRd.step s) (Sh.step s)⟩
  | val k => exact ⟨h.1, fun b hb => ⟨ht b (h.2.1 b hb).1, (h.2.1 b hb).2⟩, h.2.2.ext s.ex (Sh.step s) fun b hb z => let ⟨i, _, z⟩ := z; I.dt i b z (h.2.1 b hb).1⟩
/-- an immutable value in any mode -/
theorem Res.imm {S : Addr → Prop} (hi : d.imm = true) (h : Rp K cl H S v d) : Res K cl κ A fp tmp H [] v d m := by
  cases m with
  | rd => exact ⟨rfl, h.imm hi⟩
  | el => exact ⟨rfl, .sh (h.imm hi)⟩
  | val k => exact ⟨List.nodup_nil, fun _ hb => (by cases hb), .fr (h.imm hi) (.inr (D.flat_of_imm hi))⟩
/-- any value may be read, its own nodes let go -/
theorem Res.rd (I : SI K cl κ A fp (tF tmp F) σ H ρ) (nf : ∀ b ∈ F, ¬ tmp b) (h : Res K cl κ A fp (tF tmp F) H F v d m) : Rp K cl H (SRd κ A fp tmp) v d := by
  have wk : ∀ b, SRd κ A fp (tF tmp F) b → SRd κ A fp tmp b := fun b s => ⟨s.1, fun z => s.2 (.inl z)⟩
  have ws : ∀ b, Sh A fp (tF tmp F) b → SRd κ A fp tmp b := fun b s => wk b (Sh.srd b s)
  cases m with
  | rd => exact h.2.up wk
  | el =>
    obtain ⟨_, h2⟩ := h
    cases h2 with
    | sh q => exact q.up ws
    | lst q s r => exact .lst q (wk _ s) (r.up ws)
    | dic q s k r => exact .dic q (wk _ s) k (r.up ws)
    | obj q s c k r => exact .obj q (wk _ s) c k (r.up ws)
  | val k => exact h.2.2.read ws fun b hb => ⟨fun z => let ⟨i, _, z⟩ := z; I.dt i b z (.inr hb), fun z => absurd z (nf b hb)⟩
end

/-! ### the context -/
/-- a def as callers know it: its name, its parameters' kinds, how deep its result is owned, what it computes -/
structure FnI where
  name : Str
  ps : List Str
  ks : List Kd
  kr : Nat
  sem : List D → R D
  kb : List (Nat × List Str × List Nat) := []
/-- some of a list, in another order -/
def pick {α : Type} (l : List α) (π : List Nat) : List α := π.filterMap fun j => l[j]?
def pickK {α : Type} (t : Nat × List Str × List Nat) (us ws : List α) : List α := if us.length = t.1 ∧ ws.length = t.2.1.length then pick (us ++ ws) t.2.2 else []
def tArgs (tmp : Addr → Prop) := tmp
/-- an exception's data -/
def ExR (K : PySem.W.Frag) (cl : Cl) (H : Hp) (x : D) (cls : Value) (dx : Option Addr) : Prop :=
  match x with
  | .obj c es => ∃ C d fs, cls = .ref C ∧ dx = some d ∧ cl c C ∧ H d = some (.xd fs) ∧ fs.map (·.1) = es.map (·.1) ∧ RpL K cl H (fun _ => False) (fs.map (·.2)) (es.map (·.2))
  | _ => False
/-- what a def promises -/
def spF (fi : FnI) (K : PySem.W.Frag) (cl : Cl) : Sp := fun vs H Q E => vs.length = fi.ps.length ∧ ∃ (ds : List D) (A : Gd) (fp : Nat → List Addr) (tmp : Addr → Prop), ds.length = fi.ps.length ∧
  SI K cl fi.ks A fp tmp (vs.map some) H ds ∧ A.C = tmp ∧ (∀ i, fi.ps.length ≤ i → fp i = []) ∧
  wpx (fi.sem ds)
    (fun d os => ∀ v H' fp' F, SI K cl fi.ks A fp' (tF tmp F) (vs.map some) H' os → (∀ i, fi.ps.length ≤ i → fp' i = []) → Ext (OS fp) H H' → (∀ b, OO fp' (tF tmp F) b → OO fp tmp b ∨ H b = none) → (∀ i b, b ∈ fp' i → b ∈ fp i ∨ H b = none) → Res K cl fi.ks A fp' (tF tmp F) H' F v d (.val fi.kr) → (∀ b ∈ F, H b = none) → os.length = fi.ps.length → Q v H')
    (fun x os => ∀ cls dx H' fp', SI K cl fi.ks A fp' tmp (vs.map some) H' os → (∀ i, fi.ps.length ≤ i → fp' i = []) → Ext (OS fp) H H' → (∀ b, OO fp' tmp b → OO fp tmp b ∨ H b = none) → (∀ i b, b ∈ fp' i → b ∈ fp i ∨ H b = none) → ExR K cl H' x cls dx → os.length = fi.ps.length → E cls dx H')
structure FnAt (P : Program) (w : World) (K : PySem.W.Frag) (mg : Str → Option Value) (base : Heap) (k : Nat) (fi : FnI) : Prop where
  ex : ∃ (f : Addr) (fd : FuncData), mg fi.name = some (.ref f) ∧ PySem.W.keepIn K (.ref f) = true ∧ Binds K fd fi.ps [] ∧ FnOk P w K mg base (L2.CX P w) k f fd fi.ps (spF fi K (clX mg)) ∧ ∀ t ∈ fi.kb, KBinds K fd fi.ps t.2.1 (pickK t) (pickK t)
  kn : fi.ks.length = fi.ps.length
/-- a written constant of the module -/
structure ConI where
  name : Str
  val : D
def ConAt (K : PySem.W.Frag) (mg : Str → Option Value) (c : ConI) : Prop := ∃ (u : Value) (v : V), mg c.name = some u ∧ RelV v u ∧ ∀ H, Rp K (clX mg) H (fun _ => False) v c.val
structure Sx where
  N : List Str
  κ : List Kd
  np : Nat
  sc : Scope
  k : Nat
  fs : List FnI
  cs : List ConI
  kr : Nat
  as : List Str
  bf : List (Str × String) := []
  pr : List Nat := []
/-- names that are still the built-ins -/
def builtinNames : List Str := ["len", "isinstance", "range", "tuple", "int", "max", "min", "abs", "str", "list", "enumerate", "sum", "sorted", "zip", "dict", "set", "reversed", "bool"]
structure Fit (S : Sx) (X : Cx) : Prop where
  hN : X.N = S.N
  nd : S.N.Nodup
  sc : X.env.scope = S.sc
  calm : X.calm = true
  room : Room S.k X.A
  fn : ∀ x ∈ S.as, Loc X.env.scope x ∧ (X.fn x = true ∨ X.env.scope.names.lookup x = some .local)
  fs : ∀ fi ∈ S.fs, FnAt X.prog X.w X.K X.mg X.base S.k fi
  cs : ∀ c ∈ S.cs, ConAt X.K X.mg c
  bl : ∀ x ∈ builtinNames, X.mg x = none
  kl : S.κ.length = S.N.length
  bf : ∀ b ∈ S.bf, X.mg b.1 = some (.builtin b.2)

/-- the widest readings -/
def WE (X : Cx) (e : Expr) : TE := fun σ H Q => ∃ t, PE X e t ∧ t σ H Q
theorem pe_WE {X : Cx} {e : Expr} : PE X e (WE X e) := ⟨fun pins s σ H Q I ⟨t, h, q⟩ => h.run pins s σ H Q I q⟩
def WT (X : Cx) (e : Expr) : TT := fun σ H Q => ∃ t, PT X e t ∧ t σ H Q
theorem pt_WT {X : Cx} {e : Expr} : PT X e (WT X e) := ⟨fun pins s σ H Q I ⟨t, h, q⟩ => h.run pins s σ H Q I q⟩
def WEs (X : Cx) : List Expr → TA
  | [] => fun _ H Q => Q [] H
  | e :: es => fun σ H Q => WE X e σ H fun v H1 => WEs X es σ H1 fun vs H2 => Q (v :: vs) H2
abbrev OpW (X : Cx) (f : Value → Value → Sem Value) : R2 := fun x y H Q => ∃ r, OpR X f r ∧ r x y H Q
theorem opW {X : Cx} {f : Value → Value → Sem Value} : OpR X f (OpW X f) := fun pins s σ H x y v u Q I rx ry ⟨r, h, q⟩ => h pins s σ H x y v u Q I rx ry q

/-- what an exception asks -/
def XQ (X : Cx) (W : WX) (κ : List Kd) (A : Gd) (fp : Nat → List Addr) (tmp : Addr → Prop) (σ : L2.St) (H : Hp) (ρ : List D) (x : D) (ρ' : List D) : Prop :=
  ∀ cls dx H' fp', SI X.K (clX X.mg) κ A fp' tmp σ H' ρ' → Stp κ fp tmp H ρ fp' tmp H' ρ' → ExR X.K (clX X.mg) H' x cls dx → W cls dx σ H'
/-- an expression computes f -/
def SE (S : Sx) (m : Mode) (e : Expr) (f : M D) : Prop :=
  ∀ (X : Cx), Fit S X → ∀ (W : WX), Takes X W → ∀ (A : Gd) (fp : Nat → List Addr) (tmp : Addr → Prop) (σ : L2.St) (H : Hp) (ρ : List D) (Q : VK),
    SI X.K (clX X.mg) S.κ A fp tmp σ H ρ →
    wpx (f ρ) (fun d ρ' => ∀ v H' fp' F, SI X.K (clX X.mg) S.κ A fp' (tF tmp F) σ H' ρ' → Stp S.κ fp tmp H ρ fp' (tF tmp F) H' ρ' → (∀ b ∈ F, H b = none) → Res X.K (clX X.mg) S.κ A fp' (tF tmp F) H' F v d m → Q v H')
      (XQ X W S.κ A fp tmp σ H ρ) → WE X e σ H Q
/-- a test computes f -/
def ST (S : Sx) (e : Expr) (f : M Bool) : Prop :=
  ∀ (X : Cx), Fit S X → ∀ (W : WX), Takes X W → ∀ (A : Gd) (fp : Nat → List Addr) (tmp : Addr → Prop) (σ : L2.St) (H : Hp) (ρ : List D) (Q : Bool → Hp → Prop),
    SI X.K (clX X.mg) S.κ A fp tmp σ H ρ →
    wpx (f ρ) (fun b ρ' => ∀ H' fp', SI X.K (clX X.mg) S.κ A fp' tmp σ H' ρ' → Stp S.κ fp tmp H ρ fp' tmp H' ρ' → Q b H')
      (XQ X W S.κ A fp tmp σ H ρ) → WT X e σ H Q
/-- several values, held together -/
inductive ResL (K : PySem.W.Frag) (cl : Cl) (κ : List Kd) (A : Gd) (fp : Nat → List Addr) (tmp : Addr → Prop) (H : Hp) : List Addr → List V → List D → List Mode → Prop
  | nil : ResL K cl κ A fp tmp H [] [] [] []
  | cons {F Fs : List Addr} {v : V} {vs : List V} {d : D} {ds : List D} {m : Mode} {ms : List Mode} : Res K cl κ A fp tmp H F v d m → (∀ b ∈ F, b ∉ Fs) → ResL K cl κ A fp tmp H Fs vs ds ms → ResL K cl κ A fp tmp H (F ++ Fs) (v :: vs) (d :: ds) (m :: ms)
def SEs (S : Sx) (ms : List Mode) (es : List Expr) (f : M (List D)) : Prop :=
  ∀ (X : Cx), Fit S X → ∀ (W : WX), Takes X W → ∀ (A : Gd) (fp : Nat → List Addr) (tmp : Addr → Prop) (σ : L2.St) (H : Hp) (ρ : List D) (Q : List V → Hp → Prop),
    SI X.K (clX X.mg) S.κ A fp tmp σ H ρ →
    wpx (f ρ) (fun ds ρ' => ∀ vs H' fp' F, SI X.K (clX X.mg) S.κ A fp' (tF tmp F) σ H' ρ' → Stp S.κ fp tmp H ρ fp' (tF tmp F) H' ρ' → (∀ b ∈ F, H b = none) → ResL X.K (clX X.mg) S.κ A fp' (tF tmp F) H' F vs ds ms → Q vs H')
      (XQ X W S.κ A fp tmp σ H ρ) → WEs X es σ H Q
end VS

set_option Elab.async false
set_option linter.all false
set_option maxRecDepth 100000
set_option maxHeartbeats 4000000
/-! VS3: the rules of expressions. -/
namespace VS
open PySem PySem.Spec PyProof.Rows L2

theorem emp {P : Addr → Prop} : ∀ b ∈ ([] : List Addr), P b := fun _ z => by cases z
theorem emp' {P : Addr → Prop} {b : Addr} (z : b ∈ ([] : List Addr)) : P b := by cases z
section
variable {S : Sx} {e : Expr} {es : List Expr} {f : M D} {m : Mode} {ms : List Mode}
theorem XQ.step {X : Cx} {W : WX} {κ : List Kd} {A : Gd} {fp fp1 : Nat → List Addr} {tmp tmp1 : Addr → Prop} {σ : L2.St} {H H1 : Hp} {ρ ρ1 ρ' : List D} {x : D} (h : XQ X W κ A fp tmp σ H ρ x ρ') (s : Stp κ fp tmp H ρ fp1 tmp1 H1 ρ1) (ht : ∀ b, tmp b → tmp1 b) : XQ X W κ A fp1 tmp1 σ H1 ρ1 x ρ' :=
  fun cls dx H' fp' I s' q => h cls dx H' fp' (I.drop ht) ((s.trans s').drop ht) q
theorem SE.rd (h : SE S m e f) : SE S .rd e f := fun X fit W tk A fp tmp σ H ρ Q I hw =>
  h X fit W tk A fp tmp σ H ρ Q I (wpx_mono hw (fun d ρ' hq v H' fp' F I' s nt r =>
    hq v H' fp' [] (I'.drop fun b q => q.elim .inl fun z => emp' z) (s.drop fun b q => q.elim .inl fun z => emp' z) emp ⟨rfl, by rw [tF_nil]; exact r.rd I' fun b hb z => I.fa b (.inr z) (nt b hb)⟩) fun _ _ z => z)
theorem Own.zero {K : PySem.W.Frag} {cl : Cl} {H : Hp} {T : Addr → Prop} {F : List Addr} {v : V} {d : D} (h : Own K cl H T 0 F v d) : F = [] ∧ Rp K cl H T v d := by
  cases h with
  | fr h _ => exact ⟨rfl, h⟩
theorem OwnL.zero {K : PySem.W.Frag} {cl : Cl} {H : Hp} {T : Addr → Prop} : ∀ {F : List Addr} {v : List V} {d : List D}, OwnL K cl H T 0 F v d → F = [] ∧ RpL K cl H T v d
  | _, _, _, .nil => ⟨rfl, .nil⟩
  | _, _, _, .cons h r => by
    obtain ⟨e1, q1⟩ := h.zero
    obtain ⟨e2, q2⟩ := OwnL.zero r
    exact ⟨by rw [e1, e2]; rfl, .cons q1 q2⟩
theorem SE.el0 (h : SE S (.val 0) e f) : SE S .el e f := fun X fit W tk A fp tmp σ H ρ Q I hw =>
  h X fit W tk A fp tmp σ H ρ Q I (wpx_mono hw (fun d ρ' hq v H' fp' F I' s nt r => by
    obtain ⟨_, _, o⟩ := r
    obtain ⟨e1, q1⟩ := o.zero
    subst e1
    exact hq v H' fp' [] I' s nt ⟨rfl, .sh q1⟩) fun _ _ z => z)
/-- an owned value is given away to be shared -/
theorem SE.freeze {k : Nat} (h : SE S (.val k) e f) : SE S (.val 0) e f := fun X fit W tk A fp tmp σ H ρ Q I hw =>
  h X fit W tk A fp tmp σ H ρ Q I (wpx_mono hw (fun d ρ' hq v H' fp' F I' s nt r => by
    obtain ⟨_, ha, o⟩ := r
    refine hq v H' fp' [] (I'.drop fun b q => q.elim .inl fun z => emp' z) (s.drop fun b q => q.elim .inl fun z => emp' z) emp ⟨List.nodup_nil, emp, .fr (o.read (fun b s => ⟨s.1, fun z => s.2 ?_⟩) fun b hb => ⟨(ha b hb).2, fun z => ?_⟩) (.inl rfl)⟩
    · rw [tF_nil] at z
      exact z.imp id .inl
    · rw [tF_nil] at z
      rcases z with ⟨i, z⟩ | z
      · exact I'.dt i b z (.inr hb)
      · exact I.fa b (.inr z) (nt b hb)) fun _ _ z => z)

/-! ### argument lists -/
def mNil : M (List D) := ret []
def mCons (f : M D) (g : M (List D)) : M (List D) := bnd f fun d => bnd g fun ds => ret (d :: ds)
theorem ses_nil : SEs S [] [] mNil := fun X fit W tk A fp tmp σ H ρ Q I hw =>
  hw [] H fp [] (by rw [tF_nil]; exact I) (by rw [tF_nil]; exact .refl) emp .nil
theorem ses_cons {g : M (List D)} (h1 : SE S m e f) (h2 : SEs S ms es g) : SEs S (m :: ms) (e :: es) (mCons f g) := by
  intro X fit W tk A fp tmp σ H ρ Q I hw
  refine h1 X fit W tk A fp tmp σ H ρ _ I (wpx_mono (wpx_bnd hw) (fun d ρ1 hd v H1 fp1 F I1 s1 nt1 r1 => ?_) fun _ _ z => z)
  refine h2 X fit W tk A fp1 (tF tmp F) σ H1 ρ1 _ I1 (wpx_mono (wpx_bnd hd) (fun ds ρ2 hds vs H2 fp2 F2 I2 s2 nt2 r2 => ?_) fun x ρ' z => z.step s1 fun b q => .inl q)
  rw [tF_app] at I2 s2 r2
  exact hds (v :: vs) H2 fp2 (F ++ F2) I2 (s1.trans s2) (fun b hb => (List.mem_append.mp hb).elim (nt1 b) fun z => none_back s1.ex (nt2 b z))
    (.cons (r1.step s2 I1 fun b q => by rw [← tF_app]; exact .inl q) (fun b hb z => I1.fa b (.inr (.inr hb)) (nt2 b z)) r2)

/-! ### operations on values -/
/-- an operation on values that computes p; rd: its reading -/
def PrimOk (S : Sx) (ms : List Mode) (mr : Mode) (p : List D → Option D) (rd : Cx → List V → Hp → VK → Prop) : Prop :=
  ∀ (X : Cx), Fit S X → ∀ (A : Gd) (fp : Nat → List Addr) (tmp : Addr → Prop) (σ : L2.St) (H : Hp) (ρ : List D) (F : List Addr) (vs : List V) (ds : List D) (d : D) (Q : VK),
    SI X.K (clX X.mg) S.κ A fp (tF tmp F) σ H ρ → (∀ b ∈ F, ¬ tmp b) → ResL X.K (clX X.mg) S.κ A fp (tF tmp F) H F vs ds ms → p ds = some d →
    (∀ v H' F', SI X.K (clX X.mg) S.κ A fp (tF tmp F') σ H' ρ → Stp S.κ fp (tF tmp F) H ρ fp (tF tmp F') H' ρ → (∀ b ∈ F', H b = none) → Res X.K (clX X.mg) S.κ A fp (tF tmp F') H' F' v d mr → Q v H') →
    rd X vs H Q
def mPrim (p : List D → Option D) (g : M (List D)) : M D := bnd g fun ds => ofO (p ds)
theorem se_prim {mr : Mode} {p : List D → Option D} {rd : Cx → List V → Hp → VK → Prop} {g : M (List D)} (hp : PrimOk S ms mr p rd) (hs : SEs S ms es g)
    (hrd : ∀ (X : Cx), Fit S X → ∀ (W : WX), Takes X W → ∀ σ H Q, WEs X es σ H (fun vs H1 => rd X vs H1 Q) → WE X e σ H Q) : SE S mr e (mPrim p g) := by
  intro X fit W tk A fp tmp σ H ρ Q I hw
  refine hrd X fit W tk σ H Q (hs X fit W tk A fp tmp σ H ρ _ I (wpx_mono (wpx_bnd hw) (fun ds ρ1 hd vs H1 fp1 F I1 s1 nt r1 => ?_) fun _ _ z => z))
  obtain ⟨d, ed, hq⟩ := wpx_ofO hd
  exact hp X fit A fp1 tmp σ H1 ρ1 F vs ds d Q I1 (fun b hb z => I.fa b (.inr z) (nt b hb)) r1 ed fun v H' F' I' s' nt' r' => hq v H' fp1 F' I' (s1.trans s') (fun b hb => none_back s1.ex (nt' b hb)) r'
/-- an operation that makes nothing, of an immutable value -/
theorem PrimOk.plain {mr : Mode} {p : List D → Option D} {rd : Cx → List V → Hp → VK → Prop}
    (h : ∀ (X : Cx), Fit S X → ∀ (A : Gd) (fp : Nat → List Addr) (tmp : Addr → Prop) (σ : L2.St) (H : Hp) (ρ : List D) (F : List Addr) (vs : List V) (ds : List D) (d : D) (Q : VK),
      SI X.K (clX X.mg) S.κ A fp tmp σ H ρ → ResL X.K (clX X.mg) S.κ A fp tmp H F vs ds ms → p ds = some d → (∀ v T, d.imm = true → Rp X.K (clX X.mg) H T v d → Q v H) → rd X vs H Q) : PrimOk S ms mr p rd := by
  intro X fit A fp tmp σ H ρ F vs ds d Q I nt r ed hq
  exact h X fit A fp (tF tmp F) σ H ρ F vs ds d Q I r ed fun v T hi q => hq v H [] (I.drop fun b q => q.elim .inl fun z => emp' z) ((Stp.refl).drop fun b q => q.elim .inl fun z => emp' z) emp (.imm hi q)
/-- an operation that makes one new object -/
theorem Res.newT {K : PySem.W.Frag} {cl : Cl} {κ : List Kd} {A : Gd} {fp : Nat → List Addr} {tmp : Addr → Prop} {H : Hp} {p : Addr} {vs : List V} {ds : List D} {k : Nat} (hp : H p = none) (r : RpL K cl H (Sh A fp tmp) vs ds) :
    Res K cl κ A fp tmp (upd H p (.tup vs)) [] (.ref p) (.tup ds) (.val k) :=
  ⟨List.nodup_nil, emp, .fr (.tup (.of upd_same) (r.ext (P := fun _ => False) (Ext.new hp) fun b s _ => ⟨s, fun z => z⟩)) (.inr rfl)⟩
end
end VS

set_option Elab.async false
set_option linter.all false
set_option maxRecDepth 100000
set_option maxHeartbeats 4000000
/-! VS4: names, constants, operators, comparisons. -/
namespace VS
open PySem PySem.Spec PyProof.Rows L2

/-! ### reading off values -/
section
variable {K : PySem.W.Frag} {cl : Cl} {κ : List Kd} {A : Gd} {fp : Nat → List Addr} {tmp : Addr → Prop} {H : Hp} {T Sr Ss : Addr → Prop} {v : V} {F : List Addr} {m : Mode}
theorem Rp.i {i : Int} (h : Rp K cl H T v (.int i)) : v = .int i := by cases h; rfl
theorem Rp.s {x : Str} (h : Rp K cl H T v (.str x)) : v = .str x := by cases h; rfl
theorem Rp.b {x : Bool} (h : Rp K cl H T v (.bl x)) : v = .bl x := by cases h; rfl
theorem Rp.n (h : Rp K cl H T v .non) : v = .non := by cases h; rfl
theorem Rp.t {ds : List D} (h : Rp K cl H T v (.tup ds)) : ∃ a vs, v = .ref a ∧ SqT K H a vs ∧ RpL K cl H T vs ds := by cases h with | tup a b => exact ⟨_, _, rfl, a, b⟩
theorem Rp.l {ds : List D} (h : Rp K cl H T v (.lst ds)) : ∃ a vs, v = .ref a ∧ H a = some (.lst vs) ∧ T a ∧ RpL K cl H T vs ds := by cases h with | lst a b c => exact ⟨_, _, rfl, a, b, c⟩
theorem Rp.sc {ns : List Int} (h : Rp K cl H T v (.scr ns)) : ∃ a, v = .ref a ∧ ScrL K H a (ns.map V.int) := by cases h with | scr a => exact ⟨_, rfl, a⟩
theorem Rp.d {es : List (Key × D)} (h : Rp K cl H T v (.dic es)) : ∃ a kvs, v = .ref a ∧ H a = some (.dK kvs) ∧ T a ∧ kvs.map (·.1) = es.map (·.1) ∧ RpL K cl H T (kvs.map (·.2)) (es.map (·.2)) := by cases h with | dic a b c d => exact ⟨_, _, rfl, a, b, c, d⟩
theorem Rp.o {c : Str} {es : List (Str × D)} (h : Rp K cl H T v (.obj c es)) : ∃ a C dx fs, v = .ref a ∧ H a = some (.ins C dx fs) ∧ T a ∧ cl c C ∧ fs.map (·.1) = es.map (·.1) ∧ RpL K cl H T (fs.map (·.2)) (es.map (·.2)) := by cases h with | obj a b c d e => exact ⟨_, _, _, _, rfl, a, b, c, d, e⟩
theorem RpE.i {i : Int} (h : RpE K cl H Sr Ss v (.int i)) : v = .int i := by cases h with | sh h => exact h.i
theorem RpE.s {x : Str} (h : RpE K cl H Sr Ss v (.str x)) : v = .str x := by cases h with | sh h => exact h.s
theorem RpE.b {x : Bool} (h : RpE K cl H Sr Ss v (.bl x)) : v = .bl x := by cases h with | sh h => exact h.b
theorem RpE.t {ds : List D} (h : RpE K cl H Sr Ss v (.tup ds)) : ∃ a vs, v = .ref a ∧ SqT K H a vs ∧ RpL K cl H Ss vs ds := by cases h with | sh h => exact h.t
theorem RpE.sc {ns : List Int} (h : RpE K cl H Sr Ss v (.scr ns)) : ∃ a, v = .ref a ∧ ScrL K H a (ns.map V.int) := by cases h with | sh h => exact h.sc
theorem RpE.l {ds : List D} (h : RpE K cl H Sr Ss v (.lst ds)) : ∃ a vs, v = .ref a ∧ H a = some (.lst vs) ∧ RpL K cl H Ss vs ds := by
  cases h with
  | sh h => obtain ⟨a, vs, e, q, _, r⟩ := h.l; exact ⟨a, vs, e, q, r⟩
  | lst q s r => exact ⟨_, _, rfl, q, r⟩
theorem ResL.one {F : List Addr} {vs : List V} {ds : List D} {m : Mode} (h : ResL K cl κ A fp tmp H F vs ds [m]) : ∃ v d, vs = [v] ∧ ds = [d] ∧ Res K cl κ A fp tmp H F v d m := by
  cases h with
  | cons r n q => cases q; exact ⟨_, _, rfl, rfl, by rw [List.append_nil]; exact r⟩
theorem ResL.two {F : List Addr} {vs : List V} {ds : List D} {m m' : Mode} (h : ResL K cl κ A fp tmp H F vs ds [m, m']) : ∃ v w d e G G', vs = [v, w] ∧ ds = [d, e] ∧ F = G ++ G' ∧ (∀ b ∈ G, b ∉ G') ∧ Res K cl κ A fp tmp H G v d m ∧ Res K cl κ A fp tmp H G' w e m' := by
  cases h with
  | cons r n q =>
    obtain ⟨w, e, e1, e2, q2⟩ := q.one
    subst e1 e2
    exact ⟨_, _, _, _, _, _, rfl, rfl, rfl, n, r, q2⟩
end

/-! ### names and constants -/
def visB (sc : Scope) (x : Str) : Bool := match sc.names.lookup x with
  | some .local => true | some .cell => true | some .free => true | _ => false
theorem vis_of {sc : Scope} {x : Str} (h : visB sc x = true) : Vis sc x := by
  unfold visB at h
  unfold Vis
  split at h
  · exact .inl (by assumption)
  · exact .inr (.inl (by assumption))
  · exact .inr (.inr (by assumption))
  · cases h
def okName (x : Str) : Bool := !(x == ("__debug__" : Str)) && !(x == ("__classdict__" : Str))
def mVar (i : Nat) : M D := fun ρ => match ρ.getD i .un with
  | .un => .stuck
  | d => .ok d ρ
theorem wpx_var {i : Nat} {ρ : List D} {Q : D → List D → Prop} {E : D → List D → Prop} (h : wpx (mVar i ρ) Q E) : ∃ d, ρ[i]? = some d ∧ d ≠ .un ∧ Q d ρ := by
  unfold mVar at h
  have e : ρ.getD i .un = (ρ[i]?).getD .un := by simp [List.getD]
  rw [e] at h
  cases q : ρ[i]? with
  | none => rw [q] at h; exact h.elim
  | some d =>
    rw [q] at h
    cases d <;> first | exact h.elim | exact ⟨_, rfl, by simp, h⟩
section
variable {S : Sx} {e a b : Expr} {es : List Expr} {f g : M D} {m : Mode} {ms : List Mode} {i : Nat} {x : Str} {pos : Pos} {c : Kd}
theorem we_var {X : Cx} (fit : Fit S X) (hN : S.N[i]? = some x) (hv : visB S.sc x = true) (hn : okName x = true) {σ : L2.St} {H : Hp} {Q : VK} {v : V} (hs : σ[i]? = some (some v)) (hq : Q v H) : WE X (.Name x pos) σ H Q := by
  unfold okName at hn
  simp only [Bool.and_eq_true, Bool.not_eq_true'] at hn
  exact ⟨tVar i, pe_var (by rw [fit.hN]; exact hN) (by rw [fit.sc]; exact vis_of hv) hn.1 hn.2, v, hs, hq⟩
/-- how a name may be used, by its slot's kind -/
def varMode : Kd → Mode → Bool
  | .F, .rd => true
  | .F, .el => true
  | .F, .val k => k == 0
  | .B, .rd => true
  | .R, .rd => true
  | .L _, .rd => true
  | .L k, .el => k == 1
  | _, _ => false
theorem se_var (hN : S.N[i]? = some x) (hk : S.κ[i]? = some c) (hm : varMode c m = true) (hv : visB S.sc x = true) (hn : okName x = true) : SE S m (.Name x pos) (mVar i) := by
  intro X fit W tk A fp tmp σ H ρ Q I hw
  obtain ⟨d, hd, hu, hq⟩ := wpx_var hw
  obtain ⟨v, hs, hsl⟩ := I.sl i d c hd hu hk
  refine we_var fit hN hv hn hs (hq v H fp [] (by rw [tF_nil]; exact I) (by rw [tF_nil]; exact .refl) emp ?_)
  rw [tF_nil]
  have nX : ∀ k, c = .L k → ∀ b ∈ fp i, SRd S.κ A fp tmp b := fun k hc b hb => ⟨(fun z => by
    obtain ⟨j, ⟨k', hj⟩, z⟩ := z
    have := I.dj j i b z hb
    subst this
    rw [hk, hc] at hj; cases hj), fun z => absurd z (I.dt i b hb)⟩
  cases c with
  | F =>
    cases m with
    | rd => exact ⟨rfl, Rp.shrd hsl⟩
    | el => exact ⟨rfl, .sh hsl⟩
    | val k =>
      have : k = 0 := by simpa [varMode] using hm
      subst this
      exact ⟨List.nodup_nil, emp, .fr hsl (.inl rfl)⟩
  | B =>
    cases m with
    | rd => exact ⟨rfl, Rp.up hsl fun b n => ⟨fun z => n.1 z.os, n.2⟩⟩
    | el => cases hm
    | val k => cases hm
  | R =>
    cases m with
    | rd => exact ⟨rfl, hsl⟩
    | el => cases hm
    | val k => cases hm
  | L k =>
    have o : Own X.K (clX X.mg) H (Sh A fp tmp) k (fp i) v d := hsl
    cases m with
    | rd => exact ⟨rfl, o.read Sh.srd (nX k rfl)⟩
    | el =>
      have : k = 1 := by simpa [varMode] using hm
      subst this
      refine ⟨rfl, ?_⟩
      have nx := nX 1 rfl
      generalize hF : fp i = G at o nx
      cases o with
      | fr h _ => exact .sh h
      | lst h r => exact .lst h (nx _ List.mem_cons_self) r.zero.2
      | dic h k r => exact .dic h (nx _ List.mem_cons_self) k r.zero.2
      | obj h cc k r => exact .obj h (nx _ List.mem_cons_self) cc k r.zero.2
    | val k => cases hm
  | X k => cases m <;> cases hm
end
end VS

set_option Elab.async false
set_option linter.all false
set_option maxRecDepth 100000
set_option maxHeartbeats 4000000
/-! VS5: readings grow; forms of expressions as operations on values. -/
namespace VS
open PySem PySem.Spec PyProof.Rows L2

theorem we_mono {X : Cx} {e : Expr} {σ : L2.St} {H : Hp} {Q Q' : VK} (h : WE X e σ H Q) (hq : ∀ v H', Q v H' → Q' v H') : WE X e σ H Q' := by
  obtain ⟨t, p, q⟩ := h
  refine ⟨fun σ H R => ∃ Q0 : VK, t σ H Q0 ∧ ∀ v H', Q0 v H' → R v H', ⟨fun pins s σ H R I ⟨Q0, h0, h1⟩ => ?_⟩, Q, q, hq⟩
  exact thn (p.run pins s σ H Q0 I h0) fun u s' ⟨v, H', I', r, z⟩ => ⟨v, H', I', r, h1 v H' z⟩
theorem wt_mono {X : Cx} {e : Expr} {σ : L2.St} {H : Hp} {Q Q' : Bool → Hp → Prop} (h : WT X e σ H Q) (hq : ∀ v H', Q v H' → Q' v H') : WT X e σ H Q' := by
  obtain ⟨t, p, q⟩ := h
  refine ⟨fun σ H R => ∃ Q0 : Bool → Hp → Prop, t σ H Q0 ∧ ∀ v H', Q0 v H' → R v H', ⟨fun pins s σ H R I ⟨Q0, h0, h1⟩ => ?_⟩, Q, q, hq⟩
  exact thn (p.run pins s σ H Q0 I h0) fun u s' ⟨H', I', z⟩ => ⟨H', I', h1 _ H' z⟩
theorem wes_mono {X : Cx} : ∀ {es : List Expr} {σ : L2.St} {H : Hp} {Q Q' : List V → Hp → Prop}, WEs X es σ H Q → (∀ v H', Q v H' → Q' v H') → WEs X es σ H Q'
  | [], _, _, _, _, h, hq => hq _ _ h
  | _ :: _, _, _, _, _, h, hq => we_mono h fun v H' q => wes_mono q fun vs H2 z => hq _ _ z

section
variable {S : Sx} {e a b c : Expr} {es : List Expr} {f g : M D} {m : Mode} {ms : List Mode} {pos : Pos}
/-! ### constants, immutable values -/
theorem se_con {d : D} {v : V} (hi : d.imm = true) (hr : ∀ (K : PySem.W.Frag) (cl : Cl) (H : Hp), Rp K cl H (fun _ => False) v d) (hp : ∀ X, PE X e (tC v)) : SE S m e (ret d) := fun X fit W tk A fp tmp σ H ρ Q I hw =>
  ⟨tC v, hp X, hw v H fp [] (by rw [tF_nil]; exact I) (by rw [tF_nil]; exact .refl) emp (.imm hi (hr _ _ _))⟩
theorem se_int {i : Int} {j} : SE S m (.Constant (.int i) j pos) (ret (.int i)) := se_con rfl (fun _ _ _ => .int i) fun _ => pe_int
theorem se_str {x : Str} {j} : SE S m (.Constant (.str x) j pos) (ret (.str x)) := se_con rfl (fun _ _ _ => .str x) fun _ => pe_str
theorem se_bl {x : Bool} {j} : SE S m (.Constant (.bool x) j pos) (ret (.bl x)) := se_con rfl (fun _ _ _ => .bl x) fun _ => pe_bl
theorem se_non {j} : SE S m (.Constant .none j pos) (ret .non) := se_con rfl (fun _ _ _ => .non) fun _ => pe_non
def glB (sc : Scope) (x : Str) : Bool := sc.names.lookup x == some .globalImplicit
theorem gl_of {X : Cx} (fit : Fit S X) {x : Str} (h : glB S.sc x = true) : Gl X x := by
  show X.env.scope.names.lookup x = _
  rw [fit.sc]
  exact beq_iff_eq.mp h
theorem se_glo {x : Str} {k : ConI} (hk : k ∈ S.cs) (hx : k.name = x) (hi : k.val.imm = true) (hg : glB S.sc x = true) (hn : okName x = true) : SE S m (.Name x pos) (ret k.val) := by
  intro X fit W tk A fp tmp σ H ρ Q I hw
  subst hx
  unfold okName at hn
  simp only [Bool.and_eq_true, Bool.not_eq_true'] at hn
  obtain ⟨u, v, hm, r, hr⟩ := fit.cs k hk
  exact ⟨tC v, pe_glob (gl_of fit hg) hm r hn.1, hw v H fp [] (by rw [tF_nil]; exact I) (by rw [tF_nil]; exact .refl) emp (.imm hi (hr _))⟩
def mImm (f : M D) : M D := bnd f fun d => if d.imm then ret d else fail
theorem wpx_imm {d : D} {ρ : List D} {Q : D → List D → Prop} {E : D → List D → Prop} (h : wpx ((if d.imm then ret d else fail) ρ) Q E) : d.imm = true ∧ Q d ρ := by
  cases e : d.imm with
  | true => rw [e] at h; exact ⟨rfl, h⟩
  | false => rw [e] at h; exact h.elim
theorem se_imm (h : SE S .rd e f) : SE S m e (mImm f) := by
  intro X fit W tk A fp tmp σ H ρ Q I hw
  refine h X fit W tk A fp tmp σ H ρ Q I (wpx_mono (wpx_bnd hw) (fun d ρ' hq v H' fp' F I' s nt r => ?_) fun _ _ z => z)
  obtain ⟨hi, hq⟩ := wpx_imm hq
  obtain ⟨rfl, r⟩ := r
  exact hq v H' fp' [] I' s nt (.imm hi r)
def D.imms : D → Bool
  | .lst ds => D.immL ds
  | .dic es => D.immL (es.map (·.2))
  | d => d.imm
def mImms (f : M D) : M D := bnd f fun d => if d.imms then ret d else fail
theorem wpx_imms {d : D} {ρ : List D} {Q : D → List D → Prop} {E : D → List D → Prop} (h : wpx ((if d.imms then ret d else fail) ρ) Q E) : d.imms = true ∧ Q d ρ := by
  cases e : d.imms with
  | true => rw [e] at h; exact ⟨rfl, h⟩
  | false => rw [e] at h; exact h.elim
theorem RpE.imms {K : PySem.W.Frag} {cl : Cl} {H : Hp} {Sr Ss : Addr → Prop} {v : V} {d : D} (hi : d.imms = true) (h : Rp K cl H Sr v d) : RpE K cl H Sr Ss v d := by
  cases d with
  | lst ds => obtain ⟨a, vs, rfl, q, s, r⟩ := h.l; exact .lst q s (r.imm hi)
  | dic es => obtain ⟨a, kvs, rfl, q, s, k, r⟩ := h.d; exact .dic q s k (r.imm hi)
  | _ => exact .sh (h.imm hi)
theorem se_imms (h : SE S .rd e f) : SE S .el e (mImms f) := by
  intro X fit W tk A fp tmp σ H ρ Q I hw
  refine h X fit W tk A fp tmp σ H ρ Q I (wpx_mono (wpx_bnd hw) (fun d ρ' hq v H' fp' F I' s nt r => ?_) fun _ _ z => z)
  obtain ⟨hi, hq⟩ := wpx_imms hq
  obtain ⟨rfl, r⟩ := r
  exact hq v H' fp' [] I' s nt ⟨rfl, .imms hi r⟩
/-! ### nothing is given to others for a while -/
def Kd.lock : Kd → Kd
  | .X k => .L k
  | k => k
def Sx.lock (S : Sx) : Sx := { S with κ := S.κ.map Kd.lock }
theorem lock_get {κ : List Kd} {i : Nat} {c : Kd} (h : κ[i]? = some c) : (κ.map Kd.lock)[i]? = some c.lock := by rw [List.getElem?_map, h]; rfl
theorem hv_lock {κ : List Kd} {i : Nat} : hv (κ.map Kd.lock) i ↔ hv κ i := by
  unfold hv
  rw [List.getElem?_map]
  cases κ[i]? with
  | none => simp
  | some c => cases c <;> simp [Kd.lock, Kd.light]
theorem lock_noX {κ : List Kd} {i : Nat} : ¬ isX (κ.map Kd.lock) i := fun ⟨k, h⟩ => by
  rw [List.getElem?_map] at h
  cases q : κ[i]? with
  | none => rw [q] at h; cases h
  | some c => rw [q] at h; cases c <;> simp [Kd.lock] at h
theorem lock_noOX {κ : List Kd} {fp : Nat → List Addr} {x : Addr} : ¬ OX (κ.map Kd.lock) fp x := fun ⟨_, h, _⟩ => lock_noX h
theorem Fit.lock {X : Cx} (fit : Fit S X) : Fit S.lock X := ⟨fit.hN, fit.nd, fit.sc, fit.calm, fit.room, fit.fn, fit.fs, fit.cs, fit.bl, by show (S.κ.map Kd.lock).length = _; rw [List.length_map]; exact fit.kl, fit.bf⟩
theorem SI.lock {K : PySem.W.Frag} {cl : Cl} {κ : List Kd} {A : Gd} {fp : Nat → List Addr} {tmp : Addr → Prop} {σ : L2.St} {H : Hp} {ρ : List D} (I : SI K cl κ A fp tmp σ H ρ) : SI K cl (κ.map Kd.lock) A fp tmp σ H ρ :=
  ⟨by rw [List.length_map]; exact I.sz, I.an, I.ca, I.fa, I.fA, I.dj, I.nd, I.dt, I.cd, fun i b h => hv_lock.mpr (I.lf i b h), fun i d c e1 e2 e3 => by
    rw [List.getElem?_map] at e3
    cases q : κ[i]? with
    | none => rw [q] at e3; cases e3
    | some c0 =>
      rw [q] at e3
      cases e3
      obtain ⟨v, a, b⟩ := I.sl i d c0 e1 e2 q
      refine ⟨v, a, ?_⟩
      cases c0 with
      | F => exact b
      | B => exact b
      | R => exact Rp.up b fun x n => ⟨lock_noOX, n.2⟩
      | L k => exact b
      | X k => exact b⟩
theorem SI.unlock {K : PySem.W.Frag} {cl : Cl} {κ : List Kd} {A : Gd} {fp fp' : Nat → List Addr} {tmp tmp' : Addr → Prop} {σ : L2.St} {H H' : Hp} {ρ ρ' : List D} (I : SI K cl κ A fp tmp σ H ρ) (I' : SI K cl (κ.map Kd.lock) A fp' tmp' σ H' ρ')
    (s : Stp (κ.map Kd.lock) fp tmp H ρ fp' tmp' H' ρ') : SI K cl κ A fp' tmp' σ H' ρ' ∧ Stp κ fp tmp H ρ fp' tmp' H' ρ' := by
  have ox : ∀ b, OX κ fp' b → OX κ fp b := fun b ⟨i, h, z⟩ => ⟨i, h, s.st i b lock_noX z⟩
  refine ⟨⟨by have z := I'.sz; rw [List.length_map] at z; exact z, I'.an, I'.ca, I'.fa, I'.fA, I'.dj, I'.nd, I'.dt, I'.cd, fun i b h => hv_lock.mp (I'.lf i b h), fun i d c e1 e2 e3 => ?_⟩, ⟨s.ex.mono fun b z => (lock_noOX z).elim, s.ow, fun b z => .inl (ox b z), s.tw, fun i b _ z => s.st i b lock_noX z, fun i _ => s.rs i lock_noX, s.si⟩⟩
  obtain ⟨v, a, b⟩ := I'.sl i d c.lock e1 e2 (lock_get e3)
  refine ⟨v, a, ?_⟩
  cases c with
  | F => exact b
  | B => exact b
  | L k => exact b
  | X k => exact b
  | R =>
    rcases s.rs i lock_noX with z | z
    · rw [e1] at z
      obtain ⟨v0, a0, b0⟩ := I.sl i d .R z.symm e2 e3
      rw [a] at a0; cases a0
      exact Rp.ext s.ex (fun x n a => ⟨⟨fun z => n.1 (ox x z), fun z => (s.tw x z).elim n.2 fun q => absurd q a⟩, lock_noOX⟩) b0
    · rw [e1] at z; cases z; exact absurd rfl e2
theorem se_lock (h : SE S.lock .rd e f) : SE S m e (mImm f) := by
  intro X fit W tk A fp tmp σ H ρ Q I hw
  refine h X fit.lock W tk A fp tmp σ H ρ Q I.lock (wpx_mono (wpx_bnd hw) (fun d ρ' hq v H' fp' F I' s nt r => ?_) fun x ρ' z cls dx H' fp' I' s q => ?_)
  · obtain ⟨hi, hq⟩ := wpx_imm hq
    obtain ⟨rfl, r⟩ := r
    obtain ⟨I2, s2⟩ := SI.unlock I I' s
    exact hq v H' fp' [] I2 s2 nt (.imm hi r)
  · obtain ⟨I2, s2⟩ := SI.unlock I I' s
    exact z cls dx H' fp' I2 s2 q

/-! ### forms -/
def rdBin (op : Operator) : Cx → List V → Hp → VK → Prop := fun X vs H Q => ∃ x y, vs = [x, y] ∧ OpW X (binaryOp op) x y H Q
theorem hrd_bin {op : Operator} (X : Cx) (fit : Fit S X) (W : WX) (tk : Takes X W) (σ : L2.St) (H : Hp) (Q : VK) (h : WEs X [a, b] σ H fun vs H1 => rdBin op X vs H1 Q) : WE X (.BinOp a op b pos) σ H Q :=
  ⟨_, pe_op opW pe_WE pe_WE, we_mono h fun x H1 h1 => we_mono h1 fun y H2 ⟨x', y', e, h2⟩ => by cases e; exact h2⟩
def UnW (X : Cx) (f : Value → Sem Value) : V → Hp → VK → Prop := fun x H Q => ∃ r, UnR X f r ∧ r x H Q
theorem unW {X : Cx} {f : Value → Sem Value} : UnR X f (UnW X f) := fun pins s σ H x v Q I rx ⟨r, h, q⟩ => h pins s σ H x v Q I rx q
def rdUn (op : UnaryOp) : Cx → List V → Hp → VK → Prop := fun X vs H Q => ∃ x, vs = [x] ∧ UnW X (unaryOp op) x H Q
theorem hrd_un {op : UnaryOp} (X : Cx) (fit : Fit S X) (W : WX) (tk : Takes X W) (σ : L2.St) (H : Hp) (Q : VK) (h : WEs X [a] σ H fun vs H1 => rdUn op X vs H1 Q) : WE X (.UnaryOp op a pos) σ H Q :=
  ⟨_, pe_un unW pe_WE, we_mono h fun x H1 ⟨x', e, h2⟩ => by cases e; exact h2⟩
/-- a comparison: the mark of in, not in by its own rule -/
def rdCmp (op : CmpOp) : Cx → List V → Hp → VK → Prop := fun X vs H Q => ∃ x y, vs = [x, y] ∧ OpW X (compareOp op) x y H Q
def cmpMark (op : CmpOp) (b : Expr) : Bool := !behindInMarks op b
theorem hrd_cmp {op : CmpOp} (hm : cmpMark op b = true) (X : Cx) (fit : Fit S X) (W : WX) (tk : Takes X W) (σ : L2.St) (H : Hp) (Q : VK) (h : WEs X [a, b] σ H fun vs H1 => rdCmp op X vs H1 Q) : WE X (.Compare a [op] [b] pos) σ H Q :=
  ⟨_, pe_cmpR opW pe_WE pe_WE (by simpa [cmpMark] using hm), we_mono h fun x H1 h1 => we_mono h1 fun y H2 ⟨x', y', e, h2⟩ => by cases e; exact h2⟩
def IxW (X : Cx) : R2 := fun x y H Q => ∃ r, IxR X r ∧ r x y H Q
theorem ixW {X : Cx} : IxR X (IxW X) := fun va sl pins s σ H x y v u Q I rx ry ⟨r, h, q⟩ hs => h va sl pins s σ H x y v u Q I rx ry q hs
def rdIx : Cx → List V → Hp → VK → Prop := fun X vs H Q => ∃ x y, vs = [x, y] ∧ IxW X x y H Q
def plainIx : Expr → Bool
  | .Slice .. => false
  | _ => true
theorem plainIx_ok {b : Expr} (h : plainIx b = true) : PlainIx b := by
  intro o i
  cases b <;> first | rfl | (simp [plainIx] at h)
theorem hrd_ix (hb : plainIx b = true) (X : Cx) (fit : Fit S X) (W : WX) (tk : Takes X W) (σ : L2.St) (H : Hp) (Q : VK) (h : WEs X [a, b] σ H fun vs H1 => rdIx X vs H1 Q) : WE X (.Subscript a b pos) σ H Q :=
  ⟨_, pe_ix ixW pe_WE pe_WE (plainIx_ok hb), we_mono h fun x H1 h1 => we_mono h1 fun y H2 ⟨x', y', e, h2⟩ => by cases e; exact h2⟩
/-! ### argument lists without stars -/
def noStar : Expr → Bool
  | .Starred .. => false
  | _ => true
def noStars (es : List Expr) : Bool := es.all noStar
theorem star1 {env : Env} (h : noStar e = true) : starEach (e :: es) env = (false, eval e env) :: starEach es env := by
  cases e <;> first | rfl | (simp [noStar] at h)
theorem stars_any {env : Env} : ∀ {es : List Expr}, noStars es = true → (backTo pos (starEach es env)).any (·.1) = false
  | [], _ => rfl
  | e :: es, h => by
    have h' : noStar e = true ∧ noStars es = true := by simpa [noStars] using h
    rw [star1 h'.1]
    have ih := stars_any (env := env) h'.2
    simpa [backTo] using ih
theorem pa_WEs {X : Cx} : ∀ {es : List Expr}, noStars es = true → PA X es (WEs X es)
  | [], _ => pa_nil
  | e :: es, h => by
    have h' : noStar e = true ∧ noStars es = true := by simpa [noStars] using h
    exact pa_cons pe_WE (pa_WEs h'.2) (star1 h'.1)
/-! ### built-ins called -/
def CalW (X : Cx) (f : Value) : List V → Hp → VK → Prop := fun vs H Q => ∃ r, CallR X f r ∧ r vs H Q
theorem calW {X : Cx} {f : Value} : CallR X f (CalW X f) := fun pins s σ H xs us Q I rx ⟨r, h, q⟩ => h pins s σ H xs us Q I rx q
theorem hrd_fn {x : Str} {id : String} {p : Pos} (hg : glB S.sc x = true) (hb : builtinNames.contains x = true) (hv : bootBuiltins x = some (.builtin id)) (hn : okName x = true) (hx : (x == ("__name__" : Str)) = false) (hs : noStars (e :: es) = true)
    (X : Cx) (fit : Fit S X) (W : WX) (tk : Takes X W) (σ : L2.St) (H : Hp) (Q : VK) (h : WEs X (e :: es) σ H fun vs H1 => CalW X (.builtin id) vs H1 Q) : WE X (.Call (.Name x p) (e :: es) [] pos) σ H Q := by
  unfold okName at hn
  simp only [Bool.and_eq_true, Bool.not_eq_true'] at hn
  have h' : noStar e = true ∧ noStars es = true := by simpa [noStars] using hs
  exact ⟨_, pe_callB calW (gl_of fit hg) (fit.bl x (by simpa using hb)) hv (pa_WEs hs) (by simpa using hx) hn.1 (star1 h'.1) (stars_any h'.2), h⟩
theorem hrd_bf {x : Str} {id : String} {p : Pos} (hb : (x, id) ∈ S.bf) (hg : glB S.sc x = true) (hn : okName x = true) (hs : noStars (e :: es) = true)
    (X : Cx) (fit : Fit S X) (W : WX) (tk : Takes X W) (σ : L2.St) (H : Hp) (Q : VK) (h : WEs X (e :: es) σ H fun vs H1 => CalW X (.builtin id) vs H1 Q) : WE X (.Call (.Name x p) (e :: es) [] pos) σ H Q := by
  unfold okName at hn
  simp only [Bool.and_eq_true, Bool.not_eq_true'] at hn
  have h' : noStar e = true ∧ noStars es = true := by simpa [noStars] using hs
  exact ⟨_, L2.pe_callBfun calW (gl_of fit hg) (fit.bf _ hb) (pa_WEs hs) hn.1 (star1 h'.1) (stars_any h'.2), h⟩
theorem hrd_ty {x : Str} {T : String} {p : Pos} (hg : glB S.sc x = true) (hb : builtinNames.contains x = true) (hv : bootBuiltins x = some (.type T)) (hn : okName x = true) (hx : (x == ("__name__" : Str)) = false) (hs : noStars (e :: es) = true)
    (X : Cx) (fit : Fit S X) (W : WX) (tk : Takes X W) (σ : L2.St) (H : Hp) (Q : VK) (h : WEs X (e :: es) σ H fun vs H1 => CalW X (.type T) vs H1 Q) : WE X (.Call (.Name x p) (e :: es) [] pos) σ H Q := by
  unfold okName at hn
  simp only [Bool.and_eq_true, Bool.not_eq_true'] at hn
  have h' : noStar e = true ∧ noStars es = true := by simpa [noStars] using hs
  exact ⟨_, pe_callTy calW (gl_of fit hg) (fit.bl x (by simpa using hb)) hv (pa_WEs hs) (by simpa using hx) hn.1 (star1 h'.1) (stars_any h'.2), h⟩
/-! ### displays -/
theorem se_tup {g : M (List D)} {j} (hs : noStars es = true) (h : SEs S ms es g) (hm : ∀ m ∈ ms, m = .val 0) : SE S m (.Tuple es j pos) (bnd g fun ds => if ds.length ≤ 16777216 then ret (.tup ds) else fail) := by
  intro X fit W tk A fp tmp σ H ρ Q I hw
  refine ⟨_, pe_tup (pa_WEs hs), ?_⟩
  show WEs X es σ H _
  refine h X fit W tk A fp tmp σ H ρ _ I (wpx_mono (wpx_bnd hw) (fun ds ρ1 hd vs H1 fp1 F I1 s1 nt r1 => ?_) fun _ _ z => z)
  have rl : ∀ {F : List Addr} {vs : List V} {ds : List D} {ms : List Mode}, (∀ m ∈ ms, m = Mode.val 0) → ResL X.K (clX X.mg) S.κ A fp1 (tF tmp F) H1 F vs ds ms → True := fun _ _ => trivial
  have key : ∀ {G F : List Addr} {vs : List V} {ds : List D} {ms : List Mode}, (∀ m ∈ ms, m = Mode.val 0) → ResL X.K (clX X.mg) S.κ A fp1 (tF tmp G) H1 F vs ds ms → F = [] ∧ RpL X.K (clX X.mg) H1 (Sh A fp1 (tF tmp G)) vs ds := by
    intro G F vs ds ms hm r
    induction r with
    | nil => exact ⟨rfl, .nil⟩
    | cons r n q ih =>
      obtain ⟨e2, q2⟩ := ih fun m hm' => hm m (List.mem_cons_of_mem _ hm')
      have e0 := hm _ List.mem_cons_self
      subst e0
      obtain ⟨e1, q1⟩ := r.2.2.zero
      exact ⟨by rw [e1, e2]; rfl, .cons q1 q2⟩
  obtain ⟨e1, q1⟩ := key hm r1
  subst e1
  have hl := q1.length
  by_cases hz : ds.length ≤ 16777216
  · rw [if_pos hz] at hd
    refine ⟨by rw [hl, sizeLine_eq]; exact hz, fun p hp => ?_⟩
    have I2 : SI X.K (clX X.mg) S.κ A fp1 (tF tmp []) σ (upd H1 p (.tup vs)) ρ1 := I1.new hp fun b q => .inl q
    have s2 : Stp S.κ fp tmp H ρ fp1 (tF tmp []) (upd H1 p (.tup vs)) ρ1 := s1.new hp fun b q => .inl q
    cases m with
    | rd => exact hd (.ref p) _ fp1 [] I2 s2 emp ⟨rfl, .tup (.of upd_same) (q1.ext (P := fun _ => False) (Ext.new hp) fun b s _ => ⟨Sh.srd b s, fun z => z⟩)⟩
    | el => exact hd (.ref p) _ fp1 [] I2 s2 emp ⟨rfl, .sh (.tup (.of upd_same) (q1.ext (P := fun _ => False) (Ext.new hp) fun b s _ => ⟨s, fun z => z⟩))⟩
    | val k => exact hd (.ref p) _ fp1 [] I2 s2 emp (.newT hp q1)
  · rw [if_neg hz] at hd
    exact hd.elim
end
end VS

set_option Elab.async false
set_option linter.all false
set_option maxRecDepth 100000
set_option maxHeartbeats 4000000
/-! VS6: operations on values. -/
namespace VS
open PySem PySem.Spec PyProof.Rows L2
abbrev SZ : Nat := 16777216
theorem sz_le {n : Nat} (h : n ≤ SZ) : n ≤ sizeLine := by rw [sizeLine_eq]; exact h
theorem sz_lt {n : Nat} (h : n < SZ) : n < sizeLine := by rw [sizeLine_eq]; exact h

/-- a value held among others, read -/
theorem Res.rdP {K : PySem.W.Frag} {cl : Cl} {κ : List Kd} {A : Gd} {fp : Nat → List Addr} {tmp : Addr → Prop} {σ : L2.St} {H : Hp} {ρ : List D} {F : List Addr} {v : V} {d : D} (I : SI K cl κ A fp tmp σ H ρ) (h : Res K cl κ A fp tmp H F v d .rd) : Rp K cl H (SRd κ A fp tmp) v d := h.2
/-! ### data that == looks at -/
mutual
def D.toPy : D → PyData
  | .un | .dic _ | .obj _ _ | .non => .none
  | .bl b => .bool b
  | .int i => .int i
  | .str x => .str x
  | .tup xs => .tuple (D.toPyL xs)
  | .lst xs => .list (D.toPyL xs)
  | .scr ns => .list (ns.map PyData.int)
def D.toPyL : List D → List PyData
  | [] => []
  | x :: xs => D.toPy x :: D.toPyL xs
end
mutual
def D.pyOk : D → Bool
  | .un | .dic _ | .obj _ _ => false
  | .non | .bl _ | .int _ | .str _ | .scr _ => true
  | .tup xs | .lst xs => D.pyOkL xs
def D.pyOkL : List D → Bool
  | [] => true
  | x :: xs => D.pyOk x && D.pyOkL xs
end
section
variable {K : PySem.W.Frag} {cl : Cl} {H : Hp} {T : Addr → Prop}
theorem dp_ints : ∀ ns : List Int, DpAll K H (ns.map V.int) (ns.map PyData.int)
  | [] => .nil
  | i :: r => .cons (.int i) (dp_ints r)
mutual
theorem Rp.dp : ∀ {v : V} {d : D}, d.pyOk = true → Rp K cl H T v d → Dp K H v d.toPy
  | _, _, _, .non => .non
  | _, _, _, .bl b => .bl b
  | _, _, _, .int i => .int i
  | _, _, _, .str x => .str x
  | _, _, h, .tup q r => .tup q (RpL.dp (by simpa [D.pyOk] using h) r)
  | _, _, h, .lst q _ r => .lst (.of q) (RpL.dp (by simpa [D.pyOk] using h) r)
  | _, _, _, .scr q => .lst q.seq (dp_ints _)
  | _, _, h, .dic _ _ _ _ => by simp [D.pyOk] at h
  | _, _, h, .obj _ _ _ _ _ => by simp [D.pyOk] at h
theorem RpL.dp : ∀ {v : List V} {d : List D}, D.pyOkL d = true → RpL K cl H T v d → DpAll K H v (D.toPyL d)
  | _, _, _, .nil => .nil
  | _, _, h, .cons q r => by
    simp only [D.pyOkL, Bool.and_eq_true] at h
    exact .cons (Rp.dp h.1 q) (RpL.dp h.2 r)
end
end
def D.eqOk (d : D) : Bool := d.pyOk && SeqAt.shaped d.toPy
def D.eq (a b : D) : Option Bool := match a, b with
  | .int i, .int j => some (i == j)
  | .str x, .str y => some (x == y)
  | a, b => if a.eqOk && b.eqOk then some (PyData.eqv a.toPy b.toPy) else none

/-! ### arithmetic -/
def mulOk (i j : Int) : Bool := decide (-(2 ^ 64) < i ∧ i < 2 ^ 64) || decide (-(2 ^ 64) < j ∧ j < 2 ^ 64) || decide (i.natAbs.log2 + j.natAbs.log2 < 1000000)
def dAdd : List D → Option D
  | [.int i, .int j] => some (.int (i + j))
  | [.int i, .bl b] => some (.int (i + b2i b))
  | [.str a, .str b] => if a.length + b.length ≤ SZ then some (.str (a ++ b)) else none
  | [.tup a, .tup b] => if a.length + b.length ≤ SZ then some (.tup (a ++ b)) else none
  | [.lst a, .lst b] => if a.length + b.length ≤ SZ then some (.lst (a ++ b)) else none
  | _ => none
def dSub : List D → Option D
  | [.int i, .int j] => some (.int (i - j))
  | _ => none
def repL (k : Int) (a : List D) : List D := (List.replicate k.toNat a).flatten
def dMul : List D → Option D
  | [.int i, .int j] => if mulOk i j then some (.int (i * j)) else none
  | [.lst a, .int k] => if -(2 ^ 63) ≤ k ∧ k < 2 ^ 63 ∧ a.length * k.toNat ≤ SZ then some (.lst (repL k a)) else none
  | [.tup a, .int k] => if a ≠ [] ∧ 2 ≤ k ∧ k ≤ 1000 ∧ a.length ≤ 1000 then some (.tup (repL k a)) else none
  | _ => none
def dFdiv : List D → Option D
  | [.int i, .int j] => if 0 < j ∧ j < 1073741824 then some (.int (i / j)) else if j ≠ 0 ∧ j.natAbs < 1073741824 then some (.int (i.fdiv j)) else if 0 < j ∧ j.natAbs.log2 < 9000 then some (.int (i / j)) else none
  | _ => none
def dMod : List D → Option D
  | [.int i, .int j] => if 0 < j then some (.int (i % j)) else if j ≠ 0 then some (.int (i.fmod j)) else none
  | _ => none
def dPow : List D → Option D
  | [.int i, .int j] => if 0 ≤ j ∧ (Builtin.Int.intBits i : Int) * j ≤ 2 ^ 27 then some (.int (i ^ j.toNat)) else none
  | _ => none
def dShl : List D → Option D
  | [.int i, .int j] => if 0 ≤ j ∧ (Builtin.Int.intBits i : Int) + j ≤ 2 ^ 27 then some (.int (i * 2 ^ j.toNat)) else none
  | _ => none
def dNeg : List D → Option D
  | [.int i] => some (.int (-i))
  | _ => none
theorem mulOk_ok {i j : Int} (h : mulOk i j = true) : IntMulOk i j := by
  unfold mulOk at h
  simp only [Bool.or_eq_true, decide_eq_true_eq] at h
  rcases h with (h | h) | h
  · exact CMul.ok (.inl h)
  · exact CMul.ok (.inr h)
  · exact CMulW.ok h
theorem op_mulA {X : Cx} : OpR X (binaryOp .Mult) (rI (fun i j => mulOk i j = true) fun i j => .int (i * j)) := opI fun _ _ _ _ _ _ _ hc q => mul_int q (mulOk_ok hc)
theorem op_powA {X : Cx} : OpR X (binaryOp .Pow) (rI (fun i j => 0 ≤ j ∧ (Builtin.Int.intBits i : Int) * j ≤ 2 ^ 27) fun i j => .int (i ^ j.toNat)) := opI fun _ _ _ _ _ _ _ hc q => PyProof.Rows.pow_int hc.1 hc.2 q
section
variable {S : Sx}
/-- an operation whose answer is a scalar -/
theorem prim_op1 {rd : Cx → List V → Hp → VK → Prop} {p : List D → Option D} {mr : Mode}
    (h : ∀ (X : Cx), Fit S X → ∀ (H : Hp) (T : Addr → Prop) (v : V) (d r : D) (Q : VK), Rp X.K (clX X.mg) H T v d → p [d] = some r → (∀ u, (∀ U, Rp X.K (clX X.mg) H U u r) → r.imm = true → Q u H) → rd X [v] H Q) : PrimOk S [.rd] mr (fun ds => match ds with | [d] => p [d] | _ => none) rd := by
  refine PrimOk.plain fun X fit A fp tmp σ H ρ F vs ds d Q I r ed hq => ?_
  obtain ⟨v, d1, e1, e2, r1⟩ := r.one
  subst e1 e2
  exact h X fit H _ v d1 d Q (r1.rdP I) ed fun u hu hi => hq u (fun _ => False) hi (hu _)
theorem prim_op2 {rd : Cx → List V → Hp → VK → Prop} {p : List D → Option D} {mr : Mode}
    (h : ∀ (X : Cx), Fit S X → ∀ (H : Hp) (T : Addr → Prop) (v w : V) (d e r : D) (Q : VK), Rp X.K (clX X.mg) H T v d → Rp X.K (clX X.mg) H T w e → p [d, e] = some r → (∀ u, (∀ U, Rp X.K (clX X.mg) H U u r) → r.imm = true → Q u H) → rd X [v, w] H Q) : PrimOk S [.rd, .rd] mr (fun ds => match ds with | [d, e] => p [d, e] | _ => none) rd := by
  refine PrimOk.plain fun X fit A fp tmp σ H ρ F vs ds d Q I r ed hq => ?_
  obtain ⟨v, w, d1, d2, G, G', rfl, rfl, rfl, _, r1, r2⟩ := r.two
  exact h X fit H _ v w d1 d2 d Q (r1.rdP I) (r2.rdP I) ed fun u hu hi => hq u (fun _ => False) hi (hu _)
/-- two arguments, the second a container's items shared -/
theorem newL {X : Cx} {κ : List Kd} {A : Gd} {fp : Nat → List Addr} {tmp : Addr → Prop} {σ : L2.St} {H : Hp} {ρ : List D} {Q : VK} {F : List Addr} {vs : List V} {ds : List D} (I : SI X.K (clX X.mg) κ A fp (tF tmp F) σ H ρ) (nt : ∀ b ∈ F, ¬ tmp b)
    (hq : ∀ v H' F', SI X.K (clX X.mg) κ A fp (tF tmp F') σ H' ρ → Stp κ fp (tF tmp F) H ρ fp (tF tmp F') H' ρ → (∀ b ∈ F', H b = none) → Res X.K (clX X.mg) κ A fp (tF tmp F') H' F' v (.lst ds) (.val 1) → Q v H')
    (r : RpL X.K (clX X.mg) H (Sh A fp (tF tmp F)) vs ds) (p : Addr) (hp : H p = none) : Q (.ref p) (upd H p (.lst vs)) := by
  have np : ¬ tmp p := fun z => I.fa p (.inr (.inl z)) hp
  have nf : ∀ i, p ∉ fp i := fun i z => I.fa p (.inl ⟨i, z⟩) hp
  have I2 : SI X.K (clX X.mg) κ A fp (tF tmp [p]) σ (upd H p (.lst vs)) ρ := I.new hp fun b q => q.elim (fun z => .inl (.inl z)) fun z => .inr (by simpa using z)
  refine hq (.ref p) _ [p] I2 ((Stp.refl).new hp fun b q => q.elim (fun z => .inl (.inl z)) fun z => .inr (by simpa using z)) (fun b hb => by rw [show b = p by simpa using hb]; exact hp) ?_
  refine ⟨by simp, fun b hb => ?_, ?_⟩
  · have e : b = p := by simpa using hb
    subst e
    exact ⟨.inr (by simp), I.an _ hp⟩
  · refine .lst upd_same (RpL.own (r.ext (P := fun _ => False) (Ext.new hp) fun b s n => ⟨⟨s.1, fun z => ?_⟩, fun z => z⟩))
    rcases z with z | z | z
    · exact s.2 (.inl z)
    · exact s.2 (.inr (.inl z))
    · have e : b = p := by simpa using z
      subst e
      exact n hp
theorem newTu {X : Cx} {κ : List Kd} {A : Gd} {fp : Nat → List Addr} {tmp : Addr → Prop} {σ : L2.St} {H : Hp} {ρ : List D} {Q : VK} {F : List Addr} {vs : List V} {ds : List D} {k : Nat} (I : SI X.K (clX X.mg) κ A fp (tF tmp F) σ H ρ)
    (hq : ∀ v H' F', SI X.K (clX X.mg) κ A fp (tF tmp F') σ H' ρ → Stp κ fp (tF tmp F) H ρ fp (tF tmp F') H' ρ → (∀ b ∈ F', H b = none) → Res X.K (clX X.mg) κ A fp (tF tmp F') H' F' v (.tup ds) (.val k) → Q v H')
    (r : RpL X.K (clX X.mg) H (Sh A fp (tF tmp F)) vs ds) (p : Addr) (hp : H p = none) : Q (.ref p) (upd H p (.tup vs)) := by
  have I2 : SI X.K (clX X.mg) κ A fp (tF tmp []) σ (upd H p (.tup vs)) ρ := I.new hp fun b q => q.elim (fun z => .inl (.inl z)) fun z => by cases z
  refine hq (.ref p) _ [] I2 ((Stp.refl).new hp fun b q => q.elim (fun z => .inl (.inl z)) fun z => by cases z) emp ?_
  refine .newT hp (r.ext (P := fun _ => False) Ext.refl fun b s n => ⟨⟨s.1, fun z => ?_⟩, fun z => z⟩)
  rcases z with z | z | z
  · exact s.2 (.inl z)
  · exact s.2 (.inr (.inl z))
  · cases z
/-- the same value handed on: an immutable one -/
theorem same {X : Cx} {κ : List Kd} {A : Gd} {fp : Nat → List Addr} {tmp : Addr → Prop} {σ : L2.St} {H : Hp} {ρ : List D} {Q : VK} {F : List Addr} {v : V} {d : D} {m : Mode} {T : Addr → Prop} (I : SI X.K (clX X.mg) κ A fp (tF tmp F) σ H ρ)
    (hq : ∀ v H' F', SI X.K (clX X.mg) κ A fp (tF tmp F') σ H' ρ → Stp κ fp (tF tmp F) H ρ fp (tF tmp F') H' ρ → (∀ b ∈ F', H b = none) → Res X.K (clX X.mg) κ A fp (tF tmp F') H' F' v d m → Q v H')
    (hi : d.imm = true) (r : Rp X.K (clX X.mg) H T v d) : Q v H :=
  hq v H [] (I.drop fun b q => q.elim .inl fun z => emp' z) ((Stp.refl).drop fun b q => q.elim .inl fun z => emp' z) emp (.imm hi r)
theorem sameT {X : Cx} {κ : List Kd} {A : Gd} {fp : Nat → List Addr} {tmp : Addr → Prop} {σ : L2.St} {H : Hp} {ρ : List D} {Q : VK} {F : List Addr} {v : V} {ds : List D} {k : Nat} (I : SI X.K (clX X.mg) κ A fp (tF tmp F) σ H ρ)
    (hq : ∀ v H' F', SI X.K (clX X.mg) κ A fp (tF tmp F') σ H' ρ → Stp κ fp (tF tmp F) H ρ fp (tF tmp F') H' ρ → (∀ b ∈ F', H b = none) → Res X.K (clX X.mg) κ A fp (tF tmp F') H' F' v (.tup ds) (.val k) → Q v H')
    (r : Rp X.K (clX X.mg) H (Sh A fp (tF tmp F)) v (.tup ds)) : Q v H :=
  hq v H [] (I.drop fun b q => q.elim .inl fun z => emp' z) ((Stp.refl).drop fun b q => q.elim .inl fun z => emp' z) emp
    ⟨List.nodup_nil, emp, .fr (r.ext (P := fun _ => False) Ext.refl fun b s _ => ⟨⟨s.1, fun z => s.2 (z.imp id fun q => q.elim .inl fun z => emp' z)⟩, fun z => z⟩) (.inr rfl)⟩
theorem ok_add : PrimOk S [.el, .el] (.val 1) dAdd (rdBin .Add) := by
  intro X fit A fp tmp σ H ρ F vs ds d Q I nt r ed hq
  obtain ⟨v, w, d1, d2, G, G', rfl, rfl, rfl, _, ⟨rfl, r1⟩, ⟨rfl, r2⟩⟩ := r.two
  refine ⟨v, w, rfl, ?_⟩
  cases d1 <;> cases d2 <;> simp only [dAdd, reduceCtorEq] at ed
  case int.bl i b =>
    cases ed
    have e1 := r1.i; have e2 := r2.b; subst e1 e2
    exact ⟨_, op_add_ib, i, b, rfl, rfl, same I hq rfl (Rp.int (S := fun _ => False) _)⟩
  case int.int i j =>
    cases ed
    have e1 := r1.i; have e2 := r2.i; subst e1 e2
    exact ⟨_, op_add, i, j, rfl, rfl, same I hq rfl (Rp.int (S := fun _ => False) _)⟩
  case str.str a b =>
    split at ed
    · rename_i hz
      cases ed
      have e1 := r1.s; have e2 := r2.s; subst e1 e2
      exact ⟨_, op_add_str, a, b, rfl, rfl, sz_le hz, same I hq rfl (Rp.str (S := fun _ => False) _)⟩
    · cases ed
  case tup.tup a b =>
    split at ed
    · rename_i hz
      cases ed
      obtain ⟨p, xs, rfl, h1, q1⟩ := r1.t
      obtain ⟨p2, ys, rfl, h2, q2⟩ := r2.t
      refine ⟨_, op_catA, p, p2, xs, ys, rfl, rfl, h1, h2, sz_le (by rw [q1.length, q2.length]; exact hz), fun e => ?_, fun e1 e2 => ?_, fun _ _ q hq' => newTu I hq (q1.append q2) q hq'⟩
      · subst e
        cases q1
        exact sameT I hq (.tup h2 q2)
      · subst e2
        cases q2
        have e : a ++ ([] : List D) = a := List.append_nil a
        rw [e] at hq
        exact sameT I hq (.tup h1 q1)
    · cases ed
  case lst.lst a b =>
    split at ed
    · rename_i hz
      cases ed
      obtain ⟨p, xs, rfl, h1, q1⟩ := r1.l
      obtain ⟨p2, ys, rfl, h2, q2⟩ := r2.l
      exact ⟨_, op_cat, p, p2, xs, ys, rfl, rfl, h1, h2, sz_le (by rw [q1.length, q2.length]; exact hz), fun q hq' => newL I nt hq (q1.append q2) q hq'⟩
    · cases ed
end
end VS

set_option Elab.async false
set_option linter.all false
set_option maxRecDepth 100000
set_option maxHeartbeats 4000000
/-! VS7: more operations on values. -/
namespace VS
open PySem PySem.Spec PyProof.Rows L2
section
variable {S : Sx}
abbrev pk1 (p : List D → Option D) : List D → Option D := fun ds => match ds with | [d] => p [d] | _ => none
abbrev pk2 (p : List D → Option D) : List D → Option D := fun ds => match ds with | [d, e] => p [d, e] | _ => none
theorem rI' {X : Cx} {H : Hp} {i : Int} : ∀ U, Rp X.K (clX X.mg) H U (.int i) (.int i) := fun _ => .int i
theorem rB' {X : Cx} {H : Hp} {i : Bool} : ∀ U, Rp X.K (clX X.mg) H U (.bl i) (.bl i) := fun _ => .bl i
theorem rS' {X : Cx} {H : Hp} {i : Str} : ∀ U, Rp X.K (clX X.mg) H U (.str i) (.str i) := fun _ => .str i
theorem ok_sub {mr : Mode} : PrimOk S [.rd, .rd] mr (pk2 dSub) (rdBin .Sub) := prim_op2 fun X fit H T v w d e r Q r1 r2 ed hq => by
  cases d <;> cases e <;> simp only [dSub, reduceCtorEq] at ed
  case int.int i j =>
    cases ed
    have e1 := r1.i; have e2 := r2.i; subst e1 e2
    exact ⟨_, _, rfl, _, op_sub, i, j, rfl, rfl, hq _ rI' rfl⟩
theorem ok_fdiv {mr : Mode} : PrimOk S [.rd, .rd] mr (pk2 dFdiv) (rdBin .FloorDiv) := prim_op2 fun X fit H T v w d e r Q r1 r2 ed hq => by
  cases d <;> cases e <;> simp only [dFdiv, reduceCtorEq] at ed
  case int.int i j =>
    have e1 := r1.i; have e2 := r2.i; subst e1 e2
    split at ed
    · rename_i h; cases ed
      exact ⟨_, _, rfl, _, op_fdiv, i, j, rfl, rfl, h, hq _ rI' rfl⟩
    · split at ed
      · rename_i h; cases ed
        exact ⟨_, _, rfl, _, op_fdivN, i, j, rfl, rfl, h, hq _ rI' rfl⟩
      · split at ed
        · rename_i h; cases ed
          exact ⟨_, _, rfl, _, op_fdivW, i, j, rfl, rfl, h, hq _ rI' rfl⟩
        · cases ed
theorem ok_mod {mr : Mode} : PrimOk S [.rd, .rd] mr (pk2 dMod) (rdBin .Mod) := prim_op2 fun X fit H T v w d e r Q r1 r2 ed hq => by
  cases d <;> cases e <;> simp only [dMod, reduceCtorEq] at ed
  case int.int i j =>
    have e1 := r1.i; have e2 := r2.i; subst e1 e2
    split at ed
    · rename_i h; cases ed
      exact ⟨_, _, rfl, _, op_mod, i, j, rfl, rfl, h, hq _ rI' rfl⟩
    · split at ed
      · rename_i h; cases ed
        exact ⟨_, _, rfl, _, op_modN, i, j, rfl, rfl, h, hq _ rI' rfl⟩
      · cases ed
theorem ok_pow {mr : Mode} : PrimOk S [.rd, .rd] mr (pk2 dPow) (rdBin .Pow) := prim_op2 fun X fit H T v w d e r Q r1 r2 ed hq => by
  cases d <;> cases e <;> simp only [dPow, reduceCtorEq] at ed
  case int.int i j =>
    have e1 := r1.i; have e2 := r2.i; subst e1 e2
    split at ed
    · rename_i h; cases ed
      exact ⟨_, _, rfl, _, op_powA, i, j, rfl, rfl, h, hq _ rI' rfl⟩
    · cases ed
theorem ok_shl {mr : Mode} : PrimOk S [.rd, .rd] mr (pk2 dShl) (rdBin .LShift) := prim_op2 fun X fit H T v w d e r Q r1 r2 ed hq => by
  cases d <;> cases e <;> simp only [dShl, reduceCtorEq] at ed
  case int.int i j =>
    have e1 := r1.i; have e2 := r2.i; subst e1 e2
    split at ed
    · rename_i h; cases ed
      exact ⟨_, _, rfl, _, op_shlW, i, j, rfl, rfl, h, hq _ rI' rfl⟩
    · cases ed
theorem ok_neg {mr : Mode} : PrimOk S [.rd] mr (pk1 dNeg) (rdUn .USub) := prim_op1 fun X fit H T v d r Q r1 ed hq => by
  cases d <;> simp only [dNeg, reduceCtorEq] at ed
  case int i =>
    cases ed
    have e1 := r1.i; subst e1
    exact ⟨_, rfl, _, un_neg, i, rfl, hq _ rI' rfl⟩
theorem rep_len {α : Type} (k : Nat) (a : List α) : (List.replicate k a).flatten.length = k * a.length := by simp
theorem RpL.rep {K : PySem.W.Frag} {cl : Cl} {H : Hp} {T : Addr → Prop} {vs : List V} {ds : List D} (h : RpL K cl H T vs ds) : ∀ k : Nat, RpL K cl H T (List.replicate k vs).flatten (List.replicate k ds).flatten
  | 0 => .nil
  | k + 1 => by simp only [List.replicate_succ, List.flatten_cons]; exact h.append (RpL.rep h k)
theorem ok_mul : PrimOk S [.el, .el] (.val 1) dMul (rdBin .Mult) := by
  intro X fit A fp tmp σ H ρ F vs ds d Q I nt r ed hq
  obtain ⟨v, w, d1, d2, G, G', rfl, rfl, rfl, _, ⟨rfl, r1⟩, ⟨rfl, r2⟩⟩ := r.two
  refine ⟨v, w, rfl, ?_⟩
  cases d1 <;> cases d2 <;> simp only [dMul, reduceCtorEq] at ed
  case int.int i j =>
    split at ed
    · rename_i h; cases ed
      have e1 := r1.i; have e2 := r2.i; subst e1 e2
      exact ⟨_, op_mulA, i, j, rfl, rfl, h, same I hq rfl (Rp.int (S := fun _ => False) _)⟩
    · cases ed
  case lst.int a k =>
    split at ed
    · rename_i h; cases ed
      obtain ⟨p, xs, rfl, h1, q1⟩ := r1.l
      have e2 := r2.i; subst e2
      exact ⟨_, op_rep, p, k, xs, rfl, rfl, h1, h.1, h.2.1, sz_le (by rw [q1.length]; exact h.2.2), fun q hq' => newL I nt hq (q1.rep _) q hq'⟩
    · cases ed
  case tup.int a k =>
    split at ed
    · rename_i h; cases ed
      obtain ⟨p, xs, rfl, h1, q1⟩ := r1.t
      have e2 := r2.i; subst e2
      have hl := q1.length
      refine ⟨_, op_repT, p, k, xs, rfl, rfl, h1, fun z => h.1 ?_, h.2.1, h.2.2.1, by rw [hl]; exact h.2.2.2, fun q hq' => newTu I hq (q1.rep _) q hq'⟩
      rw [z] at hl
      exact List.eq_nil_of_length_eq_zero hl.symm
    · cases ed

/-! ### comparisons -/
def dLt : List D → Option D
  | [.int i, .int j] => some (.bl (decide (i < j)))
  | [.str i, .str j] => some (.bl (decide (i.cps.toList < j.cps.toList)))
  | _ => none
def dLe : List D → Option D
  | [.int i, .int j] => some (.bl (decide (i ≤ j)))
  | _ => none
def dGt : List D → Option D
  | [.int i, .int j] => some (.bl (decide (j < i)))
  | _ => none
def dGe : List D → Option D
  | [.int i, .int j] => some (.bl (decide (j ≤ i)))
  | _ => none
def dEq : List D → Option D
  | [a, b] => (D.eq a b).map .bl
  | _ => none
def dNe : List D → Option D
  | [a, b] => (D.eq a b).map fun x => .bl (!x)
  | _ => none
def D.isNon : D → Bool
  | .non => true
  | _ => false
def dIsN : List D → Option D
  | [a, .non] => some (.bl a.isNon)
  | _ => none
def dNotN : List D → Option D
  | [a, .non] => some (.bl (!a.isNon))
  | _ => none
theorem ok_lt {mr : Mode} : PrimOk S [.rd, .rd] mr (pk2 dLt) (rdCmp .Lt) := prim_op2 fun X fit H T v w d e r Q r1 r2 ed hq => by
  cases d <;> cases e <;> simp only [dLt, reduceCtorEq] at ed
  case int.int i j =>
    cases ed
    have e1 := r1.i; have e2 := r2.i; subst e1 e2
    exact ⟨_, _, rfl, _, op_lt, i, j, rfl, rfl, hq _ rB' rfl⟩
  case str.str i j =>
    cases ed
    have e1 := r1.s; have e2 := r2.s; subst e1 e2
    exact ⟨_, _, rfl, _, op_lt_str, i, j, rfl, rfl, hq _ rB' rfl⟩
theorem ok_le {mr : Mode} : PrimOk S [.rd, .rd] mr (pk2 dLe) (rdCmp .LtE) := prim_op2 fun X fit H T v w d e r Q r1 r2 ed hq => by
  cases d <;> cases e <;> simp only [dLe, reduceCtorEq] at ed
  case int.int i j =>
    cases ed
    have e1 := r1.i; have e2 := r2.i; subst e1 e2
    exact ⟨_, _, rfl, _, op_le, i, j, rfl, rfl, hq _ rB' rfl⟩
theorem ok_gt {mr : Mode} : PrimOk S [.rd, .rd] mr (pk2 dGt) (rdCmp .Gt) := prim_op2 fun X fit H T v w d e r Q r1 r2 ed hq => by
  cases d <;> cases e <;> simp only [dGt, reduceCtorEq] at ed
  case int.int i j =>
    cases ed
    have e1 := r1.i; have e2 := r2.i; subst e1 e2
    exact ⟨_, _, rfl, _, op_gt, i, j, rfl, rfl, hq _ rB' rfl⟩
theorem ok_ge {mr : Mode} : PrimOk S [.rd, .rd] mr (pk2 dGe) (rdCmp .GtE) := prim_op2 fun X fit H T v w d e r Q r1 r2 ed hq => by
  cases d <;> cases e <;> simp only [dGe, reduceCtorEq] at ed
  case int.int i j =>
    cases ed
    have e1 := r1.i; have e2 := r2.i; subst e1 e2
    exact ⟨_, _, rfl, _, op_ge, i, j, rfl, rfl, hq _ rB' rfl⟩
theorem D.eq_cases {a b : D} {r : Bool} (h : D.eq a b = some r) : (∃ i j, a = .int i ∧ b = .int j ∧ r = (i == j)) ∨ (∃ x y, a = .str x ∧ b = .str y ∧ r = (x == y)) ∨ (a.pyOk = true ∧ b.pyOk = true ∧ SeqAt.shaped a.toPy = true ∧ SeqAt.shaped b.toPy = true ∧ r = PyData.eqv a.toPy b.toPy) := by
  unfold D.eq at h
  split at h
  · exact .inl ⟨_, _, rfl, rfl, (Option.some.inj h).symm⟩
  · exact .inr (.inl ⟨_, _, rfl, rfl, (Option.some.inj h).symm⟩)
  · split at h
    · rename_i hh
      simp only [D.eqOk, Bool.and_eq_true] at hh
      exact .inr (.inr ⟨hh.1.1, hh.2.1, hh.1.2, hh.2.2, (Option.some.inj h).symm⟩)
    · cases h
theorem ok_eq {mr : Mode} : PrimOk S [.rd, .rd] mr (pk2 dEq) (rdCmp .Eq) := prim_op2 fun X fit H T v w d e r Q r1 r2 ed hq => by
  obtain ⟨b, eb, rfl⟩ : ∃ b, D.eq d e = some b ∧ r = .bl b := by
    simp only [dEq] at ed
    cases q : D.eq d e with
    | none => rw [q] at ed; cases ed
    | some b => rw [q] at ed; cases ed; exact ⟨b, rfl, rfl⟩
  rcases D.eq_cases eb with ⟨i, j, rfl, rfl, rfl⟩ | ⟨i, j, rfl, rfl, rfl⟩ | ⟨h1, h2, h3, h4, rfl⟩
  · have e1 := r1.i; have e2 := r2.i; subst e1 e2
    exact ⟨_, _, rfl, _, op_eq, rfl, by rw [dec_int]; exact hq _ rB' rfl⟩
  · have e1 := r1.s; have e2 := r2.s; subst e1 e2
    exact ⟨_, _, rfl, _, op_eq, rfl, by rw [dec_str]; exact hq _ rB' rfl⟩
  · exact ⟨_, _, rfl, _, op_eqD fit.room.units, _, _, r1.dp h1, r2.dp h2, h3, h4, hq _ rB' rfl⟩
theorem ok_ne {mr : Mode} : PrimOk S [.rd, .rd] mr (pk2 dNe) (rdCmp .NotEq) := prim_op2 fun X fit H T v w d e r Q r1 r2 ed hq => by
  obtain ⟨b, eb, rfl⟩ : ∃ b, D.eq d e = some b ∧ r = .bl (!b) := by
    simp only [dNe] at ed
    cases q : D.eq d e with
    | none => rw [q] at ed; cases ed
    | some b => rw [q] at ed; cases ed; exact ⟨b, rfl, rfl⟩
  rcases D.eq_cases eb with ⟨i, j, rfl, rfl, rfl⟩ | ⟨i, j, rfl, rfl, rfl⟩ | ⟨h1, h2, h3, h4, rfl⟩
  · have e1 := r1.i; have e2 := r2.i; subst e1 e2
    exact ⟨_, _, rfl, _, op_ne, rfl, by rw [dec_int]; exact hq _ rB' rfl⟩
  · have e1 := r1.s; have e2 := r2.s; subst e1 e2
    exact ⟨_, _, rfl, _, op_ne, rfl, by rw [dec_str]; exact hq _ rB' rfl⟩
  · exact ⟨_, _, rfl, _, op_neD fit.room.units, _, _, r1.dp h1, r2.dp h2, h3, h4, hq _ rB' rfl⟩
theorem Rp.isNon {K : PySem.W.Frag} {cl : Cl} {H : Hp} {T : Addr → Prop} {v : V} {d : D} (h : Rp K cl H T v d) : decide (v = .non) = d.isNon := by cases h <;> simp [D.isNon]
theorem ok_isN {mr : Mode} : PrimOk S [.rd, .rd] mr (pk2 dIsN) (rdCmp .Is) := prim_op2 fun X fit H T v w d e r Q r1 r2 ed hq => by
  cases e <;> simp only [dIsN, reduceCtorEq] at ed
  cases ed
  have e2 := r2.n; subst e2
  exact ⟨_, _, rfl, _, op_isN, rfl, by rw [r1.isNon]; exact hq _ rB' rfl⟩
theorem ok_notN {mr : Mode} : PrimOk S [.rd, .rd] mr (pk2 dNotN) (rdCmp .IsNot) := prim_op2 fun X fit H T v w d e r Q r1 r2 ed hq => by
  cases e <;> simp only [dNotN, reduceCtorEq] at ed
  cases ed
  have e2 := r2.n; subst e2
  exact ⟨_, _, rfl, _, op_notN, rfl, by rw [r1.isNon]; exact hq _ rB' rfl⟩

/-! ### in -/
def D.sc : D → Bool
  | .non | .bl _ | .int _ | .str _ => true
  | _ => false
def D.eqF : D → D → Bool
  | .non, .non => true
  | .bl a, .bl b => a == b
  | .bl a, .int b => (if a then 1 else 0) == b
  | .int a, .bl b => a == (if b then 1 else 0)
  | .int a, .int b => a == b
  | .str a, .str b => a == b
  | _, _ => false
def keyD : D → Option Key
  | .int i => some (.inl i)
  | .str x => some (.inr x)
  | _ => none
def dIn : List D → Option Bool
  | [.str x, .str y] => some (!(Builtin.Str.occurrences y x 0 y.length 1).isEmpty)
  | [x, .tup ys] => if x.sc && ys.all D.sc then some (ys.any fun y => y.eqF x) else none
  | [x, .lst ys] => if x.sc && ys.all D.sc then some (ys.any fun y => y.eqF x) else if x.eqOk && (D.lst ys).eqOk then some ((D.toPyL ys).any fun z => PyData.eqv z x.toPy) else none
  | [x, .dic es] => (keyD x).map fun k => es.any fun e => decide (e.1 = k)
  | _ => none
theorem Rp.flV {K : PySem.W.Frag} {cl : Cl} {H : Hp} {T : Addr → Prop} {v : V} {d : D} (h : Rp K cl H T v d) (hs : d.sc = true) : flatV v = true := by cases h <;> first | rfl | (simp [D.sc] at hs)
theorem RpL.flV {K : PySem.W.Frag} {cl : Cl} {H : Hp} {T : Addr → Prop} : ∀ {v : List V} {d : List D}, RpL K cl H T v d → d.all D.sc = true → v.all flatV = true
  | _, _, .nil, _ => rfl
  | _, _, .cons h r, hs => by
    simp only [List.all_cons, Bool.and_eq_true] at hs ⊢
    exact ⟨h.flV hs.1, r.flV hs.2⟩
theorem eqF_V {K : PySem.W.Frag} {cl : Cl} {H : Hp} {T T' : Addr → Prop} {v w : V} {d e : D} (h : Rp K cl H T v d) (h' : Rp K cl H T' w e) (hs : d.sc = true) (hs' : e.sc = true) : eqV v w = D.eqF d e := by
  cases h <;> first | (simp [D.sc] at hs; done) | (cases h' <;> first | rfl | (simp [D.sc] at hs'; done))
theorem inV_D {K : PySem.W.Frag} {cl : Cl} {H : Hp} {T T' : Addr → Prop} {x : V} {d : D} (h : Rp K cl H T x d) (hs : d.sc = true) : ∀ {vs : List V} {ds : List D}, RpL K cl H T' vs ds → ds.all D.sc = true → inV x vs = ds.any fun y => y.eqF d
  | _, _, .nil, _ => rfl
  | _, _, .cons q r, hs' => by
    simp only [List.all_cons, Bool.and_eq_true] at hs'
    have ih := inV_D h hs r hs'.2
    unfold inV at ih ⊢
    simp only [List.any_cons]
    rw [ih, eqF_V q h hs'.1 hs]
theorem key_any {es : List (Key × D)} {kvs : List (Key × V)} {k : Key} (h : kvs.map (·.1) = es.map (·.1)) : (valV kvs k).isSome = es.any fun e => decide (e.1 = k) := by
  have e1 : (valV kvs k).isSome = (kvs.map (·.1)).any fun a => decide (a = k) := by
    unfold valV
    induction kvs generalizing es with
    | nil => rfl
    | cons p r ih =>
      have ih' := ih (es := es.tail) (by cases es with | nil => cases h | cons a b => simp only [List.map_cons, List.cons.injEq] at h; exact h.2)
      simp only [List.find?_cons, List.map_cons, List.any_cons]
      by_cases hp : p.1 = k
      · simp [hp]
      · simp only [hp, decide_false, Bool.false_or]
        exact ih'
  rw [e1, h, List.any_map]
  rfl
theorem kV_of {K : PySem.W.Frag} {cl : Cl} {H : Hp} {T : Addr → Prop} {v : V} {d : D} {k : Key} (h : Rp K cl H T v d) (hk : keyD d = some k) : v = kV k := by
  cases h <;> simp [keyD] at hk <;> subst hk <;> rfl
end
end VS

set_option Elab.async false
set_option linter.all false
set_option maxRecDepth 100000
set_option maxHeartbeats 4000000
/-! VS8: in; isinstance; len, abs, min, max, sum, int, gcd; tuple(), list(); subscripts. -/
namespace VS
open PySem PySem.Spec PyProof.Rows L2
section
variable {X : Cx}
theorem op_inDic (hu : X.A.units + 1 < cLine) : OpR X (compareOp .In) (fun x y H Q => ∃ a kvs k, y = .ref a ∧ x = kV k ∧ H a = some (.dK kvs) ∧ Q (.bl (valV kvs k).isSome) H) := by
  intro pins s σ H x y v u Q I rx ry h
  obtain ⟨a, kvs, k, rfl, rfl, e, q⟩ := h
  cases ry
  exact d_in hu I (.k e) rx fun s' I' => ⟨.bl _, H, I', rfl, q⟩
theorem op_notInDic (hu : X.A.units + 1 < cLine) : OpR X (compareOp .NotIn) (fun x y H Q => ∃ a kvs k, y = .ref a ∧ x = kV k ∧ H a = some (.dK kvs) ∧ Q (.bl (!(valV kvs k).isSome)) H) := by
  intro pins s σ H x y v u Q I rx ry h
  obtain ⟨a, kvs, k, rfl, rfl, e, q⟩ := h
  cases ry
  exact d_notIn hu I (.k e) rx fun s' I' => ⟨.bl _, H, I', rfl, q⟩
theorem ix_dic (hu : X.A.units + 1 < cLine) : IxR X (fun x y H Q => ∃ a kvs k v, x = .ref a ∧ y = kV k ∧ H a = some (.dK kvs) ∧ valV kvs k = some v ∧ Q v H) := by
  intro value slice pins s σ H x y v u Q I rx ry h hs
  obtain ⟨a, kvs, k, z, rfl, rfl, e, l, q⟩ := h
  cases rx
  exact tail_any (ops := [.ref a, u]) (isD_at I (.inl ⟨kvs, .inl e⟩)).1 PySem.F.slot_dict_getitem.lookup (d_getItem hu I (by have g := DGet.k (k := k) e; rw [l] at g; exact g) ry fun w' s' I' rw' => ⟨z, H, I', rw', q⟩) hs
end
section
variable {S : Sx}
def dInD : List D → Option D := fun ds => (dIn ds).map .bl
def dNotInD : List D → Option D := fun ds => (dIn ds).map fun b => .bl (!b)
theorem in_core {X : Cx} (fit : Fit S X) {H : Hp} {T T' : Addr → Prop} {v w : V} {d e : D} {b : Bool} (r1 : Rp X.K (clX X.mg) H T v d) (r2 : Rp X.K (clX X.mg) H T' w e) (h : dIn [d, e] = some b) :
    (∀ Q : VK, Q (.bl b) H → OpW X (compareOp .In) v w H Q) ∧ (∀ Q : VK, Q (.bl (!b)) H → OpW X (compareOp .NotIn) v w H Q) := by
  have hu1 : X.A.units + 1 < cLine := hu_of fit.room
  have hu65 : X.A.units + 65 < cLine := by have := fit.room.un; omega
  have flat : ∀ {ys : List D} {p : Addr} {vs : List V}, w = .ref p → (SqL X.K H p vs ∨ SqT X.K H p vs) → RpL X.K (clX X.mg) H T' vs ys → d.sc = true → ys.all D.sc = true → b = ys.any (fun y => y.eqF d) →
      (∀ Q : VK, Q (.bl b) H → OpW X (compareOp .In) v w H Q) ∧ (∀ Q : VK, Q (.bl (!b)) H → OpW X (compareOp .NotIn) v w H Q) := by
    intro ys p vs hw hq r hs hss hb
    subst hb
    have e := inV_D r1 hs r hss
    exact ⟨fun Q q => ⟨_, op_in_seq, p, vs, hw, hq, r1.flV hs, r.flV hss, by rw [if_neg Bool.false_ne_true, e]; exact q⟩, fun Q q => ⟨_, op_notIn_seq, p, vs, hw, hq, r1.flV hs, r.flV hss, by rw [if_pos rfl, e]; exact q⟩⟩
  cases e with
  | str y =>
    cases d <;> simp only [dIn, reduceCtorEq, Option.map_eq_some_iff] at h
    case str x =>
      cases h
      have e1 := r1.s; have e2 := r2.s; subst e1 e2
      exact ⟨fun Q q => ⟨_, op_in_str, x, y, rfl, rfl, q⟩, fun Q q => ⟨_, op_notIn_str, x, y, rfl, rfl, q⟩⟩
  | tup ys =>
    have h' : (if d.sc && ys.all D.sc then some (ys.any fun y => y.eqF d) else none) = some b := by cases d <;> exact h
    split at h'
    · rename_i hh
      rw [Bool.and_eq_true] at hh
      obtain ⟨p, vs, e, q, r⟩ := r2.t
      exact flat e (.inr q) r hh.1 hh.2 (Option.some.inj h').symm
    · cases h'
  | lst ys =>
    have h' : (if d.sc && ys.all D.sc then some (ys.any fun y => y.eqF d) else if d.eqOk && (D.lst ys).eqOk then some ((D.toPyL ys).any fun z => PyData.eqv z d.toPy) else none) = some b := by cases d <;> exact h
    split at h'
    · rename_i hh
      rw [Bool.and_eq_true] at hh
      obtain ⟨p, vs, e, q, _, r⟩ := r2.l
      exact flat e (.inl (.of q)) r hh.1 hh.2 (Option.some.inj h').symm
    · split at h'
      · rename_i hh
        simp only [D.eqOk, Bool.and_eq_true] at hh
        cases h'
        have w2 : Dp X.K H w (.list (D.toPyL ys)) := r2.dp hh.2.1
        exact ⟨fun Q q => ⟨_, op_inD hu65, _, _, r1.dp hh.1.1, w2, hh.1.2, hh.2.2, q⟩, fun Q q => ⟨_, op_notInD hu65, _, _, r1.dp hh.1.1, w2, hh.1.2, hh.2.2, q⟩⟩
      · cases h'
  | dic es =>
    have h' : ((keyD d).map fun k => es.any fun e => decide (e.1 = k)) = some b := by cases d <;> exact h
    cases hk : keyD d with
    | none => rw [hk] at h'; cases h'
    | some k =>
      rw [hk] at h'
      cases h'
      obtain ⟨a, kvs, rfl, q, _, ek, _⟩ := r2.d
      have ev := kV_of r1 hk
      subst ev
      exact ⟨fun Q z => ⟨_, op_inDic hu1, a, kvs, k, rfl, rfl, q, by rw [key_any ek]; exact z⟩, fun Q z => ⟨_, op_notInDic hu1, a, kvs, k, rfl, rfl, q, by rw [key_any ek]; exact z⟩⟩
  | un => cases d <;> cases h
  | non => cases d <;> cases h
  | bl _ => cases d <;> cases h
  | int _ => cases d <;> cases h
  | obj _ _ => cases d <;> cases h
  | scr _ => cases d <;> cases h
theorem ok_in {mr : Mode} : PrimOk S [.rd, .rd] mr (pk2 dInD) (rdCmp .In) := prim_op2 fun X fit H T v w d e r Q r1 r2 ed hq => by
  obtain ⟨b, eb, rfl⟩ : ∃ b, dIn [d, e] = some b ∧ .bl b = r := by simpa [dInD] using ed
  exact ⟨_, _, rfl, (in_core fit r1 r2 eb).1 Q (hq _ rB' rfl)⟩
theorem ok_notIn {mr : Mode} : PrimOk S [.rd, .rd] mr (pk2 dNotInD) (rdCmp .NotIn) := prim_op2 fun X fit H T v w d e r Q r1 r2 ed hq => by
  obtain ⟨b, eb, rfl⟩ : ∃ b, dIn [d, e] = some b ∧ .bl (!b) = r := by simpa [dNotInD] using ed
  exact ⟨_, _, rfl, (in_core fit r1 r2 eb).2 Q (hq _ rB' rfl)⟩

/-! ### built-ins -/
abbrev rdFn (id : String) : Cx → List V → Hp → VK → Prop := fun X vs H Q => CalW X (.builtin id) vs H Q
abbrev rdTy (T : String) : Cx → List V → Hp → VK → Prop := fun X vs H Q => CalW X (.type T) vs H Q
def dLen : List D → Option D
  | [.str x] => if x.length ≤ SZ then some (.int x.length) else none
  | [.tup xs] => some (.int xs.length)
  | [.lst xs] => some (.int xs.length)
  | [.scr xs] => some (.int xs.length)
  | [.dic es] => some (.int es.length)
  | _ => none
def dAbs : List D → Option D
  | [.int i] => some (.int (if i < 0 then -i else i))
  | _ => none
def dMax2 : List D → Option D
  | [.int i, .int j] => some (.int (if j > i then j else i))
  | _ => none
def dMin2 : List D → Option D
  | [.int i, .int j] => some (.int (if j < i then j else i))
  | _ => none
def dInt : List D → Option D
  | [.int i] => some (.int i)
  | [.bl b] => some (.int (if b then 1 else 0))
  | _ => none
def dGcd : List D → Option D
  | [.int i, .int j] => some (.int ((Nat.gcd i.natAbs j.natAbs : Nat) : Int))
  | _ => none
def ints? : List D → Option (List Int)
  | [] => some []
  | .int i :: r => (ints? r).map (i :: ·)
  | _ => none
def dSum : List D → Option D
  | [.lst xs] => (ints? xs).map fun ns => .int ns.sum
  | _ => none
def maxI : List Int → Int
  | [] => 0
  | [x] => x
  | x :: r => max x (maxI r)
def minI : List Int → Int
  | [] => 0
  | [x] => x
  | x :: r => min x (minI r)
def dMaxL : List D → Option D
  | [.lst xs] => (ints? xs).bind fun ns => if ns = [] then none else some (.int (maxI ns))
  | _ => none
def dMinL : List D → Option D
  | [.lst xs] => (ints? xs).bind fun ns => if ns = [] then none else some (.int (minI ns))
  | _ => none
theorem ints_V {K : PySem.W.Frag} {cl : Cl} {H : Hp} {T : Addr → Prop} : ∀ {vs : List V} {ds : List D} {ns : List Int}, RpL K cl H T vs ds → ints? ds = some ns → vs = ns.map V.int
  | _, _, _, .nil, h => by cases h; rfl
  | _, _, _, .cons (d := d) q r, h => by
    cases d <;> simp only [ints?, reduceCtorEq, Option.map_eq_some_iff] at h
    obtain ⟨ms, h1, rfl⟩ := h
    rw [q.i, ints_V r h1]
    rfl
theorem maxI_spec : ∀ {ns : List Int} {m : Int}, m ∈ ns → (∀ y ∈ ns, y ≤ m) → maxI ns = m
  | [], _, h, _ => by cases h
  | [x], m, h, _ => by simp at h; exact h.symm
  | x :: y :: r, m, h, hm => by
    show max x (maxI (y :: r)) = m
    have all : ∀ {l : List Int}, l ≠ [] → maxI l ∈ l ∧ ∀ z ∈ l, z ≤ maxI l := by
      intro l
      induction l with
      | nil => intro z; exact absurd rfl z
      | cons a t ih =>
        intro _
        cases t with
        | nil => simp [maxI]
        | cons b t =>
          obtain ⟨i1, i2⟩ := ih (by simp)
          have e : maxI (a :: b :: t) = max a (maxI (b :: t)) := rfl
          rw [e]
          refine ⟨?_, fun z hz => ?_⟩
          · rcases Int.le_total a (maxI (b :: t)) with q | q
            · rw [Int.max_eq_right q]; exact List.mem_cons_of_mem _ i1
            · rw [Int.max_eq_left q]; exact List.mem_cons_self
          · rcases List.mem_cons.mp hz with rfl | hz
            · exact Int.le_max_left _ _
            · exact Int.le_trans (i2 z hz) (Int.le_max_right _ _)
    obtain ⟨a1, a2⟩ := all (l := x :: y :: r) (by simp)
    exact Int.le_antisymm (hm _ a1) (a2 _ h)
theorem minI_spec : ∀ {ns : List Int} {m : Int}, m ∈ ns → (∀ y ∈ ns, m ≤ y) → minI ns = m
  | [], _, h, _ => by cases h
  | [x], m, h, _ => by simp at h; exact h.symm
  | x :: y :: r, m, h, hm => by
    show min x (minI (y :: r)) = m
    have all : ∀ {l : List Int}, l ≠ [] → minI l ∈ l ∧ ∀ z ∈ l, minI l ≤ z := by
      intro l
      induction l with
      | nil => intro z; exact absurd rfl z
      | cons a t ih =>
        intro _
        cases t with
        | nil => simp [minI]
        | cons b t =>
          obtain ⟨i1, i2⟩ := ih (by simp)
          have e : minI (a :: b :: t) = min a (minI (b :: t)) := rfl
          rw [e]
          refine ⟨?_, fun z hz => ?_⟩
          · rcases Int.le_total a (minI (b :: t)) with q | q
            · rw [Int.min_eq_left q]; exact List.mem_cons_self
            · rw [Int.min_eq_right q]; exact List.mem_cons_of_mem _ i1
          · rcases List.mem_cons.mp hz with rfl | hz
            · exact Int.min_le_left _ _
            · exact Int.le_trans (Int.min_le_right _ _) (i2 z hz)
    obtain ⟨a1, a2⟩ := all (l := x :: y :: r) (by simp)
    exact Int.le_antisymm (a2 _ h) (hm _ a1)
theorem ok_len {mr : Mode} : PrimOk S [.rd] mr (pk1 dLen) (rdFn "len") := prim_op1 fun X fit H T v d r Q r1 ed hq => by
  cases d <;> simp only [dLen, reduceCtorEq] at ed
  case str x =>
    split at ed
    · rename_i hz; cases ed
      have e1 := r1.s; subst e1
      exact ⟨_, call_len, _, _, rfl, ⟨sz_le hz, rfl⟩, hq _ rI' rfl⟩
    · cases ed
  case tup xs =>
    cases ed
    obtain ⟨p, vs, rfl, q, r⟩ := r1.t
    exact ⟨_, call_len, _, _, rfl, .inr ⟨vs, q, rfl⟩, by rw [r.length]; exact hq _ rI' rfl⟩
  case lst xs =>
    cases ed
    obtain ⟨p, vs, rfl, q, _, r⟩ := r1.l
    exact ⟨_, call_len, _, _, rfl, .inl ⟨vs, .of q, rfl⟩, by rw [r.length]; exact hq _ rI' rfl⟩
  case scr xs =>
    cases ed
    obtain ⟨p, rfl, q⟩ := Rp.sc r1
    exact ⟨_, call_len, _, _, rfl, .inl ⟨_, q.seq, rfl⟩, by rw [List.length_map]; exact hq _ rI' rfl⟩
  case dic es =>
    cases ed
    obtain ⟨a, kvs, rfl, q, _, ek, _⟩ := r1.d
    exact ⟨_, call_lenD, a, kvs, rfl, q, by rw [show kvs.length = es.length by simpa using congrArg List.length ek]; exact hq _ rI' rfl⟩
theorem ok_abs {mr : Mode} : PrimOk S [.rd] mr (pk1 dAbs) (rdFn "abs") := prim_op1 fun X fit H T v d r Q r1 ed hq => by
  cases d <;> simp only [dAbs, reduceCtorEq] at ed
  case int i => cases ed; have e1 := r1.i; subst e1; exact ⟨_, call_abs, i, rfl, hq _ rI' rfl⟩
theorem ok_int {mr : Mode} : PrimOk S [.rd] mr (pk1 dInt) (rdTy "int") := prim_op1 fun X fit H T v d r Q r1 ed hq => by
  cases d <;> simp only [dInt, reduceCtorEq] at ed
  case int i => cases ed; have e1 := r1.i; subst e1; exact ⟨_, call_int1, .inl ⟨i, rfl, hq _ rI' rfl⟩⟩
  case bl b => cases ed; have e1 := r1.b; subst e1; exact ⟨_, call_int1, .inr ⟨b, rfl, hq _ rI' rfl⟩⟩
theorem ok_max2 {mr : Mode} : PrimOk S [.rd, .rd] mr (pk2 dMax2) (rdFn "max") := prim_op2 fun X fit H T v w d e r Q r1 r2 ed hq => by
  cases d <;> cases e <;> simp only [dMax2, reduceCtorEq] at ed
  case int.int i j => cases ed; have e1 := r1.i; have e2 := r2.i; subst e1 e2; exact ⟨_, call_max2 fit.calm, i, j, rfl, hq _ rI' rfl⟩
theorem ok_min2 {mr : Mode} : PrimOk S [.rd, .rd] mr (pk2 dMin2) (rdFn "min") := prim_op2 fun X fit H T v w d e r Q r1 r2 ed hq => by
  cases d <;> cases e <;> simp only [dMin2, reduceCtorEq] at ed
  case int.int i j => cases ed; have e1 := r1.i; have e2 := r2.i; subst e1 e2; exact ⟨_, call_min2 fit.calm, i, j, rfl, hq _ rI' rfl⟩
theorem ok_gcd {mr : Mode} : PrimOk S [.rd, .rd] mr (pk2 dGcd) (rdFn "math.gcd") := prim_op2 fun X fit H T v w d e r Q r1 r2 ed hq => by
  cases d <;> cases e <;> simp only [dGcd, reduceCtorEq] at ed
  case int.int i j => cases ed; have e1 := r1.i; have e2 := r2.i; subst e1 e2; exact ⟨_, cr_gcd, i, j, rfl, hq _ rI' rfl⟩
theorem ok_sum {mr : Mode} : PrimOk S [.rd] mr (pk1 dSum) (rdFn "sum") := prim_op1 fun X fit H T v d r Q r1 ed hq => by
  cases d <;> simp only [dSum, reduceCtorEq, Option.map_eq_some_iff] at ed
  case lst xs =>
    obtain ⟨ns, h1, rfl⟩ := ed
    obtain ⟨p, vs, rfl, q, _, r⟩ := r1.l
    have e := ints_V r h1
    subst e
    exact ⟨_, cr_sum fit.calm, p, ns, rfl, .of q, hq _ rI' rfl⟩
theorem ok_maxL {mr : Mode} : PrimOk S [.rd] mr (pk1 dMaxL) (rdFn "max") := prim_op1 fun X fit H T v d r Q r1 ed hq => by
  cases d <;> simp only [dMaxL, reduceCtorEq, Option.bind_eq_some_iff] at ed
  case lst xs =>
    obtain ⟨ns, h1, h2⟩ := ed
    split at h2
    · cases h2
    · rename_i hn
      cases h2
      obtain ⟨p, vs, rfl, q, _, r⟩ := r1.l
      have e := ints_V r h1
      subst e
      exact ⟨_, cr_max fit.calm, p, ns, rfl, .of q, List.length_pos_iff.mpr hn, fun m hm hy => by rw [← maxI_spec hm hy]; exact hq _ rI' rfl⟩
theorem ok_minL {mr : Mode} : PrimOk S [.rd] mr (pk1 dMinL) (rdFn "min") := prim_op1 fun X fit H T v d r Q r1 ed hq => by
  cases d <;> simp only [dMinL, reduceCtorEq, Option.bind_eq_some_iff] at ed
  case lst xs =>
    obtain ⟨ns, h1, h2⟩ := ed
    split at h2
    · cases h2
    · rename_i hn
      cases h2
      obtain ⟨p, vs, rfl, q, _, r⟩ := r1.l
      have e := ints_V r h1
      subst e
      exact ⟨_, cr_min fit.calm, p, ns, rfl, .of q, List.length_pos_iff.mpr hn, fun m hm hy => by rw [← minI_spec hm hy]; exact hq _ rI' rfl⟩

/-! ### tuple(), list() -/
def dTuple : List D → Option D
  | [.lst xs] => some (.tup xs)
  | [.tup xs] => some (.tup xs)
  | _ => none
def dList : List D → Option D
  | [.lst xs] => some (.lst xs)
  | [.tup xs] => some (.lst xs)
  | [.dic es] => some (.lst (es.map fun e => match e.1 with | .inl i => .int i | .inr x => .str x))
  | _ => none
theorem ok_tuple {k : Nat} : PrimOk S [.el] (.val k) (pk1 dTuple) (rdTy "tuple") := by
  intro X fit A fp tmp σ H ρ F vs ds d Q I nt r ed hq
  obtain ⟨v, d1, rfl, rfl, ⟨rfl, r1⟩⟩ := r.one
  cases d1 <;> simp only [pk1, dTuple, reduceCtorEq] at ed
  case tup xs =>
    cases ed
    obtain ⟨p, ys, rfl, h1, q1⟩ := r1.t
    exact ⟨_, call_tuple_of, p, ys, rfl, .inr ⟨h1, sameT I hq (.tup h1 q1)⟩⟩
  case lst xs =>
    cases ed
    obtain ⟨p, ys, rfl, h1, q1⟩ := r1.l
    exact ⟨_, call_tuple_of, p, ys, rfl, .inl ⟨.of h1, fun q hq' => newTu I hq q1 q hq'⟩⟩
theorem keys_rp {K : PySem.W.Frag} {cl : Cl} {H : Hp} {T : Addr → Prop} : ∀ {kvs : List (Key × V)} {es : List (Key × D)}, kvs.map (·.1) = es.map (·.1) → RpL K cl H T (kvs.map fun kv => kV kv.1) (es.map fun e => match e.1 with | .inl i => .int i | .inr x => .str x)
  | [], [], _ => .nil
  | [], _ :: _, h => by cases h
  | _ :: _, [], h => by cases h
  | (k, v) :: r, (k', d) :: r', h => by
    simp only [List.map_cons, List.cons.injEq] at h
    obtain ⟨h1, h2⟩ := h
    subst h1
    refine .cons ?_ (keys_rp h2)
    cases k with
    | inl i => exact .int i
    | inr x => exact .str x
theorem ok_list : PrimOk S [.el] (.val 1) (pk1 dList) (rdTy "list") := by
  intro X fit A fp tmp σ H ρ F vs ds d Q I nt r ed hq
  obtain ⟨v, d1, rfl, rfl, ⟨rfl, r1⟩⟩ := r.one
  cases d1 <;> simp only [pk1, dList, reduceCtorEq] at ed
  case tup xs =>
    cases ed
    obtain ⟨p, ys, rfl, h1, q1⟩ := r1.t
    exact ⟨_, call_list_of, p, ys, rfl, .inr h1, fun q hq' => newL I nt hq q1 q hq'⟩
  case lst xs =>
    cases ed
    obtain ⟨p, ys, rfl, h1, q1⟩ := r1.l
    exact ⟨_, call_list_of, p, ys, rfl, .inl (.of h1), fun q hq' => newL I nt hq q1 q hq'⟩
  case dic es =>
    cases ed
    have r2 : ∃ p kvs, v = .ref p ∧ H p = some (.dK kvs) ∧ kvs.map (·.1) = es.map (·.1) := by
      cases r1 with
      | sh h => obtain ⟨a, kvs, e, q, _, ek, _⟩ := h.d; exact ⟨a, kvs, e, q, ek⟩
      | dic q _ ek _ => exact ⟨_, _, rfl, q, ek⟩
    obtain ⟨p, kvs, rfl, q, ek⟩ := r2
    exact ⟨_, call_list_dK fit.calm, p, kvs, rfl, q, fun z hz => newL I nt hq (keys_rp ek) z hz⟩

/-! ### subscripts -/
def valD (es : List (Key × D)) (k : Key) : Option D := (es.find? fun e => decide (e.1 = k)).map (·.2)
def dIx : List D → Option D
  | [.tup xs, .int i] => atI xs i
  | [.lst xs, .int i] => atI xs i
  | [.scr ns, .int i] => (atI ns i).map .int
  | [.str z, .int i] => if z.length ≤ SZ then (atI z.cps.toList i).map fun c => .str ⟨#[c]⟩ else none
  | [.dic es, k] => (keyD k).bind (valD es)
  | _ => none
theorem RpL.atI {K : PySem.W.Frag} {cl : Cl} {H : Hp} {T : Addr → Prop} {vs : List V} {ds : List D} {i : Int} {d : D} (r : RpL K cl H T vs ds) (h : atI ds i = some d) : ∃ v, L2.atI vs i = some v ∧ Rp K cl H T v d := by
  unfold L2.atI at h ⊢
  rw [r.length]
  cases q : ixN ds.length i with
  | none => rw [q] at h; cases h
  | some j =>
    rw [q] at h
    exact r.get h
theorem valD_V {K : PySem.W.Frag} {cl : Cl} {H : Hp} {T : Addr → Prop} {k : Key} {d : D} : ∀ {kvs : List (Key × V)} {es : List (Key × D)}, kvs.map (·.1) = es.map (·.1) → RpL K cl H T (kvs.map (·.2)) (es.map (·.2)) → valD es k = some d → ∃ v, valV kvs k = some v ∧ Rp K cl H T v d
  | [], [], _, _, h => by cases h
  | [], _ :: _, h, _, _ => by cases h
  | _ :: _, [], h, _, _ => by cases h
  | (k1, v) :: r, (k2, e) :: r', h, q, hv => by
    simp only [List.map_cons, List.cons.injEq] at h
    obtain ⟨h1, h2⟩ := h
    subst h1
    cases q with
    | cons q1 q2 =>
      unfold valD at hv
      simp only [List.find?_cons] at hv
      by_cases hk : k1 = k
      · subst hk
        simp only [decide_true] at hv
        cases hv
        exact ⟨v, valV_pos rfl, q1⟩
      · simp only [hk, decide_false] at hv
        obtain ⟨w, a, b⟩ := valD_V h2 q2 hv
        exact ⟨w, by rw [valV_neg hk]; exact a, b⟩
/-- an item: as it may be read -/
theorem ix_core {X : Cx} (fit : Fit S X) {H : Hp} {T T' : Addr → Prop} {v w : V} {d e r : D} {Q : VK} (r1 : Rp X.K (clX X.mg) H T v d) (r2 : Rp X.K (clX X.mg) H T' w e) (h : dIx [d, e] = some r) (hq : ∀ u, Rp X.K (clX X.mg) H T u r → Q u H) : IxW X v w H Q := by
  cases d with
  | tup xs =>
    cases e <;> simp only [dIx, reduceCtorEq] at h
    have e2 := r2.i; subst e2
    obtain ⟨p, vs, rfl, q, rl⟩ := r1.t
    obtain ⟨u, hu, ru⟩ := rl.atI h
    exact ⟨_, ix_tup, p, vs, _, u, rfl, rfl, q, hu, hq u ru⟩
  | lst xs =>
    cases e <;> simp only [dIx, reduceCtorEq] at h
    have e2 := r2.i; subst e2
    obtain ⟨p, vs, rfl, q, _, rl⟩ := r1.l
    obtain ⟨u, hu, ru⟩ := rl.atI h
    exact ⟨_, ix_list, p, vs, _, u, rfl, rfl, .of q, hu, hq u ru⟩
  | scr ns =>
    cases e <;> simp only [dIx, reduceCtorEq, Option.map_eq_some_iff] at h
    have e2 := r2.i; subst e2
    obtain ⟨n, hn, rfl⟩ := h
    obtain ⟨p, rfl, q⟩ := Rp.sc r1
    refine ⟨_, ix_list, p, _, _, .int n, rfl, rfl, q.seq, ?_, hq _ (.int n)⟩
    unfold L2.atI at hn ⊢
    rw [List.length_map]
    cases z : ixN ns.length _ with
    | none => rw [z] at hn; cases hn
    | some j =>
      rw [z] at hn
      show (ns.map V.int)[j]? = _
      rw [List.getElem?_map]
      have hn' : ns[j]? = some n := hn
      rw [hn']
      rfl
  | str z =>
    cases e <;> simp only [dIx, reduceCtorEq] at h
    split at h
    · rename_i hz
      simp only [Option.map_eq_some_iff] at h
      obtain ⟨c, hc, rfl⟩ := h
      have e1 := r1.s; have e2 := r2.i; subst e1 e2
      exact ⟨_, ix_str, z, _, c, rfl, rfl, sz_le hz, hc, hq _ (.str _)⟩
    · cases h
  | dic es =>
    have h' : (keyD e).bind (valD es) = some r := by cases e <;> exact h
    cases hk : keyD e with
    | none => rw [hk] at h'; cases h'
    | some k =>
      rw [hk] at h'
      obtain ⟨a, kvs, rfl, q, _, ek, rl⟩ := r1.d
      obtain ⟨u, hu, ru⟩ := valD_V ek rl h'
      exact ⟨_, ix_dic (hu_of fit.room), a, kvs, k, u, rfl, kV_of r2 hk, q, hu, hq u ru⟩
  | un => cases e <;> cases h
  | non => cases e <;> cases h
  | bl _ => cases e <;> cases h
  | int _ => cases e <;> cases h
  | obj _ _ => cases e <;> cases h
end
end VS

set_option Elab.async false
set_option linter.all false
set_option maxRecDepth 100000
set_option maxHeartbeats 4000000
/-! VS9: subscripts and slices by modes; isinstance; ranges as lists. -/
namespace VS
open PySem PySem.Spec PyProof.Rows L2
section
variable {S : Sx} {e a b : Expr} {es : List Expr} {f g : M D} {m : Mode} {pos p p2 : Pos}
theorem ixE_core {X : Cx} (fit : Fit S X) {H : Hp} {Sr Ss T' : Addr → Prop} {v w : V} {d e r : D} {Q : VK} (r1 : RpE X.K (clX X.mg) H Sr Ss v d) (r2 : Rp X.K (clX X.mg) H T' w e) (h : dIx [d, e] = some r) (hq : ∀ u, Rp X.K (clX X.mg) H Ss u r → Q u H) : IxW X v w H Q := by
  cases r1 with
  | sh r1 => exact ix_core fit r1 r2 h hq
  | lst q s rl =>
    cases e <;> simp only [dIx, reduceCtorEq] at h
    have e2 := r2.i; subst e2
    obtain ⟨u, hu, ru⟩ := rl.atI h
    exact ⟨_, ix_list, _, _, _, u, rfl, rfl, .of q, hu, hq u ru⟩
  | dic q s ek rl =>
    rename_i a0 kvs0 es0
    have h' : (keyD e).bind (valD es0) = some r := by cases e <;> exact h
    cases hk : keyD e with
    | none => rw [hk] at h'; cases h'
    | some k =>
      rw [hk] at h'
      obtain ⟨u, hu, ru⟩ := valD_V ek rl h'
      exact ⟨_, ix_dic (hu_of fit.room), _, _, k, u, rfl, kV_of r2 hk, q, hu, hq u ru⟩
  | obj q s c k r => cases e <;> cases h
theorem ok_ixR : PrimOk S [.rd, .rd] .rd (pk2 dIx) rdIx := by
  intro X fit A fp tmp σ H ρ F vs ds d Q I nt r ed hq
  obtain ⟨v, w, d1, d2, G, G', rfl, rfl, rfl, _, ⟨rfl, r1⟩, ⟨rfl, r2⟩⟩ := r.two
  exact ⟨v, w, rfl, ix_core fit r1 r2 ed fun u ru => hq u H [] I .refl emp ⟨rfl, ru⟩⟩
theorem ok_ixE : PrimOk S [.el, .rd] (.val 0) (pk2 dIx) rdIx := by
  intro X fit A fp tmp σ H ρ F vs ds d Q I nt r ed hq
  obtain ⟨v, w, d1, d2, G, G', rfl, rfl, rfl, _, ⟨rfl, r1⟩, ⟨rfl, r2⟩⟩ := r.two
  exact ⟨v, w, rfl, ixE_core fit r1 r2 ed fun u ru => hq u H [] I .refl emp ⟨List.nodup_nil, emp, .fr ru (.inl rfl)⟩⟩

/-! ### slices -/
def SlW (X : Cx) : V → Option Int → Option Int → Hp → VK → Prop := fun x lo hi H Q => ∃ r, SlR X r ∧ r x lo hi H Q
theorem slW {X : Cx} : SlR X (SlW X) := fun pins s σ H x v vl vu lo hi sl Q I rx hs pl pu ⟨r, h, q⟩ => h pins s σ H x v vl vu lo hi sl Q I rx hs pl pu q
def cutD {α : Type} (xs : List α) (lo hi : Option Int) : List α := (xs.drop (HT.sIx xs.length 0 lo)).take (HT.sIx xs.length xs.length hi - HT.sIx xs.length 0 lo)
def dSlice (lo hi : Option Int) : D → Option D
  | .lst xs => some (.lst (cutD xs lo hi))
  | .tup xs => some (.tup (cutD xs lo hi))
  | .scr ns => some (.lst ((cutD ns lo hi).map .int))
  | .str z => if z.length ≤ SZ then some (.str (cutS z lo hi)) else none
  | _ => none
theorem RpL.cut {K : PySem.W.Frag} {cl : Cl} {H : Hp} {T : Addr → Prop} {vs : List V} {ds : List D} (h : RpL K cl H T vs ds) (lo hi : Option Int) : RpL K cl H T (cutV vs lo hi) (cutD ds lo hi) := by
  unfold cutV cutD
  rw [h.length]
  exact (h.drop _).take _
theorem ints_rp {K : PySem.W.Frag} {cl : Cl} {H : Hp} {T : Addr → Prop} : ∀ ns : List Int, RpL K cl H T (ns.map V.int) (ns.map D.int)
  | [] => .nil
  | i :: r => .cons (.int i) (ints_rp r)
theorem cut_whole {α : Type} {xs : List α} {lo hi : Option Int} (h : HT.sIx xs.length 0 lo = 0 ∧ HT.sIx xs.length xs.length hi = xs.length) : cutD xs lo hi = xs := by
  unfold cutD
  rw [h.1, h.2]
  simp
/-- a bound: left out, or a whole number -/
def WO (X : Cx) : Option Expr → L2.St → Hp → (Option Int → Hp → Prop) → Prop
  | none => fun _ H Q => Q none H
  | some e => fun σ H Q => WE X e σ H fun x H1 => ∃ i, x = .int i ∧ Q (some i) H1
def SO (S : Sx) (e : Option Expr) (f : M (Option Int)) : Prop :=
  ∀ (X : Cx), Fit S X → ∀ (W : WX), Takes X W → ∀ (A : Gd) (fp : Nat → List Addr) (tmp : Addr → Prop) (σ : L2.St) (H : Hp) (ρ : List D) (Q : Option Int → Hp → Prop),
    SI X.K (clX X.mg) S.κ A fp tmp σ H ρ →
    wpx (f ρ) (fun b ρ' => ∀ H' fp', SI X.K (clX X.mg) S.κ A fp' tmp σ H' ρ' → Stp S.κ fp tmp H ρ fp' tmp H' ρ' → Q b H')
      (XQ X W S.κ A fp tmp σ H ρ) → WO X e σ H Q
theorem po_WO {X : Cx} {o : Option Expr} : PO X o (WO X o) := by
  cases o with
  | none => exact po_none
  | some e => exact po_some pe_WE
def mI (f : M D) : M (Option Int) := bnd f fun d => match d with
  | .int i => ret (some i)
  | _ => fail
theorem so_none : SO S none (ret none) := fun X fit W tk A fp tmp σ H ρ Q I hw => hw H fp I .refl
theorem so_some (h : SE S .rd e f) : SO S (some e) (mI f) := by
  intro X fit W tk A fp tmp σ H ρ Q I hw
  refine h X fit W tk A fp tmp σ H ρ _ I (wpx_mono (wpx_bnd hw) (fun d ρ1 hd v H1 fp1 F I1 s1 nt r => ?_) fun _ _ z => z)
  obtain ⟨rfl, r⟩ := r
  rw [tF_nil] at I1 s1
  cases d <;> try exact hd.elim
  case int i => exact ⟨i, r.i, hd H1 fp1 I1 s1⟩
theorem slice_core {X : Cx} {κ : List Kd} {A : Gd} {fp : Nat → List Addr} {tmp : Addr → Prop} {σ : L2.St} {H : Hp} {ρ : List D} {Q : VK} {v : V} {d d' : D} {l u : Option Int} {Sr : Addr → Prop} (I3 : SI X.K (clX X.mg) κ A fp (tF tmp []) σ H ρ)
    (hq' : ∀ v H' F', SI X.K (clX X.mg) κ A fp (tF tmp F') σ H' ρ → Stp κ fp (tF tmp []) H ρ fp (tF tmp F') H' ρ → (∀ b ∈ F', H b = none) → Res X.K (clX X.mg) κ A fp (tF tmp F') H' F' v d' (.val 1) → Q v H')
    (r2 : RpE X.K (clX X.mg) H Sr (Sh A fp (tF tmp [])) v d) (ed : dSlice l u d = some d') : SlW X v l u H Q := by
  cases d <;> simp only [dSlice, reduceCtorEq] at ed
  case lst xs =>
    cases ed
    obtain ⟨p, ys, rfl, h1, q1⟩ := r2.l
    exact ⟨_, sl_list, p, ys, rfl, .of h1, fun q hz => newL I3 emp hq' (q1.cut l u) q hz⟩
  case tup xs =>
    cases ed
    obtain ⟨p, ys, rfl, h1, q1⟩ := r2.t
    refine ⟨_, sl_tupA, p, ys, rfl, h1, fun hh => ?_, fun _ q hz => newTu I3 hq' (q1.cut l u) q hz⟩
    rw [q1.length] at hh
    rw [cut_whole hh] at hq'
    exact sameT I3 hq' (.tup h1 q1)
  case scr ns =>
    cases ed
    obtain ⟨p, rfl, h1⟩ := r2.sc
    refine ⟨_, sl_list, p, _, rfl, h1.seq, fun q hz => ?_⟩
    have e1 : cutV (ns.map V.int) l u = (cutD ns l u).map V.int := by
      unfold cutV cutD
      rw [List.length_map, List.map_take, List.map_drop]
    rw [e1]
    exact newL I3 emp hq' (ints_rp _) q hz
  case str z =>
    split at ed
    · rename_i hz
      cases ed
      have e1 := r2.s; subst e1
      exact ⟨_, sl_str, z, rfl, sz_le hz, same I3 hq' rfl (Rp.str (S := fun _ => False) _)⟩
    · cases ed
def mSlice (f : M D) (g h : M (Option Int)) : M D := bnd f fun d => bnd g fun lo => bnd h fun hi => ofO (dSlice lo hi d)
theorem se_slice {lo hi : Option Expr} {g h : M (Option Int)} (h1 : SE S .el e f) (h2 : SO S lo g) (h3 : SO S hi h) : SE S (.val 1) (.Subscript e (.Slice lo hi none p2) pos) (mSlice f g h) := by
  intro X fit W tk A fp tmp σ H ρ Q I hw
  refine ⟨_, pe_slice slW pe_WE po_WO po_WO, ?_⟩
  refine h1 X fit W tk A fp tmp σ H ρ _ I (wpx_mono (wpx_bnd hw) (fun d ρ1 hd v H1 fp1 F I1 s1 nt r1 => ?_) fun _ _ z => z)
  obtain ⟨rfl, r1⟩ := r1
  rw [tF_nil] at I1 s1 r1
  refine h2 X fit W tk A fp1 tmp σ H1 ρ1 _ I1 (wpx_mono (wpx_bnd hd) (fun l ρ2 hd H2 fp2 I2 s2 => ?_) fun x ρ' z => z.step s1 fun _ q => q)
  refine h3 X fit W tk A fp2 tmp σ H2 ρ2 _ I2 (wpx_mono (wpx_bnd hd) (fun u ρ3 hd H3 fp3 I3 s3 => ?_) fun x ρ' z => z.step (s1.trans s2) fun _ q => q)
  obtain ⟨d', ed, hq⟩ := wpx_ofO hd
  have r2 : RpE X.K (clX X.mg) H3 (SRd S.κ A fp3 tmp) (Sh A fp3 tmp) v d := (r1.ext s2.ex (SRd.step s2) (Sh.step s2)).ext s3.ex (SRd.step s3) (Sh.step s3)
  have st := (s1.trans s2).trans s3
  rw [← tF_nil (tmp := tmp)] at I3 r2
  have hq' : ∀ v H' F', SI X.K (clX X.mg) S.κ A fp3 (tF tmp F') σ H' ρ3 → Stp S.κ fp3 (tF tmp []) H3 ρ3 fp3 (tF tmp F') H' ρ3 → (∀ b ∈ F', H3 b = none) → Res X.K (clX X.mg) S.κ A fp3 (tF tmp F') H' F' v d' (.val 1) → Q v H' := fun v H' F' I' s' nt' r' => by
    rw [tF_nil] at s'
    exact hq v H' fp3 F' I' (st.trans s') (fun b hb => none_back st.ex (nt' b hb)) r'
  exact slice_core I3 hq' r2 ed
/-- xs[::-1] of a list -/
def dRev : List D → Option D
  | [.lst xs] => some (.lst xs.reverse)
  | _ => none
def rdRev : Cx → List V → Hp → VK → Prop := fun X vs H Q => ∃ a xs, vs = [.ref a] ∧ SqL X.K H a xs ∧ ∀ p, H p = none → Q (.ref p) (upd H p (.lst xs.reverse))
theorem hrd_rev {k : Nat} {q1 q2 q3 : Pos} (X : Cx) (fit : Fit S X) (W : WX) (tk : Takes X W) (σ : L2.St) (H : Hp) (Q : VK) (h : WEs X [e] σ H fun vs H1 => rdRev X vs H1 Q) : WE X (.Subscript e (.Slice none none (some (.UnaryOp .USub (.Constant (.int 1) k q1) q2)) q3) pos) σ H Q :=
  ⟨_, pe_revL pe_WE, we_mono h fun x H1 ⟨a, xs, e, q, z⟩ => by cases e; exact ⟨a, xs, rfl, q, z⟩⟩
theorem ok_rev : PrimOk S [.el] (.val 1) (pk1 dRev) rdRev := by
  intro X fit A fp tmp σ H ρ F vs ds d Q I nt r ed hq
  obtain ⟨v, d1, rfl, rfl, ⟨rfl, r1⟩⟩ := r.one
  cases d1 <;> simp only [pk1, dRev, reduceCtorEq] at ed
  cases ed
  obtain ⟨p, ys, rfl, h1, q1⟩ := r1.l
  exact ⟨p, ys, rfl, .of h1, fun q hz => newL I nt hq q1.rev q hz⟩

/-! ### isinstance -/
def tyNm : D → Option String
  | .non => some "NoneType"
  | .bl _ => some "bool"
  | .int _ => some "int"
  | .str _ => some "str"
  | .tup _ => some "tuple"
  | .lst _ => some "list"
  | .scr _ => some "list"
  | .dic _ => some "dict"
  | _ => none
def isTy (T : String) (d : D) : Option Bool := match T, d with
  | "int", .int _ => some true
  | "int", .bl _ => some true
  | T, d => (tyNm d).map fun t => t == T
def tyNames : List String := ["int", "bool", "str", "tuple", "list", "dict"]
theorem tyX_of {K : PySem.W.Frag} {cl : Cl} {H : Hp} {T : Addr → Prop} {v : V} {d : D} {t : String} (r : Rp K cl H T v d) (h : tyNm d = some t) : TyX K H v (.type t) := by
  cases r with
  | non => cases h; exact .base .non
  | bl b => cases h; exact .base (.bl b)
  | int i => cases h; exact .base (.int i)
  | str x => cases h; exact .base (.str x)
  | tup q _ =>
    cases h
    rcases q with (q | ⟨o, q⟩) | ⟨o, its, n, q, c, _⟩
    · exact .base (.tup q)
    · exact .fTuple q
    · exact .kTuple q c
  | lst q _ _ => cases h; exact .base (.lst q)
  | scr q =>
    cases h
    rcases q with ⟨o, q⟩ | ⟨o, its, n, q, c, _⟩
    · exact .base (.frz q)
    · exact .kList q c
  | dic q _ _ _ => cases h; exact .base (.dK q)
  | obj _ _ _ _ _ => cases h
theorem kit_all : ∀ T ∈ tyNames, ∀ t ∈ ["NoneType", "bool", "int", "str", "tuple", "list", "dict"], kitB t T = some ((t == T) || (t == "bool" && T == "int")) := by decide +kernel
theorem isTy_kit {T : String} {d : D} {b : Bool} (hT : T ∈ tyNames) (h : isTy T d = some b) : ∃ t, tyNm d = some t ∧ kitB t T = some b := by
  have key : ∀ t, tyNm d = some t → t ∈ ["NoneType", "bool", "int", "str", "tuple", "list", "dict"] := by
    intro t ht
    cases d <;> simp [tyNm] at ht <;> subst ht <;> simp
  have gen : ∀ t, tyNm d = some t → (((t == T) || (t == "bool" && T == "int")) = b) → ∃ t, tyNm d = some t ∧ kitB t T = some b := fun t ht hb => ⟨t, ht, by rw [kit_all T hT t (key t ht), hb]⟩
  unfold isTy at h
  split at h
  · exact gen "int" rfl (by cases h; rfl)
  · exact gen "bool" rfl (by cases h; rfl)
  · rename_i n1 n2
    cases q : tyNm d with
    | none => rw [q] at h; cases h
    | some t =>
      rw [q] at h
      cases h
      refine ⟨t, rfl, ?_⟩
      rw [kit_all T hT t (key t q)]
      congr 1
      by_cases hb : t = "bool" ∧ T = "int"
      · obtain ⟨rfl, rfl⟩ := hb
        cases d <;> simp [tyNm] at q
        exact (n2 _ rfl rfl).elim
      · have : (t == "bool" && T == "int") = false := by
          rw [Bool.and_eq_false_iff]
          by_cases h1 : t = "bool"
          · right; simpa using fun z => hb ⟨h1, z⟩
          · left; simpa using h1
        rw [this, Bool.or_false]
def mIsTy (T : String) (f : M D) : M D := bnd f fun d => ofO ((isTy T d).map .bl)
theorem se_isTy {T : String} {x : Str} {q1 : Pos} (hT : T ∈ tyNames) (hx : x = PySem.Str.ofString T) (hv : bootBuiltins x = some (.type T)) (hb : builtinNames.contains x = true) (hg : glB S.sc x = true) (hi : glB S.sc "isinstance" = true) (hn : okName x = true) (hx2 : (x == ("__name__" : Str)) = false) (hs : noStar e = true)
    (h : SE S .rd e f) : SE S m (.Call (.Name "isinstance" p) [e, .Name x q1] [] pos) (mIsTy T f) := by
  intro X fit W tk A fp tmp σ H ρ Q I hw
  unfold okName at hn
  simp only [Bool.and_eq_true, Bool.not_eq_true'] at hn
  refine ⟨_, pe_callB call_isi (gl_of fit hi) (fit.bl _ (by decide)) (by decide +kernel) (pa_cons pe_WE (pa_cons (pe_bltn (v := .ty T) (gl_of fit hg) (fit.bl x (by simpa using hb)) hv rfl (by simpa using hx2) hn.1) pa_nil) (star1 hs)) (by decide) (by decide) (star1 hs) (stars_any rfl), ?_⟩
  refine h X fit W tk A fp tmp σ H ρ _ I (wpx_mono (wpx_bnd hw) (fun d ρ1 hd v H1 fp1 F I1 s1 nt r => ?_) fun _ _ z => z)
  obtain ⟨d', ed, hq⟩ := wpx_ofO hd
  obtain ⟨rfl, r⟩ := r
  obtain ⟨b, eb, rfl⟩ : ∃ b, isTy T d = some b ∧ D.bl b = d' := by simpa using ed
  obtain ⟨t, ht, hk⟩ := isTy_kit hT eb
  exact ⟨v, .ty T, .type t, .type T, b, rfl, .ty T, tyX_of r ht, kit_ty hk, hq _ H1 fp1 [] I1 s1 emp (.imm rfl (Rp.bl (S := fun _ => False) b))⟩

/-! ### list(range(..)), tuple(range(..)) -/
def rgD (a b : Int) : List D := (List.range (b - a).toNat).map fun i => .int (a + (i : Nat))
def rgOk (a b : Int) : Bool := decide (-(2 ^ 62) ≤ a ∧ a < 2 ^ 62 ∧ -(2 ^ 62) ≤ b ∧ b < 2 ^ 62 ∧ (b - a).toNat ≤ 2 ^ 24)
theorem rgOk_ok {a b : Int} (h : rgOk a b = true) : RgOk a b := by
  simpa [rgOk, RgOk] using h
theorem rg_rp {K : PySem.W.Frag} {cl : Cl} {H : Hp} {T : Addr → Prop} (a b : Int) : RpL K cl H T (rgV a b) (rgD a b) := by
  unfold rgV rgD
  generalize List.range (b - a).toNat = l
  induction l with
  | nil => exact .nil
  | cons x r ih => exact .cons (.int _) ih
def dListRg : List D → Option D
  | [.int j] => if rgOk 0 j then some (.lst (rgD 0 j)) else none
  | [.int i, .int j] => if rgOk i j then some (.lst (rgD i j)) else none
  | _ => none
def rdListRg : Cx → List V → Hp → VK → Prop := fun X vs H Q => ∃ i j, (vs = [.int j] ∧ i = 0 ∨ vs = [.int i, .int j]) ∧ RgOk i j ∧ ∀ q, H q = none → Q (.ref q) (upd H q (.lst (rgV i j)))
theorem ok_listRg1 : PrimOk S [.rd] (.val 1) (pk1 dListRg) rdListRg := by
  intro X fit A fp tmp σ H ρ F vs ds d Q I nt r ed hq
  obtain ⟨v, d1, rfl, rfl, ⟨rfl, r1⟩⟩ := r.one
  cases d1 <;> simp only [pk1, dListRg, reduceCtorEq] at ed
  split at ed
  · rename_i h
    cases ed
    exact ⟨0, _, .inl ⟨by rw [r1.i], rfl⟩, rgOk_ok h, fun q hz => newL I nt hq (rg_rp _ _) q hz⟩
  · cases ed
theorem ok_listRg2 : PrimOk S [.rd, .rd] (.val 1) (pk2 dListRg) rdListRg := by
  intro X fit A fp tmp σ H ρ F vs ds d Q I nt r ed hq
  obtain ⟨v, w, d1, d2, G, G', rfl, rfl, rfl, _, ⟨rfl, r1⟩, ⟨rfl, r2⟩⟩ := r.two
  cases d1 <;> cases d2 <;> simp only [pk2, dListRg, reduceCtorEq] at ed
  split at ed
  · rename_i h
    cases ed
    exact ⟨_, _, .inr (by rw [r1.i, r2.i]), rgOk_ok h, fun q hz => newL I nt hq (rg_rp _ _) q hz⟩
  · cases ed
theorem hrd_listRg1 {q1 q2 : Pos} (hs : noStar a = true) (hl : glB S.sc "list" = true) (hr : glB S.sc "range" = true) (X : Cx) (fit : Fit S X) (W : WX) (tk : Takes X W) (σ : L2.St) (H : Hp) (Q : VK) (h : WEs X [a] σ H fun vs H1 => rdListRg X vs H1 Q) :
    WE X (.Call (.Name "list" p) [.Call (.Name "range" q1) [a] [] q2] [] pos) σ H Q :=
  ⟨_, pe_listRg fit.calm (gl_of fit hl) (fit.bl _ (by decide)) (prg_1 (gl_of fit hr) (fit.bl _ (by decide)) pe_WE (star1 hs)), we_mono h fun x H1 ⟨i, j, e, ok, q⟩ => by
    rcases e with ⟨e, rfl⟩ | e
    · cases e; exact ⟨j, rfl, ok, q⟩
    · cases e⟩
theorem hrd_listRg2 {q1 q2 : Pos} (hs : noStar a = true) (hs2 : noStar b = true) (hl : glB S.sc "list" = true) (hr : glB S.sc "range" = true) (X : Cx) (fit : Fit S X) (W : WX) (tk : Takes X W) (σ : L2.St) (H : Hp) (Q : VK) (h : WEs X [a, b] σ H fun vs H1 => rdListRg X vs H1 Q) :
    WE X (.Call (.Name "list" p) [.Call (.Name "range" q1) [a, b] [] q2] [] pos) σ H Q :=
  ⟨_, pe_listRg fit.calm (gl_of fit hl) (fit.bl _ (by decide)) (prg_2 (gl_of fit hr) (fit.bl _ (by decide)) pe_WE pe_WE (star1 hs) (star1 hs2) (stars_any (by simp [noStars, hs2]))), we_mono h fun x H1 h1 => we_mono h1 fun y H2 ⟨i, j, e, ok, q⟩ => by
    rcases e with ⟨e, rfl⟩ | e
    · cases e
    · cases e; exact ⟨i, j, rfl, rfl, ok, q⟩⟩
end
end VS

set_option Elab.async false
set_option linter.all false
set_option maxRecDepth 100000
set_option maxHeartbeats 4000000
/-! VS10: tests, and, or, not, conditional expressions, chains, calls of defs. -/
namespace VS
open PySem PySem.Spec PyProof.Rows L2
section
variable {S : Sx} {e a b c : Expr} {es : List Expr} {f g h : M D} {ft gt : M Bool} {m : Mode} {ms : List Mode} {pos p p2 : Pos}
/-! ### truth -/
def D.tru : D → Option Bool
  | .non => some false
  | .bl b => some b
  | .int i => some (i != 0)
  | .str x => if x.length ≤ SZ then some ((x.length : Int) != 0) else none
  | .tup xs => some (!xs.isEmpty)
  | .lst xs => some (!xs.isEmpty)
  | .scr xs => some (!xs.isEmpty)
  | .dic es => some (!es.isEmpty)
  | _ => none
theorem isEmpty_len {α β : Type} {xs : List α} {ys : List β} (h : xs.length = ys.length) : xs.isEmpty = ys.isEmpty := by
  cases xs <;> cases ys <;> simp_all
theorem tru_of {K : PySem.W.Frag} {cl : Cl} {H : Hp} {T : Addr → Prop} {v : V} {d : D} {k : Bool} (r : Rp K cl H T v d) (h : d.tru = some k) : TruV K v H k := by
  cases r with
  | non => cases h; rfl
  | bl b => cases h; rfl
  | int i => cases h; rfl
  | str x =>
    simp only [D.tru] at h
    split at h
    · rename_i hz; cases h; exact ⟨sz_le hz, rfl⟩
    · cases h
  | tup q r => cases h; exact .inr (.inl ⟨_, q, by rw [isEmpty_len r.length]⟩)
  | lst q _ r => cases h; exact .inl ⟨_, .of q, by rw [isEmpty_len r.length]⟩
  | scr q => cases h; exact .inl ⟨_, q.seq, by rw [isEmpty_len (List.length_map ..)]⟩
  | dic q _ ek _ =>
    cases h
    have z := congrArg List.length ek
    simp only [List.length_map] at z
    exact .inr (.inr ⟨_, q, by rw [isEmpty_len z]⟩)
  | obj _ _ _ _ _ => cases h
def plainTest : Expr → Bool
  | .UnaryOp .Not _ _ => false
  | .BoolOp .. => false
  | .IfExp .. => false
  | .Compare .. => false
  | _ => true
theorem plainTest_ok {env : Env} (h : plainTest e = true) : ∀ whole, isTrue e env whole = (do let v ← whole; standAt e.pos; holding [v] (truthy v)) := by
  intro whole
  cases e
  case UnaryOp op x q => cases op <;> first | rfl | (simp [plainTest] at h)
  all_goals first | rfl | (simp [plainTest] at h)
def mTru (f : M D) : M Bool := bnd f fun d => ofO d.tru
theorem st_tru (hp : plainTest e = true) (h : SE S .rd e f) : ST S e (mTru f) := by
  intro X fit W tk A fp tmp σ H ρ Q I hw
  refine ⟨_, pt_truth pe_WE (plainTest_ok hp), ?_⟩
  refine h X fit W tk A fp tmp σ H ρ _ I (wpx_mono (wpx_bnd hw) (fun d ρ1 hd v H1 fp1 F I1 s1 nt r => ?_) fun _ _ z => z)
  obtain ⟨k, ek, hq⟩ := wpx_ofO hd
  obtain ⟨rfl, r⟩ := r
  rw [tF_nil] at I1 s1
  exact ⟨k, tru_of r ek, hq H1 fp1 I1 s1⟩
def D.bl? : D → Option Bool
  | .bl b => some b
  | _ => none
/-- a comparison as a test -/
def mCmpT (p : List D → Option D) (g : M (List D)) : M Bool := bnd g fun ds => ofO ((p ds).bind D.bl?)
theorem st_cmp {op : CmpOp} {pr : List D → Option D} {g : M (List D)} (hm : cmpMark op b = true) (hp : PrimOk S [.rd, .rd] .rd pr (rdCmp op)) (hs : SEs S [.rd, .rd] [a, b] g) : ST S (.Compare a [op] [b] pos) (mCmpT pr g) := by
  intro X fit W tk A fp tmp σ H ρ Q I hw
  refine ⟨_, pt_cmpR opW pe_WE pe_WE (by simpa [cmpMark] using hm), ?_⟩
  have key : WEs X [a, b] σ H fun vs H1 => rdCmp op X vs H1 fun x H' => ∃ k, x = .bl k ∧ Q k H' := by
    refine hs X fit W tk A fp tmp σ H ρ _ I (wpx_mono (wpx_bnd hw) (fun ds ρ1 hd vs H1 fp1 F I1 s1 nt r1 => ?_) fun _ _ z => z)
    obtain ⟨k, ek, hq⟩ := wpx_ofO hd
    obtain ⟨d, ed, eb⟩ := Option.bind_eq_some_iff.mp ek
    refine hp X fit A fp1 tmp σ H1 ρ1 F vs ds d _ I1 (fun b hb z => I.fa b (.inr z) (nt b hb)) r1 ed fun v H' F' I' s' nt' r' => ?_
    obtain ⟨rfl, r'⟩ := r'
    cases d <;> cases eb
    have ev := r'.b
    rw [tF_nil] at I' s'
    exact ⟨k, ev, hq H' fp1 I' (s1.trans s')⟩
  exact we_mono key fun x H1 h1 => we_mono h1 fun y H2 ⟨x', y', e, h2⟩ => by cases e; exact h2
def mNotT (f : M Bool) : M Bool := bnd f fun b => ret (!b)
theorem st_not (h : ST S a ft) : ST S (.UnaryOp .Not a pos) (mNotT ft) := fun X fit W tk A fp tmp σ H ρ Q I hw =>
  ⟨_, pt_not pt_WT, h X fit W tk A fp tmp σ H ρ _ I (wpx_mono (wpx_bnd hw) (fun k ρ1 hd H1 fp1 I1 s1 => hd H1 fp1 I1 s1) fun _ _ z => z)⟩
/-! ### and, or as tests -/
def WW (X : Cx) (e : Expr) : TT := fun σ H Q => ∃ t, PW X e t ∧ t σ H Q
theorem pw_WW {X : Cx} : PW X e (WW X e) := ⟨fun wh pins s σ H Q I ⟨t, h, q⟩ => h.run wh pins s σ H Q I q⟩
def SW (S : Sx) (e : Expr) (f : M Bool) : Prop :=
  ∀ (X : Cx), Fit S X → ∀ (W : WX), Takes X W → ∀ (A : Gd) (fp : Nat → List Addr) (tmp : Addr → Prop) (σ : L2.St) (H : Hp) (ρ : List D) (Q : Bool → Hp → Prop),
    SI X.K (clX X.mg) S.κ A fp tmp σ H ρ →
    wpx (f ρ) (fun b ρ' => ∀ H' fp', SI X.K (clX X.mg) S.κ A fp' tmp σ H' ρ' → Stp S.κ fp tmp H ρ fp' tmp H' ρ' → Q b H')
      (XQ X W S.κ A fp tmp σ H ρ) → WW X e σ H Q
theorem st_w (h : SW S e ft) : ST S e ft := fun X fit W tk A fp tmp σ H ρ Q I hw => ⟨_, pw_WW.pt, h X fit W tk A fp tmp σ H ρ Q I hw⟩
theorem sw_one {op : BoolOp} (h : ST S a ft) : SW S (.BoolOp op [a] pos) ft := fun X fit W tk A fp tmp σ H ρ Q I hw => by
  cases op with
  | And => exact ⟨_, pw_and1 pt_WT, h X fit W tk A fp tmp σ H ρ Q I hw⟩
  | Or => exact ⟨_, pw_or1 pt_WT, h X fit W tk A fp tmp σ H ρ Q I hw⟩
def mAndT (f g : M Bool) : M Bool := bnd f fun k => if k then g else ret false
def mOrT (f g : M Bool) : M Bool := bnd f fun k => if k then ret true else g
theorem sw_and {rest : List Expr} (h1 : ST S a ft) (h2 : SW S (.BoolOp .And (b :: rest) pos) gt) : SW S (.BoolOp .And (a :: b :: rest) pos) (mAndT ft gt) := fun X fit W tk A fp tmp σ H ρ Q I hw =>
  ⟨_, pw_and pt_WT pw_WW, h1 X fit W tk A fp tmp σ H ρ _ I (wpx_mono (wpx_bnd hw) (fun k ρ1 hd H1 fp1 I1 s1 => by
    cases k with
    | true => exact h2 X fit W tk A fp1 tmp σ H1 ρ1 _ I1 (wpx_mono hd (fun k2 ρ2 hd2 H2 fp2 I2 s2 => hd2 H2 fp2 I2 (s1.trans s2)) fun x ρ' z => z.step s1 fun _ q => q)
    | false => exact hd H1 fp1 I1 s1) fun _ _ z => z)⟩
theorem sw_or {rest : List Expr} (h1 : ST S a ft) (h2 : SW S (.BoolOp .Or (b :: rest) pos) gt) : SW S (.BoolOp .Or (a :: b :: rest) pos) (mOrT ft gt) := fun X fit W tk A fp tmp σ H ρ Q I hw =>
  ⟨_, pw_or pt_WT pw_WW, h1 X fit W tk A fp tmp σ H ρ _ I (wpx_mono (wpx_bnd hw) (fun k ρ1 hd H1 fp1 I1 s1 => by
    cases k with
    | false => exact h2 X fit W tk A fp1 tmp σ H1 ρ1 _ I1 (wpx_mono hd (fun k2 ρ2 hd2 H2 fp2 I2 s2 => hd2 H2 fp2 I2 (s1.trans s2)) fun x ρ' z => z.step s1 fun _ q => q)
    | true => exact hd H1 fp1 I1 s1) fun _ _ z => z)⟩
/-! ### .. as values -/
theorem se_one {op : BoolOp} (h : SE S m a f) : SE S m (.BoolOp op [a] pos) f := fun X fit W tk A fp tmp σ H ρ Q I hw => ⟨_, pe_one pe_WE, h X fit W tk A fp tmp σ H ρ Q I hw⟩
def mAndV (f g : M D) : M D := bnd f fun d => match d with
  | .bl true => g
  | .bl false => ret (.bl false)
  | _ => fail
def mOrV (f g : M D) : M D := bnd f fun d => match d with
  | .bl true => ret (.bl true)
  | .bl false => g
  | _ => fail
theorem SE.after {X : Cx} {W : WX} {A : Gd} {fp fp1 : Nat → List Addr} {tmp : Addr → Prop} {σ : L2.St} {H H1 : Hp} {ρ ρ1 : List D} {Q : VK} (h2 : SE S m b g) (fit : Fit S X) (tk : Takes X W) (I1 : SI X.K (clX X.mg) S.κ A fp1 tmp σ H1 ρ1) (s1 : Stp S.κ fp tmp H ρ fp1 tmp H1 ρ1)
    (hd : wpx (g ρ1) (fun d ρ' => ∀ v H' fp' F, SI X.K (clX X.mg) S.κ A fp' (tF tmp F) σ H' ρ' → Stp S.κ fp tmp H ρ fp' (tF tmp F) H' ρ' → (∀ b ∈ F, H b = none) → Res X.K (clX X.mg) S.κ A fp' (tF tmp F) H' F v d m → Q v H') (XQ X W S.κ A fp tmp σ H ρ)) : WE X b σ H1 Q :=
  h2 X fit W tk A fp1 tmp σ H1 ρ1 _ I1 (wpx_mono hd (fun d ρ2 hd2 v H2 fp2 F I2 s2 nt r => hd2 v H2 fp2 F I2 (s1.trans s2) (fun b hb => none_back s1.ex (nt b hb)) r) fun x ρ' z => z.step s1 fun _ q => q)
theorem se_and {rest : List Expr} (h1 : SE S .rd a f) (h2 : SE S m (.BoolOp .And (b :: rest) pos) g) : SE S m (.BoolOp .And (a :: b :: rest) pos) (mAndV f g) := fun X fit W tk A fp tmp σ H ρ Q I hw =>
  ⟨_, pe_and pe_WE pe_WE, h1 X fit W tk A fp tmp σ H ρ _ I (wpx_mono (wpx_bnd hw) (fun d ρ1 hd v H1 fp1 F I1 s1 nt r => by
    obtain ⟨rfl, r⟩ := r
    cases d with
    | bl k =>
      have ev := r.b
      refine ⟨k, ev, ?_⟩
      cases k with
      | true => rw [tF_nil] at I1 s1; exact h2.after fit tk I1 s1 hd
      | false => exact hd _ H1 fp1 [] I1 s1 nt (.imm rfl (Rp.bl (S := fun _ => False) _))
    | _ => exact hd.elim) fun _ _ z => z)⟩
theorem se_or {rest : List Expr} (h1 : SE S .rd a f) (h2 : SE S m (.BoolOp .Or (b :: rest) pos) g) : SE S m (.BoolOp .Or (a :: b :: rest) pos) (mOrV f g) := fun X fit W tk A fp tmp σ H ρ Q I hw =>
  ⟨_, pe_or pe_WE pe_WE, h1 X fit W tk A fp tmp σ H ρ _ I (wpx_mono (wpx_bnd hw) (fun d ρ1 hd v H1 fp1 F I1 s1 nt r => by
    obtain ⟨rfl, r⟩ := r
    cases d with
    | bl k =>
      have ev := r.b
      refine ⟨k, ev, ?_⟩
      cases k with
      | false => rw [tF_nil] at I1 s1; exact h2.after fit tk I1 s1 hd
      | true => exact hd _ H1 fp1 [] I1 s1 nt (.imm rfl (Rp.bl (S := fun _ => False) _))
    | _ => exact hd.elim) fun _ _ z => z)⟩
def mNotV (f : M D) : M D := bnd f fun d => ofO (d.tru.map fun k => .bl (!k))
theorem se_not (h : SE S .rd a f) : SE S m (.UnaryOp .Not a pos) (mNotV f) := fun X fit W tk A fp tmp σ H ρ Q I hw =>
  ⟨_, pe_notT pe_WE, h X fit W tk A fp tmp σ H ρ _ I (wpx_mono (wpx_bnd hw) (fun d ρ1 hd v H1 fp1 F I1 s1 nt r => by
    obtain ⟨d', ed, hq⟩ := wpx_ofO hd
    obtain ⟨k, ek, rfl⟩ := Option.map_eq_some_iff.mp ed
    obtain ⟨rfl, r⟩ := r
    exact ⟨k, tru_of r ek, hq _ H1 fp1 [] I1 s1 nt (.imm rfl (Rp.bl (S := fun _ => False) _))⟩) fun _ _ z => z)⟩
/-! ### a if t else b -/
def mIf {α : Type} (t : M Bool) (f g : M α) : M α := bnd t fun k => if k then f else g
theorem se_if (hc : ST S c ft) (h1 : SE S m a f) (h2 : SE S m b g) : SE S m (.IfExp c a b pos) (mIf ft f g) := fun X fit W tk A fp tmp σ H ρ Q I hw =>
  ⟨_, pe_ifExp pt_WT pe_WE pe_WE, hc X fit W tk A fp tmp σ H ρ _ I (wpx_mono (wpx_bnd hw) (fun k ρ1 hd H1 fp1 I1 s1 => by
    cases k with
    | true => exact h1.after fit tk I1 s1 hd
    | false => exact h2.after fit tk I1 s1 hd) fun _ _ z => z)⟩
/-! ### chains -/
def mChain (p q : List D → Option D) (f g h : M D) : M D := bnd f fun x => bnd g fun y => bnd (ofO ((p [x, y]).bind D.bl?)) fun k =>
  if k then bnd h fun z => ofO ((q [y, z]).bind fun d => d.bl?.map .bl) else ret (.bl false)
/-- a comparison of two values that are read -/
def CmpOk (S : Sx) (op : CmpOp) (p : List D → Option D) : Prop := ∀ (X : Cx), Fit S X → ∀ (H : Hp) (T T' : Addr → Prop) (v w : V) (d e : D) (k : Bool) (Q : VK), Rp X.K (clX X.mg) H T v d → Rp X.K (clX X.mg) H T' w e → p [d, e] = some (.bl k) → Q (.bl k) H → OpW X (compareOp op) v w H Q
theorem bl?_some {d : D} {k : Bool} (h : d.bl? = some k) : d = .bl k := by cases d <;> cases h; rfl
theorem chain_core {op op' : CmpOp} {pr qr : List D → Option D} (h1 : CmpOk S op pr) (h2 : CmpOk S op' qr) (ha : SE S .rd a f) (hb : SE S .rd b g) (hc : SE S .rd c h)
    {X : Cx} (fit : Fit S X) {W : WX} (tk : Takes X W) {A : Gd} {fp : Nat → List Addr} {tmp : Addr → Prop} {σ : L2.St} {H : Hp} {ρ : List D} {Q : VK} (I : SI X.K (clX X.mg) S.κ A fp tmp σ H ρ)
    (hw : wpx (mChain pr qr f g h ρ) (fun d ρ' => ∀ H' fp', SI X.K (clX X.mg) S.κ A fp' tmp σ H' ρ' → Stp S.κ fp tmp H ρ fp' tmp H' ρ' → ∃ k, d = .bl k ∧ Q (.bl k) H') (XQ X W S.κ A fp tmp σ H ρ)) :
    tChain (OpW X (compareOp op)) (OpW X (compareOp op')) (WE X a) (WE X b) (WE X c) σ H Q := by
  refine ha X fit W tk A fp tmp σ H ρ _ I (wpx_mono (wpx_bnd hw) (fun x ρ1 hd v H1 fp1 F I1 s1 nt r1 => ?_) fun _ _ z => z)
  obtain ⟨rfl, r1⟩ := r1
  rw [tF_nil] at I1 s1 r1
  refine hb X fit W tk A fp1 tmp σ H1 ρ1 _ I1 (wpx_mono (wpx_bnd hd) (fun y ρ2 hd w H2 fp2 F I2 s2 nt r2 => ?_) fun x ρ' z => z.step s1 fun _ q => q)
  obtain ⟨rfl, r2⟩ := r2
  rw [tF_nil] at I2 s2 r2
  have r1' := r1.ext s2.ex (SRd.step s2)
  obtain ⟨k, ek, hd⟩ := wpx_ofO (wpx_bnd hd)
  obtain ⟨d, ed, eb⟩ := Option.bind_eq_some_iff.mp ek
  have e1 := bl?_some eb
  subst e1
  refine h1 X fit H2 _ _ v w x y k _ r1' r2 ed ⟨k, rfl, ?_⟩
  cases k with
  | false =>
    rw [if_neg Bool.false_ne_true]
    obtain ⟨k', e', q⟩ := hd H2 fp2 I2 (s1.trans s2)
    cases e'
    exact q
  | true =>
    rw [if_pos rfl]
    refine hc X fit W tk A fp2 tmp σ H2 ρ2 _ I2 (wpx_mono (wpx_bnd hd) (fun z ρ3 hd u H3 fp3 F I3 s3 nt r3 => ?_) fun x ρ' z => z.step (s1.trans s2) fun _ q => q)
    obtain ⟨rfl, r3⟩ := r3
    rw [tF_nil] at I3 s3 r3
    have r2' := r2.ext s3.ex (SRd.step s3)
    obtain ⟨d', ed', hq⟩ := wpx_ofO hd
    obtain ⟨d2, ed2, eb2⟩ := Option.bind_eq_some_iff.mp ed'
    obtain ⟨k2, ek2, rfl⟩ := Option.map_eq_some_iff.mp eb2
    have e2 := bl?_some ek2
    subst e2
    obtain ⟨k', e', q⟩ := hq H3 fp3 I3 ((s1.trans s2).trans s3)
    cases e'
    exact h2 X fit H3 _ _ w u y z k2 _ r2' r3 ed2 q
theorem se_chain {op op' : CmpOp} {pr qr : List D → Option D} (h1 : CmpOk S op pr) (h2 : CmpOk S op' qr) (ha : SE S .rd a f) (hb : SE S .rd b g) (hc : SE S .rd c h) (hm : lastMarks [op, op'] [b, c] = false) : SE S m (.Compare a [op, op'] [b, c] pos) (mChain pr qr f g h) := by
  intro X fit W tk A fp tmp σ H ρ Q I hw
  refine ⟨_, pe_chain opW opW pe_WE pe_WE pe_WE hm, chain_core h1 h2 ha hb hc fit tk I ?_⟩
  unfold mChain at hw ⊢
  have nb : ∀ {r : R D}, wpx r (fun d ρ' => ∀ v H' fp' F, SI X.K (clX X.mg) S.κ A fp' (tF tmp F) σ H' ρ' → Stp S.κ fp tmp H ρ fp' (tF tmp F) H' ρ' → (∀ b ∈ F, H b = none) → Res X.K (clX X.mg) S.κ A fp' (tF tmp F) H' F v d m → Q v H') (XQ X W S.κ A fp tmp σ H ρ) → (∀ d ρ', r = .ok d ρ' → ∃ k, d = .bl k) →
      wpx r (fun d ρ' => ∀ H' fp', SI X.K (clX X.mg) S.κ A fp' tmp σ H' ρ' → Stp S.κ fp tmp H ρ fp' tmp H' ρ' → ∃ k, d = .bl k ∧ Q (.bl k) H') (XQ X W S.κ A fp tmp σ H ρ) := by
    intro r hr hb
    cases r with
    | ok d ρ' =>
      obtain ⟨k, rfl⟩ := hb d ρ' rfl
      exact fun H' fp' I' s' => ⟨k, rfl, hr _ H' fp' [] (by rw [tF_nil]; exact I') (by rw [tF_nil]; exact s') emp (.imm rfl (Rp.bl (S := fun _ => False) k))⟩
    | err x ρ' => exact hr
    | stuck => exact hr
  refine nb hw fun d ρ' he => ?_
  unfold bnd at he
  cases q1 : f ρ with
  | err x ρ1 => rw [q1] at he; cases he
  | stuck => rw [q1] at he; cases he
  | ok x ρ1 =>
    rw [q1] at he
    dsimp only at he
    cases q2 : g ρ1 with
    | err x ρ1 => rw [q2] at he; cases he
    | stuck => rw [q2] at he; cases he
    | ok y ρ2 =>
      rw [q2] at he
      dsimp only at he
      cases q3 : (pr [x, y]).bind D.bl? with
      | none => rw [q3] at he; cases he
      | some k =>
        rw [q3] at he
        cases k with
        | false => cases he; exact ⟨_, rfl⟩
        | true =>
          dsimp only [ofO, ret] at he
          rw [if_pos rfl] at he
          cases q4 : h ρ2 with
          | err x ρ1 => rw [q4] at he; cases he
          | stuck => rw [q4] at he; cases he
          | ok z ρ3 =>
            rw [q4] at he
            dsimp only at he
            cases q5 : (qr [y, z]).bind fun d => d.bl?.map D.bl with
            | none => rw [q5] at he; cases he
            | some d' =>
              rw [q5] at he
              cases he
              obtain ⟨d2, _, e2⟩ := Option.bind_eq_some_iff.mp q5
              obtain ⟨k2, _, rfl⟩ := Option.map_eq_some_iff.mp e2
              exact ⟨k2, rfl⟩
def mBl (f : M D) : M Bool := bnd f fun d => ofO d.bl?
theorem st_chain {op op' : CmpOp} {pr qr : List D → Option D} (h1 : CmpOk S op pr) (h2 : CmpOk S op' qr) (ha : SE S .rd a f) (hb : SE S .rd b g) (hc : SE S .rd c h) (hm : lastMarks [op, op'] [b, c] = false) : ST S (.Compare a [op, op'] [b, c] pos) (mBl (mChain pr qr f g h)) := by
  intro X fit W tk A fp tmp σ H ρ Q I hw
  refine ⟨_, pt_chain opW opW pe_WE pe_WE pe_WE hm, chain_core h1 h2 ha hb hc fit tk I (wpx_mono (wpx_bnd hw) (fun d ρ' hd H' fp' I' s' => ?_) fun _ _ z => z)⟩
  obtain ⟨k, ek, hq⟩ := wpx_ofO hd
  exact ⟨k, bl?_some ek, k, rfl, hq H' fp' I' s'⟩
theorem cmp_of {op : CmpOp} {pr : List D → Option D} (h : ∀ mr, PrimOk S [.rd, .rd] mr (pk2 pr) (rdCmp op)) : True := trivial
theorem cmpok_lt : CmpOk S .Lt dLt := fun X fit H T T' v w d e k Q r1 r2 ed q => by
  cases d <;> cases e <;> simp only [dLt, reduceCtorEq] at ed
  case int.int i j => cases ed; have e1 := r1.i; have e2 := r2.i; subst e1 e2; exact ⟨_, op_lt, i, j, rfl, rfl, q⟩
  case str.str i j => cases ed; have e1 := r1.s; have e2 := r2.s; subst e1 e2; exact ⟨_, op_lt_str, i, j, rfl, rfl, q⟩
theorem cmpok_le : CmpOk S .LtE dLe := fun X fit H T T' v w d e k Q r1 r2 ed q => by
  cases d <;> cases e <;> simp only [dLe, reduceCtorEq] at ed
  case int.int i j => cases ed; have e1 := r1.i; have e2 := r2.i; subst e1 e2; exact ⟨_, op_le, i, j, rfl, rfl, q⟩
theorem cmpok_gt : CmpOk S .Gt dGt := fun X fit H T T' v w d e k Q r1 r2 ed q => by
  cases d <;> cases e <;> simp only [dGt, reduceCtorEq] at ed
  case int.int i j => cases ed; have e1 := r1.i; have e2 := r2.i; subst e1 e2; exact ⟨_, op_gt, i, j, rfl, rfl, q⟩
theorem cmpok_ge : CmpOk S .GtE dGe := fun X fit H T T' v w d e k Q r1 r2 ed q => by
  cases d <;> cases e <;> simp only [dGe, reduceCtorEq] at ed
  case int.int i j => cases ed; have e1 := r1.i; have e2 := r2.i; subst e1 e2; exact ⟨_, op_ge, i, j, rfl, rfl, q⟩
end
end VS

set_option Elab.async false
set_option linter.all false
set_option maxRecDepth 100000
set_option maxHeartbeats 4000000
/-! VS11: calls of defs: what is handed over, what comes back. -/
namespace VS
open PySem PySem.Spec PyProof.Rows L2

/-- an argument: a value of a mode, or an owned slot lent -/
inductive AK where | v (m : Mode) | r (i k : Nat)
  deriving DecidableEq, Repr
inductive ArgL (K : PySem.W.Frag) (cl : Cl) (κ : List Kd) (A : Gd) (fp : Nat → List Addr) (tmp : Addr → Prop) (σ : L2.St) (H : Hp) : List (List Addr) → List V → List D → List AK → Prop
  | nil : ArgL K cl κ A fp tmp σ H [] [] [] []
  | v {F : List Addr} {Fs : List (List Addr)} {v : V} {vs : List V} {d : D} {ds : List D} {m : Mode} {as : List AK} : Res K cl κ A fp tmp H F v d m → (∀ b ∈ F, b ∉ Fs.flatten) → ArgL K cl κ A fp tmp σ H Fs vs ds as → ArgL K cl κ A fp tmp σ H (F :: Fs) (v :: vs) (d :: ds) (.v m :: as)
  | r {Fs : List (List Addr)} {v : V} {vs : List V} {ds : List D} {i k : Nat} {as : List AK} : σ[i]? = some (some v) → ArgL K cl κ A fp tmp σ H Fs vs ds as → ArgL K cl κ A fp tmp σ H ([] :: Fs) (v :: vs) (.un :: ds) (.r i k :: as)
def SAs (S : Sx) (as : List AK) (es : List Expr) (f : M (List D)) : Prop :=
  ∀ (X : Cx), Fit S X → ∀ (W : WX), Takes X W → ∀ (A : Gd) (fp : Nat → List Addr) (tmp : Addr → Prop) (σ : L2.St) (H : Hp) (ρ : List D) (Q : List V → Hp → Prop),
    SI X.K (clX X.mg) S.κ A fp tmp σ H ρ →
    wpx (f ρ) (fun ds ρ' => ∀ vs H' fp' Fs, SI X.K (clX X.mg) S.κ A fp' (tF tmp Fs.flatten) σ H' ρ' → Stp S.κ fp tmp H ρ fp' (tF tmp Fs.flatten) H' ρ' → (∀ b ∈ Fs.flatten, H b = none) → ArgL X.K (clX X.mg) S.κ A fp' (tF tmp Fs.flatten) σ H' Fs vs ds as → Q vs H')
      (XQ X W S.κ A fp tmp σ H ρ) → WEs X es σ H Q
section
variable {S : Sx} {e : Expr} {es : List Expr} {f : M D} {m : Mode} {as : List AK}
theorem sas_nil : SAs S [] [] mNil := fun X fit W tk A fp tmp σ H ρ Q I hw =>
  hw [] H fp [] (by show SI _ _ _ _ _ (tF tmp []) _ _ _; rw [tF_nil]; exact I) (by show Stp _ _ _ _ _ _ (tF tmp []) _ _; rw [tF_nil]; exact .refl) emp .nil
theorem sas_v {g : M (List D)} (h1 : SE S m e f) (h2 : SAs S as es g) : SAs S (.v m :: as) (e :: es) (mCons f g) := by
  intro X fit W tk A fp tmp σ H ρ Q I hw
  refine h1 X fit W tk A fp tmp σ H ρ _ I (wpx_mono (wpx_bnd hw) (fun d ρ1 hd v H1 fp1 F I1 s1 nt1 r1 => ?_) fun _ _ z => z)
  refine h2 X fit W tk A fp1 (tF tmp F) σ H1 ρ1 _ I1 (wpx_mono (wpx_bnd hd) (fun ds ρ2 hds vs H2 fp2 Fs I2 s2 nt2 r2 => ?_) fun x ρ' z => z.step s1 fun b q => .inl q)
  rw [tF_app] at I2 s2 r2
  exact hds (v :: vs) H2 fp2 (F :: Fs) I2 (s1.trans s2) (fun b hb => (List.mem_append.mp hb).elim (nt1 b) fun z => none_back s1.ex (nt2 b z))
    (.v (r1.step s2 I1 fun b q => by show tF tmp (F ++ Fs.flatten) b; rw [← tF_app]; exact .inl q) (fun b hb z => I1.fa b (.inr (.inr hb)) (nt2 b z)) r2)
def mRef (i : Nat) : M D := fun ρ => match ρ.getD i .un with
  | .un => .stuck
  | _ => .ok .un ρ
theorem wpx_ref {i : Nat} {ρ : List D} {Q : D → List D → Prop} {E : D → List D → Prop} (h : wpx (mRef i ρ) Q E) : ∃ d, ρ[i]? = some d ∧ d ≠ .un ∧ Q .un ρ := by
  unfold mRef at h
  have e : ρ.getD i .un = (ρ[i]?).getD .un := by simp [List.getD]
  rw [e] at h
  cases q : ρ[i]? with
  | none => rw [q] at h; exact h.elim
  | some d =>
    rw [q] at h
    cases d <;> first | exact h.elim | exact ⟨_, rfl, by simp, h⟩
theorem sas_r {g : M (List D)} {i k : Nat} {x : Str} {pos : Pos} (hN : S.N[i]? = some x) (hk : S.κ[i]? = some (.X k)) (hv : visB S.sc x = true) (hn : okName x = true) (h2 : SAs S as es g) : SAs S (.r i k :: as) (.Name x pos :: es) (mCons (mRef i) g) := by
  intro X fit W tk A fp tmp σ H ρ Q I hw
  obtain ⟨d, hd, hu, hw⟩ := wpx_ref (wpx_bnd hw)
  obtain ⟨v, hs, hsl⟩ := I.sl i d _ hd hu hk
  refine we_var fit hN hv hn hs (h2 X fit W tk A fp tmp σ H ρ _ I (wpx_mono (wpx_bnd hw) (fun ds ρ2 hds vs H2 fp2 Fs I2 s2 nt2 r2 => ?_) fun _ _ z => z))
  exact hds (v :: vs) H2 fp2 ([] :: Fs) I2 s2 nt2 (.r hs r2)
end

/-! ### lent slots -/
def refOf (as : List AK) (i : Nat) : Option Nat := as.findIdx? fun a => match a with
  | .r j _ => j == i
  | _ => false
def refsOf (as : List AK) : List Nat := as.filterMap fun a => match a with
  | .r j _ => some j
  | _ => none
def fillR : List AK → List D → List D → List D
  | .r i _ :: as, _ :: ds, ρ => ρ.getD i .un :: fillR as ds ρ
  | _ :: as, d :: ds, ρ => d :: fillR as ds ρ
  | _, _, _ => []
def setR : List AK → List D → List D → List D
  | .r i _ :: as, o :: os, ρ => setR as os (ρ.set i o)
  | _ :: as, _ :: os, ρ => setR as os ρ
  | _, _, ρ => ρ
def argFp (fp : Nat → List Addr) : List AK → List (List Addr) → List (List Addr)
  | .r i _ :: as, _ :: Fs => fp i :: argFp fp as Fs
  | _ :: as, F :: Fs => F :: argFp fp as Fs
  | _, _ => []
theorem refOf_some {as : List AK} {i j : Nat} (h : refOf as i = some j) : ∃ k, as[j]? = some (.r i k) := by
  unfold refOf at h
  obtain ⟨hl, hp, _⟩ := List.findIdx?_eq_some_iff_getElem.mp h
  cases q : as[j] with
  | v m => rw [q] at hp; cases hp
  | r i' k =>
    rw [q] at hp
    have : i' = i := by simpa using hp
    subst this
    exact ⟨k, by rw [List.getElem?_eq_getElem hl, q]⟩
theorem refOf_none {as : List AK} {i : Nat} (h : refOf as i = none) : ∀ (j k : Nat), as[j]? ≠ some (AK.r i k) := fun j k z => by
  unfold refOf at h
  have := List.findIdx?_eq_none_iff.mp h (.r i k) (List.mem_of_getElem? z)
  simp at this
theorem ref_uniq : ∀ {as : List AK}, (refsOf as).Nodup → ∀ {i j j' k k' : Nat}, as[j]? = some (.r i k) → as[j']? = some (.r i k') → j = j'
  | [], _, i, j, j', k, k', h, _ => by simp at h
  | a :: as, nd, i, j, j', k, k', h, h' => by
    have mem : ∀ {n k : Nat}, as[n]? = some (.r i k) → i ∈ refsOf as := fun {n k} z => List.mem_filterMap.mpr ⟨.r i k, List.mem_of_getElem? z, rfl⟩
    have nd2 : (refsOf as).Nodup := by
      cases a with
      | v m => exact nd
      | r x y => exact (List.nodup_cons.mp (show (x :: refsOf as).Nodup from nd)).2
    cases j with
    | zero =>
      cases j' with
      | zero => rfl
      | succ n =>
        have e : a = .r i k := by simpa using h
        subst e
        exact absurd (mem (by simpa using h')) (List.nodup_cons.mp (show (i :: refsOf as).Nodup from nd)).1
    | succ n =>
      cases j' with
      | zero =>
        have e : a = .r i k' := by simpa using h'
        subst e
        exact absurd (mem (by simpa using h)) (List.nodup_cons.mp (show (i :: refsOf as).Nodup from nd)).1
      | succ n' =>
        have := ref_uniq nd2 (j := n) (j' := n') (by simpa using h) (by simpa using h')
        omega
theorem setR_none : ∀ {as : List AK} {os ρ : List D} {i : Nat}, (∀ (j k : Nat), as[j]? ≠ some (AK.r i k)) → (setR as os ρ)[i]? = ρ[i]?
  | [], _, _, _, _ => rfl
  | _ :: _, [], _, _, _ => by unfold setR; split <;> first | rfl | contradiction
  | a :: as, o :: os, ρ, i, h => by
    have h' : ∀ (j k : Nat), as[j]? ≠ some (AK.r i k) := fun j k z => h (j + 1) k (by simpa using z)
    cases a with
    | v m =>
      show (setR as os ρ)[i]? = _
      exact setR_none h'
    | r x k =>
      show (setR as os (ρ.set x o))[i]? = _
      rw [setR_none h', List.getElem?_set_ne]
      intro e
      exact h 0 k (by simp [e])
theorem setR_some : ∀ {as : List AK} {os ρ : List D} {i j k : Nat} {d : D}, (refsOf as).Nodup → as[j]? = some (.r i k) → (setR as os ρ)[i]? = some d → j < os.length → os[j]? = some d
  | [], _, _, _, _, _, _, _, h, _, _ => by simp at h
  | _ :: _, [], _, _, _, _, _, _, _, _, hl => by simp at hl
  | a :: as, o :: os, ρ, i, j, k, d, nd, h, hd, hl => by
    have mem : ∀ {n k : Nat}, as[n]? = some (.r i k) → i ∈ refsOf as := fun {n k} z => List.mem_filterMap.mpr ⟨.r i k, List.mem_of_getElem? z, rfl⟩
    cases j with
    | zero =>
      have e : a = .r i k := by simpa using h
      subst e
      have nd' := List.nodup_cons.mp (show (i :: refsOf as).Nodup from nd)
      have hd' : (setR as os (ρ.set i o))[i]? = some d := hd
      rw [setR_none fun n k z => nd'.1 (mem z)] at hd'
      by_cases hi : i < ρ.length
      · rw [List.getElem?_set_self hi] at hd'
        simpa using hd'
      · rw [List.getElem?_eq_none (by simpa using hi)] at hd'
        cases hd'
    | succ n =>
      cases a with
      | v m =>
        have := setR_some (as := as) (os := os) (ρ := ρ) (j := n) (k := k) nd (by simpa using h) hd (by simpa using hl)
        simpa using this
      | r x y =>
        have := setR_some (as := as) (os := os) (ρ := ρ.set x o) (j := n) (k := k) (List.nodup_cons.mp (show (x :: refsOf as).Nodup from nd)).2 (by simpa using h) hd (by simpa using hl)
        simpa using this
section
variable {K : PySem.W.Frag} {cl : Cl} {κ : List Kd} {A : Gd} {fp : Nat → List Addr} {tmp : Addr → Prop} {σ : L2.St} {H : Hp}
theorem ArgL.len {Fs : List (List Addr)} {vs : List V} {ds : List D} {as : List AK} (h : ArgL K cl κ A fp tmp σ H Fs vs ds as) : Fs.length = as.length ∧ vs.length = as.length ∧ ds.length = as.length := by
  induction h with
  | nil => exact ⟨rfl, rfl, rfl⟩
  | v _ _ _ ih => simp [ih.1, ih.2.1, ih.2.2]
  | r _ _ ih => simp [ih.1, ih.2.1, ih.2.2]
theorem ArgL.atV {Fs : List (List Addr)} {vs : List V} {ds : List D} {as : List AK} (h : ArgL K cl κ A fp tmp σ H Fs vs ds as) : ∀ {j : Nat} {m : Mode} {ρ : List D}, as[j]? = some (.v m) →
    ∃ F v d, Fs[j]? = some F ∧ vs[j]? = some v ∧ (fillR as ds ρ)[j]? = some d ∧ (argFp fp as Fs)[j]? = some F ∧ Res K cl κ A fp tmp H F v d m := by
  induction h with
  | nil => intro j m ρ h; simp at h
  | v r _ _ ih =>
    intro j m ρ h
    cases j with
    | zero => simp at h; subst h; exact ⟨_, _, _, rfl, rfl, rfl, rfl, r⟩
    | succ n =>
      obtain ⟨F, v, d, h1, h2, h3, h4, h5⟩ := ih (j := n) (ρ := ρ) (by simpa using h)
      exact ⟨F, v, d, by simpa using h1, by simpa using h2, by simpa [fillR] using h3, by simpa [argFp] using h4, h5⟩
  | r e _ ih =>
    intro j m ρ h
    cases j with
    | zero => simp at h
    | succ n =>
      obtain ⟨F, v, d, h1, h2, h3, h4, h5⟩ := ih (j := n) (ρ := ρ) (by simpa using h)
      exact ⟨F, v, d, by simpa using h1, by simpa using h2, by simpa [fillR] using h3, by simpa [argFp] using h4, h5⟩
theorem ArgL.atR {Fs : List (List Addr)} {vs : List V} {ds : List D} {as : List AK} (h : ArgL K cl κ A fp tmp σ H Fs vs ds as) : ∀ {j i k : Nat} {ρ : List D}, as[j]? = some (.r i k) →
    ∃ v, vs[j]? = some v ∧ σ[i]? = some (some v) ∧ (fillR as ds ρ)[j]? = some (ρ.getD i .un) ∧ (argFp fp as Fs)[j]? = some (fp i) := by
  induction h with
  | nil => intro j i k ρ h; simp at h
  | v r _ _ ih =>
    intro j i k ρ h
    cases j with
    | zero => simp at h
    | succ n =>
      obtain ⟨v, h1, h2, h3, h4⟩ := ih (j := n) (ρ := ρ) (by simpa using h)
      exact ⟨v, by simpa using h1, h2, by simpa [fillR] using h3, by simpa [argFp] using h4⟩
  | r e _ ih =>
    intro j i k ρ h
    cases j with
    | zero => simp at h; obtain ⟨rfl, rfl⟩ := h; exact ⟨_, rfl, e, rfl, rfl⟩
    | succ n =>
      obtain ⟨v, h1, h2, h3, h4⟩ := ih (j := n) (ρ := ρ) (by simpa using h)
      exact ⟨v, by simpa using h1, h2, by simpa [fillR] using h3, by simpa [argFp] using h4⟩
theorem ArgL.disj {Fs : List (List Addr)} {vs : List V} {ds : List D} {as : List AK} (h : ArgL K cl κ A fp tmp σ H Fs vs ds as) : ∀ {j j' : Nat} {F F' : List Addr} {b : Addr}, Fs[j]? = some F → Fs[j']? = some F' → b ∈ F → b ∈ F' → j = j' := by
  induction h with
  | nil => intro j j' F F' b h; simp at h
  | v r nf _ ih =>
    intro j j' F F' b h1 h2 hb hb'
    cases j with
    | zero =>
      cases j' with
      | zero => rfl
      | succ n =>
        simp at h1; subst h1
        exact absurd (List.mem_flatten.mpr ⟨F', List.mem_of_getElem? (by simpa using h2), hb'⟩) (nf b hb)
    | succ n =>
      cases j' with
      | zero =>
        simp at h2; subst h2
        exact absurd (List.mem_flatten.mpr ⟨F, List.mem_of_getElem? (by simpa using h1), hb⟩) (nf b hb')
      | succ n' =>
        have := ih (j := n) (j' := n') (by simpa using h1) (by simpa using h2) hb hb'
        omega
  | r e _ ih =>
    intro j j' F F' b h1 h2 hb hb'
    cases j with
    | zero => simp at h1; subst h1; cases hb
    | succ n =>
      cases j' with
      | zero => simp at h2; subst h2; cases hb'
      | succ n' =>
        have := ih (j := n) (j' := n') (by simpa using h1) (by simpa using h2) hb hb'
        omega
end
/-- the callee's kinds fit the arguments -/
def akOk : AK → Kd → Bool
  | .v (.val 0), .F => true
  | .v .rd, .B => true
  | .v (.val k), .L j => k == j && 0 < k
  | .v (.val k), .X j => k == j && 0 < k
  | .r _ k, .L j => k == j
  | .r _ k, .X j => k == j
  | _, _ => false
def aksOk (as : List AK) (ks : List Kd) : Bool := as.length == ks.length && (as.zip ks).all fun p => akOk p.1 p.2
theorem aksOk_get {as : List AK} {ks : List Kd} (h : aksOk as ks = true) {j : Nat} {c : Kd} (hc : ks[j]? = some c) : ∃ a, as[j]? = some a ∧ akOk a c = true := by
  unfold aksOk at h
  simp only [Bool.and_eq_true, beq_iff_eq] at h
  obtain ⟨hl, ha⟩ := h
  have hj : j < ks.length := (List.getElem?_eq_some_iff.mp hc).1
  have hj' : j < as.length := by omega
  refine ⟨as[j], List.getElem?_eq_getElem hj', ?_⟩
  have m : (as[j], c) ∈ as.zip ks := by
    refine List.mem_of_getElem? (i := j) ?_
    rw [List.getElem?_zip_eq_some]
    exact ⟨List.getElem?_eq_getElem hj', hc⟩
  exact List.all_eq_true.mp ha _ m
end VS

set_option Elab.async false
set_option linter.all false
set_option maxRecDepth 100000
set_option maxHeartbeats 4000000
/-! VS12: the heap as a callee sees it; behind the call. -/
namespace VS
open PySem PySem.Spec PyProof.Rows L2
section
variable {K : PySem.W.Frag} {cl : Cl} {κ ks : List Kd} {A : Gd} {fp fp1 : Nat → List Addr} {tmp : Addr → Prop} {σ : L2.St} {H H1 H' : Hp} {ρ ρ1 os : List D} {Fs : List (List Addr)} {vs : List V} {ds : List D} {as : List AK}
theorem argFp_get (h : ArgL K cl κ A fp tmp σ H Fs vs ds as) : ∀ {j : Nat} {G : List Addr}, (argFp fp as Fs)[j]? = some G → (∃ i k, as[j]? = some (.r i k) ∧ G = fp i) ∨ ∃ m, as[j]? = some (.v m) ∧ Fs[j]? = some G := by
  induction h with
  | nil => intro j G h; simp [argFp] at h
  | v r _ _ ih =>
    intro j G h
    cases j with
    | zero => simp [argFp] at h; subst h; exact .inr ⟨_, rfl, rfl⟩
    | succ n =>
      rcases ih (j := n) (G := G) (by simpa [argFp] using h) with ⟨i, k, a, b⟩ | ⟨m, a, b⟩
      · exact .inl ⟨i, k, by simpa using a, b⟩
      · exact .inr ⟨m, by simpa using a, by simpa using b⟩
  | r e _ ih =>
    intro j G h
    cases j with
    | zero => simp [argFp] at h; subst h; exact .inl ⟨_, _, rfl, rfl⟩
    | succ n =>
      rcases ih (j := n) (G := G) (by simpa [argFp] using h) with ⟨i, k, a, b⟩ | ⟨m, a, b⟩
      · exact .inl ⟨i, k, by simpa using a, b⟩
      · exact .inr ⟨m, by simpa using a, by simpa using b⟩
def fpA (fp1 : Nat → List Addr) (as : List AK) (Fs : List (List Addr)) (j : Nat) : List Addr := ((argFp fp1 as Fs)[j]?).getD []
def tmpA (fp1 : Nat → List Addr) (tmp : Addr → Prop) (as : List AK) (Fs : List (List Addr)) (b : Addr) : Prop := OO fp1 (tF tmp Fs.flatten) b ∧ ¬ OS (fpA fp1 as Fs) b
theorem fpA_mem (h : ArgL K cl κ A fp tmp σ H Fs vs ds as) {j : Nat} {b : Addr} (hb : b ∈ fpA fp as Fs j) : (∃ i k, as[j]? = some (.r i k) ∧ b ∈ fp i) ∨ ∃ m F, as[j]? = some (.v m) ∧ Fs[j]? = some F ∧ b ∈ F := by
  unfold fpA at hb
  cases q : (argFp fp as Fs)[j]? with
  | none => rw [q] at hb; cases hb
  | some G =>
    rw [q] at hb
    rcases argFp_get h q with ⟨i, k, a, e⟩ | ⟨m, a, e⟩
    · subst e; exact .inl ⟨i, k, a, hb⟩
    · exact .inr ⟨m, G, a, e, hb⟩
theorem mem_flat {j : Nat} {F : List Addr} {b : Addr} (h : Fs[j]? = some F) (hb : b ∈ F) : b ∈ Fs.flatten := List.mem_flatten.mpr ⟨F, List.mem_of_getElem? h, hb⟩
theorem fillR_len : ∀ (as : List AK) (ds ρ : List D), ds.length = as.length → (fillR as ds ρ).length = as.length
  | [], [], _, _ => rfl
  | [], _ :: _, _, h => by simp at h
  | _ :: _, [], _, h => by simp at h
  | a :: as, d :: ds, ρ, h => by cases a <;> simp [fillR, fillR_len as ds ρ (by simpa using h)]
theorem setR_len : ∀ (as : List AK) (os ρ : List D), (setR as os ρ).length = ρ.length
  | [], _, _ => by simp [setR]
  | _ :: _, [], _ => by unfold setR; split <;> first | rfl | contradiction
  | a :: as, o :: os, ρ => by
    cases a with
    | v m => exact setR_len as os ρ
    | r i k =>
      show (setR as os (ρ.set i o)).length = _
      rw [setR_len as os]
      simp
structure CallSt (K : PySem.W.Frag) (cl : Cl) (κ ks : List Kd) (A : Gd) (fp fp1 : Nat → List Addr) (tmp : Addr → Prop) (σ : L2.St) (H H1 : Hp) (ρ ρ1 : List D) (Fs : List (List Addr)) (vs : List V) (ds : List D) (as : List AK) : Prop where
  I : SI K cl κ A fp tmp σ H ρ
  I1 : SI K cl κ A fp1 (tF tmp Fs.flatten) σ H1 ρ1
  s1 : Stp κ fp tmp H ρ fp1 (tF tmp Fs.flatten) H1 ρ1
  nF : ∀ b ∈ Fs.flatten, H b = none
  ar : ArgL K cl κ A fp1 (tF tmp Fs.flatten) σ H1 Fs vs ds as
  hk : aksOk as ks = true
  nd : (refsOf as).Nodup
  hX : ∀ (j i k : Nat), as[j]? = some (AK.r i k) → κ[i]? = some (.X k)
variable (c : CallSt K cl κ ks A fp fp1 tmp σ H H1 ρ ρ1 Fs vs ds as)
include c
theorem CallSt.o2 {b : Addr} (h : OS (fpA fp1 as Fs) b) : OX κ fp1 b ∨ b ∈ Fs.flatten := by
  obtain ⟨j, hb⟩ := h
  rcases fpA_mem c.ar hb with ⟨i, k, a, hb⟩ | ⟨m, F, a, e, hb⟩
  · exact .inl ⟨i, ⟨k, c.hX j i k a⟩, hb⟩
  · exact .inr (mem_flat e hb)
theorem CallSt.o1 {b : Addr} (h : OS (fpA fp1 as Fs) b) : OO fp1 (tF tmp Fs.flatten) b := (c.o2 h).elim (fun z => .inl z.os) fun z => .inr (.inr z)
theorem CallSt.oo {b : Addr} : OO (fpA fp1 as Fs) (tmpA fp1 tmp as Fs) b ↔ OO fp1 (tF tmp Fs.flatten) b := by
  constructor
  · rintro (h | h)
    · exact c.o1 h
    · exact h.1
  · intro h
    by_cases q : OS (fpA fp1 as Fs) b
    · exact .inl q
    · exact .inr ⟨h, q⟩
theorem CallSt.notC {b : Addr} (h : b ∈ Fs.flatten) : ¬ A.C b := fun z => c.I.ca b z (c.nF b h)
theorem CallSt.into : SI K cl ks ⟨A.ok, tmpA fp1 tmp as Fs⟩ (fpA fp1 as Fs) (tmpA fp1 tmp as Fs) (vs.map some) H1 (fillR as ds ρ1) := by
  have hS : ∀ b, Sh A fp1 (tF tmp Fs.flatten) b → Sh ⟨A.ok, tmpA fp1 tmp as Fs⟩ (fpA fp1 as Fs) (tmpA fp1 tmp as Fs) b := fun b s => ⟨s.1, fun z => s.2 (c.oo.mp z)⟩
  have hlen : as.length = ks.length := by
    have := c.hk
    unfold aksOk at this
    simp only [Bool.and_eq_true, beq_iff_eq] at this
    exact this.1
  have hal := c.ar.len
  refine ⟨⟨by rw [List.length_map]; omega, by rw [fillR_len as ds ρ1 hal.2.2]; exact hlen⟩, c.I1.an, fun b h => c.I1.fa b h.1, fun b h => c.I1.fa b (c.oo.mp h), fun j b hb => ?_, fun j j' b hb hb' => ?_, fun j => ?_, fun j b hb z => z.2 ⟨j, hb⟩, fun j b hb z => z.2 ⟨j, hb⟩, fun j b hb => ?_, fun j d kd e1 e2 e3 => ?_⟩
  · rcases fpA_mem c.ar hb with ⟨i, k, a, hb⟩ | ⟨m, F, a, e, hb⟩
    · exact c.I1.fA i b hb
    · obtain ⟨F', v, d, q1, _, _, _, r⟩ := c.ar.atV (ρ := ρ1) a
      rw [e] at q1; cases q1
      cases m with
      | rd => obtain ⟨rfl, _⟩ := r; cases hb
      | el => obtain ⟨rfl, _⟩ := r; cases hb
      | val k => exact (r.2.1 b hb).2
  · rcases fpA_mem c.ar hb with ⟨i, k, a, hb⟩ | ⟨m, F, a, e, hb⟩ <;> rcases fpA_mem c.ar hb' with ⟨i', k', a', hb'⟩ | ⟨m', F', a', e', hb'⟩
    · have := c.I1.dj i i' b hb hb'
      subst this
      exact ref_uniq c.nd a a'
    · exact absurd (.inr (mem_flat e' hb')) (c.I1.dt i b hb)
    · exact absurd (.inr (mem_flat e hb)) (c.I1.dt i' b hb')
    · exact c.ar.disj e e' hb hb'
  · unfold fpA
    cases q : (argFp fp1 as Fs)[j]? with
    | none => exact List.nodup_nil
    | some G =>
      rcases argFp_get c.ar q with ⟨i, k, a, e⟩ | ⟨m, a, e⟩
      · subst e; exact c.I1.nd i
      · obtain ⟨F', v, d, q1, _, _, _, r⟩ := c.ar.atV (ρ := ρ1) a
        rw [e] at q1; cases q1
        cases m with
        | rd => obtain ⟨rfl, _⟩ := r; exact List.nodup_nil
        | el => obtain ⟨rfl, _⟩ := r; exact List.nodup_nil
        | val k => exact r.1
  · have hj : j < ks.length := by
      rcases fpA_mem c.ar hb with ⟨_, _, a, _⟩ | ⟨_, _, a, _⟩
      · have := (List.getElem?_eq_some_iff.mp a).1; omega
      · have := (List.getElem?_eq_some_iff.mp a).1; omega
    obtain ⟨a, ha, hok⟩ := aksOk_get c.hk (List.getElem?_eq_getElem hj)
    refine ⟨_, List.getElem?_eq_getElem hj, ?_⟩
    generalize ks[j] = kd at hok
    cases a with
    | r i k => cases kd <;> simp [akOk] at hok <;> rfl
    | v m =>
      obtain ⟨F', v, d, q1, _, _, q4, r⟩ := c.ar.atV (ρ := ρ1) ha
      have ef : fpA fp1 as Fs j = F' := by unfold fpA; rw [q4]; rfl
      rw [ef] at hb
      cases m with
      | rd => obtain ⟨rfl, _⟩ := r; cases hb
      | el => obtain ⟨rfl, _⟩ := r; cases hb
      | val k =>
        cases k with
        | zero =>
          obtain ⟨z, _⟩ := r.2.2.zero
          rw [z] at hb; cases hb
        | succ n => cases kd <;> simp [akOk] at hok <;> rfl
  · obtain ⟨a, ha, hok⟩ := aksOk_get c.hk e3
    cases a with
    | r i k =>
      obtain ⟨v, q1, q2, q3, q4⟩ := c.ar.atR (ρ := ρ1) ha
      rw [q3] at e1
      have e1' : ρ1.getD i .un = d := Option.some.inj e1
      have hd : ρ1[i]? = some d := by
        have z : ρ1.getD i .un = (ρ1[i]?).getD .un := by simp [List.getD]
        rw [z] at e1'
        cases q : ρ1[i]? with
        | none => rw [q] at e1'; exact absurd e1'.symm e2
        | some d' => rw [q] at e1'; exact congrArg some e1'
      obtain ⟨v', q5, sl⟩ := c.I1.sl i d _ hd e2 (c.hX j i k ha)
      rw [q2] at q5; cases q5
      refine ⟨v, by rw [List.getElem?_map, q1]; rfl, ?_⟩
      have ef : fpA fp1 as Fs j = fp1 i := by unfold fpA; rw [q4]; rfl
      have o : Own K cl H1 (Sh ⟨A.ok, tmpA fp1 tmp as Fs⟩ (fpA fp1 as Fs) (tmpA fp1 tmp as Fs)) k (fpA fp1 as Fs j) v d := by
        rw [ef]
        exact Own.ext (P := fun _ => False) Ext.refl (fun b s _ => ⟨hS b s, fun z => z⟩) (fun _ _ z => z) sl
      cases kd <;> simp [akOk] at hok
      · subst hok; exact o
      · subst hok; exact o
    | v m =>
      obtain ⟨F, v, d', q1, q2, q3, q4, r⟩ := c.ar.atV (ρ := ρ1) ha
      rw [q3] at e1; cases e1
      refine ⟨v, by rw [List.getElem?_map, q2]; rfl, ?_⟩
      have ef : fpA fp1 as Fs j = F := by unfold fpA; rw [q4]; rfl
      cases m with
      | rd =>
        cases kd <;> simp [akOk] at hok
        refine Rp.up r.2 fun b s => ⟨fun z => (c.o2 z).elim s.1 fun q => c.notC q (s.2 (.inr q)), fun z => z⟩
      | el => cases kd <;> simp [akOk] at hok
      | val k =>
        have o : Own K cl H1 (Sh ⟨A.ok, tmpA fp1 tmp as Fs⟩ (fpA fp1 as Fs) (tmpA fp1 tmp as Fs)) k (fpA fp1 as Fs j) v d := by
          rw [ef]
          exact Own.ext (P := fun _ => False) Ext.refl (fun b s _ => ⟨hS b s, fun z => z⟩) (fun _ _ z => z) r.2.2
        cases kd with
        | F =>
          cases k with
          | zero => exact o.zero.2
          | succ n => simp [akOk] at hok
        | B => cases k <;> simp [akOk] at hok
        | R => cases k <;> simp [akOk] at hok
        | L k' =>
          have : k = k' := by cases k <;> simp [akOk] at hok; exact hok
          subst this; exact o
        | X k' =>
          have : k = k' := by cases k <;> simp [akOk] at hok; exact hok
          subst this; exact o
theorem CallSt.past {i : Nat} (h : ks.length ≤ i) : fpA fp1 as Fs i = [] := by
  unfold fpA
  have hl : as.length = ks.length := by
    have := c.hk
    unfold aksOk at this
    simp only [Bool.and_eq_true, beq_iff_eq] at this
    exact this.1
  cases q : (argFp fp1 as Fs)[i]? with
  | none => rfl
  | some G =>
    rcases argFp_get c.ar q with ⟨_, _, a, _⟩ | ⟨_, a, _⟩
    · have := (List.getElem?_eq_some_iff.mp a).1; omega
    · have := (List.getElem?_eq_some_iff.mp a).1; omega
/-- the footprints behind the call -/
def fpB (fp1 fpR : Nat → List Addr) (as : List AK) (i : Nat) : List Addr := match refOf as i with
  | some j => fpR j
  | none => fp1 i
theorem CallSt.back {fpR : Nat → List Addr} {F' : List Addr} (hol : os.length = ks.length)
    (J : SI K cl ks ⟨A.ok, tmpA fp1 tmp as Fs⟩ fpR (tF (tmpA fp1 tmp as Fs) F') (vs.map some) H' os) (ex : Ext (OS (fpA fp1 as Fs)) H1 H') (ow : ∀ b, OO fpR (tF (tmpA fp1 tmp as Fs) F') b → OO (fpA fp1 as Fs) (tmpA fp1 tmp as Fs) b ∨ H1 b = none) (si : ∀ i b, b ∈ fpR i → b ∈ fpA fp1 as Fs i ∨ H1 b = none) (nF' : ∀ b ∈ F', H1 b = none) :
    SI K cl κ A (fpB fp1 fpR as) (tF tmp F') σ H' (setR as os ρ1) ∧ Stp κ fp tmp H ρ (fpB fp1 fpR as) (tF tmp F') H' (setR as os ρ1) ∧
      ∀ b, Sh ⟨A.ok, tmpA fp1 tmp as Fs⟩ fpR (tF (tmpA fp1 tmp as Fs) F') b → Sh A (fpB fp1 fpR as) (tF tmp F') b := by
  have hlen : as.length = ks.length := by
    have := c.hk
    unfold aksOk at this
    simp only [Bool.and_eq_true, beq_iff_eq] at this
    exact this.1
  have refX : ∀ {i j : Nat}, refOf as i = some j → ∃ k, as[j]? = some (.r i k) ∧ κ[i]? = some (.X k) := fun {i j} h => let ⟨k, a⟩ := refOf_some h; ⟨k, a, c.hX j i k a⟩
  have inB : ∀ {i : Nat} {b : Addr}, b ∈ fpB fp1 fpR as i → (∃ j, refOf as i = some j ∧ b ∈ fpR j) ∨ (refOf as i = none ∧ b ∈ fp1 i) := fun {i b} h => by
    unfold fpB at h
    cases q : refOf as i with
    | some j => rw [q] at h; exact .inl ⟨j, rfl, h⟩
    | none => rw [q] at h; exact .inr ⟨rfl, h⟩
  -- the slots that aren't lent are the callers' to the callee
  have oth : ∀ {i : Nat} {b : Addr}, refOf as i = none → b ∈ fp1 i → tmpA fp1 tmp as Fs b := fun {i b} hr hb => by
    refine ⟨.inl ⟨i, hb⟩, fun ⟨j, z⟩ => ?_⟩
    rcases fpA_mem c.ar z with ⟨i', k, a, z⟩ | ⟨m, F, a, e, z⟩
    · have := c.I1.dj i i' b hb z
      subst this
      exact refOf_none hr j k a
    · exact c.I1.dt i b hb (.inr (mem_flat e z))
  have tmpT : ∀ {b : Addr}, tmp b → tmpA fp1 tmp as Fs b := fun {b} hb => by
    refine ⟨.inr (.inl hb), fun z => ?_⟩
    rcases c.o2 z with ⟨i, _, z⟩ | z
    · exact c.I1.dt i b z (.inl hb)
    · exact c.I.fa b (.inr hb) (c.nF b z)
  have ooB : ∀ {b : Addr}, OO (fpB fp1 fpR as) (tF tmp F') b → OO fpR (tF (tmpA fp1 tmp as Fs) F') b := fun {b} h => by
    rcases h with ⟨i, h⟩ | h | h
    · rcases inB h with ⟨j, _, h⟩ | ⟨hr, h⟩
      · exact .inl ⟨j, h⟩
      · exact .inr (.inl (oth hr h))
    · exact .inr (.inl (tmpT h))
    · exact .inr (.inr h)
  have ow1 : ∀ {b : Addr}, OO (fpB fp1 fpR as) (tF tmp F') b → OO fp1 (tF tmp Fs.flatten) b ∨ H1 b = none := fun {b} h => (ow b (ooB h)).imp c.oo.mp id
  -- what a lent slot owns behind the call, it owned ahead, or it is new
  have backR : ∀ {j : Nat} {b : Addr}, b ∈ fpR j → OS (fpA fp1 as Fs) b ∨ H1 b = none := fun {j b} h => by
    rcases ow b (.inl ⟨j, h⟩) with (z | z) | z
    · exact .inl z
    · exact absurd (.inl z) (J.dt j b h)
    · exact .inr z
  have newH : ∀ {b : Addr}, H1 b = none → H b = none := fun {b} h => none_back c.s1.ex h
  have shB : ∀ b, Sh ⟨A.ok, tmpA fp1 tmp as Fs⟩ fpR (tF (tmpA fp1 tmp as Fs) F') b → Sh A (fpB fp1 fpR as) (tF tmp F') b := fun b s => ⟨s.1, fun z => s.2 (ooB z)⟩
  refine ⟨⟨⟨c.I1.sz.1, by rw [setR_len]; exact c.I1.sz.2⟩, J.an, fun b h => ex.al b (c.I1.ca b h), fun b h => J.fa b (ooB h), fun i b h => ?_, fun i i' b h h' => ?_, fun i => ?_, fun i b h z => ?_, fun i b h z => ?_, fun i b h => ?_, fun i d kd e1 e2 e3 => ?_⟩, ⟨?_, fun b h => ?_, fun b h => ?_, fun b h => ?_, fun i b hx h => ?_, fun i hx => ?_, fun i b h => ?_⟩, shB⟩
  · rcases inB h with ⟨j, _, h⟩ | ⟨_, h⟩
    · exact J.fA j b h
    · exact c.I1.fA i b h
  · rcases inB h with ⟨j, hr, h⟩ | ⟨hr, h⟩ <;> rcases inB h' with ⟨j', hr', h'⟩ | ⟨hr', h'⟩
    · have := J.dj j j' b h h'
      subst this
      obtain ⟨k, a, _⟩ := refX hr
      obtain ⟨k', a', _⟩ := refX hr'
      rw [a] at a'
      cases a'
      rfl
    · exact absurd (.inl (oth hr' h')) (J.dt j b h)
    · exact absurd (.inl (oth hr h)) (J.dt j' b h')
    · exact c.I1.dj i i' b h h'
  · unfold fpB
    cases refOf as i with
    | some j => exact J.nd j
    | none => exact c.I1.nd i
  · rcases inB h with ⟨j, hr, h⟩ | ⟨hr, h⟩
    · refine J.dt j b h ?_
      rcases z with z | z
      · exact .inl (tmpT z)
      · exact .inr z
    · rcases z with z | z
      · exact c.I1.dt i b h (.inl z)
      · exact c.I1.fa b (.inl ⟨i, h⟩) (nF' b z)
  · rcases inB h with ⟨j, hr, h⟩ | ⟨_, h⟩
    · obtain ⟨k, a, _⟩ := refX hr
      obtain ⟨_, _, _, _, q4⟩ := c.ar.atR (ρ := ρ1) a
      have ef : fpA fp1 as Fs j = fp1 i := by unfold fpA; rw [q4]; rfl
      rcases si j b h with y | y
      · rw [ef] at y; exact c.I1.cd i b y z
      · exact c.I1.ca b z y
    · exact c.I1.cd i b h z
  · rcases inB h with ⟨j, hr, _⟩ | ⟨_, h⟩
    · obtain ⟨k, _, hk⟩ := refX hr
      exact ⟨_, hk, rfl⟩
    · exact c.I1.lf i b h
  · cases hr : refOf as i with
    | some j =>
      obtain ⟨k, a, hk⟩ := refX hr
      have ha := (List.getElem?_eq_some_iff.mp a).1
      have e4 : os[j]? = some d := setR_some c.nd a e1 (by omega)
      obtain ⟨v, q1, q2, _, _⟩ := c.ar.atR (ρ := ρ1) a
      obtain ⟨kc, hkc⟩ : ∃ kc, ks[j]? = some kc := ⟨ks[j]'(by omega), List.getElem?_eq_getElem (by omega)⟩
      obtain ⟨a', ha', hok⟩ := aksOk_get c.hk hkc
      rw [a] at ha'; cases ha'
      obtain ⟨v', q3, sl⟩ := J.sl j d kc e4 e2 hkc
      rw [List.getElem?_map, q1] at q3
      cases q3
      refine ⟨v, q2, ?_⟩
      rw [hk] at e3; cases e3
      have ef : fpB fp1 fpR as i = fpR j := by unfold fpB; rw [hr]
      have o : Own K cl H' (Sh ⟨A.ok, tmpA fp1 tmp as Fs⟩ fpR (tF (tmpA fp1 tmp as Fs) F')) k (fpR j) v d := by
        cases kc <;> simp [akOk] at hok
        · subst hok; exact sl
        · subst hok; exact sl
      show Own K cl H' (Sh A (fpB fp1 fpR as) (tF tmp F')) k (fpB fp1 fpR as i) v d
      rw [ef]
      exact Own.ext (P := fun _ => False) Ext.refl (fun b s _ => ⟨shB b s, fun z => z⟩) (fun _ _ z => z) o
    | none =>
      rw [setR_none (refOf_none hr)] at e1
      obtain ⟨v, q, sl⟩ := c.I1.sl i d kd e1 e2 e3
      refine ⟨v, q, ?_⟩
      have nA : ∀ b, ¬ OO fp1 (tF tmp Fs.flatten) b → ¬ OS (fpA fp1 as Fs) b := fun b n z => n (c.o1 z)
      have shE : ∀ b, Sh A fp1 (tF tmp Fs.flatten) b → H1 b ≠ none → Sh A (fpB fp1 fpR as) (tF tmp F') b ∧ ¬ OS (fpA fp1 as Fs) b := fun b s n => ⟨⟨s.1, fun z => (ow1 z).elim s.2 n⟩, nA b s.2⟩
      have own : ∀ k, Own K cl H1 (Sh A fp1 (tF tmp Fs.flatten)) k (fp1 i) v d → Own K cl H' (Sh A (fpB fp1 fpR as) (tF tmp F')) k (fpB fp1 fpR as i) v d := fun k o => by
        have ef : fpB fp1 fpR as i = fp1 i := by unfold fpB; rw [hr]
        rw [ef]
        exact Own.ext ex shE (fun b hb => (oth hr hb).2) o
      cases kd with
      | F => exact Rp.ext ex shE sl
      | L k => exact own k sl
      | X k => exact own k sl
      | B =>
        refine Rp.ext ex (fun b s n => ?_) sl
        have nS : ¬ OS (fpA fp1 as Fs) b := fun z => (c.o2 z).elim (fun q => s.1 q.os) fun q => c.notC q (s.2 (.inr q))
        refine ⟨⟨fun ⟨i', z⟩ => ?_, fun z => ?_⟩, nS⟩
        · rcases inB z with ⟨j, _, z⟩ | ⟨_, z⟩
          · exact (backR z).elim nS n
          · exact s.1 ⟨i', z⟩
        · rcases z with z | z
          · exact s.2 (.inl z)
          · exact absurd (nF' b z) n
      | R =>
        refine Rp.ext ex (fun b s n => ?_) sl
        have nS : ¬ OS (fpA fp1 as Fs) b := fun z => (c.o2 z).elim s.1 fun q => c.notC q (s.2 (.inr q))
        refine ⟨⟨fun ⟨i', hx, z⟩ => ?_, fun z => ?_⟩, nS⟩
        · rcases inB z with ⟨j, _, z⟩ | ⟨_, z⟩
          · exact (backR z).elim nS n
          · exact s.1 ⟨i', hx, z⟩
        · rcases z with z | z
          · exact s.2 (.inl z)
          · exact absurd (nF' b z) n
  · exact c.s1.ex.trans ex fun b z => (c.o2 z).elim (fun q => c.s1.ox b q) fun q => .inr (c.nF b q)
  · exact (ow1 h).elim (fun z => (c.s1.ow b z)) fun z => .inr (newH z)
  · obtain ⟨i, hx, h⟩ := h
    rcases inB h with ⟨j, _, h⟩ | ⟨_, h⟩
    · rcases backR h with z | z
      · exact (c.o2 z).elim (fun q => c.s1.ox b q) fun q => .inr (c.nF b q)
      · exact .inr (newH z)
    · exact c.s1.ox b ⟨i, hx, h⟩
  · rcases h with h | h
    · exact .inl h
    · exact .inr (newH (nF' b h))
  · rcases inB h with ⟨j, hr, _⟩ | ⟨_, h⟩
    · obtain ⟨k, _, hk⟩ := refX hr
      exact absurd ⟨k, hk⟩ hx
    · exact c.s1.st i b hx h
  · have hr : refOf as i = none := by
      cases q : refOf as i with
      | none => rfl
      | some j => obtain ⟨k, _, hk⟩ := refX q; exact absurd ⟨k, hk⟩ hx
    rw [setR_none (refOf_none hr)]
    exact c.s1.rs i hx
  · rcases inB h with ⟨j, hr, h⟩ | ⟨_, h⟩
    · obtain ⟨k, a, _⟩ := refX hr
      obtain ⟨_, _, _, _, q4⟩ := c.ar.atR (ρ := ρ1) a
      have ef : fpA fp1 as Fs j = fp1 i := by unfold fpA; rw [q4]; rfl
      rcases si j b h with z | z
      · rw [ef] at z; exact c.s1.si i b z
      · exact .inr (newH z)
    · exact c.s1.si i b h
end

section
variable {S : Sx} {e : Expr} {es : List Expr} {as : List AK} {g : M (List D)} {pos p : Pos}
def refsX (κ : List Kd) (as : List AK) : Bool := as.all fun a => match a with
  | .r i k => κ[i]? == some (.X k)
  | _ => true
theorem refsX_get {κ : List Kd} (h : refsX κ as = true) : ∀ (j i k : Nat), as[j]? = some (AK.r i k) → κ[i]? = some (.X k) := fun j i k a => by
  have := List.all_eq_true.mp h _ (List.mem_of_getElem? a)
  simpa using this
def mCallR (sem : List D → R D) (as : List AK) (ds ρ : List D) : R D := match sem (fillR as ds ρ) with
  | .ok d os => .ok d (setR as os ρ)
  | .err x os => .err x (setR as os ρ)
  | .stuck => .stuck
def mCall (sem : List D → R D) (as : List AK) (g : M (List D)) : M D := bnd g (mCallR sem as)
theorem call_core {X : Cx} (fit : Fit S X) {W : WX} {A : Gd} {fp fp1 : Nat → List Addr} {tmp : Addr → Prop} {σ : L2.St} {H H1 : Hp} {ρ ρ1 : List D} {Q : VK} {Fs : List (List Addr)} {vs : List V} {ds : List D} {fi : FnI} (hkn : fi.ks.length = fi.ps.length)
    (c : CallSt X.K (clX X.mg) S.κ fi.ks A fp fp1 tmp σ H H1 ρ ρ1 Fs vs ds as)
    (hw : wpx (mCallR fi.sem as ds ρ1) (fun d ρ' => ∀ v H' fp' F, SI X.K (clX X.mg) S.κ A fp' (tF tmp F) σ H' ρ' → Stp S.κ fp tmp H ρ fp' (tF tmp F) H' ρ' → (∀ b ∈ F, H b = none) → Res X.K (clX X.mg) S.κ A fp' (tF tmp F) H' F v d (.val fi.kr) → Q v H') (XQ X W S.κ A fp tmp σ H ρ)) :
    spF fi X.K (clX X.mg) vs H1 Q (L2.WE W σ) := by
  have hl := c.ar.len
  have hlen : as.length = fi.ks.length := by
    have := c.hk
    unfold aksOk at this
    simp only [Bool.and_eq_true, beq_iff_eq] at this
    exact this.1
  refine ⟨by rw [hl.2.1, hlen, hkn], fillR as ds ρ1, ⟨A.ok, tmpA fp1 tmp as Fs⟩, fpA fp1 as Fs, tmpA fp1 tmp as Fs, by rw [fillR_len as ds ρ1 hl.2.2, hlen, hkn], c.into, rfl, fun i hi => c.past (by omega), ?_⟩
  unfold mCallR at hw
  cases q : fi.sem (fillR as ds ρ1) with
  | stuck => rw [q] at hw; exact hw
  | ok d os =>
    rw [q] at hw
    intro v H' fpR F' J hpast ex ow si r nF' hol
    obtain ⟨I2, s2, sh⟩ := c.back (hol.trans hkn.symm) J ex ow si nF'
    refine hw v H' _ F' I2 s2 (fun b hb => none_back c.s1.ex (nF' b hb)) ⟨r.1, fun b hb => ⟨.inr hb, (r.2.1 b hb).2⟩, ?_⟩
    exact Own.ext (P := fun _ => False) Ext.refl (fun b s _ => ⟨sh b s, fun z => z⟩) (fun _ _ z => z) r.2.2
  | err x os =>
    rw [q] at hw
    intro cls dx H' fpR J hpast ex ow si hx hol
    obtain ⟨I2, s2, _⟩ := c.back (F' := []) (hol.trans hkn.symm) (by rw [tF_nil]; exact J) ex (by rw [tF_nil]; exact ow) si emp
    rw [tF_nil] at I2 s2
    exact hw cls dx H' _ I2 s2 hx
theorem se_call {fi : FnI} {x : Str} (hf : fi ∈ S.fs) (hx : fi.name = x) (hg : glB S.sc x = true) (hn : okName x = true) (hs : noStars (e :: es) = true) (ha : aksOk as fi.ks = true) (nd : (refsOf as).Nodup) (hX : refsX S.κ as = true) (h : SAs S as (e :: es) g) :
    SE S (.val fi.kr) (.Call (.Name x p) (e :: es) [] pos) (mCall fi.sem as g) := by
  subst hx
  intro X fit W tk A fp tmp σ H ρ Q I hw
  unfold okName at hn
  simp only [Bool.and_eq_true, Bool.not_eq_true'] at hn
  have h' : noStar e = true ∧ noStars es = true := by simpa [noStars] using hs
  have FA := fit.fs fi hf
  obtain ⟨f, fd, hm, kp, hb, F, _⟩ := FA.ex
  refine ⟨_, pe_callS F fit.room (gl_of fit hg) hm kp hb (fun σ => passAt tk σ) (pa_WEs hs) hn.1 (star1 h'.1) (stars_any h'.2), ?_⟩
  refine h X fit W tk A fp tmp σ H ρ _ I (wpx_mono (wpx_bnd hw) (fun ds ρ1 hd vs H1 fp1 Fs I1 s1 nF ar => ?_) fun _ _ z => z)
  exact call_core fit FA.kn ⟨I, I1, s1, nF, ar, ha, nd, refsX_get hX⟩ hd
end
end VS

set_option Elab.async false
set_option linter.all false
set_option maxRecDepth 100000
set_option maxHeartbeats 4000000
/-! VS13: what loops walk (sources), and what they store to (targets). -/
namespace VS
open PySem PySem.Spec PyProof.Rows L2

def WI (X : Cx) (tg iter : Expr) : TI := fun σ H R => ∃ t, PI X tg iter t ∧ t σ H R
theorem pi_WI {X : Cx} {tg iter : Expr} : PI X tg iter (WI X tg iter) := ⟨fun pins s σ H R I ⟨t, h, q⟩ => h.run pins s σ H R I q⟩
def WG (X : Cx) (tg : Expr) : TG := fun v σ H Q => ∃ t, PG X tg t ∧ t v σ H Q
theorem pg_WG {X : Cx} {tg : Expr} : PG X tg (WG X tg) := ⟨fun pins s σ H v u Q I r ⟨t, h, q⟩ => h.run pins s σ H v u Q I r q⟩

/-! ### sources -/
structure Src (K : PySem.W.Frag) (cl : Cl) (J : It) (B : (Addr → Prop) → (Addr → Prop) → Hp → Prop) (ds : List D) : Prop where
  mv : ∀ (P Sr Sr' T T' : Addr → Prop) (H H' : Hp), Ext P H H' → (∀ b, Sr b → H b ≠ none → Sr' b ∧ ¬ P b) → (∀ b, T b → H b ≠ none → T' b ∧ ¬ P b) → B Sr T H → B Sr' T' H'
  stop : ∀ i Sr T H, B Sr T H → ds.length ≤ i → J.stop i H
  go : ∀ i Sr T H, B Sr T H → i < ds.length → J.go i H
  yld : ∀ i Sr T H x H' d, B Sr T H → ds[i]? = some d → J.yld i H x H' → Ext (fun _ => False) H H' ∧ Rp K cl H' T x d
def TmS (κ : List Kd) (A : Gd) (fp : Nat → List Addr) (tmp : Addr → Prop) : Mode → Addr → Prop
  | .rd => SRd κ A fp tmp
  | _ => Sh A fp tmp
def SIt (S : Sx) (m : Mode) (tg iter : Expr) (f : M (List D)) : Prop :=
  ∀ (X : Cx), Fit S X → ∀ (W : WX), Takes X W → ∀ (A : Gd) (fp : Nat → List Addr) (tmp : Addr → Prop) (σ : L2.St) (H : Hp) (ρ : List D) (R : It → Hp → Prop),
    SI X.K (clX X.mg) S.κ A fp tmp σ H ρ →
    wpx (f ρ) (fun ds ρ' => ∀ J B H' fp', SI X.K (clX X.mg) S.κ A fp' tmp σ H' ρ' → Stp S.κ fp tmp H ρ fp' tmp H' ρ' → Src X.K (clX X.mg) J B ds → B (SRd S.κ A fp' tmp) (TmS S.κ A fp' tmp m) H' → R J H')
      (XQ X W S.κ A fp tmp σ H ρ) → WI X tg iter σ H R

section
variable {K : PySem.W.Frag} {cl : Cl} {H : Hp} {T : Addr → Prop}
theorem src_lst {a : Addr} {ds : List D} : Src K cl (Itl K a) (fun Sr T H => ∃ vs, H a = some (.lst vs) ∧ Sr a ∧ RpL K cl H T vs ds) ds where
  mv := fun P Sr Sr' T T' H H' e hs ht ⟨vs, h, s, r⟩ => by
    have q := hs a s (by rw [h]; simp)
    exact ⟨vs, e.keep _ _ h q.2, q.1, r.ext e ht⟩
  stop := fun i Sr T H ⟨vs, h, s, r⟩ hl => ⟨vs, .inl (.inl h), by rw [r.length]; exact hl⟩
  go := fun i Sr T H ⟨vs, h, s, r⟩ hl => ⟨vs, vs[i]'(by rw [r.length]; exact hl), .inl (.inl h), List.getElem?_eq_getElem _⟩
  yld := fun i Sr T H x H' d ⟨vs, h, s, r⟩ hd ⟨e, hy⟩ => by
    subst e
    obtain ⟨d', e', q⟩ := r.getV (hy vs (.inl (.inl h)))
    rw [hd] at e'; cases e'
    exact ⟨.refl, q⟩
theorem src_tup {a : Addr} {ds : List D} : Src K cl (Itt K a) (fun _ T H => ∃ vs, SqT K H a vs ∧ RpL K cl H T vs ds) ds where
  mv := fun P Sr Sr' T T' H H' e hs ht ⟨vs, h, r⟩ => ⟨vs, SqT.ext e h, r.ext e ht⟩
  stop := fun i Sr T H ⟨vs, h, r⟩ hl => ⟨vs, h, by rw [r.length]; exact hl⟩
  go := fun i Sr T H ⟨vs, h, r⟩ hl => ⟨vs, vs[i]'(by rw [r.length]; exact hl), h, List.getElem?_eq_getElem _⟩
  yld := fun i Sr T H x H' d ⟨vs, h, r⟩ hd ⟨e, hy⟩ => by
    subst e
    obtain ⟨d', e', q⟩ := r.getV (hy vs h)
    rw [hd] at e'; cases e'
    exact ⟨.refl, q⟩
theorem src_scr {a : Addr} {ns : List Int} : Src K cl (Itl K a) (fun _ _ H => ScrL K H a (ns.map V.int)) (ns.map D.int) where
  mv := fun P Sr Sr' T T' H H' e hs ht h => ScrL.ext e h
  stop := fun i Sr T H h hl => ⟨_, h.seq, by simpa using hl⟩
  go := fun i Sr T H h hl => ⟨_, (ns.map V.int)[i]'(by simpa using hl), h.seq, List.getElem?_eq_getElem _⟩
  yld := fun i Sr T H x H' d h hd ⟨e, hy⟩ => by
    subst e
    have z := hy _ h.seq
    rw [List.getElem?_map] at z hd
    cases q : ns[i]? with
    | none => rw [q] at z; cases z
    | some n =>
      rw [q] at z hd
      cases z; cases hd
      exact ⟨.refl, .int n⟩
def chrs (x : Str) : List D := x.cps.toList.map fun c => .str ⟨#[c]⟩
theorem src_str {x : Str} : Src K cl (Its x) (fun _ _ _ => True) (chrs x) where
  mv := fun P Sr Sr' T T' H H' e hs ht h => trivial
  stop := fun i Sr T H h hl => show x.cps.size ≤ i by simpa [chrs] using hl
  go := fun i Sr T H h hl => show i < x.cps.size by simpa [chrs] using hl
  yld := fun i Sr T H v H' d h hd ⟨e, c, hc, ev⟩ => by
    subst e ev
    unfold chrs at hd
    rw [List.getElem?_map, Array.getElem?_toList, hc] at hd
    cases hd
    exact ⟨.refl, .str _⟩
theorem src_rng {lo : Int} {n : Nat} : Src K cl (Itr lo n) (fun _ _ _ => True) ((List.range n).map fun i => D.int (lo + (i : Nat))) where
  mv := fun P Sr Sr' T T' H H' e hs ht h => trivial
  stop := fun i Sr T H h hl => show n ≤ i by simpa using hl
  go := fun i Sr T H h hl => show i < n by simpa using hl
  yld := fun i Sr T H v H' d h hd ⟨e, ev⟩ => by
    subst e ev
    rw [List.getElem?_map] at hd
    cases q : (List.range n)[i]? with
    | none => rw [q] at hd; cases hd
    | some j =>
      rw [q] at hd
      obtain ⟨_, rfl⟩ := List.getElem?_eq_some_iff.mp q
      simp only [Option.map_some, Option.some.injEq, List.getElem_range] at hd
      subst hd
      exact ⟨.refl, .int _⟩
theorem src_rngC {lo c : Int} {n : Nat} : Src K cl (Itc lo c n) (fun _ _ _ => True) ((List.range n).map fun i => D.int (lo + (i : Nat) * c)) where
  mv := fun P Sr Sr' T T' H H' e hs ht h => trivial
  stop := fun i Sr T H h hl => show n ≤ i by simpa using hl
  go := fun i Sr T H h hl => show i < n by simpa using hl
  yld := fun i Sr T H v H' d h hd ⟨e, ev⟩ => by
    subst e ev
    rw [List.getElem?_map] at hd
    cases q : (List.range n)[i]? with
    | none => rw [q] at hd; cases hd
    | some j =>
      rw [q] at hd
      obtain ⟨_, rfl⟩ := List.getElem?_eq_some_iff.mp q
      simp only [Option.map_some, Option.some.injEq, List.getElem_range] at hd
      subst hd
      exact ⟨.refl, .int _⟩
/-- enumerate, over what a list source walks -/
def enumD (i : Nat) : List D → List D
  | [] => []
  | d :: ds => .tup [.int (i : Nat), d] :: enumD (i + 1) ds
theorem enumD_len : ∀ {ds : List D} {i : Nat}, (enumD i ds).length = ds.length
  | [], _ => rfl
  | d :: ds, i => by simp [enumD, enumD_len (ds := ds)]
theorem enumD_get : ∀ {ds : List D} {i j : Nat} {e : D}, (enumD j ds)[i]? = some e → ∃ d, ds[i]? = some d ∧ e = .tup [.int ((j + i : Nat) : Int), d]
  | [], i, j, e, h => by simp [enumD] at h
  | d :: ds, 0, j, e, h => by simp [enumD] at h; subst h; exact ⟨d, rfl, rfl⟩
  | d :: ds, i + 1, j, e, h => by
    obtain ⟨d', a, b⟩ := enumD_get (ds := ds) (i := i) (j := j + 1) (by simpa [enumD] using h)
    refine ⟨d', by simpa using a, ?_⟩
    rw [b]
    congr 4
    omega
theorem src_enum {a : Addr} {ds : List D} {B : (Addr → Prop) → (Addr → Prop) → Hp → Prop} (h : Src K cl (Itl K a) B ds) (hB : ∀ Sr T H, B Sr T H → ∃ vs, SqL K H a vs ∧ RpL K cl H T vs ds) : Src K cl (Ite K a) B (enumD 0 ds) where
  mv := h.mv
  stop := fun i Sr T H b hl => by
    obtain ⟨vs, q, r⟩ := hB _ _ _ b
    exact ⟨vs, q, by rw [r.length]; rw [enumD_len] at hl; exact hl⟩
  go := fun i Sr T H b hl => by
    obtain ⟨vs, q, r⟩ := hB _ _ _ b
    rw [enumD_len] at hl
    exact ⟨vs, vs[i]'(by rw [r.length]; exact hl), q, List.getElem?_eq_getElem _⟩
  yld := fun i Sr T H v H' d b hd ⟨t, x, ev, hn, eH, hy⟩ => by
    subst ev eH
    obtain ⟨vs, q, r⟩ := hB _ _ _ b
    obtain ⟨d', e', rfl⟩ := enumD_get hd
    obtain ⟨d2, e2, rx⟩ := r.getV (hy vs q)
    rw [e'] at e2; cases e2
    refine ⟨.new hn, .tup (.of upd_same) ?_⟩
    rw [Nat.zero_add]
    exact .cons (.int _) (.cons (rx.ext (P := fun _ => False) (Ext.new hn) fun b s _ => ⟨s, fun z => z⟩) .nil)
def zipD : List D → List D → List D
  | d :: ds, e :: es => .tup [d, e] :: zipD ds es
  | _, _ => []
theorem zipD_len : ∀ {ds es : List D}, (zipD ds es).length = min ds.length es.length
  | [], es => by simp [zipD]
  | d :: ds, [] => by simp [zipD]
  | d :: ds, e :: es => by simp [zipD, zipD_len (ds := ds) (es := es)]
theorem zipD_get : ∀ {ds es : List D} {i : Nat} {p : D}, (zipD ds es)[i]? = some p → ∃ d e, ds[i]? = some d ∧ es[i]? = some e ∧ p = .tup [d, e]
  | [], es, i, p, h => by simp [zipD] at h
  | d :: ds, [], i, p, h => by simp [zipD] at h
  | d :: ds, e :: es, 0, p, h => by simp [zipD] at h; subst h; exact ⟨d, e, rfl, rfl, rfl⟩
  | d :: ds, e :: es, i + 1, p, h => by simpa using zipD_get (ds := ds) (es := es) (i := i) (by simpa [zipD] using h)
theorem src_zipL {a b : Addr} {ds es : List D} {B B2 : (Addr → Prop) → (Addr → Prop) → Hp → Prop} (h : Src K cl (Itl K a) B ds) (h2 : Src K cl (Itl K b) B2 es) (hB : ∀ Sr T H, B Sr T H → ∃ vs, SqL K H a vs ∧ RpL K cl H T vs ds) (hB2 : ∀ Sr T H, B2 Sr T H → ∃ vs, SqL K H b vs ∧ RpL K cl H T vs es) : Src K cl (Itz K a b) (fun Sr T H => B Sr T H ∧ B2 Sr T H) (zipD ds es) where
  mv := fun P Sr Sr' T T' H H' e hs ht ⟨q, q2⟩ => ⟨h.mv P Sr Sr' T T' H H' e hs ht q, h2.mv P Sr Sr' T T' H H' e hs ht q2⟩
  stop := fun i Sr T H ⟨q, q2⟩ hl => by
    obtain ⟨vs, z, r⟩ := hB _ _ _ q
    obtain ⟨ws, z2, r2⟩ := hB2 _ _ _ q2
    rw [zipD_len] at hl
    exact ⟨vs, ws, z, z2, by rw [r.length, r2.length]; omega⟩
  go := fun i Sr T H ⟨q, q2⟩ hl => by
    obtain ⟨vs, z, r⟩ := hB _ _ _ q
    obtain ⟨ws, z2, r2⟩ := hB2 _ _ _ q2
    rw [zipD_len] at hl
    exact ⟨vs, ws, vs[i]'(by rw [r.length]; omega), ws[i]'(by rw [r2.length]; omega), z, z2, List.getElem?_eq_getElem _, List.getElem?_eq_getElem _⟩
  yld := fun i Sr T H v H' d ⟨q, q2⟩ hd ⟨t, x, y, ev, hn, eH, hy, hy2⟩ => by
    subst ev eH
    obtain ⟨vs, z, r⟩ := hB _ _ _ q
    obtain ⟨ws, z2, r2⟩ := hB2 _ _ _ q2
    obtain ⟨d1, d2, a1, a2, rfl⟩ := zipD_get hd
    obtain ⟨d1', b1, rx⟩ := r.getV (hy vs z)
    obtain ⟨d2', b2, ry⟩ := r2.getV (hy2 ws z2)
    rw [a1] at b1; cases b1
    rw [a2] at b2; cases b2
    have nw : ∀ {u e}, Rp K cl H T u e → Rp K cl (upd H t (.tup [x, y])) T u e := fun q => q.ext (P := fun _ => False) (Ext.new hn) fun b s _ => ⟨s, fun z => z⟩
    exact ⟨.new hn, .tup (.of upd_same) (.cons (nw rx) (.cons (nw ry) .nil))⟩
theorem src_zipT {a b : Addr} {ds es : List D} : Src K cl (RZ.ItzT K a b) (fun _ T H => (∃ vs, SqT K H a vs ∧ RpL K cl H T vs ds) ∧ ∃ ws, SqT K H b ws ∧ RpL K cl H T ws es) (zipD ds es) where
  mv := fun P Sr Sr' T T' H H' e hs ht ⟨⟨vs, h, r⟩, ws, h2, r2⟩ => ⟨⟨vs, SqT.ext e h, r.ext e ht⟩, ws, SqT.ext e h2, r2.ext e ht⟩
  stop := fun i Sr T H ⟨⟨vs, z, r⟩, ws, z2, r2⟩ hl => by
    rw [zipD_len] at hl
    exact ⟨vs, ws, z, z2, by rw [r.length, r2.length]; omega⟩
  go := fun i Sr T H ⟨⟨vs, z, r⟩, ws, z2, r2⟩ hl => by
    rw [zipD_len] at hl
    exact ⟨vs, ws, vs[i]'(by rw [r.length]; omega), ws[i]'(by rw [r2.length]; omega), z, z2, List.getElem?_eq_getElem _, List.getElem?_eq_getElem _⟩
  yld := fun i Sr T H v H' d ⟨⟨vs, z, r⟩, ws, z2, r2⟩ hd ⟨t, x, y, ev, hn, eH, hy, hy2⟩ => by
    subst ev eH
    obtain ⟨d1, d2, a1, a2, rfl⟩ := zipD_get hd
    obtain ⟨d1', b1, rx⟩ := r.getV (hy vs z)
    obtain ⟨d2', b2, ry⟩ := r2.getV (hy2 ws z2)
    rw [a1] at b1; cases b1
    rw [a2] at b2; cases b2
    have nw : ∀ {u e}, Rp K cl H T u e → Rp K cl (upd H t (.tup [x, y])) T u e := fun q => q.ext (P := fun _ => False) (Ext.new hn) fun b s _ => ⟨s, fun z => z⟩
    exact ⟨.new hn, .tup (.of upd_same) (.cons (nw rx) (.cons (nw ry) .nil))⟩
/-- reversed -/
theorem rev_get {α : Type} {l : List α} {i : Nat} (h : i < l.length) : l.reverse[i]? = l[l.length - 1 - i]? := List.getElem?_reverse h
end

section
variable {X : Cx} {tg e : Expr}
def iAny (X : Cx) (e : Expr) : TI := fun σ H R => WE X e σ H fun x H1 =>
  (∃ a xs, x = .ref a ∧ SqL X.K H1 a xs ∧ R (Itl X.K a) H1) ∨ (∃ a xs, x = .ref a ∧ SqT X.K H1 a xs ∧ R (Itt X.K a) H1) ∨ ∃ s, x = .str s ∧ R (Its s) H1
theorem pi_any : PI X tg e (iAny X e) := by
  refine ⟨fun pins s σ H R I hw => thn (pe_WE.run pins s σ H _ I hw) ?_⟩
  rintro u s1 ⟨x, H1, J, rx, c⟩
  rcases c with ⟨a, xs, ex, hq, q⟩ | ⟨a, xs, ex, hq, q⟩ | ⟨z, ex, q⟩ <;> subst ex
  · obtain ⟨its, _, il, _⟩ := J.list hq
    cases rx
    exact wpAny_pyIter_list il.isList (pi_one (tk := s1.toks) J _ (turn_list a _) ⟨_, Heap.get?_push_size _ rfl, rfl, rfl⟩ q)
  · obtain ⟨its, _, il, _⟩ := J.tuple hq
    cases rx
    exact wpAny_pyIter_tuple (show s1.heap.IsTuple a its.toArray from il) (pi_one (tk := s1.toks) J _ (turn_tuple a _) ⟨_, Heap.get?_push_size _ rfl, rfl, rfl⟩ q)
  · obtain ⟨k, rfl⟩ := rx
    by_cases hz : z.cps.all (· < 128) = true
    · exact wpAny_pyIter_ascii hz (pi_one (tk := s1.toks) J _ (turn_str _ z k _ (.inl rfl)) ⟨_, Heap.get?_push_size _ rfl, rfl, rfl⟩ q)
    · exact wpAny_pyIter_wide (by simpa using hz) (pi_one (tk := s1.toks) J _ (turn_str _ z k _ (.inr rfl)) ⟨_, Heap.get?_push_size _ rfl, rfl, rfl⟩ q)
end

def D.items : D → Option (List D)
  | .tup ds => some ds
  | .lst ds => some ds
  | .scr ns => some (ns.map .int)
  | .str x => some (chrs x)
  | _ => none
section
variable {S : Sx} {e a b : Expr} {tg : Expr} {f : M D} {g : M (List D)} {pos p : Pos}
def mItems (f : M D) : M (List D) := bnd f fun d => ofO d.items
/-- a container that may be read, its items' set T -/
def Lk (K : PySem.W.Frag) (cl : Cl) (Sr T : Addr → Prop) (H : Hp) (v : V) (d : D) : Prop := match d with
  | .tup ds => ∃ a vs, v = .ref a ∧ SqT K H a vs ∧ RpL K cl H T vs ds
  | .lst ds => ∃ a vs, v = .ref a ∧ H a = some (.lst vs) ∧ Sr a ∧ RpL K cl H T vs ds
  | .scr ns => ∃ a, v = .ref a ∧ ScrL K H a (ns.map V.int)
  | .str x => v = .str x
  | _ => True
theorem Res.lk {K : PySem.W.Frag} {cl : Cl} {κ : List Kd} {A : Gd} {fp : Nat → List Addr} {tmp : Addr → Prop} {H : Hp} {v : V} {d : D} {m : Mode} (hm : m = .rd ∨ m = .el) (r : Res K cl κ A fp tmp H [] v d m) : Lk K cl (SRd κ A fp tmp) (TmS κ A fp tmp m) H v d := by
  unfold Lk
  rcases hm with rfl | rfl
  · have r := r.2
    cases d <;> simp only
    · exact r.s
    · exact r.t
    · exact r.l
    · exact r.sc
  · have r := r.2
    cases d <;> simp only
    · exact r.s
    · exact r.t
    · cases r with
      | sh q => obtain ⟨a, vs, e, q, s, r⟩ := q.l; exact ⟨a, vs, e, q, Sh.srd _ s, r⟩
      | lst q s r => exact ⟨_, _, rfl, q, s, r⟩
    · exact r.sc
theorem it_val {m : Mode} (hm : m = .rd ∨ m = .el) (h : SE S m e f) : SIt S m tg e (mItems f) := by
  intro X fit W tk A fp tmp σ H ρ R I hw
  refine ⟨_, pi_any, h X fit W tk A fp tmp σ H ρ _ I (wpx_mono (wpx_bnd hw) (fun d ρ1 hd v H1 fp1 F I1 s1 nF r => ?_) fun _ _ z => z)⟩
  obtain ⟨ds, ed, hq⟩ := wpx_ofO hd
  have eF : F = [] := by rcases hm with rfl | rfl <;> exact r.1
  subst eF
  rw [tF_nil] at I1 s1 r
  have lk := r.lk hm
  cases d <;> simp only [D.items] at ed <;> (try cases ed)
  · exact .inr (.inr ⟨_, lk, hq _ _ _ _ I1 s1 src_str trivial⟩)
  · obtain ⟨a, vs, e, q, r⟩ := lk
    exact .inr (.inl ⟨a, vs, e, q, hq _ _ _ _ I1 s1 src_tup ⟨vs, q, r⟩⟩)
  · obtain ⟨a, vs, e, q, s, r⟩ := lk
    exact .inl ⟨a, vs, e, .inl (.inl q), hq _ _ _ _ I1 s1 src_lst ⟨vs, q, s, r⟩⟩
  · obtain ⟨a, e, q⟩ := lk
    exact .inl ⟨a, _, e, q.seq, hq _ _ _ _ I1 s1 src_scr q⟩
/-- range -/
def rngP (ds : List D) : Option (List D) := match ds with
  | [.int j] => if -(2 ^ 62) ≤ j ∧ j < 2 ^ 62 then some (rgD 0 j) else none
  | [.int i, .int j] => if -(2 ^ 62) ≤ i ∧ i < 2 ^ 62 ∧ -(2 ^ 62) ≤ j ∧ j < 2 ^ 62 then some (rgD i j) else none
  | [.int i, .int j, .int c] => if c ≠ 0 ∧ c.natAbs < 1073741824 ∧ Builtin.Range.small i j c = true ∧ 0 ≤ Builtin.Range.rangeSize i j c then some ((List.range (Builtin.Range.rangeSize i j c).toNat).map fun k => .int (i + (k : Nat) * c)) else none
  | _ => none
theorem rngP1 {d : D} {es : List D} (h : rngP [d] = some es) : ∃ j, d = .int j ∧ (-(2 ^ 62) ≤ j ∧ j < 2 ^ 62) ∧ es = rgD 0 j := by
  unfold rngP at h
  split at h
  · rename_i j e
    split at h
    · rename_i hb
      cases e; cases h
      exact ⟨j, rfl, hb, rfl⟩
    · cases h
  · rename_i e; cases e
  · rename_i e; cases e
  · cases h
theorem rngP2 {d e : D} {es : List D} (h : rngP [d, e] = some es) : ∃ i j, d = .int i ∧ e = .int j ∧ (-(2 ^ 62) ≤ i ∧ i < 2 ^ 62 ∧ -(2 ^ 62) ≤ j ∧ j < 2 ^ 62) ∧ es = rgD i j := by
  unfold rngP at h
  split at h
  · rename_i e; cases e
  · rename_i i j e
    split at h
    · rename_i hb
      cases e; cases h
      exact ⟨i, j, rfl, rfl, hb, rfl⟩
    · cases h
  · rename_i e; cases e
  · cases h
theorem rngP3 {d e f : D} {es : List D} (h : rngP [d, e, f] = some es) : ∃ i j c, d = .int i ∧ e = .int j ∧ f = .int c ∧ (c ≠ 0 ∧ c.natAbs < 1073741824 ∧ Builtin.Range.small i j c = true ∧ 0 ≤ Builtin.Range.rangeSize i j c) ∧ es = (List.range (Builtin.Range.rangeSize i j c).toNat).map fun k => .int (i + (k : Nat) * c) := by
  unfold rngP at h
  split at h
  · rename_i e; cases e
  · rename_i e; cases e
  · rename_i i j c e
    split at h
    · rename_i hb
      cases e; cases h
      exact ⟨i, j, c, rfl, rfl, rfl, hb, rfl⟩
    · cases h
  · cases h
def mRng (g : M (List D)) : M (List D) := bnd g fun ds => ofO (rngP ds)
theorem rng_bl {X : Cx} (fit : Fit S X) : X.mg "range" = none := fit.bl _ (by decide)
theorem it_rng1 {m : Mode} (hg : glB S.sc "range" = true) (hs : noStars [a] = true) (h : SEs S [.rd] [a] g) : SIt S m tg (.Call (.Name "range" p) [a] [] pos) (mRng g) := by
  intro X fit W tk A fp tmp σ H ρ R I hw
  refine ⟨_, pi_range1 (gl_of fit hg) (rng_bl fit) (pa_WEs hs) (star1 (by simpa [noStars] using hs)), h X fit W tk A fp tmp σ H ρ _ I (wpx_mono (wpx_bnd hw) (fun ds ρ1 hd vs H1 fp1 F I1 s1 nF r => ?_) fun _ _ z => z)⟩
  obtain ⟨v, d, e1, e2, r1⟩ := r.one
  subst e1 e2
  obtain ⟨es, ee, hq⟩ := wpx_ofO hd
  obtain ⟨j, rfl, hb, rfl⟩ := rngP1 ee
  have eF : F = [] := r1.1
  subst eF
  rw [tF_nil] at I1 s1
  refine ⟨_, by rw [r1.2.i], hb.1, hb.2, ?_⟩
  have := hq (Itr 0 (j - 0).toNat) (fun _ _ _ => True) H1 fp1 I1 s1 (by unfold rgD; exact src_rng) trivial
  simpa using this
theorem it_rng2 {m : Mode} (hg : glB S.sc "range" = true) (hs : noStars [a, b] = true) (h : SEs S [.rd, .rd] [a, b] g) : SIt S m tg (.Call (.Name "range" p) [a, b] [] pos) (mRng g) := by
  intro X fit W tk A fp tmp σ H ρ R I hw
  have hs' : noStar a = true ∧ noStar b = true := by simpa [noStars] using hs
  refine ⟨_, pi_range2 (gl_of fit hg) (rng_bl fit) (pa_WEs hs) (by rw [star1 hs'.1, star1 hs'.2]; rfl) (star1 hs'.2), h X fit W tk A fp tmp σ H ρ _ I (wpx_mono (wpx_bnd hw) (fun ds ρ1 hd vs H1 fp1 F I1 s1 nF r => ?_) fun _ _ z => z)⟩
  obtain ⟨v, w, d, e, G, G', e1, e2, eF, _, r1, r2⟩ := r.two
  subst e1 e2
  have eG : G = [] := r1.1
  have eG' : G' = [] := r2.1
  subst eG eG' eF
  rw [List.nil_append, tF_nil] at I1 s1
  obtain ⟨es, ee, hq⟩ := wpx_ofO hd
  obtain ⟨i, j, rfl, rfl, hb, rfl⟩ := rngP2 ee
  refine ⟨_, _, by rw [r1.2.i, r2.2.i], hb, ?_⟩
  exact hq (Itr _ _) (fun _ _ _ => True) H1 fp1 I1 s1 (by unfold rgD; exact src_rng) trivial
theorem ResL.three {K : PySem.W.Frag} {cl : Cl} {κ : List Kd} {A : Gd} {fp : Nat → List Addr} {tmp : Addr → Prop} {H : Hp} {F : List Addr} {vs : List V} {ds : List D} (h : ResL K cl κ A fp tmp H F vs ds [.rd, .rd, .rd]) : ∃ u v w c d e, vs = [u, v, w] ∧ ds = [c, d, e] ∧ F = [] ∧ Rp K cl H (SRd κ A fp tmp) u c ∧ Rp K cl H (SRd κ A fp tmp) v d ∧ Rp K cl H (SRd κ A fp tmp) w e := by
  cases h with
  | cons r n q =>
    obtain ⟨v, w, d, e, G, G', e1, e2, eF, _, r1, r2⟩ := q.two
    obtain ⟨rfl, r⟩ := r
    obtain ⟨rfl, r1⟩ := r1
    obtain ⟨rfl, r2⟩ := r2
    subst e1 e2 eF
    exact ⟨_, _, _, _, _, _, rfl, rfl, rfl, r, r1, r2⟩
theorem it_rng3 {c : Expr} {m : Mode} (hg : glB S.sc "range" = true) (hs : noStars [a, b, c] = true) (h : SEs S [.rd, .rd, .rd] [a, b, c] g) : SIt S m tg (.Call (.Name "range" p) [a, b, c] [] pos) (mRng g) := by
  intro X fit W tk A fp tmp σ H ρ R I hw
  have hs' : noStar a = true ∧ noStar b = true ∧ noStar c = true := by simpa [noStars] using hs
  refine ⟨_, pi_range3 (gl_of fit hg) (rng_bl fit) (pa_WEs hs) (star1 hs'.1) (stars_any (by simp [noStars, hs'.2.1, hs'.2.2])), h X fit W tk A fp tmp σ H ρ _ I (wpx_mono (wpx_bnd hw) (fun ds ρ1 hd vs H1 fp1 F I1 s1 nF r => ?_) fun _ _ z => z)⟩
  obtain ⟨u, v, w, d1, d2, d3, e1, e2, eF, r1, r2, r3⟩ := r.three
  subst e1 e2 eF
  rw [tF_nil] at I1 s1
  obtain ⟨es, ee, hq⟩ := wpx_ofO hd
  obtain ⟨i, j, c, rfl, rfl, rfl, hb, rfl⟩ := rngP3 ee
  refine ⟨_, _, _, _, by rw [r1.i, r2.i, r3.i], ⟨hb.1, hb.2.1, hb.2.2.1, (Int.toNat_of_nonneg hb.2.2.2).symm⟩, ?_⟩
  exact hq (Itc _ _ _) (fun _ _ _ => True) H1 fp1 I1 s1 src_rngC trivial
/-- enumerate of a list -/
def D.litems : D → Option (List D)
  | .lst ds => some ds
  | .scr ns => some (ns.map .int)
  | _ => none
/-- a list that may be walked -/
structure LWalk (K : PySem.W.Frag) (cl : Cl) (a : Addr) (B : (Addr → Prop) → (Addr → Prop) → Hp → Prop) (ds : List D) : Prop where
  src : Src K cl (Itl K a) B ds
  sq : ∀ Sr T H, B Sr T H → ∃ vs, SqL K H a vs ∧ RpL K cl H T vs ds
theorem Lk.walk {K : PySem.W.Frag} {cl : Cl} {Sr T : Addr → Prop} {H : Hp} {v : V} {d : D} {es : List D} (h : Lk K cl Sr T H v d) (ee : d.litems = some es) : ∃ a B, v = .ref a ∧ LWalk K cl a B es ∧ B Sr T H := by
  cases d <;> simp only [D.litems] at ee <;> (try cases ee)
  · obtain ⟨a, vs, e, q, s, r⟩ := h
    exact ⟨a, _, e, ⟨src_lst, fun _ _ _ ⟨vs, h, _, r⟩ => ⟨vs, .inl (.inl h), r⟩⟩, ⟨vs, q, s, r⟩⟩
  · obtain ⟨a, e, q⟩ := h
    exact ⟨a, _, e, ⟨src_scr, fun _ _ _ h => ⟨_, h.seq, ints_rp _⟩⟩, q⟩
def enP (ds : List D) : Option (List D) := match ds with
  | [d] => d.litems.map (enumD 0)
  | _ => none
def mEnum (g : M (List D)) : M (List D) := bnd g fun ds => ofO (enP ds)
theorem it_enum {m : Mode} (hm : m = .rd ∨ m = .el) {ts : List Expr} {k : Nat} {tp : Pos} (hg : glB S.sc "enumerate" = true) (hs : noStars [a] = true) (h : SEs S [m] [a] g) : SIt S m (.Tuple ts k tp) (.Call (.Name "enumerate" p) [a] [] pos) (mEnum g) := by
  intro X fit W tk A fp tmp σ H ρ R I hw
  refine ⟨_, pi_enum (gl_of fit hg) (fit.bl _ (by decide)) (pa_WEs hs) (star1 (by simpa [noStars] using hs)), h X fit W tk A fp tmp σ H ρ _ I (wpx_mono (wpx_bnd hw) (fun ds ρ1 hd vs H1 fp1 F I1 s1 nF r => ?_) fun _ _ z => z)⟩
  obtain ⟨v, d, e1, e2, r1⟩ := r.one
  subst e1 e2
  have eF : F = [] := by rcases hm with rfl | rfl <;> exact r1.1
  subst eF
  rw [tF_nil] at I1 s1 r1
  obtain ⟨es, ee, hq⟩ := wpx_ofO hd
  obtain ⟨es', e', rfl⟩ := Option.map_eq_some_iff.mp (show d.litems.map (enumD 0) = some es from ee)
  obtain ⟨a, B, rfl, w, b⟩ := (r1.lk hm).walk e'
  obtain ⟨vs, q, _⟩ := w.sq _ _ _ b
  exact ⟨a, vs, rfl, q, hq _ _ _ _ I1 s1 (src_enum w.src w.sq) b⟩
/-- zip -/
def ziP (ds : List D) : Option (List D) := match ds with
  | [d, e] => match d.litems, e.litems with
    | some xs, some ys => some (zipD xs ys)
    | _, _ => match d, e with
      | .tup xs, .tup ys => some (zipD xs ys)
      | _, _ => none
  | _ => none
theorem ziP2 {d e : D} {es : List D} (h : ziP [d, e] = some es) : (∃ xs ys, d.litems = some xs ∧ e.litems = some ys ∧ es = zipD xs ys) ∨ ∃ xs ys, d = .tup xs ∧ e = .tup ys ∧ es = zipD xs ys := by
  unfold ziP at h
  simp only at h
  split at h
  · rename_i xs ys h1 h2
    cases h
    exact .inl ⟨xs, ys, h1, h2, rfl⟩
  · split at h
    · cases h
      exact .inr ⟨_, _, rfl, rfl, rfl⟩
    · cases h
def mZip (g : M (List D)) : M (List D) := bnd g fun ds => ofO (ziP ds)
theorem it_zip {m : Mode} (hm : m = .rd ∨ m = .el) {ts : List Expr} {k : Nat} {tp : Pos} (hg : glB S.sc "zip" = true) (hs : noStars [a, b] = true) (h : SEs S [m, m] [a, b] g) : SIt S m (.Tuple ts k tp) (.Call (.Name "zip" p) [a, b] [] pos) (mZip g) := by
  intro X fit W tk A fp tmp σ H ρ R I hw
  have hs' : noStar a = true ∧ noStar b = true := by simpa [noStars] using hs
  refine ⟨_, RZ.pi_zipA (gl_of fit hg) (fit.bl _ (by decide)) (pa_WEs hs) (star1 hs'.1) (stars_any (by simp [noStars, hs'.2])), h X fit W tk A fp tmp σ H ρ _ I (wpx_mono (wpx_bnd hw) (fun ds ρ1 hd vs H1 fp1 F I1 s1 nF r => ?_) fun _ _ z => z)⟩
  obtain ⟨v, w, d, e, G, G', e1, e2, eF, _, r1, r2⟩ := r.two
  subst e1 e2
  have eG : G = [] := by rcases hm with rfl | rfl <;> exact r1.1
  have eG' : G' = [] := by rcases hm with rfl | rfl <;> exact r2.1
  subst eG eG' eF
  rw [List.nil_append, tF_nil] at I1 s1 r1 r2
  obtain ⟨es, ee, hq⟩ := wpx_ofO hd
  rcases ziP2 ee with ⟨xs, ys, h1, h2, rfl⟩ | ⟨xs, ys, rfl, rfl, rfl⟩
  · obtain ⟨a, B, rfl, w, b⟩ := (r1.lk hm).walk h1
    obtain ⟨a2, B2, rfl, w2, b2⟩ := (r2.lk hm).walk h2
    obtain ⟨vs, q, _⟩ := w.sq _ _ _ b
    obtain ⟨vs2, q2, _⟩ := w2.sq _ _ _ b2
    exact ⟨a, a2, vs, vs2, rfl, .inl ⟨q, q2, hq _ _ _ _ I1 s1 (src_zipL w.src w2.src w.sq w2.sq) ⟨b, b2⟩⟩⟩
  · obtain ⟨a, vs, rfl, q, ra⟩ := r1.lk hm
    obtain ⟨a2, vs2, rfl, q2, rb⟩ := r2.lk hm
    exact ⟨a, a2, vs, vs2, rfl, .inr ⟨q, q2, hq _ _ _ _ I1 s1 src_zipT ⟨⟨vs, q, ra⟩, vs2, q2, rb⟩⟩⟩
end
end VS

set_option Elab.async false
set_option linter.all false
set_option maxRecDepth 100000
set_option maxHeartbeats 4000000
/-! VS14: targets. -/
namespace VS
open PySem PySem.Spec PyProof.Rows L2

inductive Tgt where | nm (i : Nat) | tp (is : List Nat)
def Tgt.ix : Tgt → List Nat
  | .nm i => [i]
  | .tp is => is
def nmR (S : Sx) (e : Expr) (i : Nat) : Bool := match e with
  | .Name x _ => S.N[i]? == some x && S.as.contains x
  | _ => false
def nmRs (S : Sx) : List Expr → List Nat → Bool
  | [], [] => true
  | e :: es, i :: is => nmR S e i && nmRs S es is
  | _, _ => false
def tgR (S : Sx) (e : Expr) (t : Tgt) : Bool := match t with
  | .nm i => nmR S e i
  | .tp is => match e with
    | .Tuple es _ _ => nmRs S es is
    | _ => false
inductive IM where | sh | rd | bd
def takes : IM → Kd → Bool
  | .sh, .F => true
  | .sh, .B => true
  | .sh, .R => true
  | .rd, .R => true
  | .bd, .B => true
  | .bd, .R => true
  | _, _ => false
def put1 (κ : List Kd) (m : IM) (i : Nat) (d : D) (ρ : List D) : Option (List D) := match κ[i]? with
  | some c => if takes m c || (d.imm && c.light) then some (ρ.set i d) else none
  | none => none
def puts (κ : List Kd) (m : IM) : List Nat → List D → List D → Option (List D)
  | [], [], ρ => some ρ
  | i :: is, d :: ds, ρ => match put1 κ m i d ρ with
    | some ρ' => puts κ m is ds ρ'
    | none => none
  | _, _, _ => none
def tset (κ : List Kd) (m : IM) (t : Tgt) (d : D) (ρ : List D) : Option (List D) := match t with
  | .nm i => put1 κ m i d ρ
  | .tp is => match d with
    | .tup ds => puts κ m is ds ρ
    | .lst ds => puts κ m is ds ρ
    | .scr ns => puts κ m is (ns.map .int) ρ
    | _ => none
def TSm (κ : List Kd) (A : Gd) (fp : Nat → List Addr) (tmp : Addr → Prop) : IM → Addr → Prop
  | .sh => Sh A fp tmp
  | .rd => SRd κ A fp tmp
  | .bd => SBd A fp tmp
theorem Sh.sbd {A : Gd} {fp : Nat → List Addr} {tmp : Addr → Prop} : ∀ b, Sh A fp tmp b → SBd A fp tmp b := fun b s => ⟨fun z => s.2 (.inl z), fun z => absurd (.inr z) s.2⟩
theorem SBd.srd {κ : List Kd} {A : Gd} {fp : Nat → List Addr} {tmp : Addr → Prop} : ∀ b, SBd A fp tmp b → SRd κ A fp tmp b := fun b s => ⟨fun z => s.1 z.os, s.2⟩
section
variable {K : PySem.W.Frag} {cl : Cl} {κ : List Kd} {A : Gd} {fp : Nat → List Addr} {tmp : Addr → Prop} {σ : L2.St} {H : Hp} {ρ ρ' : List D} {v : V} {d : D} {m : IM} {c : Kd}
theorem slot_of {i : Nat} (h : Rp K cl H (TSm κ A fp tmp m) v d) (hc : (takes m c || (d.imm && c.light)) = true) : Slot K cl κ A fp tmp H i v d c := by
  simp only [Bool.or_eq_true, Bool.and_eq_true] at hc
  rcases hc with hc | ⟨h1, h2⟩
  · cases m <;> cases c <;> simp only [takes] at hc <;> first | cases hc | skip
    · exact h
    · exact Rp.up h Sh.sbd
    · exact Rp.up h Sh.srd
    · exact h
    · exact h
    · exact Rp.up h SBd.srd
  · cases c <;> first | exact Rp.imm h1 h | simp [Kd.light] at h2
theorem SI.put (I : SI K cl κ A fp tmp σ H ρ) {i : Nat} (h : Rp K cl H (TSm κ A fp tmp m) v d) (hp : put1 κ m i d ρ = some ρ') : SI K cl κ A fp tmp (σ.set i (some v)) H ρ' ∧ i < κ.length ∧ ρ' = ρ.set i d := by
  unfold put1 at hp
  split at hp
  · rename_i c hc
    split at hp
    · rename_i hk
      cases hp
      have hl : i < κ.length := (List.getElem?_eq_some_iff.mp hc).1
      refine ⟨⟨by simpa using I.sz, I.an, I.ca, I.fa, I.fA, I.dj, I.nd, I.dt, I.cd, I.lf, fun j e cj e1 e2 e3 => ?_⟩, hl, rfl⟩
      by_cases hij : i = j
      · subst hij
        rw [hc] at e3; cases e3
        rw [List.getElem?_set_self (by rw [I.sz.2]; exact hl)] at e1
        cases e1
        exact ⟨v, by rw [List.getElem?_set_self (by rw [I.sz.1]; exact hl)], slot_of h hk⟩
      · rw [List.getElem?_set_ne hij] at e1
        obtain ⟨w, a, b⟩ := I.sl j e cj e1 e2 e3
        exact ⟨w, by rw [List.getElem?_set_ne hij]; exact a, b⟩
    · cases hp
  · cases hp
end
section
variable {S : Sx} {X : Cx} {A : Gd} {fp : Nat → List Addr} {tmp : Addr → Prop} {m : IM} {H : Hp}
theorem nm_ok (fit : Fit S X) {e : Expr} {i : Nat} (h : nmR S e i = true) : PG X e (gName i) := by
  unfold nmR at h
  split at h
  · rename_i x p
    simp only [Bool.and_eq_true, beq_iff_eq, List.contains_iff_mem] at h
    have z := fit.fn x h.2
    exact pg_name (by rw [fit.hN]; exact fit.nd) (by rw [fit.hN]; exact h.1) z.1 z.2
  · cases h
def gNames : List Nat → TGs
  | [] => gNil
  | i :: is => gCons (gName i) (gNames is)
theorem nms_ok (fit : Fit S X) : ∀ {es : List Expr} {is : List Nat}, nmRs S es is = true → PGs X es (gNames is) ∧ (assignEach es X.env).length = is.length ∧ (assignEach es X.env).findIdx? (·.1) = none
  | [], [], _ => ⟨pgs_nil, rfl, rfl⟩
  | [], _ :: _, h => by simp [nmRs] at h
  | _ :: _, [], h => by simp [nmRs] at h
  | e :: es, i :: is, h => by
    simp only [nmRs, Bool.and_eq_true] at h
    obtain ⟨h1, h2⟩ := h
    obtain ⟨a, b, c⟩ := nms_ok fit h2
    have g := nm_ok fit h1
    unfold nmR at h1
    split at h1
    · rename_i x p
      have e1 : assignEach (.Name x p :: es) X.env = (false, assign (.Name x p) X.env) :: assignEach es X.env := rfl
      refine ⟨pgs_cons g a (by rw [e1]; rfl), by rw [e1]; simp [b], by rw [e1, List.findIdx?_cons]; simp [c]⟩
    · cases h1
theorem gNames_run : ∀ {is : List Nat} {ds : List D} {vs : List V} {σ : L2.St} {ρ ρ' : List D} {Q : L2.St → Hp → Prop}, SI X.K (clX X.mg) S.κ A fp tmp σ H ρ → RpL X.K (clX X.mg) H (TSm S.κ A fp tmp m) vs ds → puts S.κ m is ds ρ = some ρ' →
    (∀ σ', SI X.K (clX X.mg) S.κ A fp tmp σ' H ρ' → (∀ i, i ∉ is → σ'[i]? = σ[i]? ∧ ρ'[i]? = ρ[i]?) → Q σ' H) → gNames is vs σ H Q
  | [], [], _, σ, ρ, ρ', Q, I, .nil, h, q => by
    simp only [puts, Option.some.injEq] at h
    subst h
    exact ⟨rfl, q σ I fun _ _ => ⟨rfl, rfl⟩⟩
  | [], _ :: _, _, _, _, _, _, _, _, h, _ => by simp [puts] at h
  | _ :: _, [], _, _, _, _, _, _, _, h, _ => by simp [puts] at h
  | i :: is, d :: ds, _, σ, ρ, ρ', Q, I, .cons r rs, h, q => by
    simp only [puts] at h
    split at h
    · rename_i ρ1 h1
      obtain ⟨I1, _, e1⟩ := I.put r h1
      refine ⟨_, _, rfl, gNames_run I1 rs h fun σ' I' ag => q σ' I' fun j hj => ?_⟩
      have hj' : i ≠ j ∧ j ∉ is := by simpa [eq_comm] using hj
      obtain ⟨a, b⟩ := ag j hj'.2
      rw [a, b, e1, List.getElem?_set_ne hj'.1, List.getElem?_set_ne hj'.1]
      exact ⟨rfl, rfl⟩
    · cases h
theorem tg_core (fit : Fit S X) {tg : Expr} {t : Tgt} (ht : tgR S tg t = true) {v : V} {d : D} {σ : L2.St} {ρ ρ' : List D} {Q : L2.St → Hp → Prop} (I : SI X.K (clX X.mg) S.κ A fp tmp σ H ρ) (r : Rp X.K (clX X.mg) H (TSm S.κ A fp tmp m) v d) (h : tset S.κ m t d ρ = some ρ')
    (q : ∀ σ', SI X.K (clX X.mg) S.κ A fp tmp σ' H ρ' → (∀ i, i ∉ t.ix → σ'[i]? = σ[i]? ∧ ρ'[i]? = ρ[i]?) → Q σ' H) : WG X tg v σ H Q := by
  cases t with
  | nm i =>
    obtain ⟨I1, _, e1⟩ := I.put r h
    refine ⟨_, nm_ok fit ht, q _ I1 fun j hj => ?_⟩
    have hj' : i ≠ j := by simpa [Tgt.ix, eq_comm] using hj
    rw [e1, List.getElem?_set_ne hj', List.getElem?_set_ne hj']
    exact ⟨rfl, rfl⟩
  | tp is =>
    unfold tgR at ht
    simp only at ht
    split at ht
    · rename_i es k p
      obtain ⟨g, n, z⟩ := nms_ok fit ht
      have len : ∀ {is : List Nat} {ds ρ ρ' : List D}, puts S.κ m is ds ρ = some ρ' → ds.length = is.length := by
        intro is
        induction is with
        | nil => intro ds ρ ρ' h; cases ds <;> simp [puts] at h ⊢
        | cons i is ih =>
          intro ds ρ ρ' h
          cases ds with
          | nil => simp [puts] at h
          | cons d ds =>
            simp only [puts] at h
            split at h
            · simp [ih h]
            · cases h
      unfold tset at h
      cases r <;> simp only at h <;> (try cases h)
      · rename_i a vs ds q1 rs
        exact ⟨_, pg_tup fit.calm g n z, a, vs, rfl, q1, by rw [rs.length, len h], gNames_run I rs h q⟩
      · rename_i a vs ds q1 s rs
        exact ⟨_, pg_unl fit.calm g n z, a, vs, rfl, .inl (.inl q1), by rw [rs.length, len h], gNames_run I rs h q⟩
      · rename_i a ns q1
        exact ⟨_, pg_unl fit.calm g n z, a, _, rfl, q1.seq, by rw [List.length_map, ← len h, List.length_map], gNames_run I (ints_rp ns) h q⟩
    · cases ht
end
end VS

set_option Elab.async false
set_option linter.all false
set_option maxRecDepth 100000
set_option maxHeartbeats 4000000
/-! VS15: list comprehensions. -/
namespace VS
open PySem PySem.Spec PyProof.Rows L2

def wipeD (ρ : List D) : List Nat → List D
  | [] => ρ
  | v :: vs => (wipeD ρ vs).set v .un
def restD (ρ0 ρ : List D) : List Nat → List D
  | [] => ρ
  | v :: vs => (restD ρ0 ρ vs).set v (ρ0.getD v .un)
theorem wipeD_len {ρ : List D} : ∀ {vs : List Nat}, (wipeD ρ vs).length = ρ.length
  | [] => rfl
  | v :: vs => by simp [wipeD, wipeD_len (vs := vs)]
theorem restD_len {ρ0 ρ : List D} : ∀ {vs : List Nat}, (restD ρ0 ρ vs).length = ρ.length
  | [] => rfl
  | v :: vs => by simp [restD, restD_len (vs := vs)]
theorem wipeD_out {ρ : List D} {i : Nat} : ∀ {vs : List Nat}, i ∉ vs → (wipeD ρ vs)[i]? = ρ[i]?
  | [], _ => rfl
  | v :: vs, h => by
    have h' : i ≠ v ∧ i ∉ vs := by simpa using h
    rw [wipeD, List.getElem?_set_ne (Ne.symm h'.1), wipeD_out h'.2]
theorem wipeD_in {ρ : List D} {i : Nat} {d : D} : ∀ {vs : List Nat}, i ∈ vs → (wipeD ρ vs)[i]? = some d → d = .un
  | [], h, _ => by cases h
  | v :: vs, h, e => by
    rw [wipeD] at e
    by_cases hv : v = i
    · subst hv
      by_cases hl : v < (wipeD ρ vs).length
      · rw [List.getElem?_set_self hl] at e; cases e; rfl
      · rw [List.getElem?_eq_none (by simpa using hl)] at e; cases e
    · rw [List.getElem?_set_ne hv] at e
      exact wipeD_in ((List.mem_cons.mp h).elim (fun z => absurd z.symm hv) id) e
theorem restD_out {ρ0 ρ : List D} {i : Nat} : ∀ {vs : List Nat}, i ∉ vs → (restD ρ0 ρ vs)[i]? = ρ[i]?
  | [], _ => rfl
  | v :: vs, h => by
    have h' : i ≠ v ∧ i ∉ vs := by simpa using h
    rw [restD, List.getElem?_set_ne (Ne.symm h'.1), restD_out h'.2]
theorem restD_in {ρ0 ρ : List D} (hl : ρ0.length = ρ.length) {i : Nat} : ∀ {vs : List Nat}, i ∈ vs → (restD ρ0 ρ vs)[i]? = ρ0[i]?
  | [], h => by cases h
  | v :: vs, h => by
    rw [restD]
    by_cases hv : v = i
    · subst hv
      by_cases hlt : v < ρ.length
      · rw [List.getElem?_set_self (by rw [restD_len]; exact hlt), List.getElem?_eq_getElem (by omega)]
        simp [List.getD, List.getElem?_eq_getElem (show v < ρ0.length by omega)]
      · rw [List.getElem?_eq_none (by simp [restD_len]; omega), List.getElem?_eq_none (by omega)]
    · rw [List.getElem?_set_ne hv]
      exact restD_in hl ((List.mem_cons.mp h).elim (fun z => absurd z.symm hv) id)
theorem wipe_in {σ : L2.St} {i : Nat} (hl : i < σ.length) : ∀ {vs : List Nat}, i ∈ vs → (wipe σ vs)[i]? = some none
  | [], h => by cases h
  | v :: vs, h => by
    rw [wipe]
    by_cases hv : v = i
    · subst hv
      rw [List.getElem?_set_self (by rw [wipe_length]; exact hl)]
    · rw [List.getElem?_set_ne hv]
      exact wipe_in hl ((List.mem_cons.mp h).elim (fun z => absurd z.symm hv) id)
theorem wipe_eq {σ σ2 : L2.St} {vs is : List Nat} (hl : σ2.length = σ.length) (hs : ∀ i, i ∉ is → σ2[i]? = (wipe σ vs)[i]?) (hi : ∀ i ∈ is, i ∈ vs) : wipe σ2 vs = wipe σ vs := by
  refine List.ext_getElem? fun i => ?_
  by_cases h : i ∈ vs
  · by_cases hlt : i < σ.length
    · rw [wipe_in hlt h, wipe_in (by omega) h]
    · rw [List.getElem?_eq_none (by rw [wipe_length]; omega), List.getElem?_eq_none (by rw [wipe_length]; omega)]
  · rw [wipe_out h, hs i fun z => h (hi i z)]

section
variable {K : PySem.W.Frag} {cl : Cl} {κ : List Kd} {A : Gd} {fp fp' fp1 : Nat → List Addr} {tmp tmp' tmp1 : Addr → Prop} {σ σ2 : L2.St} {H H' H1 : Hp} {ρ ρ' ρ1 : List D} {own : List Nat} {p : Addr} {o u : HO}
theorem SI.wipe (I : SI K cl κ A fp tmp σ H ρ) : SI K cl κ A fp tmp (L2.wipe σ own) H (wipeD ρ own) where
  sz := ⟨by rw [wipe_length]; exact I.sz.1, by rw [wipeD_len]; exact I.sz.2⟩
  an := I.an
  ca := I.ca
  fa := I.fa
  fA := I.fA
  dj := I.dj
  nd := I.nd
  dt := I.dt
  cd := I.cd
  lf := I.lf
  sl := fun i d c e1 e2 e3 => by
    by_cases h : i ∈ own
    · exact absurd (wipeD_in h e1) e2
    · rw [wipeD_out h] at e1
      rw [wipe_out h]
      exact I.sl i d c e1 e2 e3
theorem Slot.stp {i : Nat} {v : V} {d : D} {c : Kd} (s : Stp κ fp tmp H ρ fp' tmp' H' ρ') (hc : c.light = true) (h : Slot K cl κ A fp tmp H i v d c) : Slot K cl κ A fp' tmp' H' i v d c := by
  cases c with
  | F => exact Rp.ext s.ex (Sh.step s) h
  | R => exact Rp.ext s.ex (SRd.step s) h
  | B =>
    refine Rp.ext s.ex (fun b q n => ⟨⟨fun ⟨j, z⟩ => ?_, fun z => (s.tw b z).elim q.2 fun y => absurd y n⟩, fun z => q.1 z.os⟩) h
    by_cases hx : isX κ j
    · exact (s.ox b ⟨j, hx, z⟩).elim (fun y => q.1 y.os) n
    · exact q.1 ⟨j, s.st j b hx z⟩
  | L k => simp [Kd.light] at hc
  | X k => simp [Kd.light] at hc
def lights (κ : List Kd) (own : List Nat) : Bool := own.all fun i => match κ[i]? with
  | some c => c.light
  | none => false
/-- behind the block: the own slots as they were -/
theorem SI.back (I0 : SI K cl κ A fp tmp σ H ρ) (I : SI K cl κ A fp' tmp' (L2.wipe σ own) H' ρ') (s : Stp κ fp tmp H (wipeD ρ own) fp' tmp' H' ρ') (hl : lights κ own = true) :
    SI K cl κ A fp' tmp' σ H' (restD ρ ρ' own) ∧ Stp κ fp tmp H ρ fp' tmp' H' (restD ρ ρ' own) := by
  have len : ρ.length = ρ'.length := by rw [I0.sz.2, I.sz.2]
  refine ⟨⟨⟨I0.sz.1, by rw [restD_len]; exact I.sz.2⟩, I.an, I.ca, I.fa, I.fA, I.dj, I.nd, I.dt, I.cd, I.lf, fun i d c e1 e2 e3 => ?_⟩, ⟨s.ex, s.ow, s.ox, s.tw, s.st, fun i hx => ?_, s.si⟩⟩
  · by_cases h : i ∈ own
    · rw [restD_in len h] at e1
      obtain ⟨v, a, b⟩ := I0.sl i d c e1 e2 e3
      have := List.all_eq_true.mp hl i h
      rw [e3] at this
      exact ⟨v, a, b.stp s this⟩
    · rw [restD_out h] at e1
      obtain ⟨v, a, b⟩ := I.sl i d c e1 e2 e3
      rw [wipe_out h] at a
      exact ⟨v, a, b⟩
  · by_cases h : i ∈ own
    · rw [restD_in len h]; exact .inl rfl
    · rw [restD_out h]
      have z := s.rs i hx
      rw [wipeD_out h] at z
      exact z
theorem Stp.ext0 (e : Ext (fun _ => False) H H') : Stp κ fp tmp H ρ fp tmp H' ρ :=
  ⟨e.mono fun _ z => z.elim, fun _ z => .inl z, fun _ z => .inl z, fun _ z => .inl z, fun _ _ _ z => z, fun _ _ => .inl rfl, fun _ _ z => .inl z⟩
theorem SI.setTmp (I : SI K cl κ A fp tmp σ H ρ) (hp : tmp p) (hC : ¬ A.C p) (hH : H p = some u) (ns : ¬ Still u) : SI K cl κ A fp tmp σ (upd H p o) ρ := by
  have e : Ext (fun b => b = p) H (upd H p o) := Ext.set hH ns rfl
  have hS : ∀ b, Sh A fp tmp b → H b ≠ none → Sh A fp tmp b ∧ ¬ b = p := fun b s _ => ⟨s, fun z => s.2 (.inr (by rw [z]; exact hp))⟩
  refine ⟨I.sz, fun b h => I.an b (none_back e h), fun b h => e.al b (I.ca b h), fun b h => e.al b (I.fa b h), I.fA, I.dj, I.nd, I.dt, I.cd, I.lf, fun i d c e1 e2 e3 => ?_⟩
  obtain ⟨v, a, b⟩ := I.sl i d c e1 e2 e3
  refine ⟨v, a, ?_⟩
  have own : ∀ k, Own K cl H (Sh A fp tmp) k (fp i) v d → Own K cl (upd H p o) (Sh A fp tmp) k (fp i) v d := fun k q => Own.ext e hS (fun b hb z => I.dt i b hb (by rw [z]; exact hp)) q
  cases c with
  | F => exact Rp.ext e hS b
  | B => exact Rp.ext e (fun b s _ => ⟨s, fun z => hC (s.2 (by rw [z]; exact hp) |> fun q => by rw [← z]; exact q)⟩) b
  | R => exact Rp.ext e (fun b s _ => ⟨s, fun z => hC (s.2 (by rw [z]; exact hp) |> fun q => by rw [← z]; exact q)⟩) b
  | L k => exact own k b
  | X k => exact own k b
theorem Stp.setNew (s : Stp κ fp tmp H ρ fp1 tmp1 H1 ρ1) (hp : H p = none) (hH : H1 p = some u) (ns : ¬ Still u) : Stp κ fp tmp H ρ fp1 tmp1 (upd H1 p o) ρ1 :=
  ⟨s.ex.trans (P2 := fun b => b = p) (Ext.set hH ns rfl) fun b z => .inr (by rw [z]; exact hp), s.ow, s.ox, s.tw, s.st, s.rs, s.si⟩
/-- behind a turn's target and body, the own slots forgotten again -/
theorem Stp.turn {ρw : List D} {is : List Nat} (s : Stp κ fp tmp H ρ1 fp' tmp' H' ρ') (ha : ∀ i, i ∉ is → ρ1[i]? = ρw[i]?) (hi : ∀ i ∈ is, i ∈ own) (hl : ρ'.length = ρw.length) : Stp κ fp tmp H ρw fp' tmp' H' (wipeD ρ' own) := by
  refine ⟨s.ex, s.ow, s.ox, s.tw, s.st, fun i hx => ?_, s.si⟩
  by_cases h : i ∈ own
  · by_cases hlt : i < ρ'.length
    · obtain ⟨d, hd⟩ : ∃ d, (wipeD ρ' own)[i]? = some d := ⟨_, List.getElem?_eq_getElem (by rw [wipeD_len]; exact hlt)⟩
      have := wipeD_in h hd
      subst this
      exact .inr hd
    · refine .inl ?_
      rw [List.getElem?_eq_none (by rw [wipeD_len]; omega), List.getElem?_eq_none (by omega)]
  · rw [wipeD_out h, ← ha i fun z => h (hi i z)]
    exact s.rs i hx
theorem OwnL.snoc {S : Addr → Prop} {k : Nat} : ∀ {F G : List Addr} {vs : List V} {ds : List D} {v : V} {d : D}, OwnL K cl H S k F vs ds → Own K cl H S k G v d → OwnL K cl H S k (F ++ G) (vs ++ [v]) (ds ++ [d])
  | _, _, _, _, _, _, .nil, h => by
    have := OwnL.cons h .nil
    simpa using this
  | _, _, _, _, _, _, .cons h r, q => by
    rw [List.append_assoc]
    exact .cons h (OwnL.snoc r q)
theorem OwnL.length {S : Addr → Prop} {k : Nat} : ∀ {F : List Addr} {vs : List V} {ds : List D}, OwnL K cl H S k F vs ds → vs.length = ds.length
  | _, _, _, .nil => rfl
  | _, _, _, .cons _ r => by simp [OwnL.length r]
end

/-! ### the block's context -/
def Sx.blk (S : Sx) (scope : Scope) (own : List (Str × Nat)) : Sx := { S with sc := relS scope S.sc, as := own.map (·.1) }
def ownC (sc scope : Scope) (own : List (Str × Nat)) : Bool := own.all fun p => (relS scope sc).names.lookup p.1 == some .local || ((relS scope sc).names.lookup p.1 == some .cell && scope.names.lookup p.1 == some .cell)
section
variable {S : Sx} {X : Cx} {scope : Scope} {own : List (Str × Nat)} {e tg : Expr}
theorem Fit.blk (fit : Fit S X) (ho : ownC S.sc scope own = true) (s : Shared) (H : Hp) (C : Addr) (cl : List (Str × Addr)) (fp : List Addr) : Fit (S.blk scope own) (X.blk s H scope (compEnvC scope cl C X.env) fp) where
  hN := fit.hN
  nd := fit.nd
  sc := by
    show relabel scope X.env = relS scope S.sc
    rw [← fit.sc]; rfl
  calm := fit.calm
  room := fit.room
  fn := fun x hx => by
    have esc : (compEnvC scope cl C X.env).scope = relS scope S.sc := by rw [← fit.sc]; rfl
    obtain ⟨p, hp, rfl⟩ := List.mem_map.mp hx
    have := List.all_eq_true.mp ho p hp
    simp only [Bool.or_eq_true, Bool.and_eq_true, beq_iff_eq] at this
    show Loc (compEnvC scope cl C X.env).scope p.1 ∧ ((scope.names.lookup p.1 == some .cell) = true ∨ (compEnvC scope cl C X.env).scope.names.lookup p.1 = some .local)
    rw [esc]
    rcases this with h | ⟨h1, h2⟩
    · exact ⟨.inl h, .inr h⟩
    · exact ⟨.inr h1, .inl (by rw [h2]; rfl)⟩
  fs := fit.fs
  cs := fit.cs
  bl := fit.bl
  kl := fit.kl
  bf := fit.bf
def WEb (X : Cx) (scope : Scope) (e : Expr) : TE := fun σ H Q => ∀ (s : Shared) (H0 : Hp) (C : Addr) (cl : List (Str × Addr)) (fp : List Addr), WE (X.blk s H0 scope (compEnvC scope cl C X.env) fp) e σ H Q
theorem pe_WEb (s : Shared) (H : Hp) (C : Addr) (cl : List (Str × Addr)) (fp : List Addr) : PE (X.blk s H scope (compEnvC scope cl C X.env) fp) e (WEb X scope e) := ⟨fun pins s' σ H' Q I h => pe_WE.run pins s' σ H' Q I (h s H C cl fp)⟩
def WTb (X : Cx) (scope : Scope) (e : Expr) : TT := fun σ H Q => ∀ (s : Shared) (H0 : Hp) (C : Addr) (cl : List (Str × Addr)) (fp : List Addr), WT (X.blk s H0 scope (compEnvC scope cl C X.env) fp) e σ H Q
theorem pt_WTb (s : Shared) (H : Hp) (C : Addr) (cl : List (Str × Addr)) (fp : List Addr) : PT (X.blk s H scope (compEnvC scope cl C X.env) fp) e (WTb X scope e) := ⟨fun pins s' σ H' Q I h => pt_WT.run pins s' σ H' Q I (h s H C cl fp)⟩
def WGb (X : Cx) (scope : Scope) (e : Expr) : TG := fun v σ H Q => ∀ (s : Shared) (H0 : Hp) (C : Addr) (cl : List (Str × Addr)) (fp : List Addr), WG (X.blk s H0 scope (compEnvC scope cl C X.env) fp) e v σ H Q
theorem pg_WGb (s : Shared) (H : Hp) (C : Addr) (cl : List (Str × Addr)) (fp : List Addr) : PG (X.blk s H scope (compEnvC scope cl C X.env) fp) e (WGb X scope e) := ⟨fun pins s' σ H' v u Q I r h => pg_WG.run pins s' σ H' v u Q I r (h s H C cl fp)⟩
def WTbs (X : Cx) (scope : Scope) : List Expr → TT
  | [] => tYes
  | [c] => WTb X scope c
  | _ => fun _ _ _ => False
theorem pts_WTbs : ∀ (ifs : List Expr) (s : Shared) (H : Hp) (C : Addr) (cl : List (Str × Addr)) (fp : List Addr), PTs (X.blk s H scope (compEnvC scope cl C X.env) fp) ifs (WTbs X scope ifs)
  | [], _, _, _, _, _ => pts_nil
  | [c], s, H, C, cl, fp => pts_one (pt_WTb s H C cl fp)
  | _ :: _ :: _, _, _, _, _, _ => ⟨fun _ _ _ _ _ _ h => h.elim⟩
def STs (S : Sx) (ifs : List Expr) (f : M Bool) : Prop := match ifs with
  | [] => f = ret true
  | [c] => ST S c f
  | _ => False
theorem takes0 {X : Cx} : Takes X fun _ _ _ _ => False := fun u s' ⟨_, _, _, _, _, _, _, _, _, _, _, _, _, _, _, _, z⟩ => z.elim
def notSet : Expr → Bool
  | .Set _ _ _ => false
  | _ => true
theorem notSet_ok {iter : Expr} {env : Env} (h : notSet iter = true) (x : Value) : foldedSetIterable iter env x = pure x := by
  cases iter <;> first | rfl | (simp [notSet] at h)
end
def imOf : Mode → IM
  | .rd => .rd
  | _ => .sh
theorem tm_im {κ : List Kd} {A : Gd} {fp : Nat → List Addr} {tmp : Addr → Prop} {m : Mode} : TmS κ A fp tmp m = TSm κ A fp tmp (imOf m) := by cases m <;> rfl

/-! ### the mirror -/
def lcLoop (κ : List Kd) (own : List Nat) (im : IM) (t : Tgt) (tt : M Bool) (te : M D) : List D → List D → M (List D)
  | [], acc => ret acc
  | d :: ds, acc => fun ρ => match tset κ im t d ρ with
    | none => .stuck
    | some ρ1 => match tt ρ1 with
      | .ok true ρ2 => match te ρ2 with
        | .ok y ρ3 => if acc.length < 16777216 then lcLoop κ own im t tt te ds (acc ++ [y]) (wipeD ρ3 own) else .stuck
        | _ => .stuck
      | .ok false ρ2 => lcLoop κ own im t tt te ds acc (wipeD ρ2 own)
      | _ => .stuck
def mComp (κ : List Kd) (own : List Nat) (im : IM) (t : Tgt) (f : M (List D)) (tt : M Bool) (te : M D) : M D := bnd f fun ds ρ1 =>
  match lcLoop κ own im t tt te ds [] (wipeD ρ1 own) with
  | .ok acc ρ2 => .ok (.lst acc) (restD ρ1 ρ2 own)
  | _ => .stuck
/-- between two turns -/
def LcI (K : PySem.W.Frag) (cl : Cl) (κ : List Kd) (A : Gd) (fp1 : Nat → List Addr) (tmp : Addr → Prop) (σw : L2.St) (H1 : Hp) (ρw : List D) (Dd : Addr) (k : Nat) (m : Mode) (B : (Addr → Prop) → (Addr → Prop) → Hp → Prop) (go : List D → List D → R (List D)) (Qe : List D → List D → Prop) (H : Hp) : Prop :=
  ∃ (fp' : Nat → List Addr) (F : List Addr) (vs : List V) (acc ρ' : List D), SI K cl κ A fp' (tF tmp (Dd :: F)) σw H ρ' ∧ Stp κ fp1 tmp H1 ρw fp' (tF tmp (Dd :: F)) H ρ' ∧ B (SRd κ A fp' (tF tmp (Dd :: F))) (TmS κ A fp' (tF tmp (Dd :: F)) m) H ∧
    H Dd = some (.lst vs) ∧ (Dd :: F).Nodup ∧ (∀ b ∈ F, H1 b = none) ∧ OwnL K cl H (Sh A fp' (tF tmp (Dd :: F))) k F vs acc ∧ wpx (go acc ρ') Qe (fun _ _ => False)
section
variable {K : PySem.W.Frag} {cl : Cl} {κ : List Kd} {A : Gd} {fp1 fp' fp4 : Nat → List Addr} {tmp : Addr → Prop} {σ σ2 : L2.St} {H1 H H4 : Hp} {ρw ρ1 ρ2 ρ3 : List D} {Dd : Addr} {k : Nat} {m : Mode} {B : (Addr → Prop) → (Addr → Prop) → Hp → Prop} {own : List Nat} {Qe : List D → List D → Prop} {J : It} {ds : List D} {go : List D → List D → R (List D)}
/-- a step inside of the turn, F2 its new nodes -/
theorem TmS.stp {ρ ρ' : List D} {tmp tmp' : Addr → Prop} (s : Stp κ fp1 tmp H ρ fp4 tmp' H4 ρ') : ∀ b, TmS κ A fp1 tmp m b → H b ≠ none → TmS κ A fp4 tmp' m b ∧ ¬ OX κ fp1 b := by
  cases m with
  | rd => exact SRd.step s
  | el => exact Sh.step s
  | val k => exact Sh.step s
/-- an item appended -/
theorem lc_add (I1 : SI K cl κ A fp1 tmp σ H1 ρ1) (hD : H1 Dd = none) (src : Src K cl J B ds) {F F2 : List Addr} {vs : List V} {acc : List D} {v : V} {y : D}
    (I : SI K cl κ A fp' (tF tmp (Dd :: F)) σ2 H ρ2) (s : Stp κ fp1 tmp H1 ρw fp' (tF tmp (Dd :: F)) H ρ2) (b : B (SRd κ A fp' (tF tmp (Dd :: F))) (TmS κ A fp' (tF tmp (Dd :: F)) m) H) (hv : H Dd = some (.lst vs)) (nd : (Dd :: F).Nodup) (nF : ∀ b ∈ F, H1 b = none) (o : OwnL K cl H (Sh A fp' (tF tmp (Dd :: F))) k F vs acc)
    (I4 : SI K cl κ A fp4 (tF (tF tmp (Dd :: F)) F2) σ2 H4 ρ3) (s4 : Stp κ fp' (tF tmp (Dd :: F)) H ρ2 fp4 (tF (tF tmp (Dd :: F)) F2) H4 ρ3) (nF2 : ∀ b ∈ F2, H b = none) (r : Res K cl κ A fp4 (tF (tF tmp (Dd :: F)) F2) H4 F2 v y (.val k)) :
    H4 Dd = some (.lst vs) ∧ SI K cl κ A fp4 (tF tmp (Dd :: (F ++ F2))) σ2 (upd H4 Dd (.lst (vs ++ [v]))) ρ3 ∧ Stp κ fp1 tmp H1 ρw fp4 (tF tmp (Dd :: (F ++ F2))) (upd H4 Dd (.lst (vs ++ [v]))) ρ3 ∧ B (SRd κ A fp4 (tF tmp (Dd :: (F ++ F2)))) (TmS κ A fp4 (tF tmp (Dd :: (F ++ F2))) m) (upd H4 Dd (.lst (vs ++ [v]))) ∧
      (Dd :: (F ++ F2)).Nodup ∧ (∀ b ∈ F ++ F2, H1 b = none) ∧ OwnL K cl (upd H4 Dd (.lst (vs ++ [v]))) (Sh A fp4 (tF tmp (Dd :: (F ++ F2)))) k (F ++ F2) (vs ++ [v]) (acc ++ [y]) := by
  rw [tF_app, List.cons_append] at I4 s4 r
  have hDt : tF tmp (Dd :: (F ++ F2)) Dd := .inr List.mem_cons_self
  have hDx : ¬ OX κ fp' Dd := fun ⟨i, _, z⟩ => I.dt i Dd z (.inr List.mem_cons_self)
  have hDC : ¬ A.C Dd := fun z => I1.ca Dd z hD
  have h4 : H4 Dd = some (.lst vs) := s4.ex.keep _ _ hv hDx
  have ns : ¬ Still (.lst vs) := fun z => z
  have e5 : Ext (fun b => b = Dd) H4 (upd H4 Dd (.lst (vs ++ [v]))) := Ext.set h4 ns rfl
  have fX : ∀ b ∈ F, ¬ OX κ fp' b := fun b hb ⟨i, _, z⟩ => I.dt i b z (.inr (List.mem_cons_of_mem _ hb))
  have nd' := List.nodup_cons.mp nd
  have sh5 : ∀ b, Sh A fp4 (tF tmp (Dd :: (F ++ F2))) b → H4 b ≠ none → Sh A fp4 (tF tmp (Dd :: (F ++ F2))) b ∧ ¬ b = Dd := fun b q _ => ⟨q, fun z => q.2 (.inr (by rw [z]; exact hDt))⟩
  have n2 : ∀ b ∈ F2, b ≠ Dd := fun b hb z => by
    have := nF2 b hb
    rw [z, hv] at this; cases this
  refine ⟨h4, I4.setTmp hDt hDC h4 ns, (s.trans s4).setNew hD h4 ns, ?_, ?_, fun b hb => (List.mem_append.mp hb).elim (nF b) fun z => none_back s.ex (nF2 b z), ?_⟩
  · have b4 := src.mv _ _ _ _ _ _ _ s4.ex (SRd.step s4) (TmS.stp s4) b
    refine src.mv _ _ _ _ _ _ _ e5 (fun b q _ => ⟨q, fun z => hDC (by rw [← z]; exact q.2 (by rw [z]; exact hDt))⟩) (fun x q n => ?_) b4
    cases m with
    | rd => exact ⟨q, fun z => hDC (by rw [← z]; exact q.2 (by rw [z]; exact hDt))⟩
    | el => exact sh5 x q n
    | val k => exact sh5 x q n
  · refine List.nodup_cons.mpr ⟨fun z => (List.mem_append.mp z).elim nd'.1 fun z => n2 _ z rfl, List.nodup_append.mpr ⟨nd'.2, r.1, fun a ha b hb z => ?_⟩⟩
    exact I.fa a (.inr (.inr (List.mem_cons_of_mem _ ha))) (by rw [z]; exact nF2 b hb)
  · refine OwnL.snoc ?_ ?_
    · exact OwnL.ext e5 sh5 (fun b hb z => nd'.1 (by rw [← z]; exact hb)) (OwnL.ext s4.ex (Sh.step s4) fX o)
    · exact Own.ext e5 sh5 n2 r.2.2
end
section
variable {S : Sx} {scope : Scope} {own : List (Str × Nat)} {elt tg iter : Expr} {ifs : List Expr} {m : Mode} {t : Tgt} {k : Nat} {f : M (List D)} {tt : M Bool} {te : M D} {pos : Pos}
theorem wts_run {X : Cx} (fit : Fit S X) (ho : ownC S.sc scope own = true) {A : Gd} {fp : Nat → List Addr} {tmp : Addr → Prop} {σ : L2.St} {H : Hp} {ρ : List D} {Q : Bool → Hp → Prop} (hT : STs (S.blk scope own) ifs tt) (I : SI X.K (clX X.mg) S.κ A fp tmp σ H ρ)
    (h : wpx (tt ρ) (fun b ρ' => ∀ H' fp', SI X.K (clX X.mg) S.κ A fp' tmp σ H' ρ' → Stp S.κ fp tmp H ρ fp' tmp H' ρ' → Q b H') (fun _ _ => False)) : WTbs X scope ifs σ H Q := by
  match ifs, hT with
  | [], hT =>
    have hT : tt = ret true := hT
    subst hT
    exact h H fp I .refl
  | [c], hT =>
    intro sB HB CB clB fpB
    exact hT _ (fit.blk ho sB HB CB clB fpB) _ takes0 A fp tmp σ H ρ _ I (wpx_mono h (fun _ _ z => z) fun _ _ z => z.elim)
  | _ :: _ :: _, hT => exact hT.elim
/-- a comprehension computes f, by its reading -/
def SLc (S : Sx) (k : Nat) (elt tg iter : Expr) (ifs : List Expr) (scope : Scope) (own : List (Str × Nat)) (f : M D) : Prop :=
  (notSet iter = true ∧ blkC S.N S.sc scope own = true) ∧ ∀ (X : Cx), Fit S X → ∀ (W : WX), Takes X W → ∀ (A : Gd) (fp : Nat → List Addr) (tmp : Addr → Prop) (σ : L2.St) (H : Hp) (ρ : List D) (Q : VK),
    SI X.K (clX X.mg) S.κ A fp tmp σ H ρ →
    wpx (f ρ) (fun d ρ' => ∀ v H' fp' F, SI X.K (clX X.mg) S.κ A fp' (tF tmp F) σ H' ρ' → Stp S.κ fp tmp H ρ fp' (tF tmp F) H' ρ' → (∀ b ∈ F, H b = none) → Res X.K (clX X.mg) S.κ A fp' (tF tmp F) H' F v d (.val k) → Q v H')
      (XQ X W S.κ A fp tmp σ H ρ) → tLc (WI X tg iter) (WGb X scope tg) (WTbs X scope ifs) (WEb X scope elt) (own.map (·.2)) σ H Q
theorem slc_comp (hi : SIt S m tg iter f) (hns : notSet iter = true) (hb : blkC S.N S.sc scope own = true) (ho : ownC S.sc scope own = true) (hl : lights S.κ (own.map (·.2)) = true) (ht : tgR (S.blk scope own) tg t = true) (hix : (t.ix.all fun i => (own.map (·.2)).contains i) = true)
    (hT : STs (S.blk scope own) ifs tt) (hE : SE (S.blk scope own) (.val k) elt te) : SLc S (k + 1) elt tg iter ifs scope own (mComp S.κ (own.map (·.2)) (imOf m) t f tt te) := by
  refine ⟨⟨hns, hb⟩, ?_⟩
  intro X fit W tk A fp tmp σ H ρ Q I hw
  have hix' : ∀ i ∈ t.ix, i ∈ own.map (·.2) := fun i h => by simpa using List.all_eq_true.mp hix i h
  refine hi X fit W tk A fp tmp σ H ρ _ I (wpx_mono (wpx_bnd hw) (fun ds ρ1 hd J B H1 fp1 I1 s1 src b1 => ?_) fun _ _ z => z)
  clear hw
  intro Dd hD
  generalize hOw : own.map (·.2) = ow at hd hix' ⊢
  rw [hOw] at hl
  -- the loop's end
  have hd' : wpx (lcLoop S.κ ow (imOf m) t tt te ds [] (wipeD ρ1 ow)) (fun acc ρ2 => ∀ v H' fp' F, SI X.K (clX X.mg) S.κ A fp' (tF tmp F) σ H' (restD ρ1 ρ2 ow) → Stp S.κ fp tmp H ρ fp' (tF tmp F) H' (restD ρ1 ρ2 ow) → (∀ b ∈ F, H b = none) → Res X.K (clX X.mg) S.κ A fp' (tF tmp F) H' F v (.lst acc) (.val (k + 1)) → Q v H') (fun _ _ => False) := by
    cases q : lcLoop S.κ ow (imOf m) t tt te ds [] (wipeD ρ1 ow) <;> rw [q] at hd <;> exact hd
  clear hd
  let Inv := fun (i : Nat) (H' : Hp) => LcI X.K (clX X.mg) S.κ A fp1 tmp (L2.wipe σ ow) H1 (wipeD ρ1 ow) Dd k m B (fun acc => lcLoop S.κ ow (imOf m) t tt te (ds.drop i) acc) (fun acc ρ2 => ∀ v H' fp' F, SI X.K (clX X.mg) S.κ A fp' (tF tmp F) σ H' (restD ρ1 ρ2 ow) → Stp S.κ fp tmp H ρ fp' (tF tmp F) H' (restD ρ1 ρ2 ow) → (∀ b ∈ F, H b = none) → Res X.K (clX X.mg) S.κ A fp' (tF tmp F) H' F v (.lst acc) (.val (k + 1)) → Q v H') H'
  refine ⟨fun i n H' => n = ds.length - i ∧ i ≤ ds.length ∧ Inv i H', ⟨ds.length, by omega, Nat.zero_le _, fp1, [], [], [], wipeD ρ1 ow, ?_, ?_, ?_, upd_same, by simp, emp, .nil, by simpa using hd'⟩, ?_⟩
  · exact I1.wipe.new hD fun b z => z.elim .inl fun z => .inr (by simpa using z)
  · exact Stp.refl.new hD fun b z => z.elim .inl fun z => .inr (by simpa using z)
  · have s0 : Stp S.κ fp1 tmp H1 ρ1 fp1 (tF tmp [Dd]) (upd H1 Dd (.lst [])) ρ1 := Stp.refl.new hD fun b z => z.elim .inl fun z => .inr (by simpa using z)
    exact src.mv _ _ _ _ _ _ _ s0.ex (SRd.step s0) (TmS.stp s0) b1
  rintro i n H2 ⟨rfl, hle, fp2, F, vs, acc, ρ2, I2, s2, b2, hv, nd, nF, o, hgo⟩
  by_cases hlt : i < ds.length
  · refine .inr ⟨src.go i _ _ _ b2 hlt, Inv (i + 1), fun H' p' => ⟨ds.length - (i + 1), by omega, rfl, hlt, p'⟩, fun x H3 hy => ?_⟩
    obtain ⟨e3, r3⟩ := src.yld i _ _ _ x H3 _ b2 (List.getElem?_eq_getElem hlt) hy
    have sg : Stp S.κ fp2 (tF tmp (Dd :: F)) H2 ρ2 fp2 (tF tmp (Dd :: F)) H3 ρ2 := .ext0 e3
    have I3 := I2.grow e3 (fun b z => .inl z) fun b z => e3.al b (I2.fa b (.inr z))
    have b3 := src.mv _ _ _ _ _ _ _ sg.ex (SRd.step sg) (TmS.stp sg) b2
    have hv3 : H3 Dd = some (.lst vs) := e3.keep _ _ hv fun z => z
    have o3 : OwnL X.K (clX X.mg) H3 (Sh A fp2 (tF tmp (Dd :: F))) k F vs acc := OwnL.ext e3 (fun b q _ => ⟨q, fun z => z⟩) (fun _ _ z => z) o
    have s3 := s2.trans sg
    simp (config := {failIfUnchanged := false}) only [] at hgo
    rw [List.drop_eq_getElem_cons hlt, lcLoop] at hgo
    simp only at hgo
    cases hts : tset S.κ (imOf m) t ds[i] ρ2 with
    | none => rw [hts] at hgo; exact hgo.elim
    | some ρ3 =>
    rw [hts] at hgo
    simp only at hgo
    rw [tm_im] at r3
    intro sA HA C cl fpA
    refine tg_core (S := S.blk scope own) (fit.blk ho sA HA C cl fpA) ht I3 r3 hts fun σ3 I3' ag => ⟨wipe_eq (by rw [I3'.sz.1, I1.sz.1]; rfl) (fun i hi => (ag i hi).1) hix', ?_⟩
    have len3 : ρ3.length = ρ2.length := by rw [I3'.sz.2, I2.sz.2]; rfl
    have eσ : L2.wipe σ3 ow = L2.wipe σ ow := wipe_eq (by rw [I3'.sz.1, I1.sz.1]; rfl) (fun i hi => (ag i hi).1) hix'
    -- the tests
    have test : wpx (tt ρ3) (fun b ρ4 => if b = true then wpx (te ρ4) (fun y ρ5 => acc.length < 16777216 ∧ wpx (lcLoop S.κ ow (imOf m) t tt te (ds.drop (i + 1)) (acc ++ [y]) (wipeD ρ5 ow)) (fun acc ρ2 => ∀ v H' fp' F, SI X.K (clX X.mg) S.κ A fp' (tF tmp F) σ H' (restD ρ1 ρ2 ow) → Stp S.κ fp tmp H ρ fp' (tF tmp F) H' (restD ρ1 ρ2 ow) → (∀ b ∈ F, H b = none) → Res X.K (clX X.mg) S.κ A fp' (tF tmp F) H' F v (.lst acc) (.val (k + 1)) → Q v H') (fun _ _ => False)) (fun _ _ => False)
        else wpx (lcLoop S.κ ow (imOf m) t tt te (ds.drop (i + 1)) acc (wipeD ρ4 ow)) (fun acc ρ2 => ∀ v H' fp' F, SI X.K (clX X.mg) S.κ A fp' (tF tmp F) σ H' (restD ρ1 ρ2 ow) → Stp S.κ fp tmp H ρ fp' (tF tmp F) H' (restD ρ1 ρ2 ow) → (∀ b ∈ F, H b = none) → Res X.K (clX X.mg) S.κ A fp' (tF tmp F) H' F v (.lst acc) (.val (k + 1)) → Q v H') (fun _ _ => False)) (fun _ _ => False) := by
      cases et : tt ρ3 with
      | stuck => rw [et] at hgo; exact hgo
      | err x r => rw [et] at hgo; exact hgo
      | ok b ρ4 =>
        rw [et] at hgo
        cases b with
        | false => simpa [wpx] using hgo
        | true =>
          simp only [wpx, if_true]
          simp only at hgo
          cases ee : te ρ4 with
          | stuck => rw [ee] at hgo; exact hgo
          | err x r => rw [ee] at hgo; exact hgo
          | ok y ρ5 =>
            rw [ee] at hgo
            simp only at hgo
            split at hgo
            · exact ⟨by assumption, hgo⟩
            · exact hgo.elim
    -- what follows the tests
    have fin : ∀ (b : Bool) (ρ4 : List D) (H4 : Hp) (fp4 : Nat → List Addr), SI X.K (clX X.mg) S.κ A fp4 (tF tmp (Dd :: F)) σ3 H4 ρ4 → Stp S.κ fp2 (tF tmp (Dd :: F)) H3 ρ3 fp4 (tF tmp (Dd :: F)) H4 ρ4 → (if b = true then wpx (te ρ4) (fun y ρ5 => acc.length < 16777216 ∧ wpx (lcLoop S.κ ow (imOf m) t tt te (ds.drop (i + 1)) (acc ++ [y]) (wipeD ρ5 ow)) (fun acc ρ2 => ∀ v H' fp' F, SI X.K (clX X.mg) S.κ A fp' (tF tmp F) σ H' (restD ρ1 ρ2 ow) → Stp S.κ fp tmp H ρ fp' (tF tmp F) H' (restD ρ1 ρ2 ow) → (∀ b ∈ F, H b = none) → Res X.K (clX X.mg) S.κ A fp' (tF tmp F) H' F v (.lst acc) (.val (k + 1)) → Q v H') (fun _ _ => False)) (fun _ _ => False)
        else wpx (lcLoop S.κ ow (imOf m) t tt te (ds.drop (i + 1)) acc (wipeD ρ4 ow)) (fun acc ρ2 => ∀ v H' fp' F, SI X.K (clX X.mg) S.κ A fp' (tF tmp F) σ H' (restD ρ1 ρ2 ow) → Stp S.κ fp tmp H ρ fp' (tF tmp F) H' (restD ρ1 ρ2 ow) → (∀ b ∈ F, H b = none) → Res X.K (clX X.mg) S.κ A fp' (tF tmp F) H' F v (.lst acc) (.val (k + 1)) → Q v H') (fun _ _ => False)) →
        (if b = true then WEb X scope elt σ3 H4 fun y H5 => ∃ ac, H5 Dd = some (.lst ac) ∧ ac.length < sizeLine ∧ Inv (i + 1) (upd H5 Dd (.lst (ac ++ [y]))) else Inv (i + 1) H4) := by
      intro b ρ4 H4 fp4 I4 s4 hb4
      have sx4 : Stp S.κ fp1 tmp H1 (wipeD ρ1 ow) fp4 (tF tmp (Dd :: F)) H4 (wipeD ρ4 ow) := s3.trans (s4.turn (fun i hi => (ag i hi).2) hix' (by rw [I4.sz.2, I2.sz.2]))
      have b4 := src.mv _ _ _ _ _ _ _ s4.ex (SRd.step s4) (TmS.stp s4) b3
      have fX : ∀ b ∈ Dd :: F, ¬ OX S.κ fp2 b := fun b hb ⟨i, _, z⟩ => I2.dt i b z (.inr hb)
      have hv4 := s4.ex.keep _ _ hv3 (fX _ List.mem_cons_self)
      have o4 := OwnL.ext s4.ex (Sh.step s4) (fun b hb => fX b (List.mem_cons_of_mem _ hb)) o3
      cases b with
      | false =>
        simp only [Bool.false_eq_true, if_false] at hb4 ⊢
        have I4w := I4.wipe (own := ow)
        rw [eσ] at I4w
        exact ⟨fp4, F, vs, acc, wipeD ρ4 ow, I4w, sx4, b4, hv4, nd, nF, o4, hb4⟩
      | true =>
        simp only [if_true] at hb4 ⊢
        intro sA HA C cl fpA
        refine hE _ (fit.blk ho sA HA C cl fpA) _ takes0 A fp4 (tF tmp (Dd :: F)) σ3 H4 ρ4 _ I4 (wpx_mono hb4 (fun y ρ5 hy v H5 fp5 F2 I5 s5 nF2 r5 => ?_) fun _ _ z => z.elim)
        have sx3 : Stp S.κ fp1 tmp H1 (wipeD ρ1 ow) fp4 (tF tmp (Dd :: F)) H4 (wipeD ρ4 ow) := sx4
        have s45 : Stp S.κ fp4 (tF tmp (Dd :: F)) H4 (wipeD ρ4 ow) fp5 (tF (tF tmp (Dd :: F)) F2) H5 (wipeD ρ5 ow) := s5.turn (is := ow) (fun i hi => (wipeD_out hi).symm) (fun _ z => z) (by rw [wipeD_len, I5.sz.2, I4.sz.2]; rfl)
        have I5w := I5.wipe (own := ow)
        rw [eσ] at I5w
        have I4w := I4.wipe (own := ow)
        rw [eσ] at I4w
        obtain ⟨a1, a2, a3, a4, a5, a6, a7⟩ := lc_add I1 hD src I4w sx3 b4 hv4 nd nF o4 I5w s45 nF2 r5
        exact ⟨vs, a1, by have := o4.length; show vs.length < 16777216; rw [this]; exact hy.1, fp5, F ++ F2, vs ++ [v], acc ++ [y], wipeD ρ5 ow, a2, a3, a4, upd_same, a5, a6, a7, hy.2⟩
    exact wts_run fit ho hT I3' (wpx_mono test (fun b ρ4 hb4 H4 fp4 I4 s4 => fin b ρ4 H4 fp4 I4 s4 hb4) fun _ _ z => z)
  · have e : i = ds.length := by omega
    subst e
    refine .inl ⟨src.stop _ _ _ _ b2 (Nat.le_refl _), ?_⟩
    simp (config := {failIfUnchanged := false}) only [] at hgo
    rw [List.drop_length, lcLoop] at hgo
    obtain ⟨J2, z2⟩ := I1.back I2 s2 hl
    refine hgo (.ref Dd) H2 fp2 (Dd :: F) J2 (s1.trans z2) (fun b hb => ?_) ⟨nd, fun b hb => ⟨.inr hb, ?_⟩, .lst hv o⟩
    · rcases List.mem_cons.mp hb with z | z
      · rw [z]; exact none_back s1.ex hD
      · exact none_back s1.ex (nF b z)
    · rcases List.mem_cons.mp hb with z | z
      · rw [z]; exact I1.an _ hD
      · exact I1.an _ (nF b z)
theorem se_comp {g : M D} (h : SLc S k elt tg iter ifs scope own g) : SE S (.val k) (.ListComp elt [⟨tg, iter, ifs, 0⟩] scope pos) g := by
  intro X fit W tk A fp tmp σ H ρ Q I hw
  obtain ⟨⟨hns, hb⟩, h⟩ := h
  exact ⟨_, pe_lc fit.calm (by rw [fit.hN]; exact fit.nd) pi_WI (blkOk_by (by rw [fit.hN, fit.sc]; exact hb)) pg_WGb (pts_WTbs ifs) pe_WEb (notSet_ok hns), h X fit W tk A fp tmp σ H ρ Q I hw⟩
end
end VS

set_option Elab.async false
set_option linter.all false
set_option maxRecDepth 100000
set_option maxHeartbeats 4000000
/-! VS16: list displays; statements: the judgements, moved values, the plain statements. -/
namespace VS
open PySem PySem.Spec PyProof.Rows L2

/-! ### list displays -/
section
variable {K : PySem.W.Frag} {cl : Cl} {κ : List Kd} {A : Gd} {fp : Nat → List Addr} {tmp : Addr → Prop} {H : Hp}
theorem ResL.ownL {k : Nat} : ∀ {F : List Addr} {vs : List V} {ds : List D} {ms : List Mode}, (∀ m ∈ ms, m = Mode.val k) → ResL K cl κ A fp tmp H F vs ds ms → F.Nodup ∧ (∀ b ∈ F, tmp b ∧ A.ok b) ∧ OwnL K cl H (Sh A fp tmp) k F vs ds := by
  intro F vs ds ms hm r
  induction r with
  | nil => exact ⟨List.nodup_nil, emp, .nil⟩
  | cons r n q ih =>
    obtain ⟨a, b, c⟩ := ih fun m hm' => hm m (List.mem_cons_of_mem _ hm')
    have e0 := hm _ List.mem_cons_self
    subst e0
    refine ⟨List.nodup_append.mpr ⟨r.1, a, fun x hx y hy z => n x hx (by rw [z]; exact hy)⟩, fun x hx => (List.mem_append.mp hx).elim (r.2.1 x) (b x), .cons r.2.2 c⟩
theorem Own.lstNew {k : Nat} {F : List Addr} {vs : List V} {ds : List D} {p : Addr} (hp : H p = none) (hF : ∀ b ∈ F, tmp b) (ha : A.ok p) (o : F.Nodup ∧ (∀ b ∈ F, tmp b ∧ A.ok b) ∧ OwnL K cl H (Sh A fp tmp) k F vs ds) (h2 : ∀ b, tF tmp [p] b → H b ≠ none ∨ b = p) :
    Res K cl κ A fp (tF tmp [p]) (upd H p (.lst vs)) (p :: F) (.ref p) (.lst ds) (.val (k + 1)) := by
  refine ⟨List.nodup_cons.mpr ⟨fun z => ?_, o.1⟩, fun b hb => ?_, .lst upd_same ?_⟩
  · exact OwnL.al o.2.2 p z hp
  · rcases List.mem_cons.mp hb with z | z
    · subst z; exact ⟨.inr (by simp), ha⟩
    · exact ⟨.inl (o.2.1 b z).1, (o.2.1 b z).2⟩
  · refine OwnL.ext (Ext.new (P := fun _ => False) hp) (fun b s n => ⟨⟨s.1, fun z => s.2 ?_⟩, fun z => z⟩) (fun _ _ z => z) o.2.2
    rcases z with z | z | z
    · exact .inl z
    · exact .inr z
    · have : b = p := by simpa using z
      subst this; exact absurd hp n
end
section
variable {S : Sx} {es : List Expr} {ms : List Mode} {g : M (List D)} {k : Nat} {pos : Pos}
theorem tF_cons {tmp : Addr → Prop} {F : List Addr} {p : Addr} : tF (tF tmp F) [p] = tF tmp (p :: F) := by
  funext b
  simp [tF, or_assoc, or_comm, or_left_comm]
def mLst (g : M (List D)) : M D := bnd g fun ds => if ds.length ≤ 16777216 then ret (.lst ds) else fail
theorem wpx_sz {α β : Type} {n : Nat} {a : α} {ρ : List D} {Q : α → List D → Prop} {E : D → List D → Prop} (h : wpx ((if n ≤ 16777216 then ret a else fail) ρ) Q E) : n ≤ 16777216 ∧ Q a ρ := by
  split at h
  · exact ⟨by assumption, h⟩
  · exact h.elim
theorem se_lst (hs : noStars es = true) (h : SEs S ms es g) (hm : (ms.all fun m => m == .val k) = true) : SE S (.val (k + 1)) (.List es pos) (mLst g) := by
  intro X fit W tk A fp tmp σ H ρ Q I hw
  have hm' : ∀ m ∈ ms, m = .val k := fun m hm'' => by simpa using List.all_eq_true.mp hm m hm''
  refine ⟨_, pe_lst (pa_WEs hs), ?_⟩
  show WEs X es σ H _
  refine h X fit W tk A fp tmp σ H ρ _ I (wpx_mono (wpx_bnd hw) (fun ds ρ1 hd vs H1 fp1 F I1 s1 nt r1 => ?_) fun _ _ z => z)
  obtain ⟨hz, hd⟩ := wpx_sz (α := D) (β := D) hd
  have o := r1.ownL hm'
  refine ⟨by rw [o.2.2.length, sizeLine_eq]; exact hz, fun p hp => ?_⟩
  have I2 : SI X.K (clX X.mg) S.κ A fp1 (tF (tF tmp F) [p]) σ (upd H1 p (.lst vs)) ρ1 := I1.new hp fun b q => q.imp id fun z => by simpa using z
  have s2 : Stp S.κ fp tmp H ρ fp1 (tF (tF tmp F) [p]) (upd H1 p (.lst vs)) ρ1 := s1.new hp fun b q => q.imp id fun z => by simpa using z
  have r2 := Own.lstNew (κ := S.κ) hp (fun b hb => (o.2.1 b hb).1) (I1.an p hp) o fun b z => z.elim (fun z => .inl (I1.fa b (.inr z))) fun z => .inr (by simpa using z)
  rw [tF_cons] at I2 s2 r2
  refine hd (.ref p) _ fp1 (p :: F) I2 s2 (fun b hb => ?_) r2
  rcases List.mem_cons.mp hb with z | z
  · rw [z]; exact none_back s1.ex hp
  · exact nt b z
end

/-! ### statements -/
inductive Out where | nx | bk | ct | rt (d : D)
  deriving Inhabited
structure StS (np : Nat) (pr : List Nat) (fp : Nat → List Addr) (tmp : Addr → Prop) (σ : L2.St) (H : Hp) (fp' : Nat → List Addr) (tmp' : Addr → Prop) (σ' : L2.St) (H' : Hp) : Prop where
  ex : Ext (OS fp) H H'
  ow : ∀ b, OO fp' tmp' b → OO fp tmp b ∨ H b = none
  si : ∀ i b, b ∈ fp' i → b ∈ fp i ∨ (∃ j, np ≤ j ∧ b ∈ fp j) ∨ H b = none
  sg : ∀ i ∈ pr, σ'[i]? = σ[i]?
/-- given away by the frame's own slots, or new -/
def Giv (np : Nat) (fp : Nat → List Addr) (H : Hp) (F : List Addr) : Prop := ∀ b ∈ F, (∃ j, np ≤ j ∧ b ∈ fp j) ∨ H b = none
section
variable {np : Nat} {pr : List Nat} {κ : List Kd} {A : Gd} {fp fp1 fp2 : Nat → List Addr} {tmp tmp1 tmp2 : Addr → Prop} {σ σ1 σ2 : L2.St} {H H1 H2 : Hp} {ρ ρ1 : List D} {F : List Addr} {K : PySem.W.Frag} {cl : Cl}
theorem StS.refl : StS np pr fp tmp σ H fp tmp σ H := ⟨.refl, fun _ z => .inl z, fun _ _ z => .inl z, fun _ _ => rfl⟩
theorem StS.os (a : StS np pr fp tmp σ H fp1 tmp1 σ1 H1) : ∀ x, OS fp1 x → OS fp x ∨ H x = none := fun x ⟨i, h⟩ => (a.si i x h).elim (fun z => .inl ⟨i, z⟩) fun z => z.imp (fun ⟨j, _, h⟩ => ⟨j, h⟩) id
theorem StS.trans (a : StS np pr fp tmp σ H fp1 tmp1 σ1 H1) (b : StS np pr fp1 tmp1 σ1 H1 fp2 tmp2 σ2 H2) : StS np pr fp tmp σ H fp2 tmp2 σ2 H2 where
  ex := a.ex.trans b.ex a.os
  ow := fun x h => (b.ow x h).elim (a.ow x) fun z => .inr (none_back a.ex z)
  si := fun i x h => by
    have loc : (∃ j, np ≤ j ∧ x ∈ fp1 j) → (∃ j, np ≤ j ∧ x ∈ fp j) ∨ H x = none := fun ⟨j, hj, h⟩ => (a.si j x h).elim (fun z => .inl ⟨j, hj, z⟩) id
    rcases b.si i x h with z | z | z
    · exact a.si i x z
    · exact .inr (loc z)
    · exact .inr (.inr (none_back a.ex z))
  sg := fun i h => (b.sg i h).trans (a.sg i h)
theorem Giv.back (a : StS np pr fp tmp σ H fp1 tmp1 σ1 H1) (h : Giv np fp1 H1 F) : Giv np fp H F := fun x hx => by
  rcases h x hx with ⟨j, hj, z⟩ | z
  · exact (a.si j x z).elim (fun z => .inl ⟨j, hj, z⟩) id
  · exact .inr (none_back a.ex z)
theorem Stp.sts (s : Stp κ fp tmp H ρ fp1 tmp1 H1 ρ1) : StS np pr fp tmp σ H fp1 tmp1 σ H1 :=
  ⟨s.ex.mono fun _ z => .inl z.os, s.ow, fun i b h => (s.si i b h).imp id .inr, fun _ _ => rfl⟩
theorem StS.drop (a : StS np pr fp tmp σ H fp1 tmp1 σ1 H1) (h : ∀ b, tmp2 b → tmp1 b) : StS np pr fp tmp σ H fp1 tmp2 σ1 H1 := ⟨a.ex, fun x q => a.ow x (q.imp id (h x)), a.si, a.sg⟩
theorem Sh.stS (s : StS np pr fp tmp σ H fp1 tmp1 σ1 H1) : ∀ b, Sh A fp tmp b → H b ≠ none → Sh A fp1 tmp1 b ∧ ¬ OS fp b := fun b h n => ⟨⟨h.1, fun z => (s.ow b z).elim h.2 n⟩, fun z => h.2 (.inl z)⟩
end
def XS (X : Cx) (W : WX) (np : Nat) (pr : List Nat) (κ : List Kd) (A : Gd) (fp : Nat → List Addr) (tmp : Addr → Prop) (σ : L2.St) (H : Hp) (x : D) (ρ' : List D) : Prop :=
  ∀ cls dx σ' H' fp', SI X.K (clX X.mg) κ A fp' tmp σ' H' ρ' → StS np pr fp tmp σ H fp' tmp σ' H' → ExR X.K (clX X.mg) H' x cls dx → W cls dx σ' H'
theorem XS.step {X : Cx} {W : WX} {np : Nat} {pr : List Nat} {κ : List Kd} {A : Gd} {fp fp1 : Nat → List Addr} {tmp tmp1 : Addr → Prop} {σ σ1 : L2.St} {H H1 : Hp} {x : D} {ρ' : List D} (h : XS X W np pr κ A fp tmp σ H x ρ') (s : StS np pr fp tmp σ H fp1 tmp1 σ1 H1) (ht : ∀ b, tmp b → tmp1 b) : XS X W np pr κ A fp1 tmp1 σ1 H1 x ρ' :=
  fun cls dx σ' H' fp' I s' q => h cls dx σ' H' fp' (I.drop ht) ((s.trans s').drop ht) q
theorem XS.xq {X : Cx} {W : WX} {np : Nat} {pr : List Nat} {κ : List Kd} {A : Gd} {fp : Nat → List Addr} {tmp : Addr → Prop} {σ : L2.St} {H : Hp} {x : D} {ρ ρ' : List D} (h : XS X W np pr κ A fp tmp σ H x ρ') : XQ X W κ A fp tmp σ H ρ x ρ' :=
  fun cls dx H' fp' I s q => h cls dx σ H' fp' I s.sts q
/-- an expression whose value may be moved out of the frame's own slots -/
def SM (S : Sx) (k : Nat) (e : Expr) (f : M D) : Prop :=
  ∀ (X : Cx), Fit S X → ∀ (W : WX), Takes X W → ∀ (A : Gd) (fp : Nat → List Addr) (tmp : Addr → Prop) (σ : L2.St) (H : Hp) (ρ : List D) (Q : VK),
    SI X.K (clX X.mg) S.κ A fp tmp σ H ρ →
    wpx (f ρ) (fun d ρ' => ∀ v H' fp' F, SI X.K (clX X.mg) S.κ A fp' (tF tmp F) σ H' ρ' → StS S.np S.pr fp tmp σ H fp' (tF tmp F) σ H' → Giv S.np fp H F → (∀ b ∈ F, ¬ tmp b ∧ ¬ A.C b) → Res X.K (clX X.mg) S.κ A fp' (tF tmp F) H' F v d (.val k) → Q v H')
      (XS X W S.np S.pr S.κ A fp tmp σ H) → WE X e σ H Q
/-- a statement's end -/
def SQ (S : Sx) (X : Cx) (A : Gd) (fp : Nat → List Addr) (tmp : Addr → Prop) (σ : L2.St) (H : Hp) (D : Ends) (o : Out) (ρ' : List VS.D) : Prop := match o with
  | .nx => ∀ σ' H' fp', SI X.K (clX X.mg) S.κ A fp' tmp σ' H' ρ' → StS S.np S.pr fp tmp σ H fp' tmp σ' H' → D.nx σ' H'
  | .bk => ∀ σ' H' fp', SI X.K (clX X.mg) S.κ A fp' tmp σ' H' ρ' → StS S.np S.pr fp tmp σ H fp' tmp σ' H' → D.bk σ' H'
  | .ct => ∀ σ' H' fp', SI X.K (clX X.mg) S.κ A fp' tmp σ' H' ρ' → StS S.np S.pr fp tmp σ H fp' tmp σ' H' → D.ct σ' H'
  | .rt d => ∀ v σ' H' fp' F, SI X.K (clX X.mg) S.κ A fp' (tF tmp F) σ' H' ρ' → StS S.np S.pr fp tmp σ H fp' (tF tmp F) σ' H' → Giv S.np fp H F → Res X.K (clX X.mg) S.κ A fp' (tF tmp F) H' F v d (.val S.kr) → D.rt v H'
def WS (X : Cx) (st : Stmt) : TS := fun D σ H => ∃ t, PS X st t ∧ t D σ H
theorem ps_WS {X : Cx} {st : Stmt} : PS X st (WS X st) := ⟨fun pins s σ H D I ⟨t, h, q⟩ => h.run pins s σ H D I q⟩
def WSs (X : Cx) (st : List Stmt) : TS := fun D σ H => ∃ t, PSs X st t ∧ t D σ H
theorem ps_WSs {X : Cx} {st : List Stmt} : PSs X st (WSs X st) := ⟨fun pins s σ H D I ⟨t, h, q⟩ => h.run pins s σ H D I q⟩
abbrev Own0 (X : Cx) : Prop := PassesOwn (model X.prog X.w) X.A X.env X.xe
def S1 (S : Sx) (st : Stmt) (f : M Out) : Prop :=
  ∀ (X : Cx), Fit S X → ∀ (W : WX), Takes X W → Own0 X → ∀ (A : Gd) (fp : Nat → List Addr) (tmp : Addr → Prop) (σ : L2.St) (H : Hp) (ρ : List D) (D : Ends),
    SI X.K (clX X.mg) S.κ A fp tmp σ H ρ → wpx (f ρ) (SQ S X A fp tmp σ H D) (XS X W S.np S.pr S.κ A fp tmp σ H) → WS X st D σ H
def SS (S : Sx) (st : List Stmt) (f : M Out) : Prop :=
  ∀ (X : Cx), Fit S X → ∀ (W : WX), Takes X W → Own0 X → ∀ (A : Gd) (fp : Nat → List Addr) (tmp : Addr → Prop) (σ : L2.St) (H : Hp) (ρ : List D) (D : Ends),
    SI X.K (clX X.mg) S.κ A fp tmp σ H ρ → wpx (f ρ) (SQ S X A fp tmp σ H D) (XS X W S.np S.pr S.κ A fp tmp σ H) → WSs X st D σ H
section
variable {S : Sx} {X : Cx} {st : Stmt} {sts : List Stmt} {f g : M Out} {fe : M D} {e : Expr} {m : Mode} {k : Nat} {pos : Pos}
theorem SQ.step {A : Gd} {fp fp1 : Nat → List Addr} {tmp : Addr → Prop} {σ σ1 : L2.St} {H H1 : Hp} {D : Ends} {o : Out} {ρ' : List VS.D} (h : SQ S X A fp tmp σ H D o ρ') (s : StS S.np S.pr fp tmp σ H fp1 tmp σ1 H1) : SQ S X A fp1 tmp σ1 H1 D o ρ' := by
  cases o with
  | nx => exact fun σ' H' fp' I s' => h σ' H' fp' I (s.trans s')
  | bk => exact fun σ' H' fp' I s' => h σ' H' fp' I (s.trans s')
  | ct => exact fun σ' H' fp' I s' => h σ' H' fp' I (s.trans s')
  | rt d => exact fun v σ' H' fp' F I s' gv r => h v σ' H' fp' F I (s.trans s') (gv.back s) r
def mSeq (f g : M Out) : M Out := bnd f fun o => match o with
  | .nx => g
  | o => ret o
theorem ss_nil : SS S [] (ret .nx) := fun X fit W tk po A fp tmp σ H ρ D I hw => ⟨_, pss_nil, hw σ H fp I .refl⟩
theorem ss_cons (h1 : S1 S st f) (h2 : SS S sts g) : SS S (st :: sts) (mSeq f g) := by
  intro X fit W tk po A fp tmp σ H ρ D I hw
  refine ⟨_, pss_cons ps_WS ps_WSs, h1 X fit W tk po A fp tmp σ H ρ _ I (wpx_mono (wpx_bnd hw) (fun o ρ1 hd => ?_) fun _ _ z => z)⟩
  cases o with
  | nx => exact fun σ1 H1 fp1 I1 s1 => h2 X fit W tk po A fp1 tmp σ1 H1 ρ1 D I1 (wpx_mono hd (fun o ρ2 z => z.step s1) fun x ρ2 z => z.step s1 fun _ q => q)
  | bk => exact hd
  | ct => exact hd
  | rt d => exact hd
theorem ss_one (h : S1 S st f) : SS S [st] f := by
  intro X fit W tk po A fp tmp σ H ρ D I hw
  refine ⟨_, pss_cons ps_WS pss_nil, h X fit W tk po A fp tmp σ H ρ _ I (wpx_mono hw (fun o ρ1 hd => ?_) fun _ _ z => z)⟩
  cases o <;> exact hd
theorem s1_pass : S1 S (.Pass pos) (ret .nx) := fun X fit W tk po A fp tmp σ H ρ D I hw => ⟨_, ps_pass, hw σ H fp I .refl⟩
theorem s1_break : S1 S (.Break pos) (ret .bk) := fun X fit W tk po A fp tmp σ H ρ D I hw => ⟨_, ps_break, hw σ H fp I .refl⟩
theorem s1_continue : S1 S (.Continue pos) (ret .ct) := fun X fit W tk po A fp tmp σ H ρ D I hw => ⟨_, ps_continue, hw σ H fp I .refl⟩
theorem s1_doc {x j} {p : Pos} : S1 S (.Expr (.Constant (.str x) j p) pos) (ret .nx) := fun X fit W tk po A fp tmp σ H ρ D I hw => ⟨_, ps_doc, hw σ H fp I .refl⟩
/-- not a comprehension -/
def plainE : Expr → Bool
  | .ListComp _ _ _ _ => false
  | .SetComp _ _ _ _ => false
  | .DictComp _ _ _ _ _ => false
  | _ => true
theorem plainE_ok {t : Option Expr} {n : Nat} {env : Env} (h : plainE e = true) : swapsWith e t n env = pure false := by
  cases e <;> first | rfl | (simp [plainE] at h)
def mDrop (f : M D) : M Out := bnd f fun _ => ret .nx
theorem s1_expr (hp : plainE e = true) (h : SE S m e fe) : S1 S (.Expr e pos) (mDrop fe) := by
  intro X fit W tk po A fp tmp σ H ρ D I hw
  refine ⟨_, ps_expr pe_WE (plainE_ok hp), h X fit W tk A fp tmp σ H ρ _ I (wpx_mono (wpx_bnd hw) (fun d ρ1 hd v H1 fp1 F I1 s1 nF r => ?_) fun _ _ z => z.xq)⟩
  exact hd σ H1 fp1 (I1.drop fun b q => .inl q) (s1.sts.drop fun b q => .inl q)
def mIfS (c : M Bool) (f g : M Out) : M Out := bnd c fun b => if b then f else g
theorem s1_if {c : Expr} {fc : M Bool} {a b : List Stmt} (hc : ST S c fc) (ha : SS S a f) (hb : SS S b g) : S1 S (.If c a b pos) (mIfS fc f g) := by
  intro X fit W tk po A fp tmp σ H ρ D I hw
  refine ⟨_, ps_if pt_WT ps_WSs ps_WSs, hc X fit W tk A fp tmp σ H ρ _ I (wpx_mono (wpx_bnd hw) (fun d ρ1 hd H1 fp1 I1 s1 => ?_) fun _ _ z => z.xq)⟩
  have hd' := wpx_mono hd (fun o ρ2 (z : SQ S X A fp tmp σ H D o ρ2) => z.step s1.sts) fun x ρ2 z => XS.step z (s1.sts (np := S.np) (pr := S.pr) (σ := σ)) fun _ q => q
  cases d with
  | true => exact ha X fit W tk po A fp1 tmp σ H1 ρ1 D I1 hd'
  | false => exact hb X fit W tk po A fp1 tmp σ H1 ρ1 D I1 hd'
/-! ### moved values -/
theorem sm_se (h : SE S (.val k) e fe) : SM S k e fe := by
  intro X fit W tk A fp tmp σ H ρ Q I hw
  refine h X fit W tk A fp tmp σ H ρ _ I (wpx_mono hw (fun d ρ1 hd v H1 fp1 F I1 s1 nF r => ?_) fun _ _ z => z.xq)
  exact hd v H1 fp1 F I1 s1.sts (fun b hb => .inr (nF b hb)) (fun b hb => ⟨fun z => I.fa b (.inr z) (nF b hb), fun z => I.ca b z (nF b hb)⟩) r
def noRd (κ : List Kd) (ρ : List D) : Bool := (κ.zip ρ).all fun p => match p.1, p.2 with
  | .R, .un => true
  | .R, _ => false
  | _, _ => true
theorem noRd_get {κ : List Kd} {ρ : List D} (h : noRd κ ρ = true) {i : Nat} {d : D} (e1 : κ[i]? = some .R) (e2 : ρ[i]? = some d) : d = .un := by
  have z : (κ.zip ρ)[i]? = some (.R, d) := by rw [List.getElem?_zip_eq_some]; exact ⟨e1, e2⟩
  have := List.all_eq_true.mp h _ (List.mem_of_getElem? z)
  cases d <;> simp_all
/-- a local of the frame, moved -/
def mMove (κ : List Kd) (i : Nat) : M D := fun ρ => match ρ.getD i .un with
  | .un => .stuck
  | d => if noRd κ ρ then .ok d (ρ.set i .un) else .stuck
theorem wpx_move {κ : List Kd} {i : Nat} {ρ : List D} {Q : D → List D → Prop} {E : D → List D → Prop} (h : wpx (mMove κ i ρ) Q E) : ∃ d, ρ[i]? = some d ∧ d ≠ .un ∧ noRd κ ρ = true ∧ Q d (ρ.set i .un) := by
  unfold mMove at h
  cases q : ρ[i]? with
  | none => simp [List.getD, q, wpx] at h
  | some d =>
    simp only [List.getD, q, Option.getD_some] at h
    refine ⟨d, rfl, ?_⟩
    cases d <;> simp only at h <;> first
      | exact h.elim
      | (split at h
         · exact ⟨by simp, by assumption, h⟩
         · exact h.elim)
theorem sm_mv {x : Str} {i : Nat} (hN : S.N[i]? = some x) (hk : S.κ[i]? = some (.L k) ∨ S.κ[i]? = some (.X k)) (hnp : S.np ≤ i) (hv : visB S.sc x = true) (hn : okName x = true) : SM S k (.Name x pos) (mMove S.κ i) := by
  intro X fit W tk A fp tmp σ H ρ Q I hw
  obtain ⟨d, hd, hu, hR, hq⟩ := wpx_move hw
  obtain ⟨c, hc, hlt⟩ : ∃ c, S.κ[i]? = some c ∧ (c = .L k ∨ c = .X k) := hk.elim (fun z => ⟨_, z, .inl rfl⟩) fun z => ⟨_, z, .inr rfl⟩
  obtain ⟨v, hs, hsl⟩ := I.sl i d c hd hu hc
  have o : Own X.K (clX X.mg) H (Sh A fp tmp) k (fp i) v d := by rcases hlt with rfl | rfl <;> exact hsl
  refine we_var fit hN hv hn hs ?_
  let fp' : Nat → List Addr := fun j => if j = i then [] else fp j
  have hf : ∀ {j b}, b ∈ fp' j → b ∈ fp j ∧ j ≠ i := fun {j b} h => by
    by_cases hj : j = i
    · simp [fp', hj] at h
    · simp [fp', hj] at h; exact ⟨h, hj⟩
  have oo : ∀ b, OO fp' (tF tmp (fp i)) b ↔ OO fp tmp b := fun b => by
    constructor
    · rintro (⟨j, h⟩ | h | h)
      · exact .inl ⟨j, (hf h).1⟩
      · exact .inr h
      · exact .inl ⟨i, h⟩
    · rintro (⟨j, h⟩ | h)
      · by_cases hj : j = i
        · subst hj; exact .inr (.inr h)
        · exact .inl ⟨j, by simp [fp', hj]; exact h⟩
      · exact .inr (.inl h)
  have sh : ∀ b, Sh A fp tmp b → Sh A fp' (tF tmp (fp i)) b := fun b s => ⟨s.1, fun z => s.2 ((oo b).mp z)⟩
  have I' : SI X.K (clX X.mg) S.κ A fp' (tF tmp (fp i)) σ H (ρ.set i .un) := by
    refine ⟨by simpa using I.sz, I.an, I.ca, fun b h => I.fa b ((oo b).mp h), fun j b h => I.fA j b (hf h).1, fun j j' b h h' => I.dj j j' b (hf h).1 (hf h').1, fun j => ?_, fun j b h z => ?_, fun j b h => I.cd j b (hf h).1, fun j b h => I.lf j b (hf h).1, fun j e c' e1 e2 e3 => ?_⟩
    · by_cases hj : j = i
      · simp [fp', hj]
      · simp [fp', hj]; exact I.nd j
    · rcases z with z | z
      · exact I.dt j b (hf h).1 z
      · exact (hf h).2 (I.dj j i b (hf h).1 z)
    · by_cases hij : i = j
      · subst hij
        rw [List.getElem?_set_self (by have := (List.getElem?_eq_some_iff.mp hd).1; exact this)] at e1
        cases e1; exact absurd rfl e2
      · rw [List.getElem?_set_ne hij] at e1
        obtain ⟨w, a, b⟩ := I.sl j e c' e1 e2 e3
        refine ⟨w, a, ?_⟩
        have ef : fp' j = fp j := by simp [fp', Ne.symm hij]
        cases c' with
        | F => exact Rp.up b sh
        | B => exact Rp.up b fun x s => ⟨fun ⟨j', z⟩ => s.1 ⟨j', (hf z).1⟩, fun z => z.elim s.2 fun q => absurd ⟨i, q⟩ s.1⟩
        | R => exact absurd (noRd_get hR e3 e1) e2
        | L k' =>
          show Own _ _ _ _ k' (fp' j) w e
          rw [ef]; exact Own.ext (P := fun _ => False) Ext.refl (fun x s _ => ⟨sh x s, fun z => z⟩) (fun _ _ z => z) b
        | X k' =>
          show Own _ _ _ _ k' (fp' j) w e
          rw [ef]; exact Own.ext (P := fun _ => False) Ext.refl (fun x s _ => ⟨sh x s, fun z => z⟩) (fun _ _ z => z) b
  · refine hq v H fp' (fp i) I' ⟨.refl, fun b z => .inl ((oo b).mp z), fun j b z => .inl (hf z).1, fun _ _ => rfl⟩ (fun b hb => .inl ⟨i, hnp, hb⟩) (fun b hb => ⟨I.dt i b hb, I.cd i b hb⟩) ⟨I.nd i, fun b hb => ⟨.inr hb, I.fA i b hb⟩, ?_⟩
    exact Own.ext (P := fun _ => False) Ext.refl (fun x s _ => ⟨sh x s, fun z => z⟩) (fun _ _ z => z) o
end
end VS

set_option Elab.async false
set_option linter.all false
set_option maxRecDepth 100000
set_option maxHeartbeats 4000000
/-! VS17: assignments and returns. -/
namespace VS
open PySem PySem.Spec PyProof.Rows L2

/-- a value of ownership k may go to slot i -/
def kOk (pr : List Nat) (κ : List Kd) (i k : Nat) : Bool := !pr.contains i && match κ[i]? with
  | some .F => k == 0
  | some .B => k == 0
  | some (.L j) => j == k
  | some (.X j) => j == k
  | _ => false
theorem kOk_kind {pr : List Nat} {κ : List Kd} {i k : Nat} (h : kOk pr κ i k = true) : (match κ[i]? with
  | some .F => k == 0
  | some .B => k == 0
  | some (.L j) => j == k
  | some (.X j) => j == k
  | _ => false) = true := by
  unfold kOk at h
  simp only [Bool.and_eq_true] at h
  exact h.2
def setF (fp : Nat → List Addr) (i : Nat) (F : List Addr) : Nat → List Addr := fun j => if j = i then F else fp j
section
variable {K : PySem.W.Frag} {cl : Cl} {np : Nat} {pr : List Nat} {κ : List Kd} {A : Gd} {fp : Nat → List Addr} {tmp : Addr → Prop} {σ : L2.St} {H : Hp} {ρ : List D} {F G : List Addr} {v : V} {d : D} {i k : Nat}
theorem setF_same : setF fp i F i = F := by simp [setF]
theorem setF_ne {j : Nat} (h : j ≠ i) : setF fp i F j = fp j := by simp [setF, h]
theorem setF_mem {j : Nat} {b : Addr} (h : b ∈ setF fp i F j) : (j = i ∧ b ∈ F) ∨ (j ≠ i ∧ b ∈ fp j) := by
  by_cases hj : j = i
  · rw [hj, setF_same] at h; exact .inl ⟨hj, h⟩
  · rw [setF_ne hj] at h; exact .inr ⟨hj, h⟩
theorem setF_oo {b : Addr} (h : OO (setF fp i F) (tF tmp G) b) : OO fp (tF tmp (F ++ G)) b := by
  rcases h with ⟨j, h⟩ | h | h
  · rcases setF_mem h with ⟨_, h⟩ | ⟨_, h⟩
    · exact .inr (.inr (List.mem_append_left _ h))
    · exact .inl ⟨j, h⟩
  · exact .inr (.inl h)
  · exact .inr (.inr (List.mem_append_right _ h))
/-- a held value goes to a slot; G is held on -/
theorem SI.give (I : SI K cl κ A fp (tF tmp (F ++ G)) σ H ρ) (hk : kOk pr κ i k = true) (hF : ∀ b ∈ F, ¬ tmp b ∧ ¬ A.C b) (nd : F.Nodup) (dj : ∀ b ∈ F, b ∉ G) (ha : ∀ b ∈ F, A.ok b) (o : Own K cl H (Sh A fp (tF tmp (F ++ G))) k F v d) : SI K cl κ A (setF fp i F) (tF tmp G) (σ.set i (some v)) H (ρ.set i d) := by
  have sh : ∀ b, Sh A fp (tF tmp (F ++ G)) b → Sh A (setF fp i F) (tF tmp G) b := fun b s => ⟨s.1, fun z => s.2 (setF_oo z)⟩
  have inF : ∀ {b}, b ∈ F → tF tmp (F ++ G) b := fun h => .inr (List.mem_append_left _ h)
  have tg : ∀ {b}, tF tmp G b → tF tmp (F ++ G) b := fun h => h.imp id fun z => List.mem_append_right _ z
  refine ⟨by simpa using I.sz, I.an, I.ca, fun b h => I.fa b (setF_oo h), fun j b h => ?_, fun j j' b h h' => ?_, fun j => ?_, fun j b h z => ?_, fun j b h => ?_, fun j b h => ?_, fun j e c e1 e2 e3 => ?_⟩
  · rcases setF_mem h with ⟨_, h⟩ | ⟨_, h⟩
    · exact ha b h
    · exact I.fA j b h
  · rcases setF_mem h with ⟨a, h⟩ | ⟨a, h⟩ <;> rcases setF_mem h' with ⟨a', h'⟩ | ⟨a', h'⟩
    · rw [a, a']
    · exact absurd (inF h) (I.dt j' b h')
    · exact absurd (inF h') (I.dt j b h)
    · exact I.dj j j' b h h'
  · by_cases hj : j = i
    · rw [hj, setF_same]; exact nd
    · rw [setF_ne hj]; exact I.nd j
  · rcases setF_mem h with ⟨_, h⟩ | ⟨_, h⟩
    · exact z.elim (hF b h).1 (dj b h)
    · exact I.dt j b h (tg z)
  · rcases setF_mem h with ⟨_, h⟩ | ⟨_, h⟩
    · exact (hF b h).2
    · exact I.cd j b h
  · rcases setF_mem h with ⟨a, hb⟩ | ⟨_, h⟩
    · subst a
      have hk := kOk_kind hk
      unfold hv
      cases q : κ[j]? with
      | none => rw [q] at hk; simp at hk
      | some c =>
        rw [q] at hk
        refine ⟨c, rfl, ?_⟩
        cases c with
        | F =>
          have : k = 0 := by simpa using hk
          subst this
          exact absurd hb (by rw [o.zero.1]; exact List.not_mem_nil)
        | B =>
          have : k = 0 := by simpa using hk
          subst this
          exact absurd hb (by rw [o.zero.1]; exact List.not_mem_nil)
        | R => simp at hk
        | L k' => rfl
        | X k' => rfl
    · exact I.lf j b h
  · by_cases hij : i = j
    · subst hij
      have hlt : i < κ.length := (List.getElem?_eq_some_iff.mp e3).1
      rw [List.getElem?_set_self (by rw [I.sz.2]; exact hlt)] at e1
      cases e1
      refine ⟨v, by rw [List.getElem?_set_self (by rw [I.sz.1]; exact hlt)], ?_⟩
      have hk := kOk_kind hk
      rw [e3] at hk
      cases c with
      | F =>
        have : k = 0 := by simpa using hk
        subst this
        exact Rp.up o.zero.2 sh
      | B =>
        have : k = 0 := by simpa using hk
        subst this
        exact Rp.up o.zero.2 fun b s => Sh.sbd b (sh b s)
      | R => simp at hk
      | L k' =>
        have : k' = k := by simpa using hk
        subst this
        show Own _ _ _ _ _ (setF fp i F i) v d
        rw [setF_same]
        exact Own.ext (P := fun _ => False) Ext.refl (fun x s _ => ⟨sh x s, fun z => z⟩) (fun _ _ z => z) o
      | X k' =>
        have : k' = k := by simpa using hk
        subst this
        show Own _ _ _ _ _ (setF fp i F i) v d
        rw [setF_same]
        exact Own.ext (P := fun _ => False) Ext.refl (fun x s _ => ⟨sh x s, fun z => z⟩) (fun _ _ z => z) o
    · rw [List.getElem?_set_ne hij] at e1
      obtain ⟨w, a, b⟩ := I.sl j e c e1 e2 e3
      refine ⟨w, by rw [List.getElem?_set_ne hij]; exact a, ?_⟩
      have ow : ∀ k', Own K cl H (Sh A fp (tF tmp (F ++ G))) k' (fp j) w e → Own K cl H (Sh A (setF fp i F) (tF tmp G)) k' (setF fp i F j) w e := fun k' q => by
        rw [setF_ne (Ne.symm hij)]
        exact Own.ext (P := fun _ => False) Ext.refl (fun x s _ => ⟨sh x s, fun z => z⟩) (fun _ _ z => z) q
      cases c with
      | F => exact Rp.up b sh
      | B =>
        refine Rp.up b fun x s => ⟨fun ⟨j', z⟩ => ?_, fun z => s.2 (tg z)⟩
        rcases setF_mem z with ⟨_, z⟩ | ⟨_, z⟩
        · exact (hF x z).2 (s.2 (inF z))
        · exact s.1 ⟨j', z⟩
      | R =>
        refine Rp.up b fun x s => ⟨fun ⟨j', hx, z⟩ => ?_, fun z => s.2 (tg z)⟩
        rcases setF_mem z with ⟨_, z⟩ | ⟨_, z⟩
        · exact (hF x z).2 (s.2 (inF z))
        · exact s.1 ⟨j', hx, z⟩
      | L k' => exact ow k' b
      | X k' => exact ow k' b
theorem kOk_sg (hk : kOk pr κ i k = true) : ∀ j ∈ pr, (σ.set i (some v))[j]? = σ[j]? := fun j h1 => by
  have h : i ∉ pr := by
    unfold kOk at hk
    simp only [Bool.and_eq_true, Bool.not_eq_true', List.contains_eq_mem, decide_eq_false_iff_not] at hk
    exact hk.1
  by_cases hij : i = j
  · subst hij; exact absurd h1 h
  · rw [List.getElem?_set_ne hij]
end

section
variable {S : Sx} {X : Cx} {f : M D} {e tg : Expr} {t : Tgt} {m : Mode} {i k : Nat} {pos p : Pos} {x : Str}
/-- the step of a store -/
theorem sts_set {np : Nat} {pr : List Nat} {κ : List Kd} {fp fp1 : Nat → List Addr} {tmp : Addr → Prop} {σ : L2.St} {H H1 : Hp} {F G : List Addr} {v : V} (hk : kOk pr κ i k = true) (s : StS np pr fp tmp σ H fp1 (tF tmp (F ++ G)) σ H1) (gv : Giv np fp H F) : StS np pr fp tmp σ H (setF fp1 i F) (tF tmp G) (σ.set i (some v)) H1 where
  ex := s.ex
  ow := fun b h => s.ow b (setF_oo h)
  si := fun j b h => by
    rcases setF_mem h with ⟨_, h⟩ | ⟨_, h⟩
    · exact .inr (gv b h)
    · exact s.si j b h
  sg := kOk_sg hk
def mSet (i : Nat) (f : M D) : M Out := bnd f fun d ρ => .ok .nx (ρ.set i d)
def nmOk (S : Sx) (x : Str) (i : Nat) : Bool := S.N[i]? == some x && S.as.contains x
theorem nmOk_get (h : nmOk S x i = true) : S.N[i]? = some x ∧ x ∈ S.as := by
  unfold nmOk at h
  simpa using h
theorem s1_set (hn : nmOk S x i = true) (hp : plainE e = true) (hk : kOk S.pr S.κ i k = true) (h : SM S k e f) : S1 S (.Assign [.Name x p] e pos) (mSet i f) := by
  intro X fit W tk po A fp tmp σ H ρ D I hw
  obtain ⟨n1, n2⟩ := nmOk_get hn
  obtain ⟨l1, l2⟩ := fit.fn x n2
  refine ⟨_, ps_set (by rw [fit.hN]; exact fit.nd) (by rw [fit.hN]; exact n1) l1 pe_WE (plainE_ok hp) l2, ?_⟩
  refine h X fit W tk A fp tmp σ H ρ _ I (wpx_mono (wpx_bnd hw) (fun d ρ1 hd v H1 fp1 F I1 s1 gv nF r => ?_) fun _ _ z => z)
  have I2 := SI.give (G := []) (by rw [List.append_nil]; exact I1) hk nF r.1 (fun _ _ z => by cases z) (fun b hb => (r.2.1 b hb).2) (by rw [List.append_nil]; exact r.2.2)
  have s2 := sts_set (v := v) (G := []) hk (by rw [List.append_nil]; exact s1) gv
  rw [tF_nil] at I2 s2
  exact hd _ _ _ I2 s2
/-- a borrowed value, or one to be taken apart -/
def mPut (κ : List Kd) (im : IM) (t : Tgt) (f : M D) : M Out := bnd f fun d ρ => match tset κ im t d ρ with
  | some ρ' => .ok .nx ρ'
  | none => .stuck
theorem wpx_put {κ : List Kd} {im : IM} {d : D} {ρ : List D} {Q : Out → List D → Prop} {E : D → List D → Prop} (h : wpx (match tset κ im t d ρ with | some ρ' => R.ok Out.nx ρ' | none => .stuck) Q E) : ∃ ρ', tset κ im t d ρ = some ρ' ∧ Q .nx ρ' := by
  split at h
  · exact ⟨_, by assumption, h⟩
  · exact h.elim
def asgOk (tg e : Expr) : Bool := match tg, e with
  | .Name _ _, e => plainE e
  | .Tuple _ _ _, .Tuple _ _ _ => false
  | .Tuple _ _ _, _ => true
  | _, _ => false
theorem asg_ps {X : Cx} {te : TE} {g : TG} (h : asgOk tg e = true) (he : PE X e te) (hg : PG X tg g) : PS X (.Assign [tg] e pos) (tAsg te g) := by
  match tg, h with
  | .Name x p, h =>
    refine ps_asg he hg ?_ ?_ rfl
    · cases e <;> first | rfl | (simp [asgOk, plainE] at h)
    · cases e <;> rfl
  | .Tuple ts k p, h =>
    cases e <;> first
      | (simp [asgOk] at h; done)
      | exact ps_asg he hg rfl rfl rfl
def lightT (pr : List Nat) (κ : List Kd) (t : Tgt) : Bool := lights κ t.ix && t.ix.all fun i => !pr.contains i
theorem light_sg {pr : List Nat} {κ : List Kd} {σ σ' : L2.St} (hl : lightT pr κ t = true) (ag : ∀ i, i ∉ t.ix → σ'[i]? = σ[i]?) : ∀ j ∈ pr, σ'[j]? = σ[j]? := fun j h => by
  refine ag j fun z => ?_
  unfold lightT at hl
  simp only [Bool.and_eq_true] at hl
  have := List.all_eq_true.mp hl.2 j z
  simp at this
  exact this h
theorem s1_asg (ho : asgOk tg e = true) (ht : tgR S tg t = true) (hl : lightT S.pr S.κ t = true) (h : SM S 0 e f) : S1 S (.Assign [tg] e pos) (mPut S.κ .sh t f) := by
  intro X fit W tk po A fp tmp σ H ρ D I hw
  refine ⟨_, asg_ps ho pe_WE pg_WG, ?_⟩
  refine h X fit W tk A fp tmp σ H ρ _ I (wpx_mono (wpx_bnd hw) (fun d ρ1 hd v H1 fp1 F I1 s1 gv nF r => ?_) fun _ _ z => z)
  obtain ⟨ρ2, e2, hq⟩ := wpx_put hd
  obtain ⟨eF, rz⟩ := r.2.2.zero
  subst eF
  rw [tF_nil] at I1 s1 rz
  exact tg_core fit ht (m := .sh) I1 rz e2 fun σ' I' ag => hq σ' H1 fp1 I' ⟨s1.ex, s1.ow, s1.si, light_sg hl fun i hi => (ag i hi).1⟩
/-- statements may change every owned slot: what is read there stands on the rest -/
def Kd.hot : Kd → Kd
  | .L k => .X k
  | c => c
def Sx.hot (S : Sx) : Sx := { S with κ := S.κ.map Kd.hot }
theorem hot_get {κ : List Kd} {i : Nat} {c : Kd} (h : κ[i]? = some c) : (κ.map Kd.hot)[i]? = some c.hot := by rw [List.getElem?_map, h]; rfl
theorem hot_back {κ : List Kd} {i : Nat} {c : Kd} (h : (κ.map Kd.hot)[i]? = some c) : ∃ c', κ[i]? = some c' ∧ c = c'.hot := by
  rw [List.getElem?_map] at h
  cases q : κ[i]? with
  | none => rw [q] at h; cases h
  | some c' => rw [q] at h; cases h; exact ⟨c', rfl, rfl⟩
theorem Fit.hot (fit : Fit S X) : Fit S.hot X := ⟨fit.hN, fit.nd, fit.sc, fit.calm, fit.room, fit.fn, fit.fs, fit.cs, fit.bl, by show (S.κ.map Kd.hot).length = _; rw [List.length_map]; exact fit.kl, fit.bf⟩
/-- no slot of a comprehension is in use -/
def noR (κ : List Kd) (ρ : List D) : Prop := ∀ (i : Nat) (d : D), κ[i]? = some Kd.R → ρ[i]? = some d → d = D.un
theorem noR_of {κ : List Kd} {ρ : List D} (h : noRd κ ρ = true) : noR κ ρ := fun _ _ a b => noRd_get h a b
theorem hv_hot {κ : List Kd} {i : Nat} : hv (κ.map Kd.hot) i ↔ hv κ i := by
  unfold hv
  rw [List.getElem?_map]
  cases κ[i]? with
  | none => simp
  | some c => cases c <;> simp [Kd.hot, Kd.light]
theorem SI.hot {K : PySem.W.Frag} {cl : Cl} {κ : List Kd} {A : Gd} {fp : Nat → List Addr} {tmp : Addr → Prop} {σ : L2.St} {H : Hp} {ρ : List D} (I : SI K cl κ A fp tmp σ H ρ) (hr : noR κ ρ) : SI K cl (κ.map Kd.hot) A fp tmp σ H ρ := by
  refine ⟨by simpa using I.sz, I.an, I.ca, I.fa, I.fA, I.dj, I.nd, I.dt, I.cd, fun i b h => hv_hot.mpr (I.lf i b h), fun i d c e1 e2 e3 => ?_⟩
  obtain ⟨c', h, rfl⟩ := hot_back e3
  obtain ⟨v, a, b⟩ := I.sl i d c' e1 e2 h
  refine ⟨v, a, ?_⟩
  cases c' with
  | R => exact absurd (hr i d h e1) e2
  | F => exact b
  | B => exact b
  | L k => exact b
  | X k => exact b
theorem SI.unhot {K : PySem.W.Frag} {cl : Cl} {κ : List Kd} {A : Gd} {fp : Nat → List Addr} {tmp : Addr → Prop} {σ : L2.St} {H : Hp} {ρ : List D} (I : SI K cl (κ.map Kd.hot) A fp tmp σ H ρ) (hr : noR κ ρ) : SI K cl κ A fp tmp σ H ρ := by
  refine ⟨by simpa using I.sz, I.an, I.ca, I.fa, I.fA, I.dj, I.nd, I.dt, I.cd, fun i b h => hv_hot.mp (I.lf i b h), fun i d c e1 e2 e3 => ?_⟩
  obtain ⟨v, a, b⟩ := I.sl i d c.hot e1 e2 (hot_get e3)
  refine ⟨v, a, ?_⟩
  cases c with
  | R => exact absurd (hr i d e3 e1) e2
  | F => exact b
  | B => exact b
  | L k => exact b
  | X k => exact b
end
end VS

set_option Elab.async false
set_option linter.all false
set_option maxRecDepth 100000
set_option maxHeartbeats 4000000
/-! VS18: borrowed assignments; moved displays; a, b = x, y; return. -/
namespace VS
open PySem PySem.Spec PyProof.Rows L2
section
variable {S : Sx} {X : Cx} {f : M D} {e tg : Expr} {t : Tgt} {m : Mode} {i k : Nat} {pos p : Pos} {x : Str}
def ifR {α : Type} (κ : List Kd) (f : M α) : M α := fun ρ => if noRd κ ρ then f ρ else .stuck
theorem wpx_ifR {α : Type} {κ : List Kd} {f : M α} {ρ : List D} {Q : α → List D → Prop} {E : D → List D → Prop} (h : wpx (ifR κ f ρ) Q E) : noRd κ ρ = true ∧ wpx (f ρ) Q E := by
  unfold ifR at h
  split at h
  · exact ⟨by assumption, h⟩
  · exact h.elim
theorem noR.stp {κ : List Kd} {fp fp' : Nat → List Addr} {tmp tmp' : Addr → Prop} {H H' : Hp} {ρ ρ' : List D} (h : noR κ ρ) (s : Stp κ fp tmp H ρ fp' tmp' H' ρ') : noR κ ρ' := fun i d e1 e2 => by
  rcases s.rs i (fun ⟨k, z⟩ => by rw [e1] at z; cases z) with z | z
  · rw [e2] at z; exact h i d e1 z.symm
  · rw [e2] at z; cases z; rfl
theorem noR.hot {κ : List Kd} {ρ : List D} (h : noR κ ρ) : noR (κ.map Kd.hot) ρ := fun i d e1 e2 => by
  obtain ⟨c, a, b⟩ := hot_back e1
  cases c <;> cases b
  exact h i d a e2
theorem noR.unhot {κ : List Kd} {ρ : List D} (h : noR (κ.map Kd.hot) ρ) : noR κ ρ := fun i d e1 e2 => h i d (hot_get e1) e2
theorem hot_sbd {K : PySem.W.Frag} {cl : Cl} {κ : List Kd} {A : Gd} {fp : Nat → List Addr} {tmp : Addr → Prop} {σ : L2.St} {H : Hp} {ρ : List D} (I : SI K cl (κ.map Kd.hot) A fp tmp σ H ρ) : ∀ b, SRd (κ.map Kd.hot) A fp tmp b → SBd A fp tmp b := fun b s => ⟨fun ⟨i, z⟩ => (by
  obtain ⟨c, e, h⟩ := I.lf i b z
  obtain ⟨c', e', rfl⟩ := hot_back e
  cases c' <;> first | exact s.1 ⟨i, ⟨_, e⟩, z⟩ | (simp [Kd.hot, Kd.light] at h)), s.2⟩
/-- a step where every owned slot may have changed -/
theorem Stp.hot {np : Nat} {pr : List Nat} {κ : List Kd} {fp fp' : Nat → List Addr} {tmp tmp' : Addr → Prop} {σ : L2.St} {H H' : Hp} {ρ ρ' : List D} (s : Stp (κ.map Kd.hot) fp tmp H ρ fp' tmp' H' ρ') : StS np pr fp tmp σ H fp' tmp' σ H' := ⟨s.ex.mono fun _ z => .inl z.os, s.ow, fun i b h => (s.si i b h).imp id .inr, fun _ _ => rfl⟩
theorem XS.xqh {X : Cx} {W : WX} {np : Nat} {pr : List Nat} {κ : List Kd} {A : Gd} {fp : Nat → List Addr} {tmp : Addr → Prop} {σ : L2.St} {H : Hp} {x : D} {ρ ρ' : List D} (hr : noR κ ρ) (h : XS X W np pr κ A fp tmp σ H x ρ') : XQ X W (κ.map Kd.hot) A fp tmp σ H ρ x ρ' :=
  fun cls dx H' fp' I s q => h cls dx σ H' fp' (I.unhot (noR.unhot (hr.hot.stp s))) s.hot q
theorem s1_asgB (ho : asgOk tg e = true) (ht : tgR S tg t = true) (hl : lightT S.pr S.κ t = true) (h : SE S.hot .rd e f) : S1 S (.Assign [tg] e pos) (ifR S.κ (mPut S.κ .bd t f)) := by
  intro X fit W tk po A fp tmp σ H ρ D I hw
  obtain ⟨hr, hw⟩ := wpx_ifR hw
  have hr := noR_of hr
  refine ⟨_, asg_ps ho pe_WE pg_WG, ?_⟩
  refine h X fit.hot W tk A fp tmp σ H ρ _ (I.hot hr) (wpx_mono (wpx_bnd hw) (fun d ρ1 hd v H1 fp1 F I1 s1 nF r => ?_) fun _ _ z => z.xqh hr)
  obtain ⟨ρ2, e2, hq⟩ := wpx_put hd
  obtain ⟨eF, rz⟩ := r
  subst eF
  rw [tF_nil] at I1 s1 rz
  have I1' := I1.unhot (noR.unhot (hr.hot.stp s1))
  have sx : StS S.np S.pr fp tmp σ H fp1 tmp σ H1 := s1.hot
  exact tg_core fit ht (m := .bd) I1' (Rp.up rz (hot_sbd I1)) e2 fun σ' I' ag => hq σ' H1 fp1 I' ⟨sx.ex, sx.ow, sx.si, light_sg hl fun i hi => (ag i hi).1⟩

/-! ### moved displays -/
theorem sm_freeze (h : SM S k e f) : SM S 0 e f := by
  intro X fit W tk A fp tmp σ H ρ Q I hw
  refine h X fit W tk A fp tmp σ H ρ _ I (wpx_mono hw (fun d ρ1 hd v H1 fp1 F I1 s1 gv nF r => ?_) fun _ _ z => z)
  obtain ⟨_, ha, o⟩ := r
  refine hd v H1 fp1 [] (I1.drop fun b q => q.elim .inl fun z => emp' z) (s1.drop fun b q => q.elim .inl fun z => emp' z) (fun _ z => by cases z) (fun _ z => by cases z) ⟨List.nodup_nil, emp, .fr (o.read (fun b s => ⟨s.1, fun z => s.2 ?_⟩) fun b hb => ⟨(ha b hb).2, fun z => ?_⟩) (.inl rfl)⟩
  · rw [tF_nil] at z
    exact z.imp id .inl
  · rw [tF_nil] at z
    rcases z with ⟨i, z⟩ | z
    · exact I1.dt i b z (.inr hb)
    · exact (nF b hb).1 z
def SMs (S : Sx) (ks : List Nat) (es : List Expr) (f : M (List D)) : Prop :=
  ∀ (X : Cx), Fit S X → ∀ (W : WX), Takes X W → ∀ (A : Gd) (fp : Nat → List Addr) (tmp : Addr → Prop) (σ : L2.St) (H : Hp) (ρ : List D) (Q : List V → Hp → Prop),
    SI X.K (clX X.mg) S.κ A fp tmp σ H ρ →
    wpx (f ρ) (fun ds ρ' => ∀ vs H' fp' F, SI X.K (clX X.mg) S.κ A fp' (tF tmp F) σ H' ρ' → StS S.np S.pr fp tmp σ H fp' (tF tmp F) σ H' → Giv S.np fp H F → (∀ b ∈ F, ¬ tmp b ∧ ¬ A.C b) → ResL X.K (clX X.mg) S.κ A fp' (tF tmp F) H' F vs ds (ks.map .val) → Q vs H')
      (XS X W S.np S.pr S.κ A fp tmp σ H) → WEs X es σ H Q
theorem sms_nil : SMs S [] [] mNil := fun X fit W tk A fp tmp σ H ρ Q I hw =>
  hw [] H fp [] (by rw [tF_nil]; exact I) (by rw [tF_nil]; exact .refl) (fun _ z => by cases z) (fun _ z => by cases z) .nil
theorem sms_cons {es : List Expr} {ks : List Nat} {g : M (List D)} (h1 : SM S k e f) (h2 : SMs S ks es g) : SMs S (k :: ks) (e :: es) (mCons f g) := by
  intro X fit W tk A fp tmp σ H ρ Q I hw
  refine h1 X fit W tk A fp tmp σ H ρ _ I (wpx_mono (wpx_bnd hw) (fun d ρ1 hd v H1 fp1 F I1 s1 gv1 nF1 r1 => ?_) fun _ _ z => z)
  refine h2 X fit W tk A fp1 (tF tmp F) σ H1 ρ1 _ I1 (wpx_mono (wpx_bnd hd) (fun ds ρ2 hds vs H2 fp2 F2 I2 s2 gv2 nF2 r2 => ?_) fun x ρ' z => z.step s1 fun b q => .inl q)
  rw [tF_app] at I2 s2 r2
  refine hds (v :: vs) H2 fp2 (F ++ F2) I2 (s1.trans s2) (fun b hb => (List.mem_append.mp hb).elim (gv1 b) (gv2.back s1 b)) (fun b hb => (List.mem_append.mp hb).elim (nF1 b) fun z => ⟨fun q => (nF2 b z).1 (.inl q), (nF2 b z).2⟩) (.cons ?_ (fun b hb z => (nF2 b z).1 (.inr hb)) r2)
  refine ⟨r1.1, fun b hb => ⟨.inr (List.mem_append_left _ hb), (r1.2.1 b hb).2⟩, ?_⟩
  exact Own.ext s2.ex (Sh.stS s2) (fun b hb ⟨i, z⟩ => I1.dt i b z (.inr hb)) r1.2.2
theorem sm_lst {es : List Expr} {ks : List Nat} {g : M (List D)} (hs : noStars es = true) (h : SMs S ks es g) (hm : (ks.all fun j => j == k) = true) : SM S (k + 1) (.List es pos) (mLst g) := by
  intro X fit W tk A fp tmp σ H ρ Q I hw
  have hm' : ∀ m ∈ ks.map Mode.val, m = .val k := fun m hm'' => by
    obtain ⟨j, hj, rfl⟩ := List.mem_map.mp hm''
    have := List.all_eq_true.mp hm j hj
    simp at this; rw [this]
  refine ⟨_, pe_lst (pa_WEs hs), ?_⟩
  show WEs X es σ H _
  refine h X fit W tk A fp tmp σ H ρ _ I (wpx_mono (wpx_bnd hw) (fun ds ρ1 hd vs H1 fp1 F I1 s1 gv nF r1 => ?_) fun _ _ z => z)
  obtain ⟨hz, hd⟩ := wpx_sz (α := D) (β := D) hd
  have o := r1.ownL hm'
  refine ⟨by rw [o.2.2.length, sizeLine_eq]; exact hz, fun p hp => ?_⟩
  have I2 : SI X.K (clX X.mg) S.κ A fp1 (tF (tF tmp F) [p]) σ (upd H1 p (.lst vs)) ρ1 := I1.new hp fun b q => q.imp id fun z => by simpa using z
  have sn : StS S.np S.pr fp1 (tF tmp F) σ H1 fp1 (tF (tF tmp F) [p]) σ (upd H1 p (.lst vs)) := ⟨Ext.new hp, fun b z => by
    rcases z with z | z | z
    · exact .inl (.inl z)
    · exact .inl (.inr z)
    · have e : b = p := by simpa using z
      rw [e]; exact .inr hp, fun _ _ z => .inl z, fun _ _ => rfl⟩
  have s2 := s1.trans sn
  have r2 := Own.lstNew (κ := S.κ) hp (fun b hb => (o.2.1 b hb).1) (I1.an p hp) o fun b z => z.elim (fun z => .inl (I1.fa b (.inr z))) fun z => .inr (by simpa using z)
  rw [tF_cons] at I2 s2 r2
  have np : H p = none := none_back s1.ex hp
  refine hd (.ref p) _ fp1 (p :: F) I2 s2 (fun b hb => ?_) (fun b hb => ?_) r2
  · rcases List.mem_cons.mp hb with z | z
    · rw [z]; exact .inr np
    · exact gv b z
  · rcases List.mem_cons.mp hb with z | z
    · rw [z]; exact ⟨fun q => I.fa p (.inr q) np, fun q => I.ca p q np⟩
    · exact nF b z
def mTup (g : M (List D)) : M D := bnd g fun ds => if ds.length ≤ 16777216 then ret (.tup ds) else fail
theorem sm_tup {es : List Expr} {ks : List Nat} {g : M (List D)} {j} (hs : noStars es = true) (h : SMs S ks es g) (hm : (ks.all fun j => j == 0) = true) : SM S k (.Tuple es j pos) (mTup g) := by
  intro X fit W tk A fp tmp σ H ρ Q I hw
  have hm' : ∀ m ∈ ks.map Mode.val, m = .val 0 := fun m hm'' => by
    obtain ⟨j, hj, rfl⟩ := List.mem_map.mp hm''
    have := List.all_eq_true.mp hm j hj
    simp at this; rw [this]
  refine ⟨_, pe_tup (pa_WEs hs), ?_⟩
  show WEs X es σ H _
  refine h X fit W tk A fp tmp σ H ρ _ I (wpx_mono (wpx_bnd hw) (fun ds ρ1 hd vs H1 fp1 F I1 s1 gv nF r1 => ?_) fun _ _ z => z)
  obtain ⟨hz, hd⟩ := wpx_sz (α := D) (β := D) hd
  have o := r1.ownL hm'
  obtain ⟨eF, rl⟩ := o.2.2.zero
  subst eF
  refine ⟨by rw [rl.length, sizeLine_eq]; exact hz, fun p hp => ?_⟩
  have I2 : SI X.K (clX X.mg) S.κ A fp1 (tF tmp []) σ (upd H1 p (.tup vs)) ρ1 := I1.new hp fun b q => .inl q
  have sn : StS S.np S.pr fp1 (tF tmp []) σ H1 fp1 (tF tmp []) σ (upd H1 p (.tup vs)) := ⟨Ext.new hp, fun b z => .inl z, fun _ _ z => .inl z, fun _ _ => rfl⟩
  exact hd (.ref p) _ fp1 [] I2 (s1.trans sn) (fun _ z => by cases z) (fun _ z => by cases z) (Res.newT hp rl)
theorem sm_if {c a b : Expr} {ft : M Bool} {f g : M D} (hc : ST S c ft) (h1 : SM S k a f) (h2 : SM S k b g) : SM S k (.IfExp c a b pos) (mIf ft f g) := by
  intro X fit W tk A fp tmp σ H ρ Q I hw
  refine ⟨_, pe_ifExp pt_WT pe_WE pe_WE, hc X fit W tk A fp tmp σ H ρ _ I (wpx_mono (wpx_bnd hw) (fun q ρ1 hd H1 fp1 I1 s1 => ?_) fun _ _ z => z.xq)⟩
  have st : StS S.np S.pr fp tmp σ H fp1 tmp σ H1 := s1.sts
  have hd' := wpx_mono hd (fun d ρ2 z v H2 fp2 F I2 s2 (gv : Giv S.np fp1 H1 F) nF r => z v H2 fp2 F I2 (st.trans s2) (gv.back st) nF r) fun x ρ2 z => XS.step z st fun _ q => q
  cases q with
  | true => exact h1 X fit W tk A fp1 tmp σ H1 ρ1 Q I1 hd'
  | false => exact h2 X fit W tk A fp1 tmp σ H1 ρ1 Q I1 hd'

/-! ### return -/
def mRet (f : M D) : M Out := bnd f fun d => ret (.rt d)
theorem s1_ret (h : SM S S.kr e f) : S1 S (.Return (some e) pos) (mRet f) := by
  intro X fit W tk po A fp tmp σ H ρ D I hw
  refine ⟨_, ps_ret pe_WE, ?_⟩
  refine h X fit W tk A fp tmp σ H ρ _ I (wpx_mono (wpx_bnd hw) (fun d ρ1 hd v H1 fp1 F I1 s1 gv nF r => ?_) fun _ _ z => z)
  exact hd v σ H1 fp1 F I1 s1 gv r
theorem s1_retN : S1 S (.Return none pos) (ret (.rt .non)) := by
  intro X fit W tk po A fp tmp σ H ρ D I hw
  exact ⟨_, ps_retN, hw .non σ H fp [] (by rw [tF_nil]; exact I) (by rw [tF_nil]; exact .refl) (fun _ z => by cases z) (Res.imm (S := fun _ => True) rfl .non)⟩

/-! ### a, b = x, y -/
def setAll {α : Type} : List Nat → List α → List α → List α
  | i :: is, v :: vs, σ => setAll is vs (σ.set i v)
  | _, _, σ => σ
def kOks (pr : List Nat) (κ : List Kd) : List Nat → List Nat → Bool
  | [], [] => true
  | i :: is, k :: ks => kOk pr κ i k && kOks pr κ is ks
  | _, _ => false
theorem ResL.uncons {K : PySem.W.Frag} {cl : Cl} {κ : List Kd} {A : Gd} {fp : Nat → List Addr} {tmp : Addr → Prop} {H : Hp} {F : List Addr} {vs : List V} {ds : List D} {m : Mode} {ms : List Mode} (h : ResL K cl κ A fp tmp H F vs ds (m :: ms)) :
    ∃ F1 Fs v ws d es, F = F1 ++ Fs ∧ vs = v :: ws ∧ ds = d :: es ∧ Res K cl κ A fp tmp H F1 v d m ∧ (∀ b ∈ F1, b ∉ Fs) ∧ ResL K cl κ A fp tmp H Fs ws es ms := by
  cases h with
  | cons r n q => exact ⟨_, _, _, _, _, _, rfl, rfl, rfl, r, n, q⟩
theorem gives {K : PySem.W.Frag} {cl : Cl} {np : Nat} {pr : List Nat} {κ : List Kd} {A : Gd} {tmp : Addr → Prop} {H H0 : Hp} : ∀ {is ks : List Nat} {fp fp0 : Nat → List Addr} {σ σ0 : L2.St} {ρ : List D} {F : List Addr} {vs : List V} {ds : List D}, kOks pr κ is ks = true → SI K cl κ A fp (tF tmp F) σ H ρ → (∀ b ∈ F, ¬ tmp b ∧ ¬ A.C b) → ResL K cl κ A fp (tF tmp F) H F vs ds (ks.map .val) →
    StS np pr fp0 tmp σ0 H0 fp (tF tmp F) σ H → Giv np fp0 H0 F → ∃ fp', SI K cl κ A fp' tmp (setAll is (vs.map some) σ) H (setAll is ds ρ) ∧ StS np pr fp0 tmp σ0 H0 fp' tmp (setAll is (vs.map some) σ) H
  | [], [], fp, fp0, σ, σ0, ρ, F, vs, ds, _, I, _, r, s, _ => by
    cases r
    rw [tF_nil] at I s
    exact ⟨fp, I, s⟩
  | [], _ :: _, _, _, _, _, _, _, _, _, h, _, _, _, _, _ => by simp [kOks] at h
  | _ :: _, [], _, _, _, _, _, _, _, _, h, _, _, _, _, _ => by simp [kOks] at h
  | i :: is, k :: ks, fp, fp0, σ, σ0, ρ, F, vs, ds, h, I, nF, r, s, gv => by
    simp only [kOks, Bool.and_eq_true] at h
    obtain ⟨F1, Fs, v, vs, d, ds, e1, e2, e3, r0, n, q⟩ := r.uncons
    subst e1 e2 e3
    clear r
    have I1 := SI.give I h.1 (fun b hb => nF b (List.mem_append_left _ hb)) r0.1 n (fun b hb => (r0.2.1 b hb).2) r0.2.2
    have s1 : StS np pr fp0 tmp σ0 H0 (setF fp i F1) (tF tmp Fs) (σ.set i (some v)) H := by
      refine ⟨s.ex, fun b z => s.ow b (setF_oo z), fun j b z => ?_, fun j a1 => (kOk_sg h.1 j a1).trans (s.sg j a1)⟩
      rcases setF_mem z with ⟨_, z⟩ | ⟨_, z⟩
      · exact .inr (gv b (List.mem_append_left _ z))
      · exact s.si j b z
    have q1 : ResL K cl κ A (setF fp i F1) (tF tmp Fs) H Fs vs ds (ks.map .val) := by
      have sh : ∀ b, Sh A fp (tF tmp (F1 ++ Fs)) b → Sh A (setF fp i F1) (tF tmp Fs) b := fun b s => ⟨s.1, fun z => s.2 (setF_oo z)⟩
      have gen : ∀ {G : List Addr} {vs : List V} {ds : List D} {ms : List Nat}, (∀ b ∈ G, b ∈ Fs) → ResL K cl κ A fp (tF tmp (F1 ++ Fs)) H G vs ds (ms.map .val) → ResL K cl κ A (setF fp i F1) (tF tmp Fs) H G vs ds (ms.map .val) := by
        intro G vs ds ms hG hr
        generalize em : ms.map Mode.val = mm at hr ⊢
        induction hr generalizing ms with
        | nil => exact .nil
        | cons r n q ih =>
          cases ms with
          | nil => cases em
          | cons m0 ms =>
            cases em
            refine .cons ⟨r.1, fun b hb => ⟨.inr (hG b (List.mem_append_left _ hb)), (r.2.1 b hb).2⟩, ?_⟩ n (ih (ms := ms) (fun b hb => hG b (List.mem_append_right _ hb)) rfl)
            exact Own.ext (P := fun _ => False) Ext.refl (fun x s _ => ⟨sh x s, fun z => z⟩) (fun _ _ z => z) r.2.2
      exact gen (fun _ z => z) q
    have z := gives (is := is) (ks := ks) h.2 I1 (fun b hb => nF b (List.mem_append_right _ hb)) q1 s1 fun b hb => gv b (List.mem_append_right _ hb)
    exact z
def tMul (is : List Nat) (ta : TA) : TS := fun D σ H => ta σ H fun vs H1 => vs.length = is.length ∧ vs.length ≤ sizeLine ∧ ∀ H2, (H2 = H1 ∨ ∃ p, H1 p = none ∧ H2 = upd H1 p (.tup vs)) → D.nx (setAll is (vs.map some) σ) H2
/-- how the stores of a display go -/
def swC (sc : Scope) (ts vs : List Expr) : Option (Option (List Str)) :=
  if !(ts.length == 2 || ts.length == 3) || vs.length != ts.length || (if sc.kind.isAnnotationScope then .function else sc.kind) != .function then some none
  else if vs.any (fun | .Starred .. => true | _ => false) then some none
  else
    let line := (ts.head?.map (·.pos.line)).getD 0
    let names := ts.filterMap fun
      | .Name id pos => if sc.names.lookup id == some .local && pos.line == line then some id else none
      | _ => none
    if names.length != ts.length || names.eraseDups.length != names.length then some none
    else if vs.all (foldedForSure 8) then some none
    else if vs.all (constantsAlone 8) then none
    else some (some names)
theorem swC_ok {sc : Scope} {ts vs : List Expr} {r : Option (List Str)} {env : Env} {k k2 : Nat} {p p2 : Pos} (h : swC sc ts vs = some r) (he : env.scope = sc) : swappedStores [.Tuple ts k p] (.Tuple vs k2 p2) env = pure r := by
  subst he
  unfold swappedStores
  unfold swC at h
  simp only at h ⊢
  have ek : env.blockKind = (if env.scope.kind.isAnnotationScope then .function else env.scope.kind) := rfl
  have en : ∀ id, env.kindOf id = env.scope.names.lookup id := fun _ => rfl
  simp only [ek, en]
  generalize (if env.scope.kind.isAnnotationScope = true then ScopeKind.function else env.scope.kind) = bk at h ⊢
  split at h
  · rename_i h1
    cases h
    exact if_pos h1
  · rename_i h1
    refine Eq.trans (if_neg h1) ?_
    split at h
    · rename_i h2
      cases h
      exact if_pos h2
    · rename_i h2
      refine Eq.trans (if_neg h2) ?_
      split at h
      · rename_i h3
        cases h
        exact if_pos h3
      · rename_i h3
        refine Eq.trans (if_neg h3) ?_
        split at h
        · rename_i h4
          cases h
          exact if_pos h4
        · rename_i h4
          refine Eq.trans (if_neg h4) ?_
          split at h
          · cases h
          · rename_i h5
            cases h
            exact if_neg h5
theorem mul2 {a b : Expr} {x y : Str} {i j : Nat} {px py pt pt2 : Pos} {kt k2 : Nat} (fit : Fit S X) (hx : nmOk S x i = true) (hy : nmOk S y j = true) (hij : (i == j) = false) (hlx : S.sc.names.lookup x = some .local) (hly : S.sc.names.lookup y = some .local) (hs : noStars [a, b] = true)
    (hw : swC S.sc [.Name x px, .Name y py] [a, b] = some (some [x, y])) : PS X (.Assign [.Tuple [.Name x px, .Name y py] kt pt] (.Tuple [a, b] k2 pt2) pos) (tMul [i, j] (WEs X [a, b])) := by
  have h := ps_par (X := X) (pos := pos) (px := px) (py := py) (pt := pt) (kt := kt) (k2 := k2) (pt2 := pt2) fit.calm (by rw [fit.hN]; exact fit.nd) (by rw [fit.hN]; exact (nmOk_get hx).1) (by rw [fit.hN]; exact (nmOk_get hy).1) (by simpa using hij) (by rw [fit.sc]; exact hlx) (by rw [fit.sc]; exact hly) (pa_WEs hs) (swC_ok hw fit.sc) rfl
  refine ⟨fun pins s σ H D I hq => h.run pins s σ H D I ?_⟩
  refine wes_mono hq fun vs H' ⟨hl, _, q⟩ => ?_
  match vs, hl with
  | [v, w], _ => exact ⟨v, w, rfl, q H' (.inl rfl)⟩
theorem mul3 {a b c : Expr} {x y z : Str} {i j l : Nat} {px py pz pt pt2 : Pos} {kt k2 : Nat} (fit : Fit S X) (hx : nmOk S x i = true) (hy : nmOk S y j = true) (hz : nmOk S z l = true) (hij : (i == j) = false) (hil : (i == l) = false) (hjl : (j == l) = false) (hlx : S.sc.names.lookup x = some .local) (hly : S.sc.names.lookup y = some .local) (hlz : S.sc.names.lookup z = some .local) (hs : noStars [a, b, c] = true)
    (hw : swC S.sc [.Name x px, .Name y py, .Name z pz] [a, b, c] = some (some [x, y, z])) : PS X (.Assign [.Tuple [.Name x px, .Name y py, .Name z pz] kt pt] (.Tuple [a, b, c] k2 pt2) pos) (tMul [i, j, l] (WEs X [a, b, c])) := by
  have h := ps_par3 (X := X) (pos := pos) (px := px) (py := py) (pz := pz) (pt := pt) (kt := kt) (k2 := k2) (pt2 := pt2) fit.calm (by rw [fit.hN]; exact fit.nd) (by rw [fit.hN]; exact (nmOk_get hx).1) (by rw [fit.hN]; exact (nmOk_get hy).1) (by rw [fit.hN]; exact (nmOk_get hz).1) (by simpa using hij) (by simpa using hil) (by simpa using hjl) (by rw [fit.sc]; exact hlx) (by rw [fit.sc]; exact hly) (by rw [fit.sc]; exact hlz) (pa_WEs hs) (swC_ok hw fit.sc) rfl
  refine ⟨fun pins s σ H D I hq => h.run pins s σ H D I ?_⟩
  refine wes_mono hq fun vs H' ⟨hl, _, q⟩ => ?_
  match vs, hl with
  | [v, w, u], _ => exact ⟨v, w, u, rfl, q H' (.inl rfl)⟩
theorem gNames_set {H : Hp} {Q : L2.St → Hp → Prop} : ∀ {is : List Nat} {vs : List V} {σ : L2.St}, vs.length = is.length → Q (setAll is (vs.map some) σ) H → gNames is vs σ H Q
  | [], [], _, _, q => ⟨rfl, q⟩
  | [], _ :: _, _, h, _ => by simp at h
  | _ :: _, [], _, h, _ => by simp at h
  | i :: is, v :: vs, σ, h, q => ⟨v, vs, rfl, gNames_set (by simpa using h) q⟩
theorem mulN {ts es : List Expr} {is : List Nat} {pt pt2 : Pos} {kt k2 : Nat} (fit : Fit S X) (ht : nmRs S ts is = true) (hs : noStars es = true) (hw : swC S.sc ts es = some none) : PS X (.Assign [.Tuple ts kt pt] (.Tuple es k2 pt2) pos) (tMul is (WEs X es)) := by
  obtain ⟨g, n, z⟩ := nms_ok fit ht
  have h := ps_asg (X := X) (pos := pos) (pe_tup (x1 := k2) (pos := pt2) (pa_WEs (X := X) hs)) (pg_tup (k := kt) (pos := pt) fit.calm g n z) rfl (swC_ok hw fit.sc) rfl
  refine ⟨fun pins s σ H D I hq => h.run pins s σ H D I ?_⟩
  refine wes_mono hq fun vs H' ⟨hl, hz, q⟩ => ?_
  refine ⟨hz, fun p hp => ⟨p, vs, rfl, .of upd_same, hl, gNames_set hl (q _ (.inr ⟨p, hp, rfl⟩))⟩⟩
def mMul (is : List Nat) (g : M (List D)) : M Out := bnd g fun ds ρ => if ds.length ≤ 16777216 then .ok .nx (setAll is ds ρ) else .stuck
theorem s1_mul {is ks : List Nat} {ts es : List Expr} {g : M (List D)} {kt k2 : Nat} {pt pt2 : Pos} (hp : ∀ X, Fit S X → PS X (.Assign [.Tuple ts kt pt] (.Tuple es k2 pt2) pos) (tMul is (WEs X es))) (hl : (is.length == es.length) = true) (hk : kOks S.pr S.κ is ks = true) (h : SMs S ks es g) : S1 S (.Assign [.Tuple ts kt pt] (.Tuple es k2 pt2) pos) (mMul is g) := by
  intro X fit W tk po A fp tmp σ H ρ D I hw
  refine ⟨_, hp X fit, ?_⟩
  show WEs X es σ H _
  refine h X fit W tk A fp tmp σ H ρ _ I (wpx_mono (wpx_bnd hw) (fun ds ρ1 hd vs H1 fp1 F I1 s1 gv nF r => ?_) fun _ _ z => z)
  have lr : ∀ {F : List Addr} {vs : List V} {ds : List VS.D} {ms : List Mode}, ResL X.K (clX X.mg) S.κ A fp1 (tF tmp (F)) H1 F vs ds ms → True := fun _ => trivial
  have len : vs.length = ds.length ∧ ds.length = ks.length := by
    have gen : ∀ {T : Addr → Prop} {G : List Addr} {vs : List V} {ds : List VS.D} {ms : List Mode}, ResL X.K (clX X.mg) S.κ A fp1 T H1 G vs ds ms → vs.length = ds.length ∧ ds.length = ms.length := by
      intro T G vs ds ms r
      induction r with
      | nil => exact ⟨rfl, rfl⟩
      | cons _ _ _ ih => simp [ih.1, ih.2]
    have := gen r
    simpa using this
  have lk : ∀ {is ks : List Nat}, kOks S.pr S.κ is ks = true → is.length = ks.length := by
    intro is
    induction is with
    | nil => intro ks h; cases ks <;> simp [kOks] at h ⊢
    | cons i is ih =>
      intro ks h
      cases ks with
      | nil => simp [kOks] at h
      | cons k ks => simp only [kOks, Bool.and_eq_true] at h; simp [ih h.2]
  split at hd
  · rename_i hz
    refine ⟨by rw [len.1, len.2, lk hk], by rw [len.1, sizeLine_eq]; exact hz, fun H2 hH => ?_⟩
    obtain ⟨fp2, I2, s2⟩ := gives hk I1 nF r s1 gv
    rcases hH with e | ⟨p, hp, e⟩
    · subst e; exact hd _ _ _ I2 s2
    · subst e
      refine hd _ _ _ (I2.new hp fun b z => .inl z) (s2.trans ⟨Ext.new hp, fun b z => .inl z, fun _ _ z => .inl z, fun _ _ => rfl⟩)
  · exact hd.elim
end
end VS

set_option Elab.async false
set_option linter.all false
set_option maxRecDepth 100000
set_option maxHeartbeats 4000000
/-! VS19: y = [..]; for; while. -/
namespace VS
open PySem PySem.Spec PyProof.Rows L2
section
variable {S : Sx} {X : Cx} {f : M D} {e tg iter elt : Expr} {ifs : List Expr} {scope : Scope} {own : List (Str × Nat)} {t : Tgt} {m : Mode} {i k : Nat} {pos p : Pos} {x : Str}
def swB (sc scope : Scope) (x : Str) (p pos : Pos) : Bool := (if sc.kind.isAnnotationScope then .function else sc.kind) == .function && sc.names.lookup x == some .local && p.line == pos.line && !(scope.names.any fun (n, k) => n == x && (k == .local || k == .cell))
theorem swB_ok {elt : Expr} {gs : List Comprehension} {env : Env} {n : Nat} : swapsWith (.ListComp elt gs scope pos) (some (.Name x p)) n env = pure (swB env.scope scope x p pos) := rfl
/-- a name takes a comprehension's list -/
theorem s1_setLc {q : Pos} (hn : nmOk S x i = true) (hk : kOk S.pr S.κ i k = true) (hb : swB S.sc scope x p pos = true) (h : SLc S k elt tg iter ifs scope own f) : S1 S (.Assign [.Name x p] (.ListComp elt [⟨tg, iter, ifs, 0⟩] scope pos) q) (mSet i f) := by
  intro X fit W tk po A fp tmp σ H ρ D I hw
  obtain ⟨n1, n2⟩ := nmOk_get hn
  obtain ⟨l1, l2⟩ := fit.fn x n2
  obtain ⟨⟨hns, hbl⟩, h⟩ := h
  have hloc : X.env.scope.names.lookup x = some .local := by
    unfold swB at hb
    simp only [Bool.and_eq_true, beq_iff_eq] at hb
    rw [fit.sc]; exact hb.1.1.2
  refine ⟨_, ps_setLc fit.calm (by rw [fit.hN]; exact fit.nd) (by rw [fit.hN]; exact n1) hloc (by rw [swB_ok, fit.sc, hb]) pi_WI (blkOk_by (by rw [fit.hN, fit.sc]; exact hbl)) pg_WGb (pts_WTbs ifs) pe_WEb (notSet_ok hns), ?_⟩
  refine h X fit W tk A fp tmp σ H ρ _ I (wpx_mono (wpx_bnd hw) (fun d ρ1 hd v H1 fp1 F I1 s1 nF r => ?_) fun _ _ z => z.xq)
  have I2 := SI.give (G := []) (by rw [List.append_nil]; exact I1) hk (fun b hb => ⟨fun z => I.fa b (.inr z) (nF b hb), fun z => I.ca b z (nF b hb)⟩) r.1 (fun _ _ z => by cases z) (fun b hb => (r.2.1 b hb).2) (by rw [List.append_nil]; exact r.2.2)
  have s2 := sts_set (v := v) (G := []) hk (by rw [List.append_nil]; exact s1.sts (np := S.np) (pr := S.pr) (σ := σ)) fun b hb => .inr (nF b hb)
  rw [tF_nil] at I2 s2
  exact hd _ _ _ I2 s2
/-- .. where the stores don't swap -/
theorem s1_setLn {e : Expr} {q : Pos} (hn : nmOk S x i = true) (hk : kOk S.pr S.κ i k = true) (hb : ∀ env, env.scope = S.sc → swapsWith e (some (.Name x p)) q.line env = pure false) (h : SM S k e f) : S1 S (.Assign [.Name x p] e q) (mSet i f) := by
  intro X fit W tk po A fp tmp σ H ρ D I hw
  obtain ⟨n1, n2⟩ := nmOk_get hn
  obtain ⟨l1, l2⟩ := fit.fn x n2
  refine ⟨_, ps_set (by rw [fit.hN]; exact fit.nd) (by rw [fit.hN]; exact n1) l1 pe_WE (hb _ fit.sc) l2, ?_⟩
  refine h X fit W tk A fp tmp σ H ρ _ I (wpx_mono (wpx_bnd hw) (fun d ρ1 hd v H1 fp1 F I1 s1 gv nF r => ?_) fun _ _ z => z)
  have I2 := SI.give (G := []) (by rw [List.append_nil]; exact I1) hk nF r.1 (fun _ _ z => by cases z) (fun b hb => (r.2.1 b hb).2) (by rw [List.append_nil]; exact r.2.2)
  have s2 := sts_set (v := v) (G := []) hk (by rw [List.append_nil]; exact s1) gv
  rw [tF_nil] at I2 s2
  exact hd _ _ _ I2 s2

/-! ### for -/
def forLoop (κ : List Kd) (im : IM) (t : Tgt) (body : M Out) : List D → M Out
  | [] => ret .nx
  | d :: ds => fun ρ => match tset κ im t d ρ with
    | none => .stuck
    | some ρ1 => match body ρ1 with
      | .ok .nx ρ2 => forLoop κ im t body ds ρ2
      | .ok .ct ρ2 => forLoop κ im t body ds ρ2
      | .ok .bk ρ2 => .ok .nx ρ2
      | .ok (.rt d) ρ2 => .ok (.rt d) ρ2
      | .err x ρ2 => .err x ρ2
      | .stuck => .stuck
def mFor (κ : List Kd) (im : IM) (t : Tgt) (f : M (List D)) (body : M Out) : M Out := ifR κ (bnd f (forLoop κ im t body))
def imH : Mode → IM
  | .rd => .bd
  | _ => .sh
/-- what a loop's items stand on -/
def TfS (A : Gd) (fp : Nat → List Addr) (tmp : Addr → Prop) : Mode → Addr → Prop
  | .rd => SBd A fp tmp
  | _ => Sh A fp tmp
theorem tf_im {κ : List Kd} {A : Gd} {fp : Nat → List Addr} {tmp : Addr → Prop} {m : Mode} : TfS A fp tmp m = TSm κ A fp tmp (imH m) := by cases m <;> rfl
section
variable {np : Nat} {pr : List Nat} {κ : List Kd} {A : Gd} {fp fp1 : Nat → List Addr} {tmp tmp1 : Addr → Prop} {σ σ1 : L2.St} {H H1 : Hp} {ρ ρ1 : List D} {K : PySem.W.Frag} {cl : Cl}
theorem SBd.stS (s : StS np pr fp tmp σ H fp1 tmp σ1 H1) : ∀ b, SBd A fp tmp b → H b ≠ none → SBd A fp1 tmp b ∧ ¬ OS fp b := fun b h n => ⟨⟨fun z => (s.os b z).elim h.1 n, h.2⟩, h.1⟩
theorem TfS.stS (s : StS np pr fp tmp σ H fp1 tmp σ1 H1) : ∀ b, TfS A fp tmp m b → H b ≠ none → TfS A fp1 tmp m b ∧ ¬ OS fp b := by
  cases m with
  | rd => exact SBd.stS s
  | el => exact Sh.stS s
  | val k => exact Sh.stS s
theorem StS.ext0 (e : Ext (fun _ => False) H H1) : StS np pr fp tmp σ H fp tmp σ H1 := ⟨e.mono fun _ z => z.elim, fun _ z => .inl z, fun _ _ z => .inl z, fun _ _ => rfl⟩
end
theorem s1_for {body : List Stmt} {fi : M (List D)} {fb : M Out} (hi : SIt S.hot m tg iter fi) (hns : notSet iter = true) (ht : tgR S tg t = true) (hl : lightT S.pr S.κ t = true) (hb : SS S body fb) : S1 S (.For tg iter body [] pos) (mFor S.κ (imH m) t fi fb) := by
  intro X fit W tk po A fp tmp σ H ρ D I hw
  obtain ⟨hr, hw⟩ := wpx_ifR hw
  have hr := noR_of hr
  refine ⟨_, ps_for po fit.calm pi_WI pg_WG ps_WSs (notSet_ok hns), ?_⟩
  show WI X tg iter σ H _
  refine hi X fit.hot W tk A fp tmp σ H ρ _ (I.hot hr) (wpx_mono (wpx_bnd hw) (fun ds ρ1 hd J B H1 fp1 I1 s1 src b1 => ?_) fun _ _ z => z.xqh hr)
  clear hw
  have I1' := I1.unhot (noR.unhot (hr.hot.stp s1))
  have sx : StS S.np S.pr fp tmp σ H fp1 tmp σ H1 := s1.hot
  have b1' : B (SBd A fp1 tmp) (TfS A fp1 tmp m) H1 := by
    refine src.mv (fun _ => False) _ _ _ _ _ _ .refl (fun b s _ => ⟨hot_sbd I1 b s, fun z => z⟩) (fun b s _ => ⟨?_, fun z => z⟩) b1
    cases m with
    | rd => exact hot_sbd I1 b s
    | el => exact s
    | val k => exact s
  let Inv := fun (i : Nat) (σ' : L2.St) (H' : Hp) => ∃ fp' ρ', SI X.K (clX X.mg) S.κ A fp' tmp σ' H' ρ' ∧ StS S.np S.pr fp tmp σ H fp' tmp σ' H' ∧ B (SBd A fp' tmp) (TfS A fp' tmp m) H' ∧ wpx (forLoop S.κ (imH m) t fb (ds.drop i) ρ') (SQ S X A fp tmp σ H D) (XS X W S.np S.pr S.κ A fp tmp σ H)
  refine ⟨fun i n σ' H' => n = ds.length - i ∧ i ≤ ds.length ∧ Inv i σ' H', ⟨ds.length, by omega, Nat.zero_le _, fp1, ρ1, I1', sx, b1', by simpa using hd⟩, ?_⟩
  rintro i n σ2 H2 ⟨rfl, hle, fp2, ρ2, I2, s2, b2, hgo⟩
  by_cases hlt : i < ds.length
  · refine .inr ⟨src.go i _ _ _ b2 hlt, Inv (i + 1), fun σ' H' p' => ⟨ds.length - (i + 1), by omega, rfl, hlt, p'⟩, fun x H3 hy => ?_⟩
    obtain ⟨e3, r3⟩ := src.yld i _ _ _ x H3 _ b2 (List.getElem?_eq_getElem hlt) hy
    have I3 := I2.grow e3 (fun b z => .inl z) fun b z => e3.al b (I2.fa b (.inr z))
    have s3 : StS S.np S.pr fp tmp σ H fp2 tmp σ2 H3 := s2.trans (.ext0 e3)
    have b3 := src.mv _ _ _ _ _ _ _ e3 (fun b q _ => ⟨q, fun z => z⟩) (fun b q _ => ⟨q, fun z => z⟩) b2
    rw [List.drop_eq_getElem_cons hlt, forLoop] at hgo
    simp only at hgo
    cases hts : tset S.κ (imH m) t ds[i] ρ2 with
    | none => rw [hts] at hgo; exact hgo.elim
    | some ρ3 =>
    rw [hts] at hgo
    simp only at hgo
    rw [tf_im (κ := S.κ)] at r3
    refine tg_core fit ht I3 r3 hts fun σ3 I3' ag => ?_
    have s4 : StS S.np S.pr fp tmp σ H fp2 tmp σ3 H3 := s3.trans ⟨.refl, fun _ z => .inl z, fun _ _ z => .inl z, light_sg hl fun i hi => (ag i hi).1⟩
    have body : wpx (fb ρ3) (fun o ρ4 => match o with
        | .nx => wpx (forLoop S.κ (imH m) t fb (ds.drop (i + 1)) ρ4) (SQ S X A fp tmp σ H D) (XS X W S.np S.pr S.κ A fp tmp σ H)
        | .ct => wpx (forLoop S.κ (imH m) t fb (ds.drop (i + 1)) ρ4) (SQ S X A fp tmp σ H D) (XS X W S.np S.pr S.κ A fp tmp σ H)
        | .bk => SQ S X A fp tmp σ H D .nx ρ4
        | .rt d => SQ S X A fp tmp σ H D (.rt d) ρ4) (XS X W S.np S.pr S.κ A fp tmp σ H) := by
      cases et : fb ρ3 with
      | stuck => rw [et] at hgo; exact hgo
      | err x r => rw [et] at hgo; exact hgo
      | ok o ρ4 =>
        rw [et] at hgo
        cases o <;> exact hgo
    refine hb X fit W tk po A fp2 tmp σ3 H3 ρ3 _ I3' (wpx_mono body (fun o ρ4 ho => ?_) fun x ρ4 z => z.step s4 fun _ q => q)
    have again : ∀ (ρ4 : List VS.D), wpx (forLoop S.κ (imH m) t fb (ds.drop (i + 1)) ρ4) (SQ S X A fp tmp σ H D) (XS X W S.np S.pr S.κ A fp tmp σ H) → ∀ σ' H' fp', SI X.K (clX X.mg) S.κ A fp' tmp σ' H' ρ4 → StS S.np S.pr fp2 tmp σ3 H3 fp' tmp σ' H' → Inv (i + 1) σ' H' := fun ρ4 hq σ' H' fp' I' s' =>
      ⟨fp', ρ4, I', s4.trans s', src.mv _ _ _ _ _ _ _ s'.ex (SBd.stS s') (TfS.stS s') b3, hq⟩
    cases o with
    | nx => exact again ρ4 ho
    | ct => exact again ρ4 ho
    | bk => exact fun σ' H' fp' I' s' => ho σ' H' fp' I' (s4.trans s')
    | rt d => exact fun v σ' H' fp' F I' s' gv r => ho v σ' H' fp' F I' (s4.trans s') (gv.back s4) r
  · have e : i = ds.length := by omega
    subst e
    refine .inl ⟨src.stop _ _ _ _ b2 (Nat.le_refl _), ?_⟩
    rw [List.drop_length, forLoop] at hgo
    exact hgo σ2 H2 fp2 I2 s2

/-! ### while -/
def whLoop (c : M Bool) (body : M Out) : Nat → M Out
  | 0 => fail
  | n + 1 => bnd c fun b => if b then (bnd body fun o => match o with
    | .nx => whLoop c body n
    | .ct => whLoop c body n
    | .bk => ret .nx
    | .rt d => ret (.rt d)) else ret .nx
theorem s1_while {c : Expr} {body : List Stmt} {fc : M Bool} {fb : M Out} {N : Nat} (hc : ST S c fc) (hb : SS S body fb) : S1 S (.While c body [] pos) (whLoop fc fb N) := by
  intro X fit W tk po A fp tmp σ H ρ D I hw
  refine ⟨_, ps_while po pt_WT ps_WSs, ?_⟩
  let Inv := fun (n : Nat) (σ' : L2.St) (H' : Hp) => ∃ fp' ρ', SI X.K (clX X.mg) S.κ A fp' tmp σ' H' ρ' ∧ StS S.np S.pr fp tmp σ H fp' tmp σ' H' ∧ wpx (whLoop fc fb n ρ') (SQ S X A fp tmp σ H D) (XS X W S.np S.pr S.κ A fp tmp σ H)
  refine ⟨Inv, ⟨N, fp, ρ, I, .refl, hw⟩, ?_⟩
  rintro n σ2 H2 ⟨fp2, ρ2, I2, s2, hgo⟩
  cases n with
  | zero => exact hgo.elim
  | succ n =>
    rw [whLoop] at hgo
    refine hc X fit W tk A fp2 tmp σ2 H2 ρ2 _ I2 (wpx_mono (wpx_bnd hgo) (fun b ρ3 hd H3 fp3 I3 s3 => ?_) fun x ρ' z => (z.step s2 fun _ q => q).xq)
    have s4 : StS S.np S.pr fp tmp σ H fp3 tmp σ2 H3 := s2.trans s3.sts
    cases b with
    | false =>
      rw [if_neg (by decide)] at hd ⊢
      exact hd σ2 H3 fp3 I3 s4
    | true =>
      rw [if_pos rfl] at hd ⊢
      refine ⟨Inv n, fun σ' H' p' => ⟨n, Nat.lt_succ_self n, p'⟩, hb X fit W tk po A fp3 tmp σ2 H3 ρ3 _ I3 (wpx_mono (wpx_bnd hd) (fun o ρ4 ho => ?_) fun x ρ4 z => z.step s4 fun _ q => q)⟩
      cases o with
      | nx => exact fun σ' H' fp' I' s' => ⟨fp', ρ4, I', s4.trans s', ho⟩
      | ct => exact fun σ' H' fp' I' s' => ⟨fp', ρ4, I', s4.trans s', ho⟩
      | bk => exact fun σ' H' fp' I' s' => ho σ' H' fp' I' (s4.trans s')
      | rt d => exact fun v σ' H' fp' F I' s' gv r => ho v σ' H' fp' F I' (s4.trans s') (gv.back s4) r
end
end VS

set_option Elab.async false
set_option linter.all false
set_option maxRecDepth 100000
set_option maxHeartbeats 4000000
/-! VS20: a def keeps its promise. -/
namespace VS
open PySem PySem.Spec PyProof.Rows L2
def osOf : List Kd → List D → List D
  | c :: ks, d :: ρ => (if c.light then .un else d) :: osOf ks ρ
  | _, _ => []
def semOf (fb : M Out) (n : Nat) (ks : List Kd) (ds : List D) : R D := match fb (ds ++ List.replicate (n - ds.length) .un) with
  | .ok (.rt d) ρ => .ok d (osOf ks ρ)
  | .ok .nx ρ => .ok .non (osOf ks ρ)
  | .err x ρ => .err x (osOf ks ρ)
  | _ => .stuck
theorem osOf_len : ∀ {ks : List Kd} {ρ : List D}, ks.length ≤ ρ.length → (osOf ks ρ).length = ks.length
  | [], _, _ => by simp [osOf]
  | _ :: _, [], h => by simp at h
  | _ :: ks, _ :: ρ, h => by simp [osOf, osOf_len (ks := ks) (ρ := ρ) (by simpa using h)]
theorem osOf_get : ∀ {ks : List Kd} {ρ : List D} {i : Nat} {d : D}, (osOf ks ρ)[i]? = some d → d ≠ .un → ∃ c, ks[i]? = some c ∧ c.light = false ∧ ρ[i]? = some d
  | [], _, _, _, h, _ => by simp [osOf] at h
  | _ :: _, [], _, _, h, _ => by simp [osOf] at h
  | c :: ks, d0 :: ρ, 0, d, h, hu => by
    simp only [osOf, List.getElem?_cons_zero, Option.some.injEq] at h
    cases hc : c.light with
    | true => rw [hc] at h; simp at h; exact absurd h.symm hu
    | false => rw [hc] at h; simp at h; exact ⟨c, rfl, hc, by simp [h]⟩
  | c :: ks, d0 :: ρ, i + 1, d, h, hu => by
    simp only [osOf, List.getElem?_cons_succ] at h
    obtain ⟨c', a, b, e⟩ := osOf_get h hu
    exact ⟨c', by simpa using a, b, by simpa using e⟩
def cutF (np : Nat) (fp : Nat → List Addr) : Nat → List Addr := fun i => if i < np then fp i else []
section
variable {K : PySem.W.Frag} {cl : Cl} {κ ks : List Kd} {A : Gd} {fp fp' : Nat → List Addr} {tmp : Addr → Prop} {σ' : L2.St} {H H' : Hp} {ρ' : List D} {N : List Str} {vs : List V} {F : List Addr} {np : Nat} {pr : List Nat}
theorem cutF_mem {i : Nat} {b : Addr} (h : b ∈ cutF np fp i) : i < np ∧ b ∈ fp i := by
  unfold cutF at h
  split at h
  · exact ⟨by assumption, h⟩
  · cases h
theorem cutF_oo {b : Addr} (h : OO (cutF np fp) tmp b) : OO fp tmp b := h.imp (fun ⟨i, z⟩ => ⟨i, (cutF_mem z).2⟩) id
theorem start_get {i : Nat} (h : i < vs.length) : (L2.start N vs)[i]? = (vs.map some)[i]? := by
  unfold L2.start
  rw [List.getElem?_append_left (by simpa using h)]
/-- a def's slots at its end, as its callers see them -/
theorem exit_ok (hpr : ∀ (i : Nat) (c : Kd), ks[i]? = some c → c.light = false → i ∈ pr) (hk : ∀ (i : Nat) (c : Kd), ks[i]? = some c → κ[i]? = some c) (hkl : ks.length ≤ κ.length) (hv : vs.length = ks.length) (hnp : np = ks.length) (I : SI K cl κ A fp' tmp σ' H' ρ') {σ : L2.St} (hσ : σ = L2.start N vs) {tmp0 : Addr → Prop} (s : StS np pr fp tmp0 σ H fp' tmp σ' H') :
    SI K cl ks A (cutF np fp') tmp (vs.map some) H' (osOf ks ρ') := by
  have sh : ∀ b, Sh A fp' tmp b → Sh A (cutF np fp') tmp b := fun b s => ⟨s.1, fun z => s.2 (cutF_oo z)⟩
  refine ⟨⟨by rw [List.length_map]; exact hv, osOf_len (by rw [I.sz.2]; exact hkl)⟩, I.an, I.ca, fun b h => I.fa b (cutF_oo h), fun i b h => I.fA i b (cutF_mem h).2, fun i j b h h' => I.dj i j b (cutF_mem h).2 (cutF_mem h').2, fun i => ?_, fun i b h => I.dt i b (cutF_mem h).2, fun i b h => I.cd i b (cutF_mem h).2, fun i b h => ?_, fun i d c e1 e2 e3 => ?_⟩
  · unfold cutF
    split
    · exact I.nd i
    · exact List.nodup_nil
  · obtain ⟨h1, h2⟩ := cutF_mem h
    obtain ⟨c, a, b⟩ := I.lf i b h2
    have : i < ks.length := by omega
    have z := hk i _ (List.getElem?_eq_getElem this)
    rw [a] at z; cases z
    exact ⟨_, List.getElem?_eq_getElem this, b⟩
  · obtain ⟨c', a, b, e⟩ := osOf_get e1 e2
    rw [e3] at a; cases a
    have hi : i < ks.length := (List.getElem?_eq_some_iff.mp e3).1
    obtain ⟨v, q, sl⟩ := I.sl i d c e e2 (hk i c e3)
    rw [s.sg i (hpr i c e3 b), hσ, start_get (by omega)] at q
    refine ⟨v, q, ?_⟩
    have ef : cutF np fp' i = fp' i := by unfold cutF; rw [if_pos (by omega)]
    have ow : ∀ k, Own K cl H' (Sh A fp' tmp) k (fp' i) v d → Own K cl H' (Sh A (cutF np fp') tmp) k (cutF np fp' i) v d := fun k o => by
      rw [ef]
      exact Own.ext (P := fun _ => False) Ext.refl (fun b s _ => ⟨sh b s, fun z => z⟩) (fun _ _ z => z) o
    cases c with
    | F => cases b
    | B => cases b
    | R => cases b
    | L k => exact ow k sl
    | X k => exact ow k sl
theorem enter_ok {ds : List D} (hk : ∀ (i : Nat) (c : Kd), ks[i]? = some c → κ[i]? = some c) (hkl : ks.length ≤ κ.length) (hN : N.length = κ.length) (hv : vs.length = ks.length) (hd : ds.length = ks.length) (I : SI K cl ks A fp tmp (vs.map some) H ds) : SI K cl κ A fp tmp (L2.start N vs) H (ds ++ List.replicate (N.length - ds.length) .un) where
  sz := ⟨by unfold L2.start; simp; omega, by simp; omega⟩
  an := I.an
  ca := I.ca
  fa := I.fa
  fA := I.fA
  dj := I.dj
  nd := I.nd
  dt := I.dt
  cd := I.cd
  lf := fun i b h => let ⟨c, a, z⟩ := I.lf i b h; ⟨c, hk i c a, z⟩
  sl := fun i d c e1 e2 e3 => by
    by_cases hi : i < ds.length
    · rw [List.getElem?_append_left hi] at e1
      have h3 : ks[i]? = some c := by
        have z := hk i _ (List.getElem?_eq_getElem (show i < ks.length by omega))
        rw [e3] at z; cases z
        exact List.getElem?_eq_getElem _
      rw [start_get (by omega)]
      obtain ⟨v, a, b⟩ := I.sl i d c e1 e2 h3
      refine ⟨v, a, ?_⟩
      cases c with
      | R =>
        refine Rp.up b fun x s => ⟨fun ⟨j, ⟨k, hx⟩, z⟩ => s.1 ⟨j, ?_, z⟩, s.2⟩
        obtain ⟨c', a', _⟩ := I.lf j x z
        have := hk j c' a'
        rw [hx] at this; cases this
        exact ⟨k, a'⟩
      | F => exact b
      | B => exact b
      | L k => exact b
      | X k => exact b
    · rw [List.getElem?_append_right (by omega), List.getElem?_replicate] at e1
      split at e1
      · cases e1; exact absurd rfl e2
      · cases e1
end
section
variable {P : Program} {w : World} {K : PySem.W.Frag} {mg : Str → Option Value} {base : Heap}
theorem FnAt.mono {j k : Nat} {fi : FnI} (h : FnAt P w K mg base j fi) (hk : j ≤ k) : FnAt P w K mg base k fi :=
  let ⟨f, fd, a, b, c, d, e⟩ := h.ex; ⟨⟨f, fd, a, b, c, d.mono hk, e⟩, h.kn⟩
theorem fn_ok {qual : Str} {st : Stmt} {f : Addr} {fd : FuncData} {S : Sx} {fi : FnI} {fb : M Out} (F : Fun K fi.name qual st f fd) (sc : FnScope S.N fi.ps (defScope st)) (esc : S.sc = defScope st)
    (hk : S.κ.take fi.ks.length = fi.ks) (hkn : (fi.ks.length == fi.ps.length && Nat.ble fi.ks.length S.κ.length && S.np == fi.ps.length && S.κ.length == S.N.length && S.kr == fi.kr) = true) (has : (S.as.all fun x => S.sc.names.lookup x == some .local || S.sc.names.lookup x == some .cell) = true)
    (hfs : ∀ g ∈ S.fs, FnAt P w K mg base S.k g) (hcs : ∀ c ∈ S.cs, ConAt K mg c) (hbl : ∀ x ∈ builtinNames, mg x = none) (hbf : ∀ b ∈ S.bf, mg b.1 = some (.builtin b.2)) (hbody : SS S (defBody st) fb) (hpr : ∀ (i : Nat) (c : Kd), fi.ks[i]? = some c → c.light = false → i ∈ S.pr) (hsem : fi.sem = semOf fb S.N.length fi.ks) : FnOk P w K mg base (L2.CX P w) (S.k + 1) f fd fi.ps (spF fi K (clX mg)) := by
  simp only [Bool.and_eq_true, beq_iff_eq, Nat.ble_eq] at hkn
  obtain ⟨⟨⟨⟨k1, k2⟩, k3⟩, k4⟩, k5⟩ := hkn
  have hk' : ∀ (i : Nat) (c : Kd), fi.ks[i]? = some c → S.κ[i]? = some c := fun i c h => by
    rw [← hk, List.getElem?_take] at h
    split at h
    · exact h
    · cases h
  refine F.okX sc (fun _ _ _ _ h => h.1) fun cdv A outer s H vs Q E hr h => ?_
  obtain ⟨lv, ds, Ag, fp, tmp, ld, I, hC, hpast, hw⟩ := h
  refine ⟨_, ps_WSs, ?_⟩
  have fit : Fit S (cxOf (L2.CX P w) P w K mg base S.N qual (defScope st) f cdv A outer s H E) := by
    refine ⟨rfl, sc.nd, esc.symm, rfl, hr, fun x hx => ⟨?_, .inl rfl⟩, hfs, hcs, hbl, k4, hbf⟩
    have := List.all_eq_true.mp has x hx
    simp only [Bool.or_eq_true, beq_iff_eq] at this
    rw [esc] at this
    exact this
  have I0 := enter_ok (N := S.N) hk' k2 k4.symm (lv.trans k1.symm) (ld.trans k1.symm) I
  refine hbody _ fit _ (L2.takes_of rfl rfl rfl rfl) (L2.passes_of rfl) Ag fp tmp _ H _ _ I0 ?_
  rw [hsem] at hw
  unfold semOf at hw
  have pk : ∀ {j : Nat} {b : Addr}, S.np ≤ j → b ∈ fp j → False := fun hj hb => by
    rw [hpast _ (by omega)] at hb
    cases hb
  have fin : ∀ {d : D} {ρ' : List D} {Q' : D → List D → Prop}, (∀ v H' fp' F, SI K (clX mg) fi.ks Ag fp' (tF tmp F) (vs.map some) H' (osOf fi.ks ρ') → (∀ i, fi.ps.length ≤ i → fp' i = []) → Ext (OS fp) H H' → (∀ b, OO fp' (tF tmp F) b → OO fp tmp b ∨ H b = none) → (∀ i b, b ∈ fp' i → b ∈ fp i ∨ H b = none) → Res K (clX mg) fi.ks Ag fp' (tF tmp F) H' F v d (.val fi.kr) → (∀ b ∈ F, H b = none) → (osOf fi.ks ρ').length = fi.ps.length → Q v H') →
      ∀ v σ' H' fp' F, SI K (clX mg) S.κ Ag fp' (tF tmp F) σ' H' ρ' → StS S.np S.pr fp tmp (L2.start S.N vs) H fp' (tF tmp F) σ' H' → Giv S.np fp H F → Res K (clX mg) S.κ Ag fp' (tF tmp F) H' F v d (.val S.kr) → Q v H' := by
    intro d ρ' Q' hq v σ' H' fp' F I' s' gv r
    have I2 := exit_ok (np := S.np) hpr hk' k2 (lv.trans k1.symm) (by omega) I' rfl s'
    refine hq v H' (cutF S.np fp') F I2 (fun i hi => ?_) s'.ex (fun b z => s'.ow b (cutF_oo z)) (fun i b z => ?_) ?_ (fun b hb => ?_) ?_
    · unfold cutF
      rw [if_neg (by omega)]
    · rcases s'.si i b (cutF_mem z).2 with q | ⟨j, hj, q⟩ | q
      · exact .inl q
      · exact (pk hj q).elim
      · exact .inr q
    · rw [← k5]
      exact ⟨r.1, r.2.1, Own.ext (P := fun _ => False) Ext.refl (fun b s _ => ⟨⟨s.1, fun z => s.2 (cutF_oo z)⟩, fun z => z⟩) (fun _ _ z => z) r.2.2⟩
    · rcases gv b hb with ⟨j, hj, q⟩ | q
      · exact (pk hj q).elim
      · exact q
    · rw [osOf_len (by rw [I'.sz.2]; exact k2), k1]
  have herr : ∀ {x : D} {ρ' : List D}, (∀ cls dx H' fp', SI K (clX mg) fi.ks Ag fp' tmp (vs.map some) H' (osOf fi.ks ρ') → (∀ i, fi.ps.length ≤ i → fp' i = []) → Ext (OS fp) H H' → (∀ b, OO fp' tmp b → OO fp tmp b ∨ H b = none) → (∀ i b, b ∈ fp' i → b ∈ fp i ∨ H b = none) → ExR K (clX mg) H' x cls dx → (osOf fi.ks ρ').length = fi.ps.length → E cls dx H') →
      ∀ cls dx σ' H' fp', SI K (clX mg) S.κ Ag fp' tmp σ' H' ρ' → StS S.np S.pr fp tmp (L2.start S.N vs) H fp' tmp σ' H' → ExR K (clX mg) H' x cls dx → E cls dx H' := by
    intro x ρ' hq cls dx σ' H' fp' I' s' r
    have I2 := exit_ok (np := S.np) hpr hk' k2 (lv.trans k1.symm) (by omega) I' rfl s'
    refine hq cls dx H' (cutF S.np fp') I2 (fun i hi => ?_) s'.ex (fun b z => s'.ow b (cutF_oo z)) (fun i b z => ?_) r ?_
    · unfold cutF
      rw [if_neg (by omega)]
    · rcases s'.si i b (cutF_mem z).2 with q | ⟨j, hj, q⟩ | q
      · exact .inl q
      · exact (pk hj q).elim
      · exact .inr q
    · rw [osOf_len (by rw [I'.sz.2]; exact k2), k1]
  cases e : fb (ds ++ List.replicate (S.N.length - ds.length) .un) with
  | stuck => rw [e] at hw; exact hw.elim
  | err x ρ' => rw [e] at hw; exact herr hw
  | ok o ρ' =>
    rw [e] at hw
    cases o with
    | bk => exact hw.elim
    | ct => exact hw.elim
    | rt d => exact fin (Q' := fun _ _ => True) hw
    | nx =>
      intro σ' H' fp' I' s'
      refine fin (Q' := fun _ _ => True) hw .non σ' H' fp' [] (by rw [tF_nil]; exact I') (by rw [tF_nil]; exact s') (fun _ z => by cases z) (Res.imm (S := fun _ => True) rfl .non)
theorem fn_at {qual : Str} {st : Stmt} {f : Addr} {fd : FuncData} {S : Sx} {fi : FnI} {fb : M Out} (F : Fun K fi.name qual st f fd) (hm : mg fi.name = some (.ref f)) (hb : Binds K fd fi.ps []) (sc : FnScope S.N fi.ps (defScope st)) (esc : S.sc = defScope st)
    (hk : S.κ.take fi.ks.length = fi.ks) (hkn : (fi.ks.length == fi.ps.length && Nat.ble fi.ks.length S.κ.length && S.np == fi.ps.length && S.κ.length == S.N.length && S.kr == fi.kr) = true) (has : (S.as.all fun x => S.sc.names.lookup x == some .local || S.sc.names.lookup x == some .cell) = true)
    (hfs : ∀ g ∈ S.fs, FnAt P w K mg base S.k g) (hcs : ∀ c ∈ S.cs, ConAt K mg c) (hbl : ∀ x ∈ builtinNames, mg x = none) (hbf : ∀ b ∈ S.bf, mg b.1 = some (.builtin b.2)) (hbody : SS S (defBody st) fb) (hpr : ∀ (i : Nat) (c : Kd), fi.ks[i]? = some c → c.light = false → i ∈ S.pr) (hsem : fi.sem = semOf fb S.N.length fi.ks) (hkb : ∀ t ∈ fi.kb, KBinds K fd fi.ps t.2.1 (pickK t) (pickK t)) : FnAt P w K mg base (S.k + 1) fi := by
  have k := hkn
  simp only [Bool.and_eq_true, beq_iff_eq, Nat.ble_eq] at k
  exact ⟨⟨f, fd, hm, F.kp, hb, fn_ok F sc esc hk hkn has hfs hcs hbl hbf hbody hpr hsem, hkb⟩, k.1.1.1.1⟩
end
end VS

set_option Elab.async false
set_option linter.all false
set_option maxRecDepth 100000
set_option maxHeartbeats 4000000
/-! VS21: what changes an owned list: append, extend, insert, pop, reverse of a name's list. -/
namespace VS
open PySem PySem.Spec PyProof.Rows L2
/-- slot i owns to depth k -/
def ownK (κ : List Kd) (i k : Nat) : Bool := match κ[i]? with
  | some (.L j) => j == k
  | some (.X j) => j == k
  | _ => false
theorem ownK_get {κ : List Kd} {i k : Nat} (h : ownK κ i k = true) : κ[i]? = some (.L k) ∨ κ[i]? = some (.X k) := by
  unfold ownK at h
  split at h
  · rename_i j e
    have : j = k := by simpa using h
    subst this; exact .inl e
  · rename_i j e
    have : j = k := by simpa using h
    subst this; exact .inr e
  · cases h
section
variable {K : PySem.W.Frag} {cl : Cl} {np : Nat} {pr : List Nat} {κ : List Kd} {A : Gd} {fp fp0 : Nat → List Addr} {tmp : Addr → Prop} {σ : L2.St} {H H0 : Hp} {ρ : List D} {F F' : List Addr} {v : V} {d d' : D} {i k : Nat} {a : Addr} {o u : HO}
theorem SI.root (I : SI K cl κ A fp tmp σ H ρ) (hk : ownK κ i k = true) (hd : ρ[i]? = some d) (hu : d ≠ .un) : ∃ v, σ[i]? = some (some v) ∧ Own K cl H (Sh A fp tmp) k (fp i) v d := by
  rcases ownK_get hk with e | e
  · exact I.sl i d _ hd hu e
  · exact I.sl i d _ hd hu e
theorem mut_oo {b : Addr} (hF : ∀ b ∈ F', b ∈ fp i ∨ b ∈ F) (h : OO (setF fp i F') tmp b) : OO fp (tF tmp F) b := by
  rcases h with ⟨j, h⟩ | h
  · rcases setF_mem h with ⟨_, h⟩ | ⟨_, h⟩
    · exact (hF b h).elim (fun z => .inl ⟨i, z⟩) fun z => .inr (.inr z)
    · exact .inl ⟨j, h⟩
  · exact .inr (.inl h)
theorem SI.mut (I : SI K cl κ A fp (tF tmp F) σ H ρ) (hr : noR κ ρ) (hk : ownK κ i k = true) (ha : a ∈ fp i) (hs : σ[i]? = some (some v)) (hH : H a = some u) (ns : ¬ Still u) (hF : ∀ b ∈ F', b ∈ fp i ∨ b ∈ F) (nF : ∀ b ∈ F, ¬ tmp b ∧ ¬ A.C b) (okF : ∀ b ∈ F, A.ok b) (nd : F'.Nodup)
    (ow : Own K cl (upd H a o) (Sh A fp (tF tmp F)) k F' v d') : SI K cl κ A (setF fp i F') tmp σ (upd H a o) (ρ.set i d') := by
  have sh : ∀ b, Sh A fp (tF tmp F) b → Sh A (setF fp i F') tmp b := fun b s => ⟨s.1, fun z => s.2 (mut_oo hF z)⟩
  have e : Ext (fun b => b = a) H (upd H a o) := Ext.set hH ns rfl
  have aos : ∀ {b}, b = a → OS fp b := fun z => ⟨i, by rw [z]; exact ha⟩
  have fpi : ∀ {j b}, b ∈ F' → b ∈ fp j → j ≠ i → False := fun {j b} h1 h2 h3 => (hF b h1).elim (fun z => h3 (I.dj j i b h2 z)) fun z => I.dt j b h2 (.inr z)
  have hKi : ∃ c, κ[i]? = some c ∧ c.light = false ∧ (c = .L k ∨ c = .X k) := (ownK_get hk).elim (fun z => ⟨_, z, rfl, .inl rfl⟩) fun z => ⟨_, z, rfl, .inr rfl⟩
  refine ⟨by simpa using I.sz, fun b h => I.an b (none_back e h), fun b h => e.al b (I.ca b h), fun b h => e.al b (I.fa b (mut_oo hF h)), fun j b h => ?_, fun j j' b h h' => ?_, fun j => ?_, fun j b h z => ?_, fun j b h => ?_, fun j b h => ?_, fun j x c e1 e2 e3 => ?_⟩
  · rcases setF_mem h with ⟨_, h⟩ | ⟨_, h⟩
    · exact (hF b h).elim (I.fA i b) (okF b)
    · exact I.fA j b h
  · rcases setF_mem h with ⟨x, h⟩ | ⟨x, h⟩ <;> rcases setF_mem h' with ⟨y, h'⟩ | ⟨y, h'⟩
    · rw [x, y]
    · exact (fpi h h' y).elim
    · exact (fpi h' h x).elim
    · exact I.dj j j' b h h'
  · by_cases hj : j = i
    · rw [hj, setF_same]; exact nd
    · rw [setF_ne hj]; exact I.nd j
  · rcases setF_mem h with ⟨_, h⟩ | ⟨_, h⟩
    · exact (hF b h).elim (fun y => I.dt i b y (.inl z)) fun y => (nF b y).1 z
    · exact I.dt j b h (.inl z)
  · rcases setF_mem h with ⟨_, h⟩ | ⟨_, h⟩
    · exact (hF b h).elim (I.cd i b) fun y => (nF b y).2
    · exact I.cd j b h
  · rcases setF_mem h with ⟨x, h⟩ | ⟨_, h⟩
    · rw [x]
      obtain ⟨c, h1, h2, _⟩ := hKi
      exact ⟨c, h1, h2⟩
    · exact I.lf j b h
  · by_cases hij : i = j
    · subst hij
      obtain ⟨c', h1, _, h3⟩ := hKi
      rw [e3] at h1; cases h1
      have hlt : i < κ.length := (List.getElem?_eq_some_iff.mp e3).1
      rw [List.getElem?_set_self (by rw [I.sz.2]; exact hlt)] at e1
      cases e1
      refine ⟨v, hs, ?_⟩
      have o2 : Own K cl (upd H a o) (Sh A (setF fp i F') tmp) k (setF fp i F' i) v d' := by
        rw [setF_same]
        exact Own.ext (P := fun _ => False) Ext.refl (fun x s _ => ⟨sh x s, fun z => z⟩) (fun _ _ z => z) ow
      rcases h3 with rfl | rfl <;> exact o2
    · rw [List.getElem?_set_ne hij] at e1
      obtain ⟨w, q, b⟩ := I.sl j x c e1 e2 e3
      refine ⟨w, q, ?_⟩
      have oth : ∀ k', Own K cl H (Sh A fp (tF tmp F)) k' (fp j) w x → Own K cl (upd H a o) (Sh A (setF fp i F') tmp) k' (setF fp i F' j) w x := fun k' q => by
        rw [setF_ne (Ne.symm hij)]
        exact Own.ext e (fun x s _ => ⟨sh x s, fun z => s.2 (.inl (aos z))⟩) (fun b hb z => hij (I.dj i j b (by rw [z]; exact ha) hb)) q
      cases c with
      | F => exact Rp.ext e (fun x s _ => ⟨sh x s, fun z => s.2 (.inl (aos z))⟩) b
      | B =>
        refine Rp.ext e (fun x s _ => ⟨⟨fun ⟨j', z⟩ => ?_, fun z => s.2 (.inl z)⟩, fun z => s.1 (aos z)⟩) b
        rcases setF_mem z with ⟨_, z⟩ | ⟨_, z⟩
        · exact (hF x z).elim (fun y => s.1 ⟨i, y⟩) fun y => (nF x y).2 (s.2 (.inr y))
        · exact s.1 ⟨j', z⟩
      | R => exact absurd (hr j x e3 e1) e2
      | L k' => exact oth k' b
      | X k' => exact oth k' b
/-- the step of a change -/
theorem StS.mut (s : StS np pr fp0 tmp σ H0 fp (tF tmp F) σ H) (ha : a ∈ fp i) (hH : H a = some u) (ns : ¬ Still u) (hF : ∀ b ∈ F', b ∈ fp i ∨ b ∈ F) (gv : Giv np fp0 H0 F) : StS np pr fp0 tmp σ H0 (setF fp i F') tmp σ (upd H a o) where
  ex := s.ex.trans (P2 := fun b => b = a) (Ext.set hH ns rfl) fun b z => s.os b ⟨i, by rw [z]; exact ha⟩
  ow := fun b h => s.ow b (mut_oo hF h)
  si := fun j b h => by
    rcases setF_mem h with ⟨x, h⟩ | ⟨_, h⟩
    · rw [x]
      exact (hF b h).elim (s.si i b) fun z => .inr (gv b z)
    · exact s.si j b h
  sg := s.sg
end
def D.lst? : D → Option (List D)
  | .lst ds => some ds
  | _ => none
theorem lst?_some {d : D} {ds : List D} (h : d.lst? = some ds) : d = .lst ds := by cases d <;> simp [D.lst?] at h <;> rw [h]
theorem Own.lst' {K : PySem.W.Frag} {cl : Cl} {H : Hp} {T : Addr → Prop} {k : Nat} {F : List Addr} {v : V} {ds : List D} (o : Own K cl H T (k + 1) F v (.lst ds)) : ∃ a vs Fs, v = .ref a ∧ F = a :: Fs ∧ H a = some (.lst vs) ∧ OwnL K cl H T k Fs vs ds := by
  cases o with
  | fr h f => exact (f.elim (fun z => by cases z) fun z => by simp [D.flat] at z)
  | lst h r => exact ⟨_, _, _, rfl, rfl, h, r⟩
/-- the i-th slot's list -/
def slotL (i : Nat) (ρ : List D) : Option (List D) := (ρ[i]?).bind D.lst?
theorem slotL_get {i : Nat} {ρ : List D} {ds : List D} (h : slotL i ρ = some ds) : ρ[i]? = some (.lst ds) := by
  unfold slotL at h
  obtain ⟨d, h1, h2⟩ := Option.bind_eq_some_iff.mp h
  rw [h1, lst?_some h2]
section
variable {S : Sx} {X : Cx} {f : M D} {e : Expr} {es : List Expr} {i k : Nat} {x m : Str} {pos p p2 : Pos}
/-- how a method's call is read -/
def methOk (es : List Expr) (apos cpos : Pos) : Bool := noStars es && decide (es.length < 20) && apos.endLine == cpos.line
theorem few_ok {es : List Expr} {env : Env} (hs : noStars es = true) (hl : es.length < 20) : ((backTo pos (starEach es env)).all (fun x => !x.1) && (backToKw pos (keywordEach [] env)).all (fun x => x.1.isSome)
      && decide (es.length + ([] : List Keyword).length + (if ([] : List Keyword).isEmpty then 0 else 1) < 30)) = true := by
  have h1 : (backTo pos (starEach es env)).any (·.1) = false := stars_any hs
  have h2 : (backTo pos (starEach es env)).all (fun x => !x.1) = true := by
    rw [List.all_eq_true]
    intro y hy
    rw [List.any_eq_false] at h1
    simpa using h1 y hy
  have h3 : decide (es.length + ([] : List Keyword).length + (if ([] : List Keyword).isEmpty then 0 else 1) < 30) = true := by
    simp; omega
  rw [h2, h3]
  rfl
theorem abase {o : Expr} {name : Str} {env : Env} (h : ∃ y q, o = .Name y q) : attributeBase o name env (eval o env) = eval o env := by
  obtain ⟨y, q, rfl⟩ := h
  rfl
/-- x.m(e) on x's own list: to is the reading of the method -/
theorem meth_ps {T : String} {id : String} {r : V → List V → Hp → VK → Prop} (pa : PlainAttrs T) (slot : PySem.Slot T m id) (hty : typeOf (.builtin id) = pure (.type "method_descriptor")) (hm : MtR X id r) (hk : methOk (e :: es) p2 pos = true) :
    PS X (.Expr (.Call (.Attribute (.Name x p) m p2) (e :: es) [] pos) pos) (tDrop (tBM X.K T r (WE X (.Name x p)) (WEs X (e :: es)))) := by
  unfold methOk at hk
  simp only [Bool.and_eq_true, decide_eq_true_eq] at hk
  obtain ⟨⟨h1, h2⟩, h3⟩ := hk
  have h' : noStar e = true ∧ noStars es = true := by simpa [noStars] using h1
  exact ps_expr (pe_bm pa slot hty hm pe_WE (pa_WEs h1) (abase ⟨x, p, rfl⟩) (few_ok h1 h2) h3 (star1 h'.1) (stars_any h'.2)) rfl
/-- the mirror of a change of a slot's list by moved values -/
def mMut (κ : List Kd) (i : Nat) (g : M (List D)) (q : List D → List D → Option (List D)) : M Out := fun ρ => match slotL i ρ with
  | none => .stuck
  | some _ => (bnd g fun as ρ1 => match slotL i ρ1 with
    | none => .stuck
    | some ds => if noRd κ ρ1 then match q ds as with
      | none => .stuck
      | some ds' => .ok .nx (ρ1.set i (.lst ds')) else .stuck) ρ
theorem wpx_mut {κ : List Kd} {i : Nat} {g : M (List D)} {q : List D → List D → Option (List D)} {ρ : List D} {Q : Out → List D → Prop} {E : D → List D → Prop} (h : wpx (mMut κ i g q ρ) Q E) :
    ∃ ds0, ρ[i]? = some (.lst ds0) ∧ wpx (g ρ) (fun as ρ1 => ∃ ds ds', ρ1[i]? = some (.lst ds) ∧ noR κ ρ1 ∧ q ds as = some ds' ∧ Q .nx (ρ1.set i (.lst ds'))) E := by
  unfold mMut at h
  split at h
  · exact h.elim
  · rename_i ds0 h0
    refine ⟨ds0, slotL_get h0, wpx_mono (wpx_bnd h) (fun as ρ1 hd => ?_) fun _ _ z => z⟩
    split at hd
    · exact hd.elim
    · rename_i ds h1
      split at hd
      · rename_i hr
        split at hd
        · exact hd.elim
        · rename_i ds' h2
          exact ⟨ds, ds', slotL_get h1, noR_of hr, h2, hd⟩
      · exact hd.elim
theorem tyL {K : PySem.W.Frag} {a : Addr} {vs : List V} {H : Hp} (h : H a = some (.lst vs)) : tyV K "list" (.ref a) H := .inl ⟨rfl, vs, SqL.of h⟩
def okN (S : Sx) (x : Str) (i : Nat) : Bool := S.N[i]? == some x && visB S.sc x && okName x
theorem okN_get (h : okN S x i = true) : S.N[i]? = some x ∧ visB S.sc x = true ∧ okName x = true := by
  unfold okN at h
  simp only [Bool.and_eq_true, beq_iff_eq] at h
  exact ⟨h.1.1, h.1.2, h.2⟩
theorem mut_fin {K : PySem.W.Frag} {cl : Cl} {np : Nat} {pr : List Nat} {κ : List Kd} {A : Gd} {fp fp1 : Nat → List Addr} {tmp : Addr → Prop} {σ : L2.St} {H H1 : Hp} {ρ1 : List D} {F : List Addr} {a0 : Addr} {ds : List D} (hk : ownK κ i (k + 1) = true) (hs0 : σ[i]? = some (some (.ref a0))) (I1 : SI K cl κ A fp1 (tF tmp F) σ H1 ρ1) (hr : noR κ ρ1) (h1 : ρ1[i]? = some (.lst ds))
    (s1 : StS np pr fp tmp σ H fp1 (tF tmp F) σ H1) (gv : Giv np fp H F) (nF : ∀ b ∈ F, ¬ tmp b ∧ ¬ A.C b) (okF : ∀ b ∈ F, A.ok b) :
    ∃ vs1 Fs, H1 a0 = some (.lst vs1) ∧ OwnL K cl H1 (Sh A fp1 (tF tmp F)) k Fs vs1 ds ∧ Fs.Nodup ∧ (∀ b ∈ Fs, b ∉ F) ∧ a0 ∉ F ∧ (∀ vs' ds' G, (∀ b ∈ G, b ∈ Fs ∨ b ∈ F) → G.Nodup → OwnL K cl H1 (Sh A fp1 (tF tmp F)) k G vs' ds' →
      ∃ fp2, SI K cl κ A fp2 tmp σ (upd H1 a0 (.lst vs')) (ρ1.set i (.lst ds')) ∧ StS np pr fp tmp σ H fp2 tmp σ (upd H1 a0 (.lst vs'))) := by
  obtain ⟨v1, hs1, o1⟩ := I1.root hk h1 (by simp)
  rw [hs0] at hs1; cases hs1
  obtain ⟨a1, vs1, Fs, e1, eF, hH, rl⟩ := o1.lst'
  cases e1
  have ain : a0 ∈ fp1 i := by rw [eF]; exact List.mem_cons_self
  have nd1 : (a0 :: Fs).Nodup := by rw [← eF]; exact I1.nd i
  have nd2 := List.nodup_cons.mp nd1
  have dis : ∀ b ∈ F, b ∉ fp1 i := fun b hb z => I1.dt i b z (.inr hb)
  refine ⟨vs1, Fs, hH, rl, nd2.2, fun b hb z => dis b z (by rw [eF]; exact List.mem_cons_of_mem _ hb), fun z => dis _ z ain, fun vs' ds' G hG ndG oG => ?_⟩
  have ns : ¬ Still (.lst vs1) := fun z => z
  have e5 : Ext (fun b => b = a0) H1 (upd H1 a0 (.lst vs')) := Ext.set hH ns rfl
  have shN : ∀ b, Sh A fp1 (tF tmp F) b → H1 b ≠ none → Sh A fp1 (tF tmp F) b ∧ ¬ b = a0 := fun b s _ => ⟨s, fun z => s.2 (.inl ⟨i, by rw [z]; exact ain⟩)⟩
  have nG : a0 ∉ G := fun z => (hG a0 z).elim nd2.1 fun y => dis a0 y ain
  have hF' : ∀ b ∈ a0 :: G, b ∈ fp1 i ∨ b ∈ F := fun b hb => by
    rw [eF]
    rcases List.mem_cons.mp hb with z | z
    · exact .inl (by rw [z]; exact List.mem_cons_self)
    · exact (hG b z).imp (List.mem_cons_of_mem _) id
  have ow : Own K cl (upd H1 a0 (.lst vs')) (Sh A fp1 (tF tmp F)) (k + 1) (a0 :: G) (.ref a0) (.lst ds') := .lst upd_same (OwnL.ext e5 shN (fun b hb z => nG (by rw [← z]; exact hb)) oG)
  exact ⟨_, I1.mut hr hk ain hs0 hH ns hF' nF okF (List.nodup_cons.mpr ⟨nG, ndG⟩) ow, s1.mut ain hH ns hF' gv⟩
def qApp (ds as : List D) : Option (List D) := match as with
  | [d] => if ds.length < 16777216 then some (ds ++ [d]) else none
  | _ => none
theorem qApp_get {ds : List D} {d : D} {ds' : List D} (h : qApp ds [d] = some ds') : ds.length < 16777216 ∧ ds' = ds ++ [d] := by
  simp only [qApp] at h
  split at h
  · cases h; exact ⟨by assumption, rfl⟩
  · cases h
/-- append -/
theorem s1_append (hn : okN S x i = true) (hk : ownK S.κ i (k + 1) = true) (hm : methOk [e] p2 pos = true) (h : SM S k e f) :
    S1 S (.Expr (.Call (.Attribute (.Name x p) "append" p2) [e] [] pos) pos) (mMut S.κ i (mCons f mNil) qApp) := by
  intro X fit W tk po A fp tmp σ H ρ D I hw
  obtain ⟨ds0, h0, hw⟩ := wpx_mut hw
  obtain ⟨n1, n2, n3⟩ := okN_get hn
  obtain ⟨v0, hs0, o0⟩ := I.root hk h0 (by simp)
  obtain ⟨a0, vs0, Fs0, rfl, eF0, hH0, r0⟩ := o0.lst'
  refine ⟨_, meth_ps F.plainAttrs_list F.slot_list_append F.type_list_append mt_append hm, ?_⟩
  refine we_var fit n1 n2 n3 hs0 ⟨tyL hH0, ?_⟩
  refine sms_cons h sms_nil X fit W tk A fp tmp σ H ρ _ I (wpx_mono hw (fun as ρ1 hd vs H1 fp1 F I1 s1 gv nF r => ?_) fun _ _ z => z)
  obtain ⟨ds, ds', h1, hr, hq, hQ⟩ := hd
  obtain ⟨w, d, rfl, rfl, rw1⟩ := r.one
  obtain ⟨hz, rfl⟩ := qApp_get hq
  obtain ⟨vs1, Fs, hH, rl, nd, dis, naF, fin⟩ := mut_fin hk hs0 I1 hr h1 s1 gv nF fun b hb => (rw1.2.1 b hb).2
  obtain ⟨fp2, I2, s2⟩ := fin (vs1 ++ [w]) (ds ++ [d]) (Fs ++ F) (fun b hb => List.mem_append.mp hb) (List.nodup_append.mpr ⟨nd, rw1.1, fun y hy z hz e => dis y hy (by rw [e]; exact hz)⟩) (OwnL.snoc rl rw1.2.2)
  exact ⟨a0, vs1, w, rfl, rfl, hH, by rw [rl.length]; exact hz, hQ σ _ fp2 I2 s2⟩
end
end VS

set_option Elab.async false
set_option linter.all false
set_option maxRecDepth 100000
set_option maxHeartbeats 4000000
/-! VS22: paths into owned data. -/
namespace VS
open PySem PySem.Spec PyProof.Rows L2
def setSnd {α : Type} : List (α × D) → Nat → D → List (α × D)
  | [], _, _ => []
  | (k, _) :: es, 0, d => (k, d) :: es
  | e :: es, j + 1, d => e :: setSnd es j d
theorem setSnd_fst {α : Type} : ∀ {es : List (α × D)} {j : Nat} {d : D}, (setSnd es j d).map (·.1) = es.map (·.1)
  | [], _, _ => rfl
  | (k, _) :: es, 0, d => rfl
  | e :: es, j + 1, d => by simp [setSnd, setSnd_fst (es := es)]
theorem setSnd_snd {α : Type} : ∀ {es : List (α × D)} {j : Nat} {d : D}, (setSnd es j d).map (·.2) = (es.map (·.2)).set j d
  | [], _, _ => rfl
  | (k, _) :: es, 0, d => rfl
  | e :: es, j + 1, d => by simp [setSnd, setSnd_snd (es := es)]
def D.kid (d : D) (j : Nat) : Option D := match d with
  | .lst ds => ds[j]?
  | .dic es => (es.map (·.2))[j]?
  | .obj _ es => (es.map (·.2))[j]?
  | _ => none
def D.setKid (d : D) (j : Nat) (x : D) : D := match d with
  | .lst ds => .lst (ds.set j x)
  | .dic es => .dic (setSnd es j x)
  | .obj c es => .obj c (setSnd es j x)
  | d => d
def D.at (d : D) : List Nat → Option D
  | [] => some d
  | j :: p => match d.kid j with
    | some c => c.at p
    | none => none
def D.put (d : D) : List Nat → D → D
  | [], x => x
  | j :: p, x => match d.kid j with
    | some c => d.setKid j (c.put p x)
    | none => d
/-- the value at a path -/
inductive Rc (H : Hp) : V → List Nat → V → Prop
  | nil {v : V} : Rc H v [] v
  | lst {a : Addr} {vs : List V} {j : Nat} {p : List Nat} {w u : V} : H a = some (.lst vs) → vs[j]? = some w → Rc H w p u → Rc H (.ref a) (j :: p) u
  | dic {a : Addr} {kvs : List (Key × V)} {j : Nat} {p : List Nat} {w u : V} : H a = some (.dK kvs) → (kvs.map (·.2))[j]? = some w → Rc H w p u → Rc H (.ref a) (j :: p) u
  | obj {a C dx : Addr} {fs : List (Str × V)} {j : Nat} {p : List Nat} {w u : V} : H a = some (.ins C dx fs) → (fs.map (·.2))[j]? = some w → Rc H w p u → Rc H (.ref a) (j :: p) u
theorem Rc.inj {H : Hp} {v u w : V} {p : List Nat} (h : Rc H v p u) (h' : Rc H v p w) : u = w := by
  induction h with
  | nil => cases h'; rfl
  | lst e1 e2 _ ih => cases h' with
    | lst e1' e2' r => rw [e1] at e1'; cases e1'; rw [e2] at e2'; cases e2'; exact ih r
    | dic e1' _ _ => rw [e1] at e1'; cases e1'
    | obj e1' _ _ => rw [e1] at e1'; cases e1'
  | dic e1 e2 _ ih => cases h' with
    | lst e1' e2' r => rw [e1] at e1'; cases e1'
    | dic e1' e2' r => rw [e1] at e1'; cases e1'; rw [e2] at e2'; cases e2'; exact ih r
    | obj e1' _ _ => rw [e1] at e1'; cases e1'
  | obj e1 e2 _ ih => cases h' with
    | lst e1' e2' r => rw [e1] at e1'; cases e1'
    | dic e1' e2' r => rw [e1] at e1'; cases e1'
    | obj e1' e2' r => rw [e1] at e1'; cases e1'; rw [e2] at e2'; cases e2'; exact ih r
section
variable {K : PySem.W.Frag} {cl : Cl} {H : Hp} {S : Addr → Prop}
theorem OwnL.focus {k : Nat} : ∀ {Fs : List Addr} {vs : List V} {ds : List D} {j : Nat} {d : D}, OwnL K cl H S k Fs vs ds → ds[j]? = some d → ∃ A B F0 v0, Fs = A ++ F0 ++ B ∧ vs[j]? = some v0 ∧ Own K cl H S k F0 v0 d ∧
    ∀ (P : Addr → Prop) (H' : Hp) (S' : Addr → Prop) (F0' : List Addr) (v' : V) (d' : D), Ext P H H' → (∀ b, S b → H b ≠ none → S' b ∧ ¬ P b) → (∀ b ∈ A ++ B, ¬ P b) → Own K cl H' S' k F0' v' d' → OwnL K cl H' S' k (A ++ F0' ++ B) (vs.set j v') (ds.set j d')
  | _, _, _, _, _, .nil, h => by simp at h
  | _, _, _, 0, d, .cons (F := F) (Fs := Fs) (v := v) (vs := vs) (d := d0) (ds := ds) o r, h => by
    have e : d0 = d := by simpa using h
    subst e
    refine ⟨[], Fs, F, v, by simp, rfl, o, fun P H' S' F0' v' d' e hs hP o' => ?_⟩
    exact .cons o' (OwnL.ext e hs (fun b hb => hP b (by simpa using hb)) r)
  | _, _, _, j + 1, d, .cons (F := F) (Fs := Fs) (v := v) (vs := vs) (d := d0) (ds := ds) o r, h => by
    obtain ⟨A, B, F0, v0, eF, ev, o0, k'⟩ := OwnL.focus (j := j) r (by simpa using h)
    refine ⟨F ++ A, B, F0, v0, by rw [eF]; simp, by simpa using ev, o0, fun P H' S' F0' v' d' e hs hP o' => ?_⟩
    have z := OwnL.cons (Own.ext e hs (fun b hb => hP b (by simp [hb])) o) (k' P H' S' F0' v' d' e hs (fun b hb => hP b (by
      rcases List.mem_append.mp hb with z | z <;> simp [z])) o')
    simpa using z
theorem set_self {α : Type} : ∀ {l : List α} {j : Nat} {x : α}, l[j]? = some x → l.set j x = l
  | [], _, _, h => by simp at h
  | y :: l, 0, x, h => by simp at h; simp [h]
  | y :: l, j + 1, x, h => by simp at h; simp [set_self h]
theorem kid_lst {d x : D} {j : Nat} (h : d.kid j = some x) : d.flat = false := by cases d <;> simp [D.kid] at h <;> rfl
theorem Own.focus : ∀ {p : List Nat} {k : Nat} {F : List Addr} {v : V} {d d0 : D}, Own K cl H S (k + p.length) F v d → d.at p = some d0 → ∃ A B F0 v0, F = A ++ F0 ++ B ∧ Rc H v p v0 ∧ Own K cl H S k F0 v0 d0 ∧
    ∀ (P : Addr → Prop) (H' : Hp) (S' : Addr → Prop) (F0' : List Addr) (d' : D), Ext P H H' → (∀ b, S b → H b ≠ none → S' b ∧ ¬ P b) → (∀ b ∈ A ++ B, ¬ P b) → Own K cl H' S' k F0' v0 d' → Own K cl H' S' (k + p.length) (A ++ F0' ++ B) v (d.put p d')
  | [], k, F, v, d, d0, o, h => by
    simp only [D.at, Option.some.injEq] at h
    subst h
    refine ⟨[], [], F, v, by simp, .nil, o, fun P H' S' F0' d' e hs hP o' => ?_⟩
    simpa [D.put] using o'
  | j :: p, k, F, v, d, d0, o, h => by
    simp only [D.at] at h
    cases hc : d.kid j with
    | none => rw [hc] at h; cases h
    | some c =>
      rw [hc] at h
      simp only at h
      have hfl := kid_lst hc
      have o2 : Own K cl H S (k + p.length + 1) F v d := o
      cases o2 with
      | fr hr hf => exact (hf.elim (fun z => by omega) fun z => by rw [hfl] at z; cases z)
      | @lst _ _ a0 _ _ e r =>
        obtain ⟨A, B, F0, v0, eF, ev, oc, kk⟩ := OwnL.focus r hc
        obtain ⟨A2, B2, F1, v1, eF1, rc, o1, k1⟩ := Own.focus (p := p) (k := k) oc h
        refine ⟨a0 :: (A ++ A2), B2 ++ B, F1, v1, by rw [eF, eF1]; simp, .lst e ev rc, o1, fun P H' S' F0' d' ex hs hP o' => ?_⟩
        have c' := k1 P H' S' F0' d' ex hs (fun b hb => hP b (by
          rcases List.mem_append.mp hb with z | z <;> simp [z])) o'
        have l' := kk P H' S' _ v0 _ ex hs (fun b hb => hP b (by
          rcases List.mem_append.mp hb with z | z <;> simp [z])) c'
        rw [set_self ev] at l'
        have z := Own.lst (k := k + p.length) (ex.keep _ _ e (hP _ (by simp))) l'
        simp only [D.put, hc, D.setKid]
        simpa [Nat.add_assoc] using z
      | @dic _ _ a0 _ _ e hk r =>
        obtain ⟨A, B, F0, v0, eF, ev, oc, kk⟩ := OwnL.focus r hc
        obtain ⟨A2, B2, F1, v1, eF1, rc, o1, k1⟩ := Own.focus (p := p) (k := k) oc h
        refine ⟨a0 :: (A ++ A2), B2 ++ B, F1, v1, by rw [eF, eF1]; simp, .dic e ev rc, o1, fun P H' S' F0' d' ex hs hP o' => ?_⟩
        have c' := k1 P H' S' F0' d' ex hs (fun b hb => hP b (by
          rcases List.mem_append.mp hb with z | z <;> simp [z])) o'
        have l' := kk P H' S' _ v0 _ ex hs (fun b hb => hP b (by
          rcases List.mem_append.mp hb with z | z <;> simp [z])) c'
        rw [set_self ev, ← setSnd_snd] at l'
        have z := Own.dic (k := k + p.length) (ex.keep _ _ e (hP _ (by simp))) (by rw [setSnd_fst]; exact hk) l'
        simp only [D.put, hc, D.setKid]
        simpa [Nat.add_assoc] using z
      | @obj _ _ a0 _ _ _ _ _ e hcl hk r =>
        obtain ⟨A, B, F0, v0, eF, ev, oc, kk⟩ := OwnL.focus r hc
        obtain ⟨A2, B2, F1, v1, eF1, rc, o1, k1⟩ := Own.focus (p := p) (k := k) oc h
        refine ⟨a0 :: (A ++ A2), B2 ++ B, F1, v1, by rw [eF, eF1]; simp, .obj e ev rc, o1, fun P H' S' F0' d' ex hs hP o' => ?_⟩
        have c' := k1 P H' S' F0' d' ex hs (fun b hb => hP b (by
          rcases List.mem_append.mp hb with z | z <;> simp [z])) o'
        have l' := kk P H' S' _ v0 _ ex hs (fun b hb => hP b (by
          rcases List.mem_append.mp hb with z | z <;> simp [z])) c'
        rw [set_self ev, ← setSnd_snd] at l'
        have z := Own.obj (k := k + p.length) (ex.keep _ _ e (hP _ (by simp))) hcl (by rw [setSnd_fst]; exact hk) l'
        simp only [D.put, hc, D.setKid]
        simpa [Nat.add_assoc] using z
end
/-! ### a node of a slot's data -/
section
variable {K : PySem.W.Frag} {cl : Cl} {np : Nat} {pr : List Nat} {κ : List Kd} {A : Gd} {fp fp1 : Nat → List Addr} {tmp : Addr → Prop} {σ : L2.St} {H H1 : Hp} {ρ1 : List D} {F : List Addr} {v : V} {i k : Nat} {p : List Nat} {d d0 : D}
theorem nodup_mid {A B F G : List Addr} (h : (A ++ F ++ B).Nodup) (hG : G.Nodup) (hd : ∀ b ∈ G, b ∈ F ∨ (b ∉ A ∧ b ∉ B)) : (A ++ G ++ B).Nodup := by
  simp only [List.nodup_append, List.mem_append] at h ⊢
  obtain ⟨⟨hA, hF, hAF⟩, hB, hAB⟩ := h
  refine ⟨⟨hA, hG, fun x hx y hy e => ?_⟩, hB, fun x hx y hy e => ?_⟩
  · subst e
    exact (hd x hy).elim (fun z => hAF x hx x z rfl) fun z => z.1 hx
  · subst e
    rcases hx with hx | hx
    · exact hAB x (.inl hx) x hy rfl
    · exact (hd x hx).elim (fun z => hAB x (.inr z) x hy rfl) fun z => z.2 hy
/-- the node at a path of a slot: where it stands, and how it is changed -/
theorem node_fin (hk : ownK κ i (k + p.length) = true) (hs0 : σ[i]? = some (some v)) (I1 : SI K cl κ A fp1 (tF tmp F) σ H1 ρ1) (hr : noR κ ρ1) (h1 : ρ1[i]? = some d) (hu : d ≠ .un) (hp : d.at p = some d0)
    (s1 : StS np pr fp tmp σ H fp1 (tF tmp F) σ H1) (gv : Giv np fp H F) (nF : ∀ b ∈ F, ¬ tmp b ∧ ¬ A.C b) (okF : ∀ b ∈ F, A.ok b) :
    ∃ v0 F0, Rc H1 v p v0 ∧ Own K cl H1 (Sh A fp1 (tF tmp F)) k F0 v0 d0 ∧ F0.Nodup ∧ (∀ b ∈ F0, b ∉ F) ∧ (∀ b ∈ F0, b ∈ fp1 i) ∧
      ∀ (a : Addr) (u o : HO) (d' : D) (G : List Addr), a ∈ F0 → H1 a = some u → ¬ Still u → (∀ b ∈ G, b ∈ F0 ∨ b ∈ F) → G.Nodup → Own K cl (upd H1 a o) (Sh A fp1 (tF tmp F)) k G v0 d' →
        ∃ fp2, SI K cl κ A fp2 tmp σ (upd H1 a o) (ρ1.set i (d.put p d')) ∧ StS np pr fp tmp σ H fp2 tmp σ (upd H1 a o) := by
  obtain ⟨v1, hs1, o1⟩ := I1.root hk h1 hu
  rw [hs0] at hs1; cases hs1
  obtain ⟨A1, B1, F0, v0, eF, rc, o0, kk⟩ := o1.focus hp
  have nd : (A1 ++ F0 ++ B1).Nodup := by rw [← eF]; exact I1.nd i
  have dis : ∀ b ∈ F, b ∉ fp1 i := fun b hb z => I1.dt i b z (.inr hb)
  have inF : ∀ b ∈ F0, b ∈ fp1 i := fun b hb => by rw [eF]; simp [hb]
  have nd0 : F0.Nodup := by
    simp only [List.nodup_append] at nd
    exact nd.1.2.1
  refine ⟨v0, F0, rc, o0, nd0, fun b hb z => dis b z (inF b hb), inF, fun a u o d' G ha hH ns hG ndG oG => ?_⟩
  have ain := inF a ha
  have e5 : Ext (fun b => b = a) H1 (upd H1 a o) := Ext.set hH ns rfl
  have shN : ∀ b, Sh A fp1 (tF tmp F) b → H1 b ≠ none → Sh A fp1 (tF tmp F) b ∧ ¬ b = a := fun b s _ => ⟨s, fun z => s.2 (.inl ⟨i, by rw [z]; exact ain⟩)⟩
  have nAB : ∀ b ∈ A1 ++ B1, ¬ b = a := fun b hb z => by
    subst z
    simp only [List.nodup_append, List.mem_append] at nd
    rcases List.mem_append.mp hb with y | y
    · exact nd.1.2.2 b y b ha rfl
    · exact nd.2.2 b (.inr ha) b y rfl
  have ow := kk _ _ _ G d' e5 shN nAB oG
  have hF' : ∀ b ∈ A1 ++ G ++ B1, b ∈ fp1 i ∨ b ∈ F := fun b hb => by
    rw [eF]
    rcases List.mem_append.mp hb with z | z
    · rcases List.mem_append.mp z with y | y
      · exact .inl (by simp [y])
      · exact (hG b y).imp (fun q => by simp [q]) id
    · exact .inl (by simp [z])
  have ndF : (A1 ++ G ++ B1).Nodup := nodup_mid nd ndG fun b hb => (hG b hb).imp id fun z => ⟨fun y => dis b z (by rw [eF]; simp [y]), fun y => dis b z (by rw [eF]; simp [y])⟩
  exact ⟨_, I1.mut hr hk ain hs0 hH ns hF' nF okF ndF ow, s1.mut ain hH ns hF' gv⟩
end
end VS

set_option Elab.async false
set_option linter.all false
set_option maxRecDepth 100000
set_option maxHeartbeats 4000000
/-! VS23: expressions that name a node of a slot's data; lists changed there. -/
namespace VS
open PySem PySem.Spec PyProof.Rows L2
section
variable {K : PySem.W.Frag} {cl : Cl} {H H' : Hp} {S : Addr → Prop}
theorem Own.rc_ext {P : Addr → Prop} (ex : Ext P H H') : ∀ {p : List Nat} {k : Nat} {F : List Addr} {v u : V} {d d0 : D}, Own K cl H S (k + p.length) F v d → d.at p = some d0 → Rc H v p u → (∀ b ∈ F, ¬ P b) → Rc H' v p u
  | [], _, _, _, _, _, _, _, _, .nil, _ => .nil
  | j :: p, k, F, v, u, d, d0, o, h, rc, hF => by
    simp only [D.at] at h
    cases hc : d.kid j with
    | none => rw [hc] at h; cases h
    | some c =>
      rw [hc] at h
      simp only at h
      have hfl := kid_lst hc
      have o2 : Own K cl H S (k + p.length + 1) F v d := o
      cases o2 with
      | fr hr hf => exact (hf.elim (fun z => by omega) fun z => by rw [hfl] at z; cases z)
      | @lst _ _ a0 _ _ e r =>
        obtain ⟨A, B, F0, v0, eF, ev, oc, _⟩ := OwnL.focus r hc
        cases rc with
        | lst e1 e2 rc =>
          rw [e] at e1; cases e1
          rw [ev] at e2; cases e2
          exact .lst (ex.keep _ _ e (hF _ List.mem_cons_self)) ev (Own.rc_ext ex oc h rc fun b hb => hF b (by rw [eF]; simp [hb]))
        | dic e1 _ _ => rw [e] at e1; cases e1
        | obj e1 _ _ => rw [e] at e1; cases e1
      | @dic _ _ a0 _ _ e hk r =>
        obtain ⟨A, B, F0, v0, eF, ev, oc, _⟩ := OwnL.focus r hc
        cases rc with
        | lst e1 e2 rc => rw [e] at e1; cases e1
        | dic e1 e2 rc =>
          rw [e] at e1; cases e1
          rw [ev] at e2; cases e2
          exact .dic (ex.keep _ _ e (hF _ List.mem_cons_self)) ev (Own.rc_ext ex oc h rc fun b hb => hF b (by rw [eF]; simp [hb]))
        | obj e1 _ _ => rw [e] at e1; cases e1
      | @obj _ _ a0 _ _ _ _ _ e hcl hk r =>
        obtain ⟨A, B, F0, v0, eF, ev, oc, _⟩ := OwnL.focus r hc
        cases rc with
        | lst e1 e2 rc => rw [e] at e1; cases e1
        | dic e1 _ _ => rw [e] at e1; cases e1
        | obj e1 e2 rc =>
          rw [e] at e1; cases e1
          rw [ev] at e2; cases e2
          exact .obj (ex.keep _ _ e (hF _ List.mem_cons_self)) ev (Own.rc_ext ex oc h rc fun b hb => hF b (by rw [eF]; simp [hb]))
end
/-- slot i is lent to nothing here -/
def Sx.lk (S : Sx) (i k : Nat) : Sx := { S with κ := S.κ.set i (.L k) }
section
variable {K : PySem.W.Frag} {cl : Cl} {np : Nat} {pr : List Nat} {κ : List Kd} {A : Gd} {fp fp' : Nat → List Addr} {tmp tmp' : Addr → Prop} {σ : L2.St} {H H' : Hp} {ρ ρ' : List D} {i k : Nat}
theorem lk_get {j : Nat} {c : Kd} (hk : ownK κ i k = true) (h : (κ.set i (.L k))[j]? = some c) : (j = i ∧ c = .L k) ∨ (j ≠ i ∧ κ[j]? = some c) := by
  by_cases hj : i = j
  · subst hj
    have : i < κ.length := by rcases ownK_get hk with z | z <;> exact (List.getElem?_eq_some_iff.mp z).1
    rw [List.getElem?_set_self this] at h
    cases h
    exact .inl ⟨rfl, rfl⟩
  · rw [List.getElem?_set_ne hj] at h
    exact .inr ⟨Ne.symm hj, h⟩
theorem lk_self (hk : ownK κ i k = true) : (κ.set i (.L k))[i]? = some (.L k) := by
  have : i < κ.length := by rcases ownK_get hk with z | z <;> exact (List.getElem?_eq_some_iff.mp z).1
  exact List.getElem?_set_self this
theorem lk_ne {j : Nat} (h : j ≠ i) : (κ.set i (.L k))[j]? = κ[j]? := List.getElem?_set_ne (Ne.symm h)
theorem hv_lk (hk : ownK κ i k = true) {j : Nat} : hv (κ.set i (.L k)) j ↔ hv κ j := by
  unfold hv
  by_cases hj : j = i
  · subst hj
    rw [lk_self hk]
    constructor
    · intro _
      rcases ownK_get hk with z | z <;> exact ⟨_, z, rfl⟩
    · intro _
      exact ⟨_, rfl, rfl⟩
  · rw [lk_ne hj]
theorem lk_X {j : Nat} (h : isX (κ.set i (.L k)) j) (hk : ownK κ i k = true) : isX κ j := by
  obtain ⟨m, h⟩ := h
  rcases lk_get hk h with ⟨_, z⟩ | ⟨_, z⟩
  · cases z
  · exact ⟨m, z⟩
theorem SI.lk (I : SI K cl κ A fp tmp σ H ρ) (hk : ownK κ i k = true) : SI K cl (κ.set i (.L k)) A fp tmp σ H ρ := by
  refine ⟨by simpa using I.sz, I.an, I.ca, I.fa, I.fA, I.dj, I.nd, I.dt, I.cd, fun j b h => (hv_lk hk).mpr (I.lf j b h), fun j d c e1 e2 e3 => ?_⟩
  rcases lk_get hk e3 with ⟨rfl, rfl⟩ | ⟨_, h⟩
  · exact I.root hk e1 e2
  · obtain ⟨v, a, b⟩ := I.sl j d c e1 e2 h
    refine ⟨v, a, ?_⟩
    cases c with
    | R => exact Rp.up b fun x s => ⟨fun ⟨m, hx, z⟩ => s.1 ⟨m, lk_X hx hk, z⟩, s.2⟩
    | F => exact b
    | B => exact b
    | L k => exact b
    | X k => exact b
theorem SI.unlk (I : SI K cl (κ.set i (.L k)) A fp tmp σ H ρ) (hk : ownK κ i k = true) (hr : noR κ ρ) : SI K cl κ A fp tmp σ H ρ := by
  refine ⟨by simpa using I.sz, I.an, I.ca, I.fa, I.fA, I.dj, I.nd, I.dt, I.cd, fun j b h => (hv_lk hk).mp (I.lf j b h), fun j d c e1 e2 e3 => ?_⟩
  by_cases hj : j = i
  · subst hj
    obtain ⟨v, a, b⟩ := I.sl j d _ e1 e2 (lk_self hk)
    refine ⟨v, a, ?_⟩
    rcases ownK_get hk with z | z <;> (rw [e3] at z; cases z; exact b)
  · obtain ⟨v, a, b⟩ := I.sl j d c e1 e2 (by rw [lk_ne hj]; exact e3)
    refine ⟨v, a, ?_⟩
    cases c with
    | R => exact absurd (hr j d e3 e1) e2
    | F => exact b
    | B => exact b
    | L k => exact b
    | X k => exact b
theorem noR.lk (h : noR κ ρ) (hk : ownK κ i k = true) : noR (κ.set i (.L k)) ρ := fun j d e1 e2 => by
  rcases lk_get hk e1 with ⟨_, z⟩ | ⟨_, z⟩
  · cases z
  · exact h j d z e2
theorem noR.unlk (h : noR (κ.set i (.L k)) ρ) (hk : ownK κ i k = true) : noR κ ρ := fun j d e1 e2 => by
  by_cases hj : j = i
  · subst hj
    rcases ownK_get hk with z | z <;> (rw [e1] at z; cases z)
  · exact h j d (by rw [lk_ne hj]; exact e1) e2
theorem Stp.lk (s : Stp (κ.set i (.L k)) fp tmp H ρ fp' tmp' H' ρ') : StS np pr fp tmp σ H fp' tmp' σ H' := ⟨s.ex.mono fun _ z => .inl z.os, s.ow, fun i b h => (s.si i b h).imp id .inr, fun _ _ => rfl⟩
end
section
variable {S : Sx} {X : Cx} {i k K n : Nat} {e o : Expr} {es : List Expr} {ms : List Mode} {x m : Str} {pos p p2 : Pos} {f : M D} {g : M (List Nat)} {ge : M (List D)}
theorem Fit.lk (fit : Fit S X) : Fit (S.lk i k) X := ⟨fit.hN, fit.nd, fit.sc, fit.calm, fit.room, fit.fn, fit.fs, fit.cs, fit.bl, by show (S.κ.set i _).length = _; rw [List.length_set]; exact fit.kl, fit.bf⟩
theorem XS.xql {W : WX} {np : Nat} {pr : List Nat} {κ : List Kd} {A : Gd} {fp : Nat → List Addr} {tmp : Addr → Prop} {σ : L2.St} {H : Hp} {x : D} {ρ ρ' : List D} (hk : ownK κ i k = true) (hr : noR κ ρ) (h : XS X W np pr κ A fp tmp σ H x ρ') : XQ X W (κ.set i (.L k)) A fp tmp σ H ρ x ρ' :=
  fun cls dx H' fp' I s q => h cls dx σ H' fp' (I.unlk hk (noR.unlk ((hr.lk hk).stp s) hk)) s.lk q
/-- an expression that names the node at a path of slot i (owned to depth K, lent to nothing) -/
def SPa (S : Sx) (i K : Nat) (e : Expr) (g : M (List Nat)) : Prop :=
  ∀ (X : Cx), Fit S X → ∀ (W : WX), Takes X W → ∀ (A : Gd) (fp : Nat → List Addr) (tmp : Addr → Prop) (σ : L2.St) (H : Hp) (ρ : List D) (Q : VK),
    SI X.K (clX X.mg) S.κ A fp tmp σ H ρ →
    wpx (g ρ) (fun p ρ' => ∀ v0 H' fp', SI X.K (clX X.mg) S.κ A fp' tmp σ H' ρ' → Stp S.κ fp tmp H ρ fp' tmp H' ρ' → (∃ v d d0, σ[i]? = some (some v) ∧ ρ'[i]? = some d ∧ d ≠ .un ∧ d.at p = some d0 ∧ p.length ≤ K ∧ Rc H' v p v0) → Q v0 H')
      (XQ X W S.κ A fp tmp σ H ρ) → WE X e σ H Q
def mPv (i : Nat) : M (List Nat) := fun ρ => match ρ.getD i .un with
  | .un => .stuck
  | _ => .ok [] ρ
theorem wpx_pv {i : Nat} {ρ : List D} {Q : List Nat → List D → Prop} {E : D → List D → Prop} (h : wpx (mPv i ρ) Q E) : ∃ d, ρ[i]? = some d ∧ d ≠ .un ∧ Q [] ρ := by
  unfold mPv at h
  cases q : ρ[i]? with
  | none => simp [List.getD, q, wpx] at h
  | some d =>
    simp only [List.getD, q, Option.getD_some] at h
    refine ⟨d, rfl, ?_⟩
    cases d <;> simp only at h <;> first
      | exact h.elim
      | exact ⟨by simp, h⟩
theorem spa_var (hn : okN S x i = true) (hk : S.κ[i]? = some (.L K)) : SPa S i K (.Name x pos) (mPv i) := by
  intro X fit W tk A fp tmp σ H ρ Q I hw
  obtain ⟨n1, n2, n3⟩ := okN_get hn
  obtain ⟨d, h1, hu, hq⟩ := wpx_pv hw
  obtain ⟨v, hs, _⟩ := I.sl i d _ h1 hu hk
  exact we_var fit n1 n2 n3 hs (hq v H fp I .refl ⟨v, d, d, hs, h1, hu, rfl, Nat.zero_le _, .nil⟩)
/-- the list at a path -/
def nodeAt (i : Nat) (p : List Nat) (ρ : List D) : Option D := (ρ[i]?).bind fun d => d.at p
def mPix (i K : Nat) (g : M (List Nat)) (fa : M D) : M (List Nat) := bnd g fun p => bnd fa fun j ρ => match nodeAt i p ρ, j with
  | some (.lst ds), .int t => match ixN ds.length t with
    | some m => if p.length < K then .ok (p ++ [m]) ρ else .stuck
    | none => .stuck
  | _, _ => .stuck
theorem wpx_pix {i K : Nat} {p : List Nat} {j : D} {ρ : List D} {Q : List Nat → List D → Prop} {E : D → List D → Prop} (h : wpx (match nodeAt i p ρ, j with
  | some (.lst ds), .int t => match ixN ds.length t with
    | some m => if p.length < K then R.ok (p ++ [m]) ρ else .stuck
    | none => .stuck
  | _, _ => .stuck) Q E) : ∃ d ds t m, ρ[i]? = some d ∧ d.at p = some (.lst ds) ∧ j = .int t ∧ ixN ds.length t = some m ∧ p.length < K ∧ Q (p ++ [m]) ρ := by
  split at h
  · rename_i ds t hn
    split at h
    · rename_i m hm
      split at h
      · rename_i hp
        unfold nodeAt at hn
        obtain ⟨d, e1, e2⟩ := Option.bind_eq_some_iff.mp hn
        exact ⟨d, ds, t, m, e1, e2, rfl, hm, hp, h⟩
      · exact h.elim
    · exact h.elim
  · exact h.elim
theorem at_snoc : ∀ {p : List Nat} {d c : D} {m : Nat}, d.at p = some c → d.at (p ++ [m]) = c.kid m
  | [], d, c, m, h => by
    simp only [D.at, Option.some.injEq] at h
    subst h
    simp only [List.nil_append, D.at]
    cases d.kid m <;> rfl
  | j :: p, d, c, m, h => by
    simp only [List.cons_append, D.at] at h ⊢
    cases hc : d.kid j with
    | none => rw [hc] at h; cases h
    | some c' => rw [hc] at h; exact at_snoc h
theorem Rc.snocL {H : Hp} {v : V} {p : List Nat} {a : Addr} {vs : List V} {m : Nat} {w : V} (h : Rc H v p (.ref a)) (e : H a = some (.lst vs)) (ew : vs[m]? = some w) : Rc H v (p ++ [m]) w := by
  generalize hz : V.ref a = z at h
  induction h with
  | nil => subst hz; exact .lst e ew .nil
  | lst e1 e2 _ ih => exact .lst e1 e2 (ih hz)
  | dic e1 e2 _ ih => exact .dic e1 e2 (ih hz)
  | obj e1 e2 _ ih => exact .obj e1 e2 (ih hz)
theorem un_ne {d c : D} {p : List Nat} (h : d.at p = some c) (hu : c ≠ .un) : d ≠ .un := fun z => by
  subst z
  cases p with
  | nil => simp only [D.at, Option.some.injEq] at h; exact hu h.symm
  | cons j p => simp [D.at, D.kid] at h
theorem spa_ix {a : Expr} {fa : M D} (hk : S.κ[i]? = some (.L K)) (ho : SPa S i K o g) (ha : SE S .rd a fa) (hpl : plainIx a = true) : SPa S i K (.Subscript o a pos) (mPix i K g fa) := by
  intro X fit W tk A fp tmp σ H ρ Q I hw
  refine hrd_ix hpl X fit W tk σ H Q ?_
  refine ho X fit W tk A fp tmp σ H ρ _ I (wpx_mono (wpx_bnd hw) (fun p ρ1 hd v0 H1 fp1 I1 s1 hrc => ?_) fun _ _ z => z)
  refine ha X fit W tk A fp1 tmp σ H1 ρ1 _ I1 (wpx_mono (wpx_bnd hd) (fun j ρ2 hd w H2 fp2 F I2 s2 nF r => ?_) fun x ρ' z => z.step s1 fun _ q => q)
  obtain ⟨d, ds, t, mm, h1, h2, rfl, h4, h5, hQ⟩ := wpx_pix hd
  obtain ⟨eF, r⟩ := r
  subst eF
  rw [tF_nil] at I2 s2 r
  have ew := r.i
  subst ew
  have hu := un_ne h2 (by simp)
  obtain ⟨v, d', d0, hs, hd', hu', hat, hle, hrc⟩ := hrc
  -- the slot stands
  have nX : ¬ isX S.κ i := fun ⟨_, z⟩ => by rw [hk] at z; cases z
  have e2 : ρ2[i]? = ρ1[i]? := by
    rcases s2.rs i nX with z | z
    · exact z
    · rw [h1] at z; cases z; exact absurd rfl hu
  rw [h1, hd'] at e2
  cases e2
  obtain ⟨v', hs', o1⟩ := I1.sl i d _ hd' hu hk
  rw [hs] at hs'; cases hs'
  have o1 : Own X.K (clX X.mg) H1 (Sh A fp1 tmp) (K - p.length + p.length) (fp1 i) v d := by rw [Nat.sub_add_cancel hle]; exact o1
  have rc2 : Rc H2 v p v0 := o1.rc_ext s2.ex h2 hrc fun b hb ⟨j, hx, z⟩ => by
    have := I1.dj i j b hb z
    subst this
    exact nX hx
  obtain ⟨v2, hs2, o2⟩ := I2.sl i d _ h1 hu hk
  rw [hs] at hs2; cases hs2
  have o2 : Own X.K (clX X.mg) H2 (Sh A fp2 tmp) (K - p.length + p.length) (fp2 i) v d := by rw [Nat.sub_add_cancel hle]; exact o2
  obtain ⟨A1, B1, F0, v1, _, rc1, o0, _⟩ := o2.focus h2
  have := rc1.inj rc2
  subst this
  obtain ⟨nn, hnn⟩ : ∃ nn, K - p.length = nn + 1 := ⟨K - p.length - 1, by omega⟩
  rw [hnn] at o0
  obtain ⟨a, vs, Fs, rfl, _, hH, rl⟩ := o0.lst'
  have hm : ixN vs.length t = some mm := by rw [rl.length]; exact h4
  have hlt := (ixN_seq h4).2.1
  have hw : vs[mm]? = some (vs[mm]'(by rw [rl.length]; exact hlt)) := List.getElem?_eq_getElem _
  refine ⟨_, _, rfl, _, ix_list, a, vs, t, _, rfl, rfl, .of hH, by unfold atI; rw [hm]; exact hw, ?_⟩
  obtain ⟨c, hc⟩ : ∃ c, ds[mm]? = some c := ⟨_, List.getElem?_eq_getElem hlt⟩
  exact hQ _ H2 fp2 I2 (s1.trans s2) ⟨v, d, c, hs, h1, hu, by rw [at_snoc h2]; exact hc, by rw [List.length_append]; simp; omega, rc2.snocL hH hw⟩
end
end VS

set_option Elab.async false
set_option linter.all false
set_option maxRecDepth 100000
set_option maxHeartbeats 4000000
/-! VS24: append, extend, insert, reverse of a list at a path; o[i] = e. -/
namespace VS
open PySem PySem.Spec PyProof.Rows L2
theorem ResL.ok {K : PySem.W.Frag} {cl : Cl} {κ : List Kd} {A : Gd} {fp : Nat → List Addr} {tmp : Addr → Prop} {H : Hp} {F : List Addr} {vs : List V} {ds : List D} {ms : List Mode} (h : ResL K cl κ A fp tmp H F vs ds ms) : ∀ b ∈ F, tmp b ∧ A.ok b := by
  induction h with
  | nil => exact emp
  | @cons _ _ _ _ _ _ m _ r _ _ ih =>
    intro b hb
    rcases List.mem_append.mp hb with z | z
    · cases m with
      | rd => rw [r.1] at z; cases z
      | el => rw [r.1] at z; cases z
      | val k => exact r.2.1 b z
    · exact ih b z
/-- a list's method that changes it -/
structure LOp (k : Nat) (ms : List Mode) (r : V → List V → Hp → VK → Prop) (q : List D → List D → Option (List D)) : Prop where
  run : ∀ {K : PySem.W.Frag} {cl : Cl} {κ : List Kd} {A : Gd} {fp : Nat → List Addr} {tmp : Addr → Prop} {H : Hp} {F : List Addr} {a : Addr} {vs ws : List V} {ds as ds' : List D} {Fs : List Addr}, H a = some (.lst vs) → OwnL K cl H (Sh A fp tmp) k Fs vs ds → Fs.Nodup → (∀ b ∈ Fs, b ∉ F) → ResL K cl κ A fp tmp H F ws as ms → q ds as = some ds' →
    ∃ vs' G, (∀ b ∈ G, b ∈ Fs ∨ b ∈ F) ∧ G.Nodup ∧ OwnL K cl H (Sh A fp tmp) k G vs' ds' ∧ ∀ Q : VK, Q .non (upd H a (.lst vs')) → r (.ref a) ws H Q
section
variable {K : PySem.W.Frag} {cl : Cl} {H : Hp} {S : Addr → Prop} {k : Nat}
theorem OwnL.app : ∀ {F G : List Addr} {vs ws : List V} {ds es : List D}, OwnL K cl H S k F vs ds → OwnL K cl H S k G ws es → OwnL K cl H S k (F ++ G) (vs ++ ws) (ds ++ es)
  | _, _, _, _, _, _, .nil, h => h
  | _, _, _, _, _, _, .cons h r, q => by
    rw [List.append_assoc]
    exact .cons h (OwnL.app r q)
theorem OwnL.split : ∀ {F : List Addr} {vs : List V} {ds : List D} (n : Nat), OwnL K cl H S k F vs ds → ∃ A B, F = A ++ B ∧ OwnL K cl H S k A (vs.take n) (ds.take n) ∧ OwnL K cl H S k B (vs.drop n) (ds.drop n)
  | F, vs, ds, 0, o => ⟨[], F, rfl, by simpa using .nil, by simpa using o⟩
  | _, _, _, n + 1, .nil => ⟨[], [], rfl, by simpa using .nil, by simpa using .nil⟩
  | _, _, _, n + 1, .cons o r => by
    obtain ⟨A, B, e, a, b⟩ := OwnL.split n r
    refine ⟨_ ++ A, B, by rw [e, List.append_assoc], ?_, ?_⟩
    · simpa using OwnL.cons o a
    · simpa using b
theorem OwnL.rev : ∀ {F : List Addr} {vs : List V} {ds : List D}, OwnL K cl H S k F vs ds → ∃ G, OwnL K cl H S k G vs.reverse ds.reverse ∧ (∀ b, b ∈ G ↔ b ∈ F) ∧ (F.Nodup → G.Nodup)
  | _, _, _, .nil => ⟨[], by simpa using .nil, fun _ => Iff.rfl, id⟩
  | _, _, _, .cons (F := F) (Fs := Fs) o r => by
    obtain ⟨G, a, b, c⟩ := OwnL.rev r
    refine ⟨G ++ F, ?_, fun x => by simp [b, or_comm], fun h => ?_⟩
    · simp only [List.reverse_cons]
      exact OwnL.snoc a o
    · have h := List.nodup_append.mp h
      exact List.nodup_append.mpr ⟨c h.2.1, h.1, fun x hx y hy e => h.2.2 y hy x ((b x).mp hx) e.symm⟩
end
theorem lop_append {k : Nat} : LOp k [.val k] rAppend qApp where
  run := by
    intro K cl κ A fp tmp H F a vs ws ds as ds' Fs hH rl nd dis r hq
    obtain ⟨w, d, rfl, rfl, r1⟩ := r.one
    obtain ⟨hz, rfl⟩ := qApp_get hq
    exact ⟨vs ++ [w], Fs ++ F, fun b hb => List.mem_append.mp hb, List.nodup_append.mpr ⟨nd, r1.1, fun y hy z hz e => dis y hy (by rw [e]; exact hz)⟩, OwnL.snoc rl r1.2.2, fun Q q => ⟨a, vs, w, rfl, rfl, hH, by rw [rl.length]; exact hz, q⟩⟩
def qExt (ds as : List D) : Option (List D) := match as with
  | [.lst es] => if ds.length + es.length ≤ 16777216 then some (ds ++ es) else none
  | _ => none
theorem qExt_get {ds : List D} {d : D} {ds' : List D} (h : qExt ds [d] = some ds') : ∃ es, d = .lst es ∧ ds.length + es.length ≤ 16777216 ∧ ds' = ds ++ es := by
  cases d <;> simp only [qExt] at h <;> first
    | cases h
    | (split at h
       · cases h; exact ⟨_, rfl, by assumption, rfl⟩
       · cases h)
theorem lop_extE : LOp 0 [.el] rExtend qExt where
  run := by
    intro K cl κ A fp tmp H F a vs ws ds as ds' Fs hH rl nd dis r hq
    obtain ⟨w, d, rfl, rfl, r1⟩ := r.one
    obtain ⟨es, rfl, hz, rfl⟩ := qExt_get hq
    obtain ⟨b, zs, rfl, hB, rz⟩ := r1.2.l
    have z := OwnL.app rl rz.own
    rw [List.append_nil] at z
    exact ⟨vs ++ zs, Fs, fun b hb => .inl hb, nd, z, fun Q q => ⟨a, b, vs, zs, rfl, rfl, hH, hB, by rw [rl.length, rz.length]; exact hz, q⟩⟩
theorem lop_extO {k : Nat} : LOp k [.val (k + 1)] rExtend qExt where
  run := by
    intro K cl κ A fp tmp H F a vs ws ds as ds' Fs hH rl nd dis r hq
    obtain ⟨w, d, rfl, rfl, r1⟩ := r.one
    obtain ⟨es, rfl, hz, rfl⟩ := qExt_get hq
    obtain ⟨n1, _, o⟩ := r1
    obtain ⟨b, zs, Fz, rfl, rfl, hB, rz⟩ := o.lst'
    have n2 := List.nodup_cons.mp n1
    exact ⟨vs ++ zs, Fs ++ Fz, fun b hb => (List.mem_append.mp hb).imp id (List.mem_cons_of_mem _), List.nodup_append.mpr ⟨nd, n2.2, fun y hy z hz e => dis y hy (by rw [e]; exact List.mem_cons_of_mem _ hz)⟩, OwnL.app rl rz, fun Q q => ⟨a, b, vs, zs, rfl, rfl, hH, hB, by rw [rl.length, rz.length]; exact hz, q⟩⟩
def rIns : V → List V → Hp → VK → Prop := fun x vs H Q => ∃ (l : Addr) (xs : List V) (i : Int) (y : V), x = .ref l ∧ vs = [.int i, y] ∧ H l = some (.lst xs) ∧ xs.length < sizeLine ∧ 0 ≤ i ∧ i < 2 ^ 63 ∧ Q .non (upd H l (.lst (xs.take i.toNat ++ [y] ++ xs.drop i.toNat)))
def qIns (ds as : List D) : Option (List D) := match as with
  | [.int i, d] => if ds.length < 16777216 ∧ 0 ≤ i ∧ i < 2 ^ 63 then some (ds.take i.toNat ++ [d] ++ ds.drop i.toNat) else none
  | _ => none
theorem qIns_get {ds : List D} {c d : D} {ds' : List D} (h : qIns ds [c, d] = some ds') : ∃ i, c = .int i ∧ (ds.length < 16777216 ∧ 0 ≤ i ∧ i < 2 ^ 63) ∧ ds' = ds.take i.toNat ++ [d] ++ ds.drop i.toNat := by
  cases c <;> simp only [qIns] at h <;> first
    | cases h
    | (split at h
       · cases h; exact ⟨_, rfl, by assumption, rfl⟩
       · cases h)
theorem lop_insert {k : Nat} : LOp k [.rd, .val k] rIns qIns where
  run := by
    intro K cl κ A fp tmp H F a vs ws ds as ds' Fs hH rl nd dis r hq
    obtain ⟨v, w, d, e, G, G', rfl, rfl, rfl, _, r1, r2⟩ := r.two
    obtain ⟨rfl, r1⟩ := r1
    rw [List.nil_append] at dis ⊢
    obtain ⟨i, rfl, hz, rfl⟩ := qIns_get hq
    have ev := r1.i
    subst ev
    obtain ⟨A1, B1, rfl, oa, ob⟩ := OwnL.split i.toNat rl
    have n := List.nodup_append.mp nd
    refine ⟨vs.take i.toNat ++ [w] ++ vs.drop i.toNat, A1 ++ G' ++ B1, fun b hb => ?_, ?_, OwnL.app (OwnL.snoc oa r2.2.2) ob, fun Q q => ⟨a, vs, i, w, rfl, rfl, hH, by rw [rl.length]; exact hz.1, hz.2.1, hz.2.2, q⟩⟩
    · simp only [List.mem_append] at hb ⊢
      rcases hb with (hb | hb) | hb
      · exact .inl (.inl hb)
      · exact .inr hb
      · exact .inl (.inr hb)
    · refine List.nodup_append.mpr ⟨List.nodup_append.mpr ⟨n.1, r2.1, fun y hy z hz e => dis y (List.mem_append_left _ hy) (by rw [e]; exact hz)⟩, n.2.1, fun y hy z hz e => ?_⟩
      rcases List.mem_append.mp hy with hy | hy
      · exact n.2.2 y hy z hz e
      · exact dis z (List.mem_append_right _ hz) (by rw [← e]; exact hy)
def qRev (ds as : List D) : Option (List D) := match as with
  | [] => some ds.reverse
  | _ => none
theorem lop_reverse {k : Nat} : LOp k [] rReverse qRev where
  run := by
    intro K cl κ A fp tmp H F a vs ws ds as ds' Fs hH rl nd dis r hq
    cases r
    simp only [qRev, Option.some.injEq] at hq
    subst hq
    obtain ⟨G, o, m, n⟩ := OwnL.rev rl
    exact ⟨vs.reverse, G, fun b hb => .inl ((m b).mp hb), n nd, o, fun Q q => ⟨a, vs, rfl, rfl, hH, q⟩⟩
section
variable {S : Sx} {X : Cx} {i k n : Nat} {e o : Expr} {es : List Expr} {ms : List Mode} {x m : Str} {pos p p2 : Pos} {f : M D} {g : M (List Nat)} {ge : M (List D)} {q : List D → List D → Option (List D)} {r : V → List V → Hp → VK → Prop}
def pathE : Expr → Bool
  | .Name _ _ => true
  | .Subscript _ _ _ => true
  | .Attribute (.Name _ _) _ _ => true
  | .Attribute (.Attribute (.Name _ _) _ _) _ _ => true
  | _ => false
theorem abaseP {name : Str} {env : Env} (h : pathE o = true) : attributeBase o name env (eval o env) = eval o env := by
  unfold pathE at h
  split at h <;> first | rfl | cases h
/-- a method's call on a node, with its arguments -/
theorem meth_pe {T id : String} (pa : PlainAttrs T) (slot : PySem.Slot T m id) (hty : typeOf (.builtin id) = pure (.type "method_descriptor")) (hm : MtR X id r) (ho : pathE o = true) (hk : methOk es p2 pos = true) {σ : L2.St} {H : Hp} {Q : VK}
    (h : WE X o σ H fun v0 H1 => tyV X.K T v0 H1 ∧ WEs X es σ H1 fun vs H2 => r v0 vs H2 Q) : WE X (.Call (.Attribute o m p2) es [] pos) σ H Q := by
  unfold methOk at hk
  simp only [Bool.and_eq_true, decide_eq_true_eq] at hk
  obtain ⟨⟨h1, h2⟩, h3⟩ := hk
  cases es with
  | nil => exact ⟨_, pe_bm0 pa slot hty hm pe_WE (abaseP ho) h3, h⟩
  | cons e es =>
    have h' : noStar e = true ∧ noStars es = true := by simpa [noStars] using h1
    exact ⟨_, pe_bm pa slot hty hm pe_WE (pa_WEs h1) (abaseP ho) (few_ok h1 h2) h3 (star1 h'.1) (stars_any h'.2), h⟩
def mLop (κ : List Kd) (i n : Nat) (g : M (List Nat)) (ge : M (List D)) (q : List D → List D → Option (List D)) : M Out := ifR κ (bnd g fun p ρ1 => match nodeAt i p ρ1 with
  | some (.lst _) => if p.length = n then (bnd ge fun as ρ2 => match nodeAt i p ρ2, ρ2[i]? with
    | some (.lst ds), some d => match q ds as with
      | some ds' => .ok .nx (ρ2.set i (d.put p (.lst ds')))
      | none => .stuck
    | _, _ => .stuck) ρ1 else .stuck
  | _ => .stuck)
theorem wpx_lop1 {α : Type} {i n : Nat} {p : List Nat} {ρ1 : List D} {f : M α} {Q : α → List D → Prop} {E : D → List D → Prop} (h : wpx (match nodeAt i p ρ1 with
  | some (.lst _) => if p.length = n then f ρ1 else .stuck
  | _ => .stuck) Q E) : ∃ d ds, ρ1[i]? = some d ∧ d.at p = some (.lst ds) ∧ p.length = n ∧ wpx (f ρ1) Q E := by
  split at h
  · rename_i ds hn
    split at h
    · unfold nodeAt at hn
      obtain ⟨d, e1, e2⟩ := Option.bind_eq_some_iff.mp hn
      exact ⟨d, ds, e1, e2, by assumption, h⟩
    · exact h.elim
  · exact h.elim
theorem wpx_lop2 {i : Nat} {p : List Nat} {as ρ2 : List D} {Q : Out → List D → Prop} {E : D → List D → Prop} (h : wpx (match nodeAt i p ρ2, ρ2[i]? with
    | some (.lst ds), some d => match q ds as with
      | some ds' => R.ok Out.nx (ρ2.set i (d.put p (.lst ds')))
      | none => .stuck
    | _, _ => .stuck) Q E) : ∃ d ds ds', ρ2[i]? = some d ∧ d.at p = some (.lst ds) ∧ q ds as = some ds' ∧ Q .nx (ρ2.set i (d.put p (.lst ds'))) := by
  split at h
  · rename_i ds d hn hd
    split at h
    · rename_i ds' hq
      unfold nodeAt at hn
      rw [hd] at hn
      exact ⟨d, ds, ds', hd, hn, hq, h⟩
    · exact h.elim
  · exact h.elim
/-- what a node's list is, where a slot owns it -/
theorem node_lst {K : PySem.W.Frag} {cl : Cl} {κ : List Kd} {A : Gd} {fp : Nat → List Addr} {tmp : Addr → Prop} {σ : L2.St} {H : Hp} {ρ : List D} {p : List Nat} {v v0 : V} {d : D} {ds : List D} (I : SI K cl κ A fp tmp σ H ρ) (hk : ownK κ i (k + 1 + p.length) = true) (hs : σ[i]? = some (some v)) (h1 : ρ[i]? = some d) (hp : d.at p = some (.lst ds)) (rc : Rc H v p v0) :
    ∃ a vs Fs, v0 = .ref a ∧ H a = some (.lst vs) ∧ OwnL K cl H (Sh A fp tmp) k Fs vs ds := by
  obtain ⟨v', hs', o1⟩ := I.root hk h1 (un_ne hp (by simp))
  rw [hs] at hs'; cases hs'
  obtain ⟨A1, B1, F0, v1, _, rc1, o0, _⟩ := o1.focus hp
  have := rc1.inj rc
  subst this
  obtain ⟨a, vs, Fs, e, _, hH, rl⟩ := o0.lst'
  exact ⟨a, vs, Fs, e, hH, rl⟩
theorem s1_lop {T id : String} (hT : T = "list") (pa : PlainAttrs T) (slot : PySem.Slot T m id) (hty : typeOf (.builtin id) = pure (.type "method_descriptor")) (hm : ∀ X, MtR X id r) (L : LOp k ms r q)
    (hk : ownK S.κ i (k + 1 + n) = true) (ho : pathE o = true) (hmk : methOk es p2 pos = true) (hp : SPa (S.lk i (k + 1 + n)) i (k + 1 + n) o g) (he : SEs (S.lk i (k + 1 + n)) ms es ge) :
    S1 S (.Expr (.Call (.Attribute o m p2) es [] pos) p) (mLop S.κ i n g ge q) := by
  subst hT
  intro X fit W tk po A fp tmp σ H ρ D I hw
  obtain ⟨hr, hw⟩ := wpx_ifR hw
  have hr := noR_of hr
  refine ⟨_, ps_expr pe_WE rfl, meth_pe pa slot hty (hm X) ho hmk ?_⟩
  refine hp X fit.lk W tk A fp tmp σ H ρ _ (I.lk hk) (wpx_mono (wpx_bnd hw) (fun p ρ1 hd v0 H1 fp1 I1 s1 hrc => ?_) fun _ _ z => z.xql hk hr)
  obtain ⟨d, ds, h1, h2, hlen, hd9⟩ := wpx_lop1 hd
  subst hlen
  obtain ⟨v, d', _, hs, hd', _, _, _, rc⟩ := hrc
  rw [h1] at hd'; cases hd'
  have hkl : ownK (S.lk i (k + 1 + p.length)).κ i (k + 1 + p.length) = true := by
    unfold ownK
    rw [show (S.lk i (k + 1 + p.length)).κ[i]? = some (.L (k + 1 + p.length)) from lk_self hk]
    simp
  obtain ⟨a, vs, Fs, rfl, hH, rl⟩ := node_lst I1 hkl hs h1 h2 rc
  refine ⟨tyL hH, ?_⟩
  refine he X fit.lk W tk A fp1 tmp σ H1 ρ1 _ I1 (wpx_mono (wpx_bnd hd9) (fun as ρ2 hd2 ws H2 fp2 F I2 s2 nF rA => ?_) fun x ρ' z => XQ.step (XS.xql hk hr z) s1 fun _ q => q)
  obtain ⟨d2, ds2, ds', g1, g2, g3, hQ⟩ := wpx_lop2 hd2
  have nX : ¬ isX (S.lk i (k + 1 + p.length)).κ i := fun ⟨_, z⟩ => by
    rw [show (S.lk i (k + 1 + p.length)).κ[i]? = some (.L (k + 1 + p.length)) from lk_self hk] at z; cases z
  have hu := un_ne g2 (by simp)
  have e2 : ρ2[i]? = ρ1[i]? := by
    rcases s2.rs i nX with z | z
    · exact z
    · rw [g1] at z; cases z; exact absurd rfl hu
  rw [g1, h1] at e2
  cases e2
  obtain ⟨v', hs', o1⟩ := I1.root hkl h1 hu
  rw [hs] at hs'; cases hs'
  have rc2 : Rc H2 v p (.ref a) := o1.rc_ext s2.ex h2 rc fun b hb ⟨j, hx, z⟩ => by
    have := I1.dj i j b hb z
    subst this
    exact nX hx
  have hr2 : noR S.κ ρ2 := noR.unlk (((hr.lk hk).stp s1).stp s2) hk
  have I2' := I2.unlk hk hr2
  have s12 : StS S.np S.pr fp tmp σ H fp2 (tF tmp F) σ H2 := (s1.trans s2).lk
  have gv : Giv S.np fp H F := fun b hb => .inr (none_back s1.ex (nF b hb))
  have okF := rA.ok
  obtain ⟨v0', F0, rc3, o0, nd0, dis, inF, fin⟩ := node_fin hk hs I2' hr2 g1 hu g2 s12 gv (fun b hb => ⟨fun z => I1.fa b (.inr z) (nF b hb), fun z => I1.ca b z (nF b hb)⟩) (fun b hb => (okF b hb).2)
  have e3 := rc3.inj rc2
  subst e3
  obtain ⟨a', vs2, Fs2, e4, eF, hH2, rl2⟩ := o0.lst'
  cases e4
  subst eF
  have nd3 := List.nodup_cons.mp nd0
  obtain ⟨vs', G, hG, ndG, oG, hrun⟩ := L.run hH2 rl2 nd3.2 (fun b hb => dis b (List.mem_cons_of_mem _ hb)) rA g3
  have nG : a ∉ G := fun z => (hG a z).elim nd3.1 fun y => dis a List.mem_cons_self y
  have ns : ¬ Still (.lst vs2) := fun z => z
  have ain : a ∈ fp2 i := inF a List.mem_cons_self
  obtain ⟨fp3, I3, s3⟩ := fin a (.lst vs2) (.lst vs') (.lst ds') (a :: G) List.mem_cons_self hH2 ns (fun b hb => (List.mem_cons.mp hb).elim (fun z => .inl (by rw [z]; exact List.mem_cons_self)) fun z => (hG b z).imp (List.mem_cons_of_mem _) (fun y => y)) (List.nodup_cons.mpr ⟨nG, ndG⟩)
    (.lst upd_same (OwnL.ext (Ext.set (P := fun b => b = a) hH2 ns rfl) (fun b s _ => ⟨s, fun z => s.2 (.inl ⟨i, by rw [z]; exact ain⟩)⟩) (fun b hb z => nG (by rw [← z]; exact hb)) oG))
  exact hrun _ (hQ σ _ fp3 I3 s3)
/-! ### o[a] = e -/
theorem setix_ps {a : Expr} {t : TSet} (hpl : plainIx a = true) (ht : PSet X t) : PS X (.Assign [.Subscript o a p2] e pos) (tAsg (WE X e) (gSub (WE X o) (WE X a) t)) := by
  have ha : PG X (.Subscript o a p2) (gSub (WE X o) (WE X a) t) := pg_sub pe_WE pe_WE ht (fun v => by cases a <;> first | rfl | (simp [plainIx] at hpl))
  refine ps_asg pe_WE ha ?_ ?_ rfl
  · cases e <;> rfl
  · cases e <;> rfl
def mSetIx (κ : List Kd) (i n : Nat) (f : M D) (g : M (List Nat)) (fa : M D) : M Out := bnd f fun x => ifR κ (bnd g fun p => bnd fa fun j ρ2 => match nodeAt i p ρ2, ρ2[i]?, j with
  | some (.lst ds), some d, .int t => match ixN ds.length t with
    | some m => if p.length = n then .ok .nx (ρ2.set i (d.put p (.lst (ds.set m x)))) else .stuck
    | none => .stuck
  | _, _, _ => .stuck)
theorem wpx_setix {x j : D} {p : List Nat} {ρ2 : List D} {Q : Out → List D → Prop} {E : D → List D → Prop} (h : wpx (match nodeAt i p ρ2, ρ2[i]?, j with
  | some (.lst ds), some d, .int t => match ixN ds.length t with
    | some m => if p.length = n then R.ok Out.nx (ρ2.set i (d.put p (.lst (ds.set m x)))) else .stuck
    | none => .stuck
  | _, _, _ => .stuck) Q E) : ∃ d ds t m, ρ2[i]? = some d ∧ d.at p = some (.lst ds) ∧ j = .int t ∧ ixN ds.length t = some m ∧ p.length = n ∧ Q .nx (ρ2.set i (d.put p (.lst (ds.set m x)))) := by
  split at h
  · rename_i ds d t hn hd
    split at h
    · rename_i m hm
      split at h
      · unfold nodeAt at hn
        rw [hd] at hn
        exact ⟨d, ds, t, m, hd, hn, rfl, hm, by assumption, h⟩
      · exact h.elim
    · exact h.elim
  · exact h.elim
theorem s1_setIx {a : Expr} {fa : M D} (hk : ownK S.κ i (k + 1 + n) = true) (hpl : plainIx a = true) (he : SM S k e f) (hp : SPa (S.lk i (k + 1 + n)) i (k + 1 + n) o g) (ha : SE (S.lk i (k + 1 + n)) .rd a fa) : S1 S (.Assign [.Subscript o a p2] e pos) (mSetIx S.κ i n f g fa) := by
  intro X fit W tk po A fp tmp σ H ρ D I hw
  refine ⟨_, setix_ps hpl set_list, ?_⟩
  refine he X fit W tk A fp tmp σ H ρ _ I (wpx_mono (wpx_bnd hw) (fun x ρ0 hd0 w H0 fp0 F I0 s0 gv0 nF0 r0 => ?_) fun _ _ z => z)
  obtain ⟨hr, hd0⟩ := wpx_ifR hd0
  have hr := noR_of hr
  have up : ∀ b, tmp b → tF tmp F b := fun _ z => .inl z
  refine hp X fit.lk W tk A fp0 (tF tmp F) σ H0 ρ0 _ (I0.lk hk) (wpx_mono (wpx_bnd hd0) (fun p ρ1 hd v0 H1 fp1 I1 s1 hrc => ?_) fun x ρ' z => XS.xql hk hr (XS.step z s0 up))
  refine ha X fit.lk W tk A fp1 (tF tmp F) σ H1 ρ1 _ I1 (wpx_mono (wpx_bnd hd) (fun j ρ2 hd2 u H2 fp2 F2 I2 s2 nF2 rj => ?_) fun x ρ' z => XQ.step (XS.xql hk hr (XS.step z s0 up)) s1 fun _ q => q)
  obtain ⟨d2, ds2, t, m, g1, g2, rfl, g4, hlen, hQ⟩ := wpx_setix hd2
  subst hlen
  obtain ⟨eF2, rj⟩ := rj
  subst eF2
  rw [tF_nil] at I2 s2 rj
  have eu := rj.i
  subst eu
  obtain ⟨v, d, d0, hs, hd', hu', hat, hle, rc⟩ := hrc
  have hkl : ownK (S.lk i (k + 1 + p.length)).κ i (k + 1 + p.length) = true := by
    unfold ownK
    rw [show (S.lk i (k + 1 + p.length)).κ[i]? = some (.L (k + 1 + p.length)) from lk_self hk]
    simp
  have nX : ¬ isX (S.lk i (k + 1 + p.length)).κ i := fun ⟨_, z⟩ => by
    rw [show (S.lk i (k + 1 + p.length)).κ[i]? = some (.L (k + 1 + p.length)) from lk_self hk] at z; cases z
  have hu := un_ne g2 (by simp)
  have e2 : ρ2[i]? = ρ1[i]? := by
    rcases s2.rs i nX with z | z
    · exact z
    · rw [g1] at z; cases z; exact absurd rfl hu
  rw [g1, hd'] at e2
  cases e2
  obtain ⟨v', hs', o1⟩ := I1.root hkl hd' hu
  rw [hs] at hs'; cases hs'
  have rc2 : Rc H2 v p v0 := o1.rc_ext s2.ex g2 rc fun b hb ⟨j, hx, z⟩ => by
    have := I1.dj i j b hb z
    subst this
    exact nX hx
  have hr2 : noR S.κ ρ2 := noR.unlk (((hr.lk hk).stp s1).stp s2) hk
  have I2' := I2.unlk hk hr2
  have s12 : StS S.np S.pr fp tmp σ H fp2 (tF tmp F) σ H2 := s0.trans (s1.trans s2).lk
  have rw2 : Res X.K (clX X.mg) (S.lk i (k + 1 + p.length)).κ A fp2 (tF tmp F) H2 F w x (.val k) := Res.step (m := .val k) (s1.trans s2) (I0.lk hk) (fun _ q => q) r0
  obtain ⟨v0', F0, rc3, o0, nd0, dis, inF, fin⟩ := node_fin hk hs I2' hr2 g1 hu g2 s12 gv0 nF0 (fun b hb => (rw2.2.1 b hb).2)
  have e3 := rc3.inj rc2
  subst e3
  obtain ⟨a', vs2, Fs2, e4, eF, hH2, rl2⟩ := o0.lst'
  subst e4 eF
  have nd3 := List.nodup_cons.mp nd0
  have hlt := (ixN_seq g4).2.1
  obtain ⟨A1, B1, F1, w1, eFs, ew, _, kk⟩ := OwnL.focus rl2 (show ds2[m]? = some ds2[m] from List.getElem?_eq_getElem hlt)
  have nG : a' ∉ A1 ++ F ++ B1 := fun z => by
    rcases List.mem_append.mp z with z | z
    · rcases List.mem_append.mp z with z | z
      · exact nd3.1 (by rw [eFs]; simp [z])
      · exact dis a' List.mem_cons_self z
    · exact nd3.1 (by rw [eFs]; simp [z])
  have ns : ¬ Still (.lst vs2) := fun z => z
  have ain : a' ∈ fp2 i := inF a' List.mem_cons_self
  have hG : ∀ b ∈ A1 ++ F ++ B1, b ∈ a' :: Fs2 ∨ b ∈ F := fun b hb => by
    rcases List.mem_append.mp hb with z | z
    · rcases List.mem_append.mp z with z | z
      · exact .inl (by rw [eFs]; simp [z])
      · exact .inr z
    · exact .inl (by rw [eFs]; simp [z])
  have ndG : (A1 ++ F ++ B1).Nodup := nodup_mid (F := F1) (by rw [← eFs]; exact nd3.2) rw2.1 fun b hb => .inr ⟨fun z => dis b (by rw [eFs]; simp [z]) hb, fun z => dis b (by rw [eFs]; simp [z]) hb⟩
  have e5 : Ext (fun b => b = a') H2 (upd H2 a' (.lst (vs2.set m w))) := Ext.set hH2 ns rfl
  have shN : ∀ b, Sh A fp2 (tF tmp F) b → H2 b ≠ none → Sh A fp2 (tF tmp F) b ∧ ¬ b = a' := fun b s _ => ⟨s, fun z => s.2 (.inl ⟨i, by rw [z]; exact ain⟩)⟩
  have oG := kk _ _ _ F w x e5 shN (fun b hb z => nG (by
    rw [← z]
    rcases List.mem_append.mp hb with y | y <;> simp [y])) (Own.ext e5 shN (fun b hb z => dis a' List.mem_cons_self (by rw [← z]; exact hb)) rw2.2.2)
  obtain ⟨fp3, I3, s3⟩ := fin a' (.lst vs2) (.lst (vs2.set m w)) (.lst (ds2.set m x)) (a' :: (A1 ++ F ++ B1)) List.mem_cons_self hH2 ns (fun b hb => (List.mem_cons.mp hb).elim (fun z => .inl (by rw [z]; exact List.mem_cons_self)) (hG b)) (List.nodup_cons.mpr ⟨nG, ndG⟩) (.lst upd_same oG)
  exact ⟨a', vs2, t, m, rfl, rfl, hH2, by rw [rl2.length]; exact g4, hQ σ _ fp3 I3 s3⟩
end
end VS

set_option Elab.async false
set_option linter.all false
set_option maxRecDepth 100000
set_option maxHeartbeats 4000000
/-! VS25: a comprehension's loop by itself; comprehensions of two clauses. -/
namespace VS
open PySem PySem.Spec PyProof.Rows L2
section
variable {S : Sx} {X : Cx} {scope : Scope} {own : List (Str × Nat)} {elt tg iter : Expr} {ifs : List Expr} {m : Mode} {t : Tgt} {k : Nat} {f : M (List D)} {tt : M Bool} {te : M D} {pos : Pos}
theorem lc_run (fit : Fit S X) (ho : ownC S.sc scope own = true) {ow : List Nat} (ht : tgR (S.blk scope own) tg t = true) (hix' : ∀ i ∈ t.ix, i ∈ ow) (hT : STs (S.blk scope own) ifs tt) (hE : SE (S.blk scope own) (.val k) elt te)
    {A : Gd} {fp1 : Nat → List Addr} {tmp : Addr → Prop} {σ σb : L2.St} {H1 H0 : Hp} {ρ1 ρX ds : List D} {J : It} {B : (Addr → Prop) → (Addr → Prop) → Hp → Prop} {Dd : Addr} {Qe : List D → List D → Prop} {Fin : Hp → Prop} (I1 : SI X.K (clX X.mg) S.κ A fp1 tmp σ H1 ρ1) (hD : H1 Dd = none) (src : Src X.K (clX X.mg) J B ds) (hσ : σb.length = S.κ.length)
    (h0 : LcI X.K (clX X.mg) S.κ A fp1 tmp (L2.wipe σb ow) H1 ρX Dd k m B (fun acc => lcLoop S.κ ow (imOf m) t tt te ds acc) Qe H0)
    (hfin : ∀ H', LcI X.K (clX X.mg) S.κ A fp1 tmp (L2.wipe σb ow) H1 ρX Dd k m B ret Qe H' → Fin H') :
    ∃ W : Nat → Nat → Hp → Prop, (∃ n, W 0 n H0) ∧ ∀ i n H, W i n H → (J.stop i H ∧ Fin H) ∨ (J.go i H ∧ ∃ Nx : Hp → Prop, (∀ H', Nx H' → ∃ m', m' < n ∧ W (i + 1) m' H') ∧ ∀ x H', J.yld i H x H' → WGb X scope tg x (L2.wipe σb ow) H' fun σ2 H2 => L2.wipe σ2 ow = L2.wipe σb ow ∧ WTbs X scope ifs σ2 H2 fun b H3 =>
      if b = true then WEb X scope elt σ2 H3 fun y H4 => ∃ acc, H4 Dd = some (.lst acc) ∧ acc.length < sizeLine ∧ Nx (upd H4 Dd (.lst (acc ++ [y]))) else Nx H3) := by
  let Inv := fun (i : Nat) (H' : Hp) => LcI X.K (clX X.mg) S.κ A fp1 tmp (L2.wipe σb ow) H1 ρX Dd k m B (fun acc => lcLoop S.κ ow (imOf m) t tt te (ds.drop i) acc) Qe H'
  refine ⟨fun i n H' => n = ds.length - i ∧ i ≤ ds.length ∧ Inv i H', ⟨ds.length, by omega, Nat.zero_le _, h0⟩, ?_⟩
  rintro i n H2 ⟨rfl, hle, fp2, F, vs, acc, ρ2, I2, s2, b2, hv, nd, nF, o, hgo⟩
  by_cases hlt : i < ds.length
  · refine .inr ⟨src.go i _ _ _ b2 hlt, Inv (i + 1), fun H' p' => ⟨ds.length - (i + 1), by omega, rfl, hlt, p'⟩, fun x H3 hy => ?_⟩
    obtain ⟨e3, r3⟩ := src.yld i _ _ _ x H3 _ b2 (List.getElem?_eq_getElem hlt) hy
    have sg : Stp S.κ fp2 (tF tmp (Dd :: F)) H2 ρ2 fp2 (tF tmp (Dd :: F)) H3 ρ2 := .ext0 e3
    have I3 := I2.grow e3 (fun b z => .inl z) fun b z => e3.al b (I2.fa b (.inr z))
    have b3 := src.mv _ _ _ _ _ _ _ sg.ex (SRd.step sg) (TmS.stp sg) b2
    have hv3 : H3 Dd = some (.lst vs) := e3.keep _ _ hv fun z => z
    have o3 : OwnL X.K (clX X.mg) H3 (Sh A fp2 (tF tmp (Dd :: F))) k F vs acc := OwnL.ext e3 (fun b q _ => ⟨q, fun z => z⟩) (fun _ _ z => z) o
    have s3 := s2.trans sg
    simp (config := {failIfUnchanged := false}) only [] at hgo
    rw [List.drop_eq_getElem_cons hlt, lcLoop] at hgo
    simp only at hgo
    cases hts : tset S.κ (imOf m) t ds[i] ρ2 with
    | none => rw [hts] at hgo; exact hgo.elim
    | some ρ3 =>
    rw [hts] at hgo
    simp only at hgo
    rw [tm_im] at r3
    intro sA HA C cl fpA
    refine tg_core (S := S.blk scope own) (fit.blk ho sA HA C cl fpA) ht I3 r3 hts fun σ3 I3' ag => ⟨wipe_eq (by rw [I3'.sz.1, hσ]; rfl) (fun i hi => (ag i hi).1) hix', ?_⟩
    have len3 : ρ3.length = ρ2.length := by rw [I3'.sz.2, I2.sz.2]; rfl
    have eσ : L2.wipe σ3 ow = L2.wipe σb ow := wipe_eq (by rw [I3'.sz.1, hσ]; rfl) (fun i hi => (ag i hi).1) hix'
    -- the tests
    have test : wpx (tt ρ3) (fun b ρ4 => if b = true then wpx (te ρ4) (fun y ρ5 => acc.length < 16777216 ∧ wpx (lcLoop S.κ ow (imOf m) t tt te (ds.drop (i + 1)) (acc ++ [y]) (wipeD ρ5 ow)) Qe (fun _ _ => False)) (fun _ _ => False)
        else wpx (lcLoop S.κ ow (imOf m) t tt te (ds.drop (i + 1)) acc (wipeD ρ4 ow)) Qe (fun _ _ => False)) (fun _ _ => False) := by
      cases et : tt ρ3 with
      | stuck => rw [et] at hgo; exact hgo
      | err x r => rw [et] at hgo; exact hgo
      | ok b ρ4 =>
        rw [et] at hgo
        cases b with
        | false => simpa [wpx] using hgo
        | true =>
          simp only [wpx, if_true]
          simp only at hgo
          cases ee : te ρ4 with
          | stuck => rw [ee] at hgo; exact hgo
          | err x r => rw [ee] at hgo; exact hgo
          | ok y ρ5 =>
            rw [ee] at hgo
            simp only at hgo
            split at hgo
            · exact ⟨by assumption, hgo⟩
            · exact hgo.elim
    -- what follows the tests
    have fin : ∀ (b : Bool) (ρ4 : List D) (H4 : Hp) (fp4 : Nat → List Addr), SI X.K (clX X.mg) S.κ A fp4 (tF tmp (Dd :: F)) σ3 H4 ρ4 → Stp S.κ fp2 (tF tmp (Dd :: F)) H3 ρ3 fp4 (tF tmp (Dd :: F)) H4 ρ4 → (if b = true then wpx (te ρ4) (fun y ρ5 => acc.length < 16777216 ∧ wpx (lcLoop S.κ ow (imOf m) t tt te (ds.drop (i + 1)) (acc ++ [y]) (wipeD ρ5 ow)) Qe (fun _ _ => False)) (fun _ _ => False)
        else wpx (lcLoop S.κ ow (imOf m) t tt te (ds.drop (i + 1)) acc (wipeD ρ4 ow)) Qe (fun _ _ => False)) →
        (if b = true then WEb X scope elt σ3 H4 fun y H5 => ∃ ac, H5 Dd = some (.lst ac) ∧ ac.length < sizeLine ∧ Inv (i + 1) (upd H5 Dd (.lst (ac ++ [y]))) else Inv (i + 1) H4) := by
      intro b ρ4 H4 fp4 I4 s4 hb4
      have sx4 : Stp S.κ fp1 tmp H1 ρX fp4 (tF tmp (Dd :: F)) H4 (wipeD ρ4 ow) := s3.trans (s4.turn (fun i hi => (ag i hi).2) hix' (by rw [I4.sz.2, I2.sz.2]))
      have b4 := src.mv _ _ _ _ _ _ _ s4.ex (SRd.step s4) (TmS.stp s4) b3
      have fX : ∀ b ∈ Dd :: F, ¬ OX S.κ fp2 b := fun b hb ⟨i, _, z⟩ => I2.dt i b z (.inr hb)
      have hv4 := s4.ex.keep _ _ hv3 (fX _ List.mem_cons_self)
      have o4 := OwnL.ext s4.ex (Sh.step s4) (fun b hb => fX b (List.mem_cons_of_mem _ hb)) o3
      cases b with
      | false =>
        simp only [Bool.false_eq_true, if_false] at hb4 ⊢
        have I4w := I4.wipe (own := ow)
        rw [eσ] at I4w
        exact ⟨fp4, F, vs, acc, wipeD ρ4 ow, I4w, sx4, b4, hv4, nd, nF, o4, hb4⟩
      | true =>
        simp only [if_true] at hb4 ⊢
        intro sA HA C cl fpA
        refine hE _ (fit.blk ho sA HA C cl fpA) _ takes0 A fp4 (tF tmp (Dd :: F)) σ3 H4 ρ4 _ I4 (wpx_mono hb4 (fun y ρ5 hy v H5 fp5 F2 I5 s5 nF2 r5 => ?_) fun _ _ z => z.elim)
        have sx3 : Stp S.κ fp1 tmp H1 ρX fp4 (tF tmp (Dd :: F)) H4 (wipeD ρ4 ow) := sx4
        have s45 : Stp S.κ fp4 (tF tmp (Dd :: F)) H4 (wipeD ρ4 ow) fp5 (tF (tF tmp (Dd :: F)) F2) H5 (wipeD ρ5 ow) := s5.turn (is := ow) (fun i hi => (wipeD_out hi).symm) (fun _ z => z) (by rw [wipeD_len, I5.sz.2, I4.sz.2]; rfl)
        have I5w := I5.wipe (own := ow)
        rw [eσ] at I5w
        have I4w := I4.wipe (own := ow)
        rw [eσ] at I4w
        obtain ⟨a1, a2, a3, a4, a5, a6, a7⟩ := lc_add I1 hD src I4w sx3 b4 hv4 nd nF o4 I5w s45 nF2 r5
        exact ⟨vs, a1, by have := o4.length; show vs.length < 16777216; rw [this]; exact hy.1, fp5, F ++ F2, vs ++ [v], acc ++ [y], wipeD ρ5 ow, a2, a3, a4, upd_same, a5, a6, a7, hy.2⟩
    exact wts_run fit ho hT I3' (wpx_mono test (fun b ρ4 hb4 H4 fp4 I4 s4 => fin b ρ4 H4 fp4 I4 s4 hb4) fun _ _ z => z)
  · have e : i = ds.length := by omega
    subst e
    refine .inl ⟨src.stop _ _ _ _ b2 (Nat.le_refl _), ?_⟩
    simp (config := {failIfUnchanged := false}) only [] at hgo
    rw [List.drop_length, lcLoop] at hgo
    exact hfin H2 ⟨fp2, F, vs, acc, ρ2, I2, s2, b2, hv, nd, nF, o, hgo⟩
/-! ### two clauses -/
def WIb (X : Cx) (scope : Scope) (tg iter : Expr) : TI := fun σ H R => ∀ (s : Shared) (H0 : Hp) (C : Addr) (cl : List (Str × Addr)) (fp : List Addr), WI (X.blk s H0 scope (compEnvC scope cl C X.env) fp) tg iter σ H R
theorem pi_WIb {tg iter : Expr} (s : Shared) (H : Hp) (C : Addr) (cl : List (Str × Addr)) (fp : List Addr) : PI (X.blk s H scope (compEnvC scope cl C X.env) fp) tg iter (WIb X scope tg iter) := ⟨fun pins s' σ H' R I h => pi_WI.run pins s' σ H' R I (h s H C cl fp)⟩
def lc2Loop (κ : List Kd) (ow ow1 : List Nat) (im : IM) (t t1 : Tgt) (tt : M Bool) (f1 : M (List D)) (tt1 : M Bool) (te : M D) : List D → List D → M (List D)
  | [], acc => ret acc
  | d :: ds, acc => fun ρ => match tset κ im t d ρ with
    | none => .stuck
    | some ρ1 => match tt ρ1 with
      | .ok true ρ2 => match f1 ρ2 with
        | .ok ds1 ρ3 => match lcLoop κ ow1 im t1 tt1 te ds1 acc (wipeD ρ3 ow1) with
          | .ok acc' ρ4 => lc2Loop κ ow ow1 im t t1 tt f1 tt1 te ds acc' (wipeD ρ4 ow)
          | _ => .stuck
        | _ => .stuck
      | .ok false ρ2 => lc2Loop κ ow ow1 im t t1 tt f1 tt1 te ds acc (wipeD ρ2 ow)
      | _ => .stuck
def mComp2 (κ : List Kd) (own own1 : List Nat) (im : IM) (t t1 : Tgt) (f : M (List D)) (tt : M Bool) (f1 : M (List D)) (tt1 : M Bool) (te : M D) : M D := bnd f fun ds ρ1 =>
  match lc2Loop κ own own1 im t t1 tt f1 tt1 te ds [] (wipeD ρ1 own) with
  | .ok acc ρ2 => .ok (.lst acc) (restD ρ1 ρ2 own)
  | _ => .stuck
theorem Stp.rebase {κ : List Kd} {fp fp' : Nat → List Addr} {tmp tmp' : Addr → Prop} {H H' : Hp} {ρ ρ' : List D} (s : Stp κ fp tmp H ρ fp' tmp' H' ρ') (ρ2 : List D) : Stp κ fp tmp H ρ2 fp' tmp' H' ρ2 := ⟨s.ex, s.ow, s.ox, s.tw, s.st, fun _ _ => .inl rfl, s.si⟩
theorem Src.and {K : PySem.W.Frag} {cl : Cl} {J : It} {B B2 : (Addr → Prop) → (Addr → Prop) → Hp → Prop} {ds : List D} (h : Src K cl J B ds) (h2 : ∀ (P Sr Sr' T T' : Addr → Prop) (H H' : Hp), Ext P H H' → (∀ b, Sr b → H b ≠ none → Sr' b ∧ ¬ P b) → (∀ b, T b → H b ≠ none → T' b ∧ ¬ P b) → B2 Sr T H → B2 Sr' T' H') : Src K cl J (fun Sr T H => B Sr T H ∧ B2 Sr T H) ds where
  mv := fun P Sr Sr' T T' H H' e hs ht q => ⟨h.mv P Sr Sr' T T' H H' e hs ht q.1, h2 P Sr Sr' T T' H H' e hs ht q.2⟩
  stop := fun i Sr T H q => h.stop i Sr T H q.1
  go := fun i Sr T H q => h.go i Sr T H q.1
  yld := fun i Sr T H x H' d q => h.yld i Sr T H x H' d q.1
theorem notSet_ok' {iter : Expr} (h : notSet iter = true) : ∀ (env : Env) (x : Value), foldedSetIterable iter env x = pure x := fun env x => notSet_ok h x
def SLc2 (S : Sx) (k : Nat) (elt tg iter : Expr) (ifs : List Expr) (tg1 iter1 : Expr) (ifs1 : List Expr) (scope : Scope) (own : List (Str × Nat)) (own1 : List Nat) (f : M D) : Prop :=
  ((notSet iter = true ∧ notSet iter1 = true) ∧ blkC S.N S.sc scope own = true ∧ ∀ i ∈ own1, i ∈ own.map (·.2)) ∧ ∀ (X : Cx), Fit S X → ∀ (W : WX), Takes X W → ∀ (A : Gd) (fp : Nat → List Addr) (tmp : Addr → Prop) (σ : L2.St) (H : Hp) (ρ : List D) (Q : VK),
    SI X.K (clX X.mg) S.κ A fp tmp σ H ρ →
    wpx (f ρ) (fun d ρ' => ∀ v H' fp' F, SI X.K (clX X.mg) S.κ A fp' (tF tmp F) σ H' ρ' → Stp S.κ fp tmp H ρ fp' (tF tmp F) H' ρ' → (∀ b ∈ F, H b = none) → Res X.K (clX X.mg) S.κ A fp' (tF tmp F) H' F v d (.val k) → Q v H')
      (XQ X W S.κ A fp tmp σ H ρ) → tLc2 (WI X tg iter) (WGb X scope tg) (WTbs X scope ifs) (WIb X scope tg1 iter1) (WGb X scope tg1) (WTbs X scope ifs1) (WEb X scope elt) (own.map (·.2)) own1 σ H Q
section
variable {tg1 iter1 : Expr} {ifs1 : List Expr} {t1 : Tgt} {f1 : M (List D)} {tt1 : M Bool} {own1 : List Nat}
theorem slc2_comp (hi : SIt S m tg iter f) (hns : notSet iter = true) (hns1 : notSet iter1 = true) (hb : blkC S.N S.sc scope own = true) (ho : ownC S.sc scope own = true) (hl : lights S.κ (own.map (·.2)) = true) (ht : tgR (S.blk scope own) tg t = true) (hix : (t.ix.all fun i => (own.map (·.2)).contains i) = true)
    (ht1 : tgR (S.blk scope own) tg1 t1 = true) (hix1 : (t1.ix.all fun i => own1.contains i) = true) (hsub : (own1.all fun i => (own.map (·.2)).contains i) = true)
    (hT : STs (S.blk scope own) ifs tt) (hi1 : SIt (S.blk scope own) m tg1 iter1 f1) (hT1 : STs (S.blk scope own) ifs1 tt1) (hE : SE (S.blk scope own) (.val k) elt te) : SLc2 S (k + 1) elt tg iter ifs tg1 iter1 ifs1 scope own own1 (mComp2 S.κ (own.map (·.2)) own1 (imOf m) t t1 f tt f1 tt1 te) := by
  have hsub' : ∀ i ∈ own1, i ∈ own.map (·.2) := fun i h => by simpa using List.all_eq_true.mp hsub i h
  refine ⟨⟨⟨hns, hns1⟩, hb, hsub'⟩, ?_⟩
  intro X fit W tk A fp tmp σ H ρ Q I hw
  have hix' : ∀ i ∈ t.ix, i ∈ own.map (·.2) := fun i h => by simpa using List.all_eq_true.mp hix i h
  have hix1' : ∀ i ∈ t1.ix, i ∈ own1 := fun i h => by simpa using List.all_eq_true.mp hix1 i h
  refine hi X fit W tk A fp tmp σ H ρ _ I (wpx_mono (wpx_bnd hw) (fun ds ρ1 hd J B H1 fp1 I1 s1 src b1 => ?_) fun _ _ z => z)
  clear hw
  intro Dd hD
  generalize hOw : own.map (·.2) = ow at hd hix' hsub' ⊢
  rw [hOw] at hl
  generalize hQe : (fun (acc ρ2 : List D) => ∀ v H' fp' F, SI X.K (clX X.mg) S.κ A fp' (tF tmp F) σ H' (restD ρ1 ρ2 ow) → Stp S.κ fp tmp H ρ fp' (tF tmp F) H' (restD ρ1 ρ2 ow) → (∀ b ∈ F, H b = none) → Res X.K (clX X.mg) S.κ A fp' (tF tmp F) H' F v (.lst acc) (.val (k + 1)) → Q v H') = Qe
  have hd' : wpx (lc2Loop S.κ ow own1 (imOf m) t t1 tt f1 tt1 te ds [] (wipeD ρ1 ow)) Qe (fun _ _ => False) := by
    rw [← hQe]
    cases q : lc2Loop S.κ ow own1 (imOf m) t t1 tt f1 tt1 te ds [] (wipeD ρ1 ow) <;> rw [q] at hd <;> exact hd
  clear hd
  let Inv := fun (i : Nat) (H' : Hp) => LcI X.K (clX X.mg) S.κ A fp1 tmp (L2.wipe σ ow) H1 (wipeD ρ1 ow) Dd k m B (fun acc => lc2Loop S.κ ow own1 (imOf m) t t1 tt f1 tt1 te (ds.drop i) acc) Qe H'
  refine ⟨fun i n H' => n = ds.length - i ∧ i ≤ ds.length ∧ Inv i H', ⟨ds.length, by omega, Nat.zero_le _, fp1, [], [], [], wipeD ρ1 ow, ?_, ?_, ?_, upd_same, by simp, emp, .nil, by simpa using hd'⟩, ?_⟩
  · exact I1.wipe.new hD fun b z => z.elim .inl fun z => .inr (by simpa using z)
  · exact Stp.refl.new hD fun b z => z.elim .inl fun z => .inr (by simpa using z)
  · have s0 : Stp S.κ fp1 tmp H1 ρ1 fp1 (tF tmp [Dd]) (upd H1 Dd (.lst [])) ρ1 := Stp.refl.new hD fun b z => z.elim .inl fun z => .inr (by simpa using z)
    exact src.mv _ _ _ _ _ _ _ s0.ex (SRd.step s0) (TmS.stp s0) b1
  rintro i n H2 ⟨rfl, hle, fp2, F, vs, acc, ρ2, I2, s2, b2, hv, nd, nF, o, hgo⟩
  by_cases hlt : i < ds.length
  · refine .inr ⟨src.go i _ _ _ b2 hlt, Inv (i + 1), fun H' p' => ⟨ds.length - (i + 1), by omega, rfl, hlt, p'⟩, fun x H3 hy => ?_⟩
    obtain ⟨e3, r3⟩ := src.yld i _ _ _ x H3 _ b2 (List.getElem?_eq_getElem hlt) hy
    have sg : Stp S.κ fp2 (tF tmp (Dd :: F)) H2 ρ2 fp2 (tF tmp (Dd :: F)) H3 ρ2 := .ext0 e3
    have I3 := I2.grow e3 (fun b z => .inl z) fun b z => e3.al b (I2.fa b (.inr z))
    have b3 := src.mv _ _ _ _ _ _ _ sg.ex (SRd.step sg) (TmS.stp sg) b2
    have hv3 : H3 Dd = some (.lst vs) := e3.keep _ _ hv fun z => z
    have o3 : OwnL X.K (clX X.mg) H3 (Sh A fp2 (tF tmp (Dd :: F))) k F vs acc := OwnL.ext e3 (fun b q _ => ⟨q, fun z => z⟩) (fun _ _ z => z) o
    have s3 := s2.trans sg
    simp (config := {failIfUnchanged := false}) only [] at hgo
    rw [List.drop_eq_getElem_cons hlt, lc2Loop] at hgo
    simp only at hgo
    cases hts : tset S.κ (imOf m) t ds[i] ρ2 with
    | none => rw [hts] at hgo; exact hgo.elim
    | some ρ3 =>
    rw [hts] at hgo
    simp only at hgo
    rw [tm_im] at r3
    intro sA HA C cl fpA
    refine tg_core (S := S.blk scope own) (fit.blk ho sA HA C cl fpA) ht I3 r3 hts fun σ3 I3' ag => ⟨wipe_eq (by rw [I3'.sz.1, I1.sz.1]; rfl) (fun i hi => (ag i hi).1) hix', ?_⟩
    have eσ : L2.wipe σ3 ow = L2.wipe σ ow := wipe_eq (by rw [I3'.sz.1, I1.sz.1]; rfl) (fun i hi => (ag i hi).1) hix'
    have hσ3 : σ3.length = S.κ.length := I3'.sz.1
    have test : wpx (tt ρ3) (fun b ρ4 => if b = true then wpx (f1 ρ4) (fun ds1 ρ5 => wpx (lcLoop S.κ own1 (imOf m) t1 tt1 te ds1 acc (wipeD ρ5 own1)) (fun acc' ρ6 => wpx (lc2Loop S.κ ow own1 (imOf m) t t1 tt f1 tt1 te (ds.drop (i + 1)) acc' (wipeD ρ6 ow)) Qe (fun _ _ => False)) (fun _ _ => False)) (fun _ _ => False)
        else wpx (lc2Loop S.κ ow own1 (imOf m) t t1 tt f1 tt1 te (ds.drop (i + 1)) acc (wipeD ρ4 ow)) Qe (fun _ _ => False)) (fun _ _ => False) := by
      cases et : tt ρ3 with
      | stuck => rw [et] at hgo; exact hgo
      | err x r => rw [et] at hgo; exact hgo
      | ok b ρ4 =>
        rw [et] at hgo
        cases b with
        | false => simpa [wpx] using hgo
        | true =>
          simp only [wpx, if_true]
          simp only at hgo
          cases ee : f1 ρ4 with
          | stuck => rw [ee] at hgo; exact hgo
          | err x r => rw [ee] at hgo; exact hgo
          | ok ds1 ρ5 =>
            rw [ee] at hgo
            simp only at hgo
            show wpx (lcLoop S.κ own1 (imOf m) t1 tt1 te ds1 acc (wipeD ρ5 own1)) _ _
            cases e6 : lcLoop S.κ own1 (imOf m) t1 tt1 te ds1 acc (wipeD ρ5 own1) with
            | stuck => rw [e6] at hgo; exact hgo
            | err x r => rw [e6] at hgo; exact hgo
            | ok acc' ρ6 => rw [e6] at hgo; exact hgo
    refine wts_run fit ho hT I3' (wpx_mono test (fun b ρ4 hb4 H4 fp4 I4 s4 => ?_) fun _ _ z => z)
    have b4 := src.mv _ _ _ _ _ _ _ s4.ex (SRd.step s4) (TmS.stp s4) b3
    have fX : ∀ b ∈ Dd :: F, ¬ OX S.κ fp2 b := fun b hb ⟨i, _, z⟩ => I2.dt i b z (.inr hb)
    have hv4 := s4.ex.keep _ _ hv3 (fX _ List.mem_cons_self)
    have o4 := OwnL.ext s4.ex (Sh.step s4) (fun b hb => fX b (List.mem_cons_of_mem _ hb)) o3
    cases b with
    | false =>
      simp only [Bool.false_eq_true, if_false] at hb4 ⊢
      have I4w := I4.wipe (own := ow)
      rw [eσ] at I4w
      exact ⟨fp4, F, vs, acc, wipeD ρ4 ow, I4w, s3.trans (s4.turn (fun i hi => (ag i hi).2) hix' (by rw [I4.sz.2, I2.sz.2])), b4, hv4, nd, nF, o4, hb4⟩
    | true =>
      simp only [if_true] at hb4 ⊢
      intro sB HB CB clB fpB
      refine hi1 _ (fit.blk ho sB HB CB clB fpB) _ takes0 A fp4 (tF tmp (Dd :: F)) σ3 H4 ρ4 _ I4 (wpx_mono hb4 (fun ds1 ρ5 h5 J1 B1 H5 fp5 I5 s5 src1 b5 => ?_) fun _ _ z => z.elim)
      have s45 := s4.trans s5
      have sA : Stp S.κ fp1 tmp H1 (wipeD ρ1 ow) fp5 (tF tmp (Dd :: F)) H5 (wipeD ρ5 ow) := s3.trans (s45.turn (fun i hi => (ag i hi).2) hix' (by rw [I5.sz.2, I2.sz.2]; rfl))
      have b55 := src.mv _ _ _ _ _ _ _ s5.ex (SRd.step s5) (TmS.stp s5) b4
      have fX4 : ∀ b ∈ Dd :: F, ¬ OX S.κ fp4 b := fun b hb ⟨i, _, z⟩ => I4.dt i b z (.inr hb)
      have hv5 := s5.ex.keep _ _ hv4 (fX4 _ List.mem_cons_self)
      have o5 := OwnL.ext s5.ex (Sh.step s5) (fun b hb => fX4 b (List.mem_cons_of_mem _ hb)) o4
      refine lc_run (Qe := fun acc' ρ6 => wpx (lc2Loop S.κ ow own1 (imOf m) t t1 tt f1 tt1 te (ds.drop (i + 1)) acc' (wipeD ρ6 ow)) Qe (fun _ _ => False)) fit ho ht1 hix1' hT1 hE I1 hD (src1.and src.mv) hσ3 (ρX := wipeD ρ5 own1) ⟨fp5, F, vs, acc, wipeD ρ5 own1, I5.wipe, sA.rebase _, ⟨b5, b55⟩, hv5, nd, nF, o5, h5⟩ fun H6 ⟨fp6, F6, vs6, acc6, ρ6, I6, s6, b6, hv6, nd6, nF6, o6, h6⟩ => ?_
      have I6w := I6.wipe (own := ow)
      have ew : L2.wipe (L2.wipe σ3 own1) ow = L2.wipe σ ow := by
        refine wipe_eq (is := ow) (by rw [wipe_length, hσ3, I1.sz.1]) (fun j hj => ?_) fun _ z => z
        rw [L2.wipe_out (fun z => hj (hsub' j z)), (ag j (fun z => hj (hix' j z))).1]
      rw [ew] at I6w
      refine ⟨fp6, F6, vs6, acc6, wipeD ρ6 ow, I6w, ⟨s6.ex, s6.ow, s6.ox, s6.tw, s6.st, fun j hx => ?_, s6.si⟩, b6.2, hv6, nd6, nF6, o6, h6⟩
      by_cases hj : j ∈ ow
      · by_cases hl6 : j < ρ6.length
        · obtain ⟨d, hd⟩ : ∃ d, (wipeD ρ6 ow)[j]? = some d := ⟨_, List.getElem?_eq_getElem (by rw [wipeD_len]; exact hl6)⟩
          have := wipeD_in hj hd
          subst this
          exact .inr hd
        · refine .inl ?_
          have h1 : ρ6.length = S.κ.length := I6.sz.2
          have h2 : ρ1.length = S.κ.length := I1.sz.2
          rw [List.getElem?_eq_none (by rw [wipeD_len]; omega), List.getElem?_eq_none (by rw [wipeD_len]; omega)]
      · have z6 := s6.rs j hx
        have zA := sA.rs j hx
        rw [wipeD_out hj] at zA ⊢
        rw [wipeD_out (fun z => hj (hsub' j z))] at z6
        rcases z6 with z6 | z6
        · rw [z6]; exact zA
        · exact .inr z6
  · have e : i = ds.length := by omega
    subst e
    refine .inl ⟨src.stop _ _ _ _ b2 (Nat.le_refl _), ?_⟩
    simp (config := {failIfUnchanged := false}) only [] at hgo
    rw [List.drop_length, lc2Loop] at hgo
    obtain ⟨J2, z2⟩ := I1.back I2 s2 hl
    have hgo' : Qe acc ρ2 := hgo
    rw [← hQe] at hgo'
    refine hgo' (.ref Dd) H2 fp2 (Dd :: F) J2 (s1.trans z2) (fun b hb => ?_) ⟨nd, fun b hb => ⟨.inr hb, ?_⟩, .lst hv o⟩
    · rcases List.mem_cons.mp hb with z | z
      · rw [z]; exact none_back s1.ex hD
      · exact none_back s1.ex (nF b z)
    · rcases List.mem_cons.mp hb with z | z
      · rw [z]; exact I1.an _ hD
      · exact I1.an _ (nF b z)
theorem se_comp2 {g : M D} (h : SLc2 S k elt tg iter ifs tg1 iter1 ifs1 scope own own1 g) : SE S (.val k) (.ListComp elt [⟨tg, iter, ifs, 0⟩, ⟨tg1, iter1, ifs1, 0⟩] scope pos) g := by
  intro X fit W tk A fp tmp σ H ρ Q I hw
  obtain ⟨⟨⟨hns, hns1⟩, hb, hsub⟩, h⟩ := h
  exact ⟨_, pe_lc2 fit.calm (by rw [fit.hN]; exact fit.nd) pi_WI (blkOk_by (by rw [fit.hN, fit.sc]; exact hb)) hsub pg_WGb (pts_WTbs ifs) pi_WIb pg_WGb (pts_WTbs ifs1) pe_WEb (notSet_ok hns) (notSet_ok' hns1), h X fit W tk A fp tmp σ H ρ Q I hw⟩
end
end
end VS

set_option Elab.async false
set_option linter.all false
set_option maxRecDepth 100000
set_option maxHeartbeats 4000000
/-! VS26: calls with keywords. -/
namespace VS
open PySem PySem.Spec PyProof.Rows L2
section
variable {K : PySem.W.Frag} {cl : Cl} {κ : List Kd} {A : Gd} {fp : Nat → List Addr} {tmp tmp' : Addr → Prop} {σ : L2.St} {H : Hp} {Fs : List (List Addr)} {vs : List V} {ds : List D} {as : List AK}
def ElA (K : PySem.W.Frag) (cl : Cl) (κ : List Kd) (A : Gd) (fp : Nat → List Addr) (tmp : Addr → Prop) (σ : L2.St) (H : Hp) (F : List Addr) (v : V) (d : D) : AK → Prop
  | .v m => Res K cl κ A fp tmp H F v d m
  | .r i _ => F = [] ∧ d = .un ∧ σ[i]? = some (some v)
theorem ArgL.el (h : ArgL K cl κ A fp tmp σ H Fs vs ds as) : ∀ {j : Nat} {a : AK}, as[j]? = some a → ∃ F v d, Fs[j]? = some F ∧ vs[j]? = some v ∧ ds[j]? = some d ∧ ElA K cl κ A fp tmp σ H F v d a := by
  induction h with
  | nil => intro j a h; simp at h
  | v r _ _ ih =>
    intro j a h
    cases j with
    | zero => simp at h; subst h; exact ⟨_, _, _, rfl, rfl, rfl, r⟩
    | succ n => simpa using ih (by simpa using h)
  | r e _ ih =>
    intro j a h
    cases j with
    | zero => simp at h; subst h; exact ⟨_, _, _, rfl, rfl, rfl, rfl, rfl, e⟩
    | succ n => simpa using ih (by simpa using h)
theorem pick_cons {α : Type} {l : List α} {j : Nat} {π : List Nat} {x : α} (h : l[j]? = some x) : pick l (j :: π) = x :: pick l π := by simp [pick, h]
theorem pick_mem {α : Type} {l : List α} {π : List Nat} {x : α} (h : x ∈ pick l π) : ∃ j ∈ π, l[j]? = some x := by
  unfold pick at h
  exact List.mem_filterMap.mp h
theorem ArgL.pick (h : ArgL K cl κ A fp tmp σ H Fs vs ds as) : ∀ {π : List Nat}, π.Nodup → (∀ j ∈ π, j < as.length) → ArgL K cl κ A fp tmp σ H (pick Fs π) (pick vs π) (pick ds π) (pick as π)
  | [], _, _ => .nil
  | j :: π, nd, hl => by
    have nd' := List.nodup_cons.mp nd
    have ih := ArgL.pick h nd'.2 fun i hi => hl i (List.mem_cons_of_mem _ hi)
    obtain ⟨a, ha⟩ : ∃ a, as[j]? = some a := ⟨_, List.getElem?_eq_getElem (hl j List.mem_cons_self)⟩
    obtain ⟨F, v, d, e1, e2, e3, el⟩ := h.el ha
    rw [pick_cons e1, pick_cons e2, pick_cons e3, pick_cons ha]
    cases a with
    | v m =>
      refine .v el (fun b hb z => ?_) ih
      obtain ⟨G, hG, hbG⟩ := List.mem_flatten.mp z
      obtain ⟨i, hi, eG⟩ := pick_mem hG
      have := h.disj e1 eG hb hbG
      subst this
      exact nd'.1 hi
    | r i k =>
      obtain ⟨rfl, rfl, e⟩ := el
      exact .r e ih
theorem pick_flat {π : List Nat} (hc : ∀ j, j < Fs.length → j ∈ π) : tF tmp (pick Fs π).flatten = tF tmp Fs.flatten := by
  funext b
  refine propext ⟨fun h => h.imp id fun z => ?_, fun h => h.imp id fun z => ?_⟩
  · obtain ⟨G, hG, hb⟩ := List.mem_flatten.mp z
    obtain ⟨i, _, e⟩ := pick_mem hG
    exact List.mem_flatten.mpr ⟨G, List.mem_of_getElem? e, hb⟩
  · obtain ⟨G, hG, hb⟩ := List.mem_flatten.mp z
    obtain ⟨i, hi, e⟩ := List.mem_iff_getElem.mp hG
    refine List.mem_flatten.mpr ⟨G, List.mem_filterMap.mpr ⟨i, hc i hi, by rw [List.getElem?_eq_getElem hi, e]⟩, hb⟩
end
section
variable {S : Sx} {X : Cx} {e : Expr} {es : List Expr} {as : List AK} {g : M (List D)} {pos p : Pos} {kws : List Keyword}
theorem wes_app : ∀ {es fs : List Expr} {σ : L2.St} {H : Hp} {Q : List V → Hp → Prop}, WEs X (es ++ fs) σ H Q → WEs X es σ H fun vs H1 => WEs X fs σ H1 fun zs H2 => Q (vs ++ zs) H2
  | [], fs, σ, H, Q, h => h
  | e :: es, fs, σ, H, Q, h => we_mono h fun v H1 h1 => wes_mono (wes_app h1) fun vs H2 h2 => wes_mono h2 fun zs H3 h3 => h3
theorem pk_WEs : ∀ {kws : List Keyword}, PK X kws (WEs X (kws.map (·.value)))
  | [] => pk_nil
  | ⟨n, v, q⟩ :: kws => pk_cons pe_WE pk_WEs
def kwNames (kws : List Keyword) : List Str := kws.filterMap (·.arg)
theorem kw_all : ∀ {kws : List Keyword} {env : Env}, (kws.all fun k => k.arg.isSome) = true → (backToKw pos (keywordEach kws env)).all (·.1.isSome) = true ∧ (backToKw pos (keywordEach kws env)).filterMap (·.1) = kwNames kws ∧ (backToKw pos (keywordEach kws env)).any (·.1.isNone) = false := by
  intro kws
  induction kws with
  | nil => intro env _; exact ⟨rfl, rfl, rfl⟩
  | cons k kws ih =>
    intro env h
    obtain ⟨n, v, q⟩ := k
    simp only [List.all_cons, Bool.and_eq_true] at h
    obtain ⟨a, b, c⟩ := ih (env := env) h.2
    have e : backToKw pos (keywordEach (⟨n, v, q⟩ :: kws) env) = (n, do let x ← eval v env; standAt pos; pure x) :: backToKw pos (keywordEach kws env) := rfl
    cases n with
    | none => simp at h
    | some n =>
      rw [e]
      refine ⟨by simpa using a, ?_, by simpa using c⟩
      rw [List.filterMap_cons]
      simp [b, kwNames]
theorem run_fnK {P : XK} {k : Nat} {f : Addr} {fd : FuncData} {ps ks : List Str} {sp : Sp} {g : List Value → List Value → List Value} {gV : List V → List V → List V} {pins : List (Addr × Obj)} {σ : L2.St} {H : Hp} {s : Shared} {Q : VK} {us ws : List Value} {vs zs : List V} (F : FnOk X.prog X.w X.K X.mg X.base (L2.CX X.prog X.w) k f fd ps sp) (hr : Room k X.A) (hb : KBinds X.K fd ps ks g gV) (hx : PassesAt (L2.CX X.prog X.w) X σ P)
    (I : Inv X pins σ H s) (r : Vals vs us) (rz : Vals zs ws) (h : sp (gV vs zs) H Q P) : wpAny (model X.prog X.w) X.A (call (.ref f) us (ks.zip ws)) (EP X pins σ Q) X.xe s := by
  have rv := hb.rel r rz
  have hlen : (g us ws).length = ps.length := (rv.length.symm).trans (F.len _ _ _ _ h)
  refine wpAny_call (codeAny_mono (F.run X.A X.stack s H ⟨us, ks.zip ws⟩ (g us ws) (gV vs zs) Q P hr I.env0 (hb.to s us ws I.kIn hlen) rv h) fun r s' hq => ?_)
  match r, hq with
  | .error e, hq => exact hx pins H s e s' I hq
  | .ok (.ret u), hq => exact I.after hq
theorem vals_len {vs : List V} {us : List Value} (h : Vals vs us) : vs.length = us.length := h.length
def kwOk (es : List Expr) (kws : List Keyword) : Bool := noStars es && kws.all fun k => k.arg.isSome
/-- f(.., k = v, ..): all values from the left, then the parameters' order -/
theorem se_callK {fi : FnI} {x : Str} {π : List Nat} (hf : fi ∈ S.fs) (hx : fi.name = x) (hg : glB S.sc x = true) (hn : okName x = true) (hs : kwOk es kws = true) (hkb : (es.length, kwNames kws, π) ∈ fi.kb) (hπ : (π.length == as.length && (List.range as.length).all fun j => π.contains j) = true) (hπ2 : π.Nodup)
    (hπ3 : (π.all fun j => Nat.blt j as.length) = true) (hlen : as.length = (es ++ kws.map (·.value)).length) (ha : aksOk (pick as π) fi.ks = true) (nd : (refsOf (pick as π)).Nodup) (hX : refsX S.κ (pick as π) = true) (h : SAs S as (es ++ kws.map (·.value)) g) :
    SE S (.val fi.kr) (.Call (.Name x p) es kws pos) (bnd g fun ds => mCallR fi.sem (pick as π) (pick ds π)) := by
  subst hx
  intro X fit W tk A fp tmp σ H ρ Q I hw
  unfold okName at hn
  simp only [Bool.and_eq_true, Bool.not_eq_true'] at hn
  unfold kwOk at hs
  simp only [Bool.and_eq_true] at hs
  have FA := fit.fs fi hf
  obtain ⟨f, fd, hm, kp, hb, F, hkb'⟩ := FA.ex
  have kb := hkb' _ hkb
  simp only [Bool.and_eq_true, List.all_eq_true, beq_iff_eq, List.contains_iff_mem] at hπ hπ3
  -- the reading of the call
  have rd : WEs X (es ++ kws.map (·.value)) σ H (fun vs H1 => vs.length = as.length → spF fi X.K (clX X.mg) (pick vs π) H1 Q (L2.WE W σ)) → WE X (.Call (.Name fi.name p) es kws pos) σ H Q := fun hq => by
    refine ⟨fun σ' H' Q' => WEs X (es ++ kws.map (·.value)) σ' H' (fun vs H1 => vs.length = as.length → spF fi X.K (clX X.mg) (pick vs π) H1 Q' (L2.WE W σ')), ⟨fun pins s σ' H' Q' J hr => ?_⟩, hq⟩
    refine wpAny_Call_Name_kw (ld_glob J (gl_of fit hg) hm ?_ hn.1)
    have hr' := wes_app hr
    obtain ⟨k1, k2, k3⟩ := kw_all (pos := pos) (env := X.env) hs.2
    have fin : ∀ {us ws : List Value} {vs zs : List V} {s2 : Shared} {H2 : Hp}, Inv X pins σ' H2 s2 → Vals vs us → Vals zs ws → vs.length = es.length → zs.length = kws.length → ((vs ++ zs).length = as.length → spF fi X.K (clX X.mg) (pick (vs ++ zs) π) H2 Q' (L2.WE W σ')) → wpAny (model X.prog X.w) X.A (call (.ref f) us ((kwNames kws).zip ws)) (EP X pins σ' Q') X.xe s2 := fun {us ws vs zs s2 H2} J2 r rz l1 l2 hsp => by
      have hl : (vs ++ zs).length = as.length := by rw [hlen, List.length_append, List.length_append, List.length_map, l1, l2]
      have kn : (kwNames kws).length = kws.length := by
        have gen : ∀ {kws : List Keyword}, (kws.all fun k => k.arg.isSome) = true → (kwNames kws).length = kws.length := by
          intro kws
          induction kws with
          | nil => intro _; rfl
          | cons k kws ih =>
            intro h
            simp only [List.all_cons, Bool.and_eq_true] at h
            obtain ⟨n, e⟩ := Option.isSome_iff_exists.mp h.1
            have i := ih h.2
            unfold kwNames at i ⊢
            rw [List.filterMap_cons, e, List.length_cons, List.length_cons, i]
        exact gen hs.2
      refine run_fnK F fit.room kb (passAt tk σ') J2 r rz ?_
      have : pickK (es.length, kwNames kws, π) vs zs = pick (vs ++ zs) π := by
        unfold pickK
        rw [if_pos ⟨l1, by rw [kn]; exact l2⟩]
      rw [this]
      exact hsp hl
    have wl : ∀ {es : List Expr} {σ : L2.St} {H : Hp} {Q : List V → Hp → Prop}, WEs X es σ H Q → WEs X es σ H fun vs H1 => vs.length = es.length ∧ Q vs H1 := by
      intro es
      induction es with
      | nil => intro σ H Q h; exact ⟨rfl, h⟩
      | cons e es ih => intro σ H Q h; exact we_mono h fun v H1 h1 => wes_mono (ih h1) fun vs H2 ⟨a, b⟩ => ⟨by simp [a], b⟩
    have hr2 : WEs X es σ' H' fun vs H1 => vs.length = es.length ∧ WEs X (kws.map (·.value)) σ' H1 fun zs H2 => zs.length = (kws.map (·.value)).length ∧ ((vs ++ zs).length = as.length → spF fi X.K (clX X.mg) (pick (vs ++ zs) π) H2 Q' (L2.WE W σ')) := wes_mono (wl hr') fun vs H1 ⟨a, b⟩ => ⟨a, wl b⟩
    cases es with
    | nil =>
      obtain ⟨_, hr3⟩ := hr2
      have z := (pk_WEs (X := X) (kws := kws)).run pos pins s σ' H' _ J hr3
      refine PySem.W.callWith_KW0 (h₀ := X.base) J.ok.mod.kin kp k1 (thn z fun ws s2 ⟨zs, H2, J2, rz, l2, hsp⟩ => ⟨J2.kIn, ?_⟩) (by rw [k3]; rfl)
      rw [k2]
      exact fin (us := []) (vs := []) J2 .nil rz rfl (by simpa using l2) hsp
    | cons e es =>
      have h' : noStar e = true ∧ noStars es = true := by simpa [noStars] using hs.1
      have z := (pa_WEs (X := X) hs.1).run pos pins s σ' H' _ J hr2
      refine PySem.W.callWith_KW (h₀ := X.base) J.ok.mod.kin kp k1 (thn z fun us s1 ⟨vs, H1, J1, r, l1, q1⟩ => ?_) (by rw [stars_any (es := e :: es) hs.1, k3]; rfl) (star1 h'.1)
      refine thn ((pk_WEs (X := X) (kws := kws)).run pos pins s1 σ' H1 _ J1 q1) fun ws s2 ⟨zs, H2, J2, rz, l2, hsp⟩ => ⟨J2.kIn, ?_⟩
      rw [k2]
      exact fin J2 r rz l1 (by simpa using l2) hsp
  refine rd (h X fit W tk A fp tmp σ H ρ _ I (wpx_mono (wpx_bnd hw) (fun ds ρ1 hd vs H1 fp1 Fs I1 s1 nF ar => ?_) fun _ _ z => z))
  intro _
  have hpl : ∀ j ∈ π, j < as.length := fun j hj => Nat.lt_of_succ_le (Nat.ble_eq.mp (hπ3 j hj))
  have hcov : ∀ j, j < Fs.length → j ∈ π := fun j hj => hπ.2 j (List.mem_range.mpr (by rw [← ar.len.1]; exact hj))
  have et : tF tmp (pick Fs π).flatten = tF tmp Fs.flatten := pick_flat hcov
  have ar2 := ar.pick hπ2 hpl
  rw [← et] at I1 s1 ar2
  refine call_core fit FA.kn (as := pick as π) (ds := pick ds π) (Fs := pick Fs π) ⟨I, I1, s1, fun b hb => ?_, ar2, ha, nd, refsX_get hX⟩ hd
  obtain ⟨G, hG, hb⟩ := List.mem_flatten.mp hb
  obtain ⟨i, _, e⟩ := pick_mem hG
  exact nF b (List.mem_flatten.mpr ⟨G, List.mem_of_getElem? e, hb⟩)
theorem sts_nil : STs S [] (ret true) := rfl
theorem sts_one {c : Expr} {f : M Bool} (h : ST S c f) : STs S [c] f := h
/-- a name takes a comprehension's list, where the store swaps or not -/
theorem s1_setLcA {scope : Scope} {own : List (Str × Nat)} {f : M D} {elt tg iter : Expr} {ifs : List Expr} {x : Str} {i k : Nat} {q : Pos} (hn : nmOk S x i = true) (hk : kOk S.pr S.κ i k = true) (h : SLc S k elt tg iter ifs scope own f) : S1 S (.Assign [.Name x p] (.ListComp elt [⟨tg, iter, ifs, 0⟩] scope pos) q) (mSet i f) := by
  cases hb : swB S.sc scope x p pos with
  | true => exact s1_setLc hn hk hb h
  | false => exact s1_setLn hn hk (fun env he => by rw [swB_ok, he, hb]) (sm_se (se_comp h))
end
section
variable {S : Sx} {e a b : Expr} {pos p : Pos}
end
end VS

set_option Elab.async false
set_option linter.all false
set_option maxRecDepth 100000
set_option maxHeartbeats 4000000
/-! VS27: a statement that only reads an owned slot (the slot pinned). -/
namespace VS
open PySem PySem.Spec PyProof.Rows L2
def Sx.pin (S : Sx) (i : Nat) : Sx := { S with κ := S.κ.set i .B, pr := i :: S.pr }
section
variable {K : PySem.W.Frag} {cl : Cl} {np : Nat} {pr : List Nat} {κ : List Kd} {A : Gd} {fp fp' : Nat → List Addr} {tmp : Addr → Prop} {σ σ' : L2.St} {H H' : Hp} {ρ ρ' : List D} {i k : Nat} {F : List Addr} {v : V} {d : D}
def pinG (A : Gd) (fp : Nat → List Addr) (i : Nat) : Gd := ⟨A.ok, fun b => A.C b ∨ b ∈ fp i⟩
theorem pin_oo {b : Addr} : OO (setF fp i []) (tF tmp (fp i)) b ↔ OO fp tmp b := by
  constructor
  · rintro (⟨j, h⟩ | h | h)
    · rcases setF_mem h with ⟨_, h⟩ | ⟨_, h⟩
      · cases h
      · exact .inl ⟨j, h⟩
    · exact .inr h
    · exact .inl ⟨i, h⟩
  · rintro (⟨j, h⟩ | h)
    · by_cases hj : j = i
      · subst hj; exact .inr (.inr h)
      · exact .inl ⟨j, by rw [setF_ne hj]; exact h⟩
    · exact .inr (.inl h)
theorem pin_get {j : Nat} {c : Kd} (h : (κ.set i .B)[j]? = some c) : (j = i ∧ c = .B) ∨ (j ≠ i ∧ κ[j]? = some c) := by
  by_cases hj : i = j
  · subst hj
    by_cases hl : i < κ.length
    · rw [List.getElem?_set_self hl] at h; cases h; exact .inl ⟨rfl, rfl⟩
    · rw [List.getElem?_eq_none (by simpa using hl)] at h; cases h
  · rw [List.getElem?_set_ne hj] at h
    exact .inr ⟨Ne.symm hj, h⟩
theorem SI.pin (I : SI K cl κ A fp tmp σ H ρ) (hr : noR κ ρ) (hk : ownK κ i k = true) : SI K cl (κ.set i .B) (pinG A fp i) (setF fp i []) (tF tmp (fp i)) σ H ρ := by
  have sh : ∀ b, Sh A fp tmp b → Sh (pinG A fp i) (setF fp i []) (tF tmp (fp i)) b := fun b s => ⟨s.1, fun z => s.2 (pin_oo.mp z)⟩
  refine ⟨by simpa using I.sz, I.an, fun b h => h.elim (I.ca b) fun z => I.fa b (.inl ⟨i, z⟩), fun b h => I.fa b (pin_oo.mp h), fun j b h => ?_, fun j j' b h h' => ?_, fun j => ?_, fun j b h z => ?_, fun j b h z => ?_, fun j b h => ?_, fun j x c e1 e2 e3 => ?_⟩
  · rcases setF_mem h with ⟨_, h⟩ | ⟨_, h⟩
    · cases h
    · exact I.fA j b h
  · rcases setF_mem h with ⟨_, h⟩ | ⟨_, h⟩ <;> rcases setF_mem h' with ⟨_, h'⟩ | ⟨_, h'⟩ <;> first | (cases h; done) | (cases h'; done) | exact I.dj j j' b h h'
  · by_cases hj : j = i
    · rw [hj, setF_same]; exact List.nodup_nil
    · rw [setF_ne hj]; exact I.nd j
  · rcases setF_mem h with ⟨_, h⟩ | ⟨hj, h⟩
    · cases h
    · exact z.elim (I.dt j b h) fun y => hj (I.dj j i b h y)
  · rcases setF_mem h with ⟨_, h⟩ | ⟨hj, h⟩
    · cases h
    · exact z.elim (I.cd j b h) fun y => hj (I.dj j i b h y)
  · rcases setF_mem h with ⟨_, h⟩ | ⟨hj, h⟩
    · cases h
    · obtain ⟨c, a, z⟩ := I.lf j b h
      exact ⟨c, by rw [List.getElem?_set_ne (Ne.symm hj)]; exact a, z⟩
  · rcases pin_get e3 with ⟨rfl, rfl⟩ | ⟨hj, h⟩
    · obtain ⟨w, a, o⟩ := I.root hk e1 e2
      refine ⟨w, a, o.read (fun b s => Sh.sbd b (sh b s)) fun b hb => ⟨fun ⟨j', z⟩ => ?_, fun _ => .inr hb⟩⟩
      rcases setF_mem z with ⟨_, z⟩ | ⟨hj, z⟩
      · cases z
      · exact hj (I.dj j' j b z hb)
    · obtain ⟨w, a, b⟩ := I.sl j x c e1 e2 h
      refine ⟨w, a, ?_⟩
      have ow : ∀ k', Own K cl H (Sh A fp tmp) k' (fp j) w x → Own K cl H (Sh (pinG A fp i) (setF fp i []) (tF tmp (fp i))) k' (setF fp i [] j) w x := fun k' q => by
        rw [setF_ne hj]
        exact Own.ext (P := fun _ => False) Ext.refl (fun x s _ => ⟨sh x s, fun z => z⟩) (fun _ _ z => z) q
      cases c with
      | F => exact Rp.up b sh
      | B =>
        refine Rp.up b fun x s => ⟨fun ⟨j', z⟩ => ?_, fun z => z.elim (fun y => .inl (s.2 y)) .inr⟩
        rcases setF_mem z with ⟨_, z⟩ | ⟨_, z⟩
        · cases z
        · exact s.1 ⟨j', z⟩
      | R => exact absurd (hr j x h e1) e2
      | L k' => exact ow k' b
      | X k' => exact ow k' b
def fixB (κ : List Kd) (pr : List Nat) (i : Nat) (ρ0 ρ : List D) : List D := (List.range ρ.length).map fun j => if j = i then ρ0.getD i .un else match κ[j]? with
  | some .B => if pr.contains j then ρ0.getD j .un else if (ρ.getD j .un).imm then ρ.getD j .un else .un
  | _ => ρ.getD j .un
theorem getD_some {l : List D} {j : Nat} {x : D} (h : l.getD j .un = x) (hx : x ≠ .un) : l[j]? = some x := by
  cases q : l[j]? with
  | none => simp [List.getD, q] at h; exact absurd h.symm hx
  | some y => simp [List.getD, q] at h; rw [h]
theorem fixB_len : (fixB κ pr i ρ ρ').length = ρ'.length := by simp [fixB]
theorem fixB_get {j : Nat} {x : D} (h : (fixB κ pr i ρ ρ')[j]? = some x) (hx : x ≠ .un) : (j = i ∧ ρ[i]? = some x) ∨ (j ≠ i ∧ κ[j]? = some .B ∧ ((j ∈ pr ∧ ρ[j]? = some x) ∨ (ρ'[j]? = some x ∧ x.imm = true))) ∨ (j ≠ i ∧ κ[j]? ≠ some .B ∧ ρ'[j]? = some x) := by
  unfold fixB at h
  rw [List.getElem?_map] at h
  cases q : (List.range ρ'.length)[j]? with
  | none => rw [q] at h; cases h
  | some j' =>
    obtain ⟨_, rfl⟩ := List.getElem?_eq_some_iff.mp q
    rw [q] at h
    simp only [Option.map_some, Option.some.injEq, List.getElem_range] at h
    split at h
    · rename_i e
      exact .inl ⟨e, getD_some h hx⟩
    · rename_i e
      split at h
      · rename_i hB
        refine .inr (.inl ⟨e, hB, ?_⟩)
        split at h
        · rename_i hp
          exact .inl ⟨by simpa using hp, getD_some h hx⟩
        · split at h
          · rename_i hi
            rw [h] at hi
            exact .inr ⟨getD_some h hx, hi⟩
          · exact absurd h.symm hx
      · rename_i hB
        exact .inr (.inr ⟨e, fun z => hB z, getD_some h hx⟩)
theorem SI.unpin {fp2 : Nat → List Addr} (I : SI K cl κ A fp tmp σ H ρ) (hk : ownK κ i k = true) (I' : SI K cl (κ.set i .B) (pinG A fp i) fp2 (tF (tF tmp (fp i)) F) σ' H' ρ') (s : StS np (i :: pr) (setF fp i []) (tF tmp (fp i)) σ H fp2 (tF (tF tmp (fp i)) F) σ' H') (gv : Giv np (setF fp i []) H F) (hr : noR κ ρ') :
    SI K cl κ A (setF fp2 i (fp i)) (tF tmp F) σ' H' (fixB κ pr i ρ ρ') ∧ StS np pr fp tmp σ H (setF fp2 i (fp i)) (tF tmp F) σ' H' := by
  have nFi : ∀ b ∈ F, b ∉ fp i := fun b hb z => by
    rcases gv b hb with ⟨j, _, y⟩ | y
    · rcases setF_mem y with ⟨_, y⟩ | ⟨hj, y⟩
      · cases y
      · exact hj (I.dj j i b y z)
    · exact I.fa b (.inl ⟨i, z⟩) y
  have oo : ∀ {b}, OO (setF fp2 i (fp i)) (tF tmp F) b → OO fp2 (tF (tF tmp (fp i)) F) b := fun {b} h => by
    rcases h with ⟨j, h⟩ | h | h
    · rcases setF_mem h with ⟨_, h⟩ | ⟨_, h⟩
      · exact .inr (.inl (.inr h))
      · exact .inl ⟨j, h⟩
    · exact .inr (.inl (.inl h))
    · exact .inr (.inr h)
  have inT : ∀ {b}, b ∈ fp i → tF (tF tmp (fp i)) F b := fun h => .inl (.inr h)
  have sh : ∀ b, Sh (pinG A fp i) fp2 (tF (tF tmp (fp i)) F) b → Sh A (setF fp2 i (fp i)) (tF tmp F) b := fun b q => ⟨q.1, fun z => q.2 (oo z)⟩
  have nOS : ∀ b ∈ fp i, ¬ OS (setF fp i []) b := fun b hb ⟨j, z⟩ => by
    rcases setF_mem z with ⟨_, z⟩ | ⟨hj, z⟩
    · cases z
    · exact hj (I.dj j i b z hb)
  have lt : i < κ.length := by rcases ownK_get hk with z | z <;> exact (List.getElem?_eq_some_iff.mp z).1
  refine ⟨⟨⟨by have := I'.sz.1; simpa using this, by rw [fixB_len]; have := I'.sz.2; simpa using this⟩, I'.an, fun b h => I'.ca b (.inl h), fun b h => I'.fa b (oo h), fun j b h => ?_, fun j j' b h h' => ?_, fun j => ?_, fun j b h z => ?_, fun j b h z => ?_, fun j b h => ?_, fun j x c e1 e2 e3 => ?_⟩, ⟨?_, fun b h => ?_, fun j b h => ?_, fun j hj => s.sg j (List.mem_cons_of_mem _ hj)⟩⟩
  · rcases setF_mem h with ⟨_, h⟩ | ⟨_, h⟩
    · exact I.fA i b h
    · exact I'.fA j b h
  · rcases setF_mem h with ⟨x, h⟩ | ⟨x, h⟩ <;> rcases setF_mem h' with ⟨y, h'⟩ | ⟨y, h'⟩
    · rw [x, y]
    · exact absurd (inT h) (I'.dt j' b h')
    · exact absurd (inT h') (I'.dt j b h)
    · exact I'.dj j j' b h h'
  · by_cases hj : j = i
    · rw [hj, setF_same]; exact I.nd i
    · rw [setF_ne hj]; exact I'.nd j
  · rcases setF_mem h with ⟨_, h⟩ | ⟨_, h⟩
    · exact z.elim (I.dt i b h) fun y => nFi b y h
    · exact I'.dt j b h (z.elim (fun y => .inl (.inl y)) .inr)
  · rcases setF_mem h with ⟨_, h⟩ | ⟨_, h⟩
    · exact I.cd i b h z
    · exact I'.cd j b h (.inl z)
  · rcases setF_mem h with ⟨x, h⟩ | ⟨hj, h⟩
    · rw [x]; exact I.lf i b h
    · obtain ⟨c, a, z⟩ := I'.lf j b h
      rw [List.getElem?_set_ne (Ne.symm hj)] at a
      exact ⟨c, a, z⟩
  · rcases fixB_get e1 e2 with ⟨rfl, h⟩ | ⟨hj, hB, h⟩ | ⟨hj, hB, h⟩
    · obtain ⟨w, a, o⟩ := I.root hk h e2
      refine ⟨w, by rw [s.sg j List.mem_cons_self]; exact a, ?_⟩
      have o2 : Own K cl H' (Sh A (setF fp2 j (fp j)) (tF tmp F)) k (setF fp2 j (fp j) j) w x := by
        rw [setF_same]
        refine Own.ext s.ex (fun b q n => ?_) (fun b hb => nOS b hb) o
        have q' : Sh (pinG A fp j) (setF fp j []) (tF tmp (fp j)) b := ⟨q.1, fun z => q.2 (pin_oo.mp z)⟩
        have z := Sh.stS s b q' n
        exact ⟨sh b z.1, z.2⟩
      rcases ownK_get hk with z | z <;> (rw [e3] at z; cases z; exact o2)
    · rw [e3] at hB
      cases hB
      rcases h with ⟨hp, h⟩ | ⟨h, hi⟩
      · obtain ⟨w, a, b⟩ := I.sl j x _ h e2 e3
        refine ⟨w, by rw [s.sg j (List.mem_cons_of_mem _ hp)]; exact a, ?_⟩
        refine Rp.ext s.ex (fun b q n => ?_) b
        have n3 : ¬ OS (setF fp i []) b := fun ⟨j', z⟩ => by
          rcases setF_mem z with ⟨_, z⟩ | ⟨_, z⟩
          · cases z
          · exact q.1 ⟨j', z⟩
        have n1 : ¬ OS (setF fp2 i (fp i)) b := fun ⟨j', z⟩ => by
          rcases setF_mem z with ⟨_, z⟩ | ⟨_, z⟩
          · exact q.1 ⟨i, z⟩
          · exact (s.os b ⟨j', z⟩).elim n3 n
        have n2 : tF tmp F b → A.C b := fun z => by
          rcases z with z | z
          · exact q.2 z
          · rcases gv b z with ⟨j2, _, y⟩ | y
            · exact absurd ⟨j2, y⟩ n3
            · exact absurd y n
        exact ⟨⟨n1, n2⟩, n3⟩
      · obtain ⟨w, a, b⟩ := I'.sl j x .B h e2 (by rw [List.getElem?_set_ne (Ne.symm hj)]; exact e3)
        exact ⟨w, a, Rp.imm hi b⟩
    · obtain ⟨w, a, b⟩ := I'.sl j x c h e2 (by rw [List.getElem?_set_ne (Ne.symm hj)]; exact e3)
      refine ⟨w, a, ?_⟩
      have ow : ∀ k', Own K cl H' (Sh (pinG A fp i) fp2 (tF (tF tmp (fp i)) F)) k' (fp2 j) w x → Own K cl H' (Sh A (setF fp2 i (fp i)) (tF tmp F)) k' (setF fp2 i (fp i) j) w x := fun k' q => by
        rw [setF_ne hj]
        exact Own.ext (P := fun _ => False) Ext.refl (fun x s _ => ⟨sh x s, fun z => z⟩) (fun _ _ z => z) q
      cases c with
      | F => exact Rp.up b sh
      | B => exact absurd e3 hB
      | R => exact absurd (hr j x e3 h) e2
      | L k' => exact ow k' b
      | X k' => exact ow k' b
  · exact s.ex.mono fun b ⟨j, z⟩ => by
      rcases setF_mem z with ⟨_, z⟩ | ⟨_, z⟩
      · cases z
      · exact .inl ⟨j, z⟩
  · exact (s.ow b (oo h)).imp pin_oo.mp id
  · rcases setF_mem h with ⟨x, h⟩ | ⟨_, h⟩
    · rw [x]; exact .inl h
    · have loc : (∃ j', np ≤ j' ∧ b ∈ setF fp i [] j') → ∃ j', np ≤ j' ∧ b ∈ fp j' := fun ⟨j', a, y⟩ => by
        rcases setF_mem y with ⟨_, y⟩ | ⟨_, y⟩
        · cases y
        · exact ⟨j', a, y⟩
      rcases s.si j b h with y | y | y
      · rcases setF_mem y with ⟨_, y⟩ | ⟨_, y⟩
        · cases y
        · exact .inl y
      · exact .inr (.inl (loc y))
      · exact .inr (.inr y)
end
section
variable {S : Sx} {X : Cx} {i k : Nat} {st : Stmt} {f : M Out}
theorem Fit.pin (fit : Fit S X) : Fit (S.pin i) X := ⟨fit.hN, fit.nd, fit.sc, fit.calm, fit.room, fit.fn, fit.fs, fit.cs, fit.bl, by show (S.κ.set i _).length = _; rw [List.length_set]; exact fit.kl, fit.bf⟩
def mPin (κ : List Kd) (pr : List Nat) (i : Nat) (f : M Out) : M Out := ifR κ fun ρ => match f ρ with
  | .ok o ρ' => if noRd κ ρ' then .ok o (fixB κ pr i ρ ρ') else .stuck
  | .err x ρ' => if noRd κ ρ' then .err x (fixB κ pr i ρ ρ') else .stuck
  | .stuck => .stuck
theorem wpx_pin {κ : List Kd} {pr : List Nat} {ρ : List D} {r : R Out} {Q : Out → List D → Prop} {E : D → List D → Prop} (h : wpx (match r with
  | .ok o ρ' => if noRd κ ρ' then R.ok o (fixB κ pr i ρ ρ') else .stuck
  | .err x ρ' => if noRd κ ρ' then .err x (fixB κ pr i ρ ρ') else .stuck
  | .stuck => .stuck) Q E) : wpx r (fun o ρ' => noR κ ρ' ∧ Q o (fixB κ pr i ρ ρ')) (fun x ρ' => noR κ ρ' ∧ E x (fixB κ pr i ρ ρ')) := by
  cases r with
  | stuck => exact h
  | ok o ρ' =>
    simp only at h
    split at h
    · exact ⟨noR_of (by assumption), h⟩
    · exact h.elim
  | err x ρ' =>
    simp only at h
    split at h
    · exact ⟨noR_of (by assumption), h⟩
    · exact h.elim
theorem s1_pin (hk : ownK S.κ i k = true) (h : S1 (S.pin i) st f) : S1 S st (mPin S.κ S.pr i f) := by
  intro X fit W tk po A fp tmp σ H ρ D I hw
  obtain ⟨hr, hw⟩ := wpx_ifR hw
  have hr := noR_of hr
  have nil : ∀ {T : Addr → Prop}, tF T [] = T := tF_nil
  refine h X fit.pin W tk po (pinG A fp i) (setF fp i []) (tF tmp (fp i)) σ H ρ D (I.pin hr hk) (wpx_mono (wpx_pin hw) (fun o ρ' ⟨hr', hq⟩ => ?_) fun x ρ' ⟨hr', hq⟩ cls dx σ' H' fp' I' s' hx => ?_)
  · have un : ∀ σ' H' fp2, SI X.K (clX X.mg) (S.pin i).κ (pinG A fp i) fp2 (tF tmp (fp i)) σ' H' ρ' → StS (S.pin i).np (S.pin i).pr (setF fp i []) (tF tmp (fp i)) σ H fp2 (tF tmp (fp i)) σ' H' → SI X.K (clX X.mg) S.κ A (setF fp2 i (fp i)) tmp σ' H' (fixB S.κ S.pr i ρ ρ') ∧ StS S.np S.pr fp tmp σ H (setF fp2 i (fp i)) tmp σ' H' := fun σ' H' fp2 I' s' => by
      have z := SI.unpin (F := []) I hk (by rw [nil]; exact I') (by rw [nil]; exact s') (fun _ y => by cases y) hr'
      rw [nil] at z
      exact z
    cases o with
    | nx => exact fun σ' H' fp2 I' s' => hq σ' H' _ (un σ' H' fp2 I' s').1 (un σ' H' fp2 I' s').2
    | bk => exact fun σ' H' fp2 I' s' => hq σ' H' _ (un σ' H' fp2 I' s').1 (un σ' H' fp2 I' s').2
    | ct => exact fun σ' H' fp2 I' s' => hq σ' H' _ (un σ' H' fp2 I' s').1 (un σ' H' fp2 I' s').2
    | rt d =>
      intro v σ' H' fp2 F I' s' gv r
      obtain ⟨I2, s2⟩ := SI.unpin I hk I' s' gv hr'
      have g2 : Giv S.np fp H F := fun b hb => by
        rcases gv b hb with ⟨j, a, y⟩ | y
        · rcases setF_mem y with ⟨_, y⟩ | ⟨_, y⟩
          · cases y
          · exact .inl ⟨j, a, y⟩
        · exact .inr y
      have sh : ∀ b, Sh (pinG A fp i) fp2 (tF (tF tmp (fp i)) F) b → Sh A (setF fp2 i (fp i)) (tF tmp F) b := fun b q => ⟨q.1, fun z => q.2 (by
        rcases z with ⟨j, z⟩ | z | z
        · rcases setF_mem z with ⟨_, z⟩ | ⟨_, z⟩
          · exact .inr (.inl (.inr z))
          · exact .inl ⟨j, z⟩
        · exact .inr (.inl (.inl z))
        · exact .inr (.inr z))⟩
      exact hq v σ' H' _ F I2 s2 g2 ⟨r.1, fun b hb => ⟨.inr hb, (r.2.1 b hb).2⟩, Own.ext (P := fun _ => False) Ext.refl (fun b q _ => ⟨sh b q, fun z => z⟩) (fun _ _ z => z) r.2.2⟩
  · have z := SI.unpin (F := []) I hk (by rw [nil]; exact I') (by rw [nil]; exact s') (fun _ y => by cases y) hr'
    rw [nil] at z
    exact hq cls dx σ' H' _ z.1 z.2 hx
end
end VS

set_option Elab.async false
set_option linter.all false
set_option maxRecDepth 100000
set_option maxHeartbeats 4000000
/-! VS28: dict displays. -/
namespace VS
open PySem PySem.Spec PyProof.Rows L2
/-- keys and values in their order, as one list of expressions -/
def kvE : List (Option Expr) → List Expr → List Expr
  | some k :: ks, v :: vs => k :: v :: kvE ks vs
  | _, _ => []
def kvOk : List (Option Expr) → List Expr → Bool
  | [], [] => true
  | some _ :: ks, _ :: vs => kvOk ks vs
  | _, _ => false
def kvT (X : Cx) : List (Option Expr) → List Expr → List (TE × TE)
  | some k :: ks, v :: vs => (WE X k, WE X v) :: kvT X ks vs
  | _, _ => []
theorem pps_WE {X : Cx} {pos : Pos} : ∀ {ks : List (Option Expr)} {vs : List Expr}, kvOk ks vs = true → PPs X pos ks vs (kvT X ks vs)
  | [], [], _ => pps_nil
  | some k :: ks, v :: vs, h => pps_cons pe_WE pe_WE (pps_WE (ks := ks) (vs := vs) h)
  | [], _ :: _, h => by simp [kvOk] at h
  | some _ :: _, [], h => by simp [kvOk] at h
  | none :: _, _, h => by simp [kvOk] at h
def pairUp : List V → List (V × V)
  | k :: v :: r => (k, v) :: pairUp r
  | _ => []
theorem pairs_WEs {X : Cx} : ∀ {ks : List (Option Expr)} {vs : List Expr} {σ : L2.St} {H : Hp} {Q : List (V × V) → Hp → Prop}, kvOk ks vs = true → WEs X (kvE ks vs) σ H (fun ws H1 => Q (pairUp ws) H1) → tPairs (kvT X ks vs) σ H Q
  | [], [], σ, H, Q, _, h => h
  | some k :: ks, v :: vs, σ, H, Q, hk, h => we_mono h fun x H1 h1 => we_mono h1 fun y H2 h2 => pairs_WEs (ks := ks) (vs := vs) hk (wes_mono h2 fun ws H3 h3 => h3)
  | [], _ :: _, _, _, _, h, _ => by simp [kvOk] at h
  | some _ :: _, [], _, _, _, h, _ => by simp [kvOk] at h
  | none :: _, _, _, _, _, h, _ => by simp [kvOk] at h
def altM (k : Nat) : List Mode → Bool
  | [] => true
  | .rd :: .val j :: ms => j == k && altM k ms
  | _ => false
def pairD : List D → Option (List (Key × D))
  | [] => some []
  | k :: v :: r => match keyD k, pairD r with
    | some q, some es => if es.any (fun e => decide (e.1 = q)) then none else some ((q, v) :: es)
    | _, _ => none
  | _ => none
def mDisp (g : M (List D)) : M D := bnd g fun ds => ofO ((pairD ds).map .dic)
theorem pair_own {K : PySem.W.Frag} {cl : Cl} {κ : List Kd} {A : Gd} {fp : Nat → List Addr} {tmp : Addr → Prop} {H : Hp} {k : Nat} : ∀ {ms : List Mode} {F : List Addr} {ws : List V} {ds : List D} {es : List (Key × D)}, altM k ms = true → ResL K cl κ A fp tmp H F ws ds ms → pairD ds = some es →
    ∃ kvs : List (Key × V), pairUp ws = kvs.map (fun kv => (kV kv.1, kv.2)) ∧ kvs.map (·.1) = es.map (·.1) ∧ OwnL K cl H (Sh A fp tmp) k F (kvs.map (·.2)) (es.map (·.2)) ∧ F.Nodup ∧ (es.map (·.1)).Nodup
  | [], F, ws, ds, es, _, r, h => by
    cases r
    simp only [pairD, Option.some.injEq] at h
    subst h
    exact ⟨[], rfl, rfl, .nil, List.nodup_nil, List.nodup_nil⟩
  | .rd :: .val j :: ms, F, ws, ds, es, hm, r, h => by
    simp only [altM, Bool.and_eq_true, beq_iff_eq] at hm
    obtain ⟨rfl, hm⟩ := hm
    obtain ⟨F1, Fs, v, ws1, d, ds1, e1, e2, e3, r1, _, q⟩ := r.uncons
    subst e1 e2 e3
    obtain ⟨F2, Fs2, v2, ws2, d2, ds2, e1, e2, e3, r2, n2, q2⟩ := q.uncons
    subst e1 e2 e3
    obtain ⟨rfl, r1⟩ := r1
    simp only [pairD] at h
    split at h
    · rename_i q0 es0 hk0 he0
      split at h
      · cases h
      · rename_i hno
        cases h
        obtain ⟨kvs, a, b, c, nd, nk⟩ := pair_own hm q2 he0
        refine ⟨(q0, v2) :: kvs, ?_, by simp [b], ?_, ?_, ?_⟩
        · simp only [pairUp, a, List.map_cons, kV_of r1 hk0]
        · rw [List.nil_append]
          exact .cons r2.2.2 c
        · rw [List.nil_append]
          exact List.nodup_append.mpr ⟨r2.1, nd, fun x hx y hy e => n2 x hx (by rw [e]; exact hy)⟩
        · simp only [List.map_cons, List.nodup_cons]
          refine ⟨fun z => hno ?_, nk⟩
          obtain ⟨e, he, eq⟩ := List.mem_map.mp z
          exact List.any_eq_true.mpr ⟨e, he, by simp [eq]⟩
    · cases h
  | .el :: _, _, _, _, _, h, _, _ => by simp [altM] at h
  | .val _ :: _, _, _, _, _, h, _, _ => by simp [altM] at h
  | [.rd], _, _, _, _, h, _, _ => by simp [altM] at h
  | .rd :: .rd :: _, _, _, _, _, h, _, _ => by simp [altM] at h
  | .rd :: .el :: _, _, _, _, _, h, _, _ => by simp [altM] at h
theorem merge_nd : ∀ {more acc : List (Key × V)}, ((acc ++ more).map (·.1)).Nodup → mergeK acc more = acc ++ more
  | [], acc, _ => by simp [mergeK]
  | kv :: more, acc, h => by
    have hn : (acc.any fun e => decide (e.1 = kv.1)) = false := by
      rw [List.any_eq_false]
      intro e he
      simp only [decide_eq_true_eq]
      intro eq
      simp only [List.map_append, List.map_cons] at h
      exact (List.nodup_append.mp h).2.2 e.1 (List.mem_map.mpr ⟨e, he, rfl⟩) kv.1 List.mem_cons_self eq
    have e1 : putK acc kv.1 kv.2 = acc ++ [kv] := by
      unfold putK
      rw [hn]
      simp
    show mergeK (putK acc kv.1 kv.2) more = _
    rw [e1, merge_nd (by simpa using h)]
    simp
theorem ResL.vlen {K : PySem.W.Frag} {cl : Cl} {κ : List Kd} {A : Gd} {fp : Nat → List Addr} {tmp : Addr → Prop} {H : Hp} {F : List Addr} {vs : List V} {ds : List D} {ms : List Mode} (h : ResL K cl κ A fp tmp H F vs ds ms) : vs.length = ms.length := by
  induction h with
  | nil => rfl
  | cons _ _ _ ih => simp [ih]
section
variable {S : Sx} {k : Nat} {ms : List Mode} {g : M (List D)} {keys : List (Option Expr)} {vals : List Expr} {pos : Pos}
theorem kvOk_all : ∀ {ks : List (Option Expr)} {vs : List Expr}, kvOk ks vs = true → ks.all (·.isSome) = true ∧ ks.length = vs.length
  | [], [], _ => ⟨rfl, rfl⟩
  | some k :: ks, v :: vs, h => by
    obtain ⟨a, b⟩ := kvOk_all (ks := ks) (vs := vs) h
    exact ⟨by simpa using a, by simp [b]⟩
  | [], _ :: _, h => by simp [kvOk] at h
  | some _ :: _, [], h => by simp [kvOk] at h
  | none :: _, _, h => by simp [kvOk] at h
theorem pairUp_len : ∀ {kvs : List (Key × V)} {ws : List V}, pairUp ws = kvs.map (fun kv => (kV kv.1, kv.2)) → kvs.length = (pairUp ws).length := fun h => by rw [h]; simp
theorem se_disp (hk : kvOk keys vals = true) (h0 : keys.isEmpty = false) (h15 : Nat.ble keys.length 15 = true) (hm : altM k ms = true) (h : SEs S ms (kvE keys vals) g) (hl : (ms.length == 2 * keys.length) = true) : SE S (.val (k + 1)) (.Dict keys vals pos) (mDisp g) := by
  intro X fit W tk A fp tmp σ H ρ Q I hw
  obtain ⟨ha, hlen⟩ := kvOk_all hk
  refine ⟨_, pe_disp (pps_WE hk) ha hlen (fun z => by rw [z] at h0; cases h0) (Nat.ble_eq.mp h15), ?_⟩
  intro p hp
  have I0 : SI X.K (clX X.mg) S.κ A fp (tF tmp [p]) σ (upd H p (.dK [])) ρ := I.new hp fun b z => z.imp id fun y => by simpa using y
  have s0 : Stp S.κ fp tmp H ρ fp (tF tmp [p]) (upd H p (.dK [])) ρ := Stp.refl.new hp fun b z => z.imp id fun y => by simpa using y
  have up : ∀ b, tmp b → tF tmp [p] b := fun _ z => .inl z
  refine pairs_WEs hk (h X fit W tk A fp (tF tmp [p]) σ _ ρ _ I0 (wpx_mono (wpx_bnd hw) (fun ds ρ1 hd ws H1 fp1 F I1 s1 nF r => ?_) fun x ρ' z => XQ.step z s0 up))
  obtain ⟨d, ed, hq⟩ := wpx_ofO hd
  obtain ⟨es, ee, rfl⟩ := Option.map_eq_some_iff.mp ed
  obtain ⟨kvs, e1, e2, o, nd, nk⟩ := pair_own hm r ee
  have hp1 : H1 p = some (.dK []) := s1.ex.keep _ _ upd_same fun ⟨i, _, z⟩ => I0.dt i p z (.inr (by simp))
  have ns : ¬ Still (.dK []) := fun z => z
  have nkv : (kvs.map (·.1)).Nodup := by rw [e2]; exact nk
  have em : mergeK [] kvs = kvs := by rw [merge_nd (by simpa using nkv)]; rfl
  have et : tF (tF tmp [p]) F = tF tmp (p :: F) := by rw [tF_app]; rfl
  rw [et] at I1 s1 o
  have I2 := I1.setTmp (o := .dK kvs) (.inr List.mem_cons_self) (fun z => I.ca p z hp) hp1 ns
  have s2 : Stp S.κ fp tmp H ρ fp1 (tF tmp (p :: F)) (upd H1 p (.dK kvs)) ρ1 := Stp.setNew (s0.trans s1) hp hp1 ns
  have nH : ∀ b ∈ F, H b = none := fun b hb => none_back s0.ex (nF b hb)
  have npF : p ∉ F := fun z => by have := nF p z; rw [upd_same] at this; cases this
  have okF := r.ok
  have ln : kvs.length ≤ 15 := by
    have l1 : (pairUp ws).length ≤ 15 := by
      have gen : ∀ n (ws : List V), ws.length ≤ 2 * n → (pairUp ws).length ≤ n := by
        intro n
        induction n with
        | zero => intro ws h; cases ws <;> simp [pairUp] at h ⊢
        | succ n ih =>
          intro ws h
          match ws, h with
          | [], _ => simp [pairUp]
          | [_], _ => simp [pairUp]
          | _ :: _ :: r, h => simp only [pairUp, List.length_cons] at h ⊢; have := ih r (by omega); omega
      have wl : ws.length = ms.length := r.vlen
      have := Nat.ble_eq.mp h15
      have h2 : ms.length = 2 * keys.length := by simpa using hl
      exact Nat.le_trans (gen keys.length ws (by omega)) this
    rw [pairUp_len e1]; exact l1
  refine ⟨hp1, kvs, e1, ln, ?_⟩
  rw [em]
  refine hq (.ref p) _ fp1 (p :: F) I2 s2 (fun b hb => (List.mem_cons.mp hb).elim (fun z => by rw [z]; exact hp) (nH b)) ⟨List.nodup_cons.mpr ⟨npF, nd⟩, fun b hb => ⟨.inr hb, ?_⟩, .dic upd_same e2 (OwnL.ext (Ext.set (P := fun b => b = p) hp1 ns rfl) (fun b s _ => ⟨s, fun z => s.2 (.inr (.inr (by rw [z]; exact List.mem_cons_self)))⟩) (fun b hb z => npF (by rw [← z]; exact hb)) o)⟩
  rcases List.mem_cons.mp hb with z | z
  · rw [z]; exact I.an p hp
  · exact (okF b z).2
end
end VS

set_option Elab.async false
set_option linter.all false
set_option maxRecDepth 100000
set_option maxHeartbeats 4000000
/-! VS29: max and min of three. -/
namespace VS
open PySem PySem.Spec PyProof.Rows L2
section
variable {S : Sx}
abbrev pk3 (p : List D → Option D) : List D → Option D := fun ds => match ds with | [d, e, g] => p [d, e, g] | _ => none
theorem prim_op3 {rd : Cx → List V → Hp → VK → Prop} {p : List D → Option D} {mr : Mode}
    (h : ∀ (X : Cx), Fit S X → ∀ (H : Hp) (T : Addr → Prop) (v w u : V) (d e g r : D) (Q : VK), Rp X.K (clX X.mg) H T v d → Rp X.K (clX X.mg) H T w e → Rp X.K (clX X.mg) H T u g → p [d, e, g] = some r → (∀ u, (∀ U, Rp X.K (clX X.mg) H U u r) → r.imm = true → Q u H) → rd X [v, w, u] H Q) : PrimOk S [.rd, .rd, .rd] mr (pk3 p) rd := by
  refine PrimOk.plain fun X fit A fp tmp σ H ρ F vs ds d Q I r ed hq => ?_
  cases r with
  | cons r1 n1 q =>
    obtain ⟨v, w, d1, d2, G, G', rfl, rfl, rfl, _, r2, r3⟩ := q.two
    exact h X fit H _ _ v w _ d1 d2 d Q (r1.rdP I) (r2.rdP I) (r3.rdP I) ed fun u hu hi => hq u (fun _ => False) hi (hu _)
def dMax3 : List D → Option D
  | [.int i, .int j, .int k] => some (.int (if (if i < j then j else i) < k then k else (if i < j then j else i)))
  | _ => none
def dMin3 : List D → Option D
  | [.int i, .int j, .int k] => some (.int (if k < (if j < i then j else i) then k else (if j < i then j else i)))
  | _ => none
theorem nuMax3_int {i j k : Int} : nuMax3 (.int i) (.int j) (.int k) = some (.int (if (if i < j then j else i) < k then k else (if i < j then j else i))) := by
  by_cases h1 : i < j
  · by_cases h2 : j < k <;> simp [nuMax3, nuMax2, nuLt, nuCB, h1, h2]
  · by_cases h2 : i < k <;> simp [nuMax3, nuMax2, nuLt, nuCB, h1, h2]
theorem nuMin3_int {i j k : Int} : nuMin3 (.int i) (.int j) (.int k) = some (.int (if k < (if j < i then j else i) then k else (if j < i then j else i))) := by
  by_cases h1 : j < i
  · by_cases h2 : k < j <;> simp [nuMin3, nuMin2, nuLt, nuCB, h1, h2]
  · by_cases h2 : k < i <;> simp [nuMin3, nuMin2, nuLt, nuCB, h1, h2]
theorem ok_max3 {mr : Mode} : PrimOk S [.rd, .rd, .rd] mr (pk3 dMax3) (rdFn "max") := prim_op3 fun X fit H T v w u d e g r Q r1 r2 r3 ed hq => by
  cases d <;> cases e <;> cases g <;> simp only [dMax3, reduceCtorEq] at ed
  case int.int.int i j k => cases ed; have e1 := r1.i; have e2 := r2.i; have e3 := r3.i; subst e1 e2 e3; exact ⟨_, call_max3Nu fit.calm, _, _, _, _, rfl, nuMax3_int, hq _ rI' rfl⟩
theorem ok_min3 {mr : Mode} : PrimOk S [.rd, .rd, .rd] mr (pk3 dMin3) (rdFn "min") := prim_op3 fun X fit H T v w u d e g r Q r1 r2 r3 ed hq => by
  cases d <;> cases e <;> cases g <;> simp only [dMin3, reduceCtorEq] at ed
  case int.int.int i j k => cases ed; have e1 := r1.i; have e2 := r2.i; have e3 := r3.i; subst e1 e2 e3; exact ⟨_, call_min3Nu fit.calm, _, _, _, _, rfl, nuMin3_int, hq _ rI' rfl⟩
end
end VS

set_option Elab.async false
set_option linter.all false
set_option maxRecDepth 100000
set_option maxHeartbeats 4000000
/-! VS30: the end of a law: keywords' binding, the entry. -/
namespace VS
open PySem PySem.Spec PyProof.Rows L2
theorem pick_vals {vs : List V} {us : List Value} (r : Vals vs us) : ∀ π : List Nat, Vals (pick vs π) (pick us π)
  | [] => Paired.nil
  | j :: π => by
    unfold pick
    rw [List.filterMap_cons, List.filterMap_cons]
    cases e : vs[j]? with
    | none =>
      rw [Vals.none_of r e]
      exact pick_vals r π
    | some v =>
      obtain ⟨u, e2, r2⟩ := r.get e
      rw [e2]
      exact Paired.cons r2 (pick_vals r π)
theorem kb_of {K : PySem.W.Frag} {fd : FuncData} {ps : List Str} {t : Nat × List Str × List Nat} (hps : ps ≠ [])
    (h : ∀ us ws : List Value, us.length = t.1 → ws.length = t.2.1.length → bindArgs fd ⟨us, t.2.1.zip ws⟩ = pure (ps.zip (pick (us ++ ws) t.2.2))) : KBinds K fd ps t.2.1 (pickK t) (pickK t) where
  to := fun s us ws _ hl => by
    unfold pickK at hl ⊢
    split at hl
    · rename_i hc
      rw [if_pos hc]
      exact .of_eq (h us ws hc.1 hc.2)
    · cases ps with
      | nil => exact absurd rfl hps
      | cons => simp at hl
  rel := fun {vs us zs ws} r1 r2 => by
    unfold pickK
    rw [r1.length, r2.length]
    split
    · exact pick_vals (r1.append r2) _
    · exact Paired.nil
theorem Fun.kbinds {K : PySem.W.Frag} {x qual : Str} {st : Stmt} {f : Addr} {fd : FuncData} {ps : List Str} {t : Nat × List Str × List Nat} (F : Fun K x qual st f fd) (hps : ps ≠ [])
    (h : ∀ (kV doc pm : Value) (an : Option Addr) (cdv ct : Value) (us ws : List Value), us.length = t.1 → ws.length = t.2.1.length → bindArgs (PySem.W.fnOf x qual (defArgs st) (defBody st) (defScope st) .none kV doc pm an cdv ct) ⟨us, t.2.1.zip ws⟩ = pure (ps.zip (pick (us ++ ws) t.2.2))) : KBinds K fd ps t.2.1 (pickK t) (pickK t) := by
  obtain ⟨oc, od, kV, doc, pm, an, cdv, ct, osl, rfl, lk, hcd⟩ := F.ex
  exact kb_of hps (h kV doc pm an cdv ct)
theorem all_nil {α : Type} {P : α → Prop} : ∀ x ∈ ([] : List α), P x := fun _ z => by cases z
theorem all_cons {α : Type} {P : α → Prop} {a : α} {l : List α} (h : P a) (t : ∀ x ∈ l, P x) : ∀ x ∈ a :: l, P x := List.forall_mem_cons.mpr ⟨h, t⟩
theorem mg_none {K : PySem.W.Frag} {h : Heap} {mg : Str → Option Value} {n : Str} (X : K.In h) (G : h.Ns mainGlobals mg) (e : PySem.W.nsIn K mainGlobals n = some none) : mg n = none := PySem.W.mg_none_of X G e
theorem hpr_of {ks : List Kd} {pr : List Nat} (h : ((List.range ks.length).all fun i => match ks[i]? with | some c => c.light || pr.contains i | none => true) = true) : ∀ (i : Nat) (c : Kd), ks[i]? = some c → c.light = false → i ∈ pr := fun i c e l => by
  have z := List.all_eq_true.mp h i (List.mem_range.mpr (List.getElem?_eq_some_iff.mp e).1)
  rw [e] at z
  simpa [l] using z
/-- the law's promise -/
def spLaw (K : PySem.W.Frag) : Sp := fun vs H Q E => ∃ (a : Addr) (ns : List Int), vs = [.ref a] ∧ ns.length ≤ 63 ∧ Only H ∧ SqL K H a (ns.map V.int) ∧ ∀ H', Q (.bl true) H'
theorem scr_of {K : PySem.W.Frag} {H : Hp} {a : Addr} {xs : List V} (ho : Only H) (h : SqL K H a xs) : ScrL K H a xs := by
  rcases h with h | h
  · rcases h with h | ⟨o, h⟩
    · rcases ho a with z | ⟨o, ys, z⟩
      · rw [z] at h; cases h
      · rw [z] at h; cases h
    · exact .inl ⟨o, h⟩
  · exact .inr h
theorem law_imp {fi : FnI} {K : PySem.W.Frag} {cl : Cl} (hps : fi.ps.length = 1) (hks : fi.ks = [.F]) (hkr : fi.kr = 0) (hsem : ∀ ns : List Int, ns.length ≤ 63 → fi.sem [.scr ns] = .ok (.bl true) [.un]) :
    ∀ vs H Q E, spLaw K vs H Q E → spF fi K cl vs H Q E := by
  rintro vs H Q E ⟨a, ns, rfl, hn, ho, hq, q⟩
  refine ⟨hps.symm, [.scr ns], ⟨fun _ => True, fun _ => False⟩, fun _ => [], fun _ => False, hps.symm, ?_, rfl, fun _ _ => rfl, ?_⟩
  · rw [hks]
    refine ⟨⟨rfl, rfl⟩, fun _ _ => trivial, fun _ z => z.elim, fun b z => ?_, fun _ _ z => absurd z List.not_mem_nil, fun _ _ _ z => absurd z List.not_mem_nil, fun _ => List.nodup_nil, fun _ _ z => absurd z List.not_mem_nil, fun _ _ z => absurd z List.not_mem_nil, fun _ _ z => absurd z List.not_mem_nil, fun i d c e1 e2 e3 => ?_⟩
    · rcases z with ⟨i, z⟩ | z
      · exact absurd z List.not_mem_nil
      · exact z.elim
    · cases i with
      | zero =>
        simp only [List.getElem?_cons_zero, Option.some.injEq] at e1 e3
        subst e1 e3
        exact ⟨_, rfl, .scr (scr_of ho hq)⟩
      | succ i => simp at e1
  · rw [hsem ns hn]
    intro v H' fp' F _ _ _ _ _ r _ _
    obtain ⟨_, _, o⟩ := r
    rw [hkr] at o
    cases o with
    | fr r _ => cases r; exact q H'
end VS

set_option Elab.async false
set_option linter.all false
set_option maxRecDepth 100000
set_option maxHeartbeats 4000000
/-! VS31: o[a] = e, o a dict. -/
namespace VS
open PySem PySem.Spec PyProof.Rows L2
def putD : List (Key × D) → Key → D → Option (List (Key × D))
  | [], k, x => some [(k, x)]
  | (q, d) :: es, k, x => if q = k then (if es.any (fun e => decide (e.1 = k)) then none else some ((q, x) :: es)) else (putD es k x).map ((q, d) :: ·)
theorem putK_eq {p : Key × V} {r : List (Key × V)} {k : Key} {v : V} (e : p.1 = k) (h : (r.any fun e => decide (e.1 = k)) = false) : putK (p :: r) k v = (p.1, v) :: r := by
  unfold putK
  rw [if_pos (by simp [e]), List.map_cons, if_pos e]
  congr 1
  have : ∀ kv ∈ r, (if kv.1 = k then (kv.1, v) else kv) = kv := fun kv hk => by
    have := List.any_eq_false.mp h kv hk
    rw [if_neg (by simpa using this)]
  rw [List.map_congr_left this, List.map_id']
theorem putK_ne {p : Key × V} {r : List (Key × V)} {k : Key} {v : V} (e : ¬ p.1 = k) : putK (p :: r) k v = p :: putK r k v := by
  unfold putK
  rw [List.any_cons, decide_eq_false e, Bool.false_or, List.map_cons, if_neg e]
  split <;> rfl
section
variable {K : PySem.W.Frag} {cl : Cl} {H : Hp} {T : Addr → Prop} {k : Nat}
theorem Own.dic' {F : List Addr} {v : V} {es : List (Key × D)} (o : Own K cl H T (k + 1) F v (.dic es)) : ∃ a kvs Fs, v = .ref a ∧ F = a :: Fs ∧ H a = some (.dK kvs) ∧ kvs.map (·.1) = es.map (·.1) ∧ OwnL K cl H T k Fs (kvs.map (·.2)) (es.map (·.2)) := by
  cases o with
  | fr h f => exact (f.elim (fun z => by cases z) fun z => by simp [D.flat] at z)
  | dic h e r => exact ⟨_, _, _, rfl, rfl, h, e, r⟩
theorem any_keys {es : List (Key × D)} {kvs : List (Key × V)} {q : Key} (h : kvs.map (·.1) = es.map (·.1)) : (kvs.any fun e => decide (e.1 = q)) = es.any fun e => decide (e.1 = q) := by
  have a : (kvs.any fun e => decide (e.1 = q)) = (kvs.map (·.1)).any fun e => decide (e = q) := by rw [List.any_map]; rfl
  have b : (es.any fun e => decide (e.1 = q)) = (es.map (·.1)).any fun e => decide (e = q) := by rw [List.any_map]; rfl
  rw [a, b, h]
theorem putD_own {q : Key} {x : D} {w : V} {F : List Addr} (o : Own K cl H T k F w x) : ∀ {es es' : List (Key × D)} {kvs : List (Key × V)} {Fs : List Addr}, kvs.map (·.1) = es.map (·.1) → OwnL K cl H T k Fs (kvs.map (·.2)) (es.map (·.2)) → putD es q x = some es' →
    ∃ Fs', (putK kvs q w).map (·.1) = es'.map (·.1) ∧ OwnL K cl H T k Fs' ((putK kvs q w).map (·.2)) (es'.map (·.2)) ∧ (∀ b ∈ Fs', b ∈ Fs ∨ b ∈ F) ∧ (Fs.Nodup → F.Nodup → (∀ b ∈ F, b ∉ Fs) → Fs'.Nodup)
  | [], es', kvs, Fs, hk, hl, hp => by
    cases kvs with
    | cons => cases hk
    | nil =>
      cases hp
      cases hl
      refine ⟨F ++ [], rfl, .cons o .nil, fun b hb => .inr (by simpa using hb), fun _ h _ => by simpa using h⟩
  | (q1, d1) :: es, es', kvs, Fs, hk, hl, hp => by
    cases kvs with
    | nil => cases hk
    | cons p r =>
      obtain ⟨p1, v1⟩ := p
      simp only [List.map_cons, List.cons.injEq] at hk
      obtain ⟨e1, hk⟩ := hk
      subst e1
      simp only [List.map_cons] at hl
      cases hl with
      | cons oh ot =>
        rename_i F1 Fs1
        unfold putD at hp
        by_cases hq : p1 = q
        · rw [if_pos hq] at hp
          cases ha : es.any (fun e => decide (e.1 = q)) with
          | true => rw [ha] at hp; cases hp
          | false =>
            rw [ha] at hp
            cases hp
            rw [putK_eq hq (by rw [any_keys hk, ha])]
            refine ⟨F ++ Fs1, by simp [hk], .cons o ot, fun b hb => ?_, fun n1 n2 n3 => ?_⟩
            · rcases List.mem_append.mp hb with z | z
              · exact .inr z
              · exact .inl (List.mem_append_right _ z)
            · exact List.nodup_append.mpr ⟨n2, (List.nodup_append.mp n1).2.1, fun a ha b hb e => n3 a ha (by rw [e]; exact List.mem_append_right _ hb)⟩
        · rw [if_neg hq] at hp
          obtain ⟨es2, h2, rfl⟩ := Option.map_eq_some_iff.mp hp
          rw [putK_ne hq]
          obtain ⟨G, g1, g2, g3, g4⟩ := putD_own o hk ot h2
          refine ⟨F1 ++ G, by simp [g1], .cons oh g2, fun b hb => ?_, fun n1 n2 n3 => ?_⟩
          · rcases List.mem_append.mp hb with z | z
            · exact .inl (List.mem_append_left _ z)
            · exact (g3 b z).imp (List.mem_append_right _) (fun y => y)
          · obtain ⟨m1, m2, m3⟩ := List.nodup_append.mp n1
            refine List.nodup_append.mpr ⟨m1, g4 m2 n2 fun b hb z => n3 b hb (List.mem_append_right _ z), fun a ha b hb e => ?_⟩
            rcases g3 b hb with z | z
            · exact m3 a ha b z e
            · exact n3 b z (by rw [← e]; exact List.mem_append_left _ ha)
end
section
variable {S : Sx} {e o : Expr} {pos p2 : Pos} {i k n : Nat} {fe : M D} {g : M (List Nat)}
variable {X : Cx}
def mSetD (κ : List Kd) (i n : Nat) (f : M D) (g : M (List Nat)) (fa : M D) : M Out := bnd f fun x => ifR κ (bnd g fun p => bnd fa fun j ρ2 => match nodeAt i p ρ2, ρ2[i]?, keyD j with
  | some (.dic es), some d, some q => match putD es q x with
    | some es' => if p.length = n ∧ es.length < 16777216 then .ok .nx (ρ2.set i (d.put p (.dic es'))) else .stuck
    | none => .stuck
  | _, _, _ => .stuck)
theorem wpx_setD {x j : D} {p : List Nat} {ρ2 : List D} {Q : Out → List D → Prop} {E : D → List D → Prop} (h : wpx (match nodeAt i p ρ2, ρ2[i]?, keyD j with
  | some (.dic es), some d, some q => match putD es q x with
    | some es' => if p.length = n ∧ es.length < 16777216 then R.ok Out.nx (ρ2.set i (d.put p (.dic es'))) else .stuck
    | none => .stuck
  | _, _, _ => .stuck) Q E) : ∃ d es q es', ρ2[i]? = some d ∧ d.at p = some (.dic es) ∧ keyD j = some q ∧ putD es q x = some es' ∧ p.length = n ∧ es.length < 16777216 ∧ Q .nx (ρ2.set i (d.put p (.dic es'))) := by
  split at h
  · rename_i es d q hn hd hq
    split at h
    · rename_i es' hm
      split at h
      · rename_i hc
        unfold nodeAt at hn
        rw [hd] at hn
        exact ⟨d, es, q, es', hd, hn, hq, hm, hc.1, hc.2, h⟩
      · exact h.elim
    · exact h.elim
  · exact h.elim
theorem s1_setD {a : Expr} {fa : M D} (hk : ownK S.κ i (k + 1 + n) = true) (hpl : plainIx a = true) (he : SM S k e fe) (hp : SPa (S.lk i (k + 1 + n)) i (k + 1 + n) o g) (ha : SE (S.lk i (k + 1 + n)) .rd a fa) : S1 S (.Assign [.Subscript o a p2] e pos) (mSetD S.κ i n fe g fa) := by
  intro X fit W tk po A fp tmp σ H ρ D I hw
  refine ⟨_, setix_ps hpl (set_dict (hu_of fit.room)), ?_⟩
  refine he X fit W tk A fp tmp σ H ρ _ I (wpx_mono (wpx_bnd hw) (fun x ρ0 hd0 w H0 fp0 F I0 s0 gv0 nF0 r0 => ?_) fun _ _ z => z)
  obtain ⟨hr, hd0⟩ := wpx_ifR hd0
  have hr := noR_of hr
  have up : ∀ b, tmp b → tF tmp F b := fun _ z => .inl z
  refine hp X fit.lk W tk A fp0 (tF tmp F) σ H0 ρ0 _ (I0.lk hk) (wpx_mono (wpx_bnd hd0) (fun p ρ1 hd v0 H1 fp1 I1 s1 hrc => ?_) fun x ρ' z => XS.xql hk hr (XS.step z s0 up))
  refine ha X fit.lk W tk A fp1 (tF tmp F) σ H1 ρ1 _ I1 (wpx_mono (wpx_bnd hd) (fun j ρ2 hd2 u H2 fp2 F2 I2 s2 nF2 rj => ?_) fun x ρ' z => XQ.step (XS.xql hk hr (XS.step z s0 up)) s1 fun _ q => q)
  obtain ⟨d2, ds2, t, m, g1, g2, gk, g4, hlen, hsz, hQ⟩ := wpx_setD hd2
  subst hlen
  obtain ⟨eF2, rj⟩ := rj
  subst eF2
  rw [tF_nil] at I2 s2 rj
  have eu := kV_of rj gk
  subst eu
  obtain ⟨v, d, d0, hs, hd', hu', hat, hle, rc⟩ := hrc
  have hkl : ownK (S.lk i (k + 1 + p.length)).κ i (k + 1 + p.length) = true := by
    unfold ownK
    rw [show (S.lk i (k + 1 + p.length)).κ[i]? = some (.L (k + 1 + p.length)) from lk_self hk]
    simp
  have nX : ¬ isX (S.lk i (k + 1 + p.length)).κ i := fun ⟨_, z⟩ => by
    rw [show (S.lk i (k + 1 + p.length)).κ[i]? = some (.L (k + 1 + p.length)) from lk_self hk] at z; cases z
  have hu := un_ne g2 (by simp)
  have e2 : ρ2[i]? = ρ1[i]? := by
    rcases s2.rs i nX with z | z
    · exact z
    · rw [g1] at z; cases z; exact absurd rfl hu
  rw [g1, hd'] at e2
  cases e2
  obtain ⟨v', hs', o1⟩ := I1.root hkl hd' hu
  rw [hs] at hs'; cases hs'
  have rc2 : Rc H2 v p v0 := o1.rc_ext s2.ex g2 rc fun b hb ⟨j, hx, z⟩ => by
    have := I1.dj i j b hb z
    subst this
    exact nX hx
  have hr2 : noR S.κ ρ2 := noR.unlk (((hr.lk hk).stp s1).stp s2) hk
  have I2' := I2.unlk hk hr2
  have s12 : StS S.np S.pr fp tmp σ H fp2 (tF tmp F) σ H2 := s0.trans (s1.trans s2).lk
  have rw2 : Res X.K (clX X.mg) (S.lk i (k + 1 + p.length)).κ A fp2 (tF tmp F) H2 F w x (.val k) := Res.step (m := .val k) (s1.trans s2) (I0.lk hk) (fun _ q => q) r0
  obtain ⟨v0', F0, rc3, o0, nd0, dis, inF, fin⟩ := node_fin hk hs I2' hr2 g1 hu g2 s12 gv0 nF0 (fun b hb => (rw2.2.1 b hb).2)
  have e3 := rc3.inj rc2
  subst e3
  obtain ⟨a', kvs2, Fs2, e4, eF, hH2, hks, rl2⟩ := o0.dic'
  subst e4 eF
  have nd3 := List.nodup_cons.mp nd0
  have ns : ¬ Still (.dK kvs2) := fun z => z
  have ain : a' ∈ fp2 i := inF a' List.mem_cons_self
  have e5 : Ext (fun b => b = a') H2 (upd H2 a' (.dK (putK kvs2 t w))) := Ext.set hH2 ns rfl
  have shN : ∀ b, Sh A fp2 (tF tmp F) b → H2 b ≠ none → Sh A fp2 (tF tmp F) b ∧ ¬ b = a' := fun b s _ => ⟨s, fun z => s.2 (.inl ⟨i, by rw [z]; exact ain⟩)⟩
  have rl3 := OwnL.ext e5 shN (fun b hb z => nd3.1 (by rw [← z]; exact hb)) rl2
  have ow3 := Own.ext e5 shN (fun b hb z => dis a' List.mem_cons_self (by rw [← z]; exact hb)) rw2.2.2
  obtain ⟨G, k1, k2, k3, k4⟩ := putD_own ow3 hks rl3 g4
  have nG : a' ∉ G := fun z => (k3 a' z).elim nd3.1 fun y => dis a' List.mem_cons_self y
  have ndG := k4 nd3.2 rw2.1 fun b hb z => dis b (List.mem_cons_of_mem _ z) hb
  obtain ⟨fp3, I3, s3⟩ := fin a' (.dK kvs2) (.dK (putK kvs2 t w)) (.dic m) (a' :: G) List.mem_cons_self hH2 ns (fun b hb => (List.mem_cons.mp hb).elim (fun z => .inl (by rw [z]; exact List.mem_cons_self)) fun z => (k3 b z).imp (List.mem_cons_of_mem _) (fun y => y)) (List.nodup_cons.mpr ⟨nG, ndG⟩)
    (.dic upd_same k1 k2)
  have hl2 : kvs2.length = ds2.length := by simpa using congrArg List.length hks
  exact ⟨a', _, rfl, DPut.k hH2 (by rw [hl2]; exact Nat.lt_of_lt_of_le hsz (by decide)), hQ σ _ fp3 I3 s3⟩
theorem se_dict0 : SE S (.val (k + 1)) (.Dict [] [] pos) (ret (.dic [])) := by
  intro X fit W tk A fp tmp σ H ρ Q I hw
  refine ⟨_, pe_dnewK, ?_⟩
  intro p hp
  have I0 : SI X.K (clX X.mg) S.κ A fp (tF tmp [p]) σ (upd H p (.dK [])) ρ := I.new hp fun b z => z.imp id fun y => by simpa using y
  have s0 : Stp S.κ fp tmp H ρ fp (tF tmp [p]) (upd H p (.dK [])) ρ := Stp.refl.new hp fun b z => z.imp id fun y => by simpa using y
  refine hw (.ref p) _ fp [p] I0 s0 (fun b hb => by rw [List.mem_singleton.mp hb]; exact hp) ⟨by simp, fun b hb => ⟨.inr hb, ?_⟩, .dic upd_same rfl .nil⟩
  rw [List.mem_singleton.mp hb]; exact I.an p hp
end
end VS

set_option Elab.async false
set_option linter.all false
set_option maxRecDepth 100000
set_option maxHeartbeats 4000000
/-! VS32: calls without arguments. -/
namespace VS
open PySem PySem.Spec PyProof.Rows L2
section
variable {X : Cx} {CX : CXT} {k : Nat} {f : Addr} {fd : FuncData} {ps : List Str} {sp : Sp} {E : L2.St → XK} {x : Str} {p pos : Pos}
theorem pe_callS0 (F : FnOk X.prog X.w X.K X.mg X.base CX k f fd ps sp) (hr : Room k X.A) (hg : Gl X x) (hm : X.mg x = some (.ref f)) (hk : PySem.W.keepIn X.K (.ref f) = true) (hb : Binds X.K fd ps []) (hx : ∀ σ, PassesAt CX X σ (E σ)) (hdb : (x == ("__debug__" : Str)) = false) :
    PE X (.Call (.Name x p) [] [] pos) (fun σ H Q => sp [] H Q (E σ)) := by
  refine ⟨fun pins s σ H Q I h => ?_⟩
  refine wpAny_Call_Name_kw (ld_glob I hg hm ?_ hdb)
  exact PySem.W.callWith_K0 I.kIn hk (run_fnS (us := []) F hr hb (hx σ) I .nil h)
end
section
variable {S : Sx} {p pos : Pos}
theorem se_call0 {fi : FnI} {x : Str} (hf : fi ∈ S.fs) (hx : fi.name = x) (hg : glB S.sc x = true) (hn : okName x = true) (ha : aksOk [] fi.ks = true) :
    SE S (.val fi.kr) (.Call (.Name x p) [] [] pos) (mCall fi.sem [] mNil) := by
  subst hx
  intro X fit W tk A fp tmp σ H ρ Q I hw
  unfold okName at hn
  simp only [Bool.and_eq_true, Bool.not_eq_true'] at hn
  have FA := fit.fs fi hf
  obtain ⟨f, fd, hm, kp, hb, F, _⟩ := FA.ex
  refine ⟨_, pe_callS0 F fit.room (gl_of fit hg) hm kp hb (fun σ => passAt tk σ) hn.1, ?_⟩
  refine sas_nil X fit W tk A fp tmp σ H ρ (fun vs H1 => spF fi X.K (clX X.mg) vs H1 Q (L2.WE W σ)) I (wpx_mono (wpx_bnd hw) (fun ds ρ1 hd vs H1 fp1 Fs I1 s1 nF ar => ?_) fun _ _ z => z)
  have e : vs = [] := by
    have := ar.len
    exact List.length_eq_zero_iff.mp (by simpa using this.2.1)
  subst e
  exact call_core fit FA.kn ⟨I, I1, s1, nF, ar, ha, List.nodup_nil, fun j i k h => by simp at h⟩ hd
end
end VS

set_option Elab.async false
set_option linter.all false
set_option maxRecDepth 100000
set_option maxHeartbeats 4000000
/-! VS33: a test that only reads. -/
namespace VS
open PySem PySem.Spec PyProof.Rows L2
section
variable {S : Sx} {e : Expr} {f : M Bool}
theorem st_lock (h : ST S.lock e f) : ST S e f := by
  intro X fit W tk A fp tmp σ H ρ Q I hw
  refine h X fit.lock W tk A fp tmp σ H ρ Q I.lock (wpx_mono hw (fun b ρ' hq H' fp' I' s => ?_) fun x ρ' z cls dx H' fp' I' s q => ?_)
  · obtain ⟨I2, s2⟩ := SI.unlock I I' s
    exact hq H' fp' I2 s2
  · obtain ⟨I2, s2⟩ := SI.unlock I I' s
    exact z cls dx H' fp' I2 s2 q
end
end VS

set_option Elab.async false
set_option linter.all false
set_option maxRecDepth 100000
set_option maxHeartbeats 4000000
/-! VS34: written constants of the module. -/
namespace VS
open PySem PySem.Spec PyProof.Rows L2
section
variable {S : Sx} {m : Mode} {p : Pos}
theorem se_glob {c : ConI} {x : Str} (hc : c ∈ S.cs) (hx : c.name = x) (hg : glB S.sc x = true) (hn : okName x = true) (hi : c.val.imm = true) : SE S m (.Name x p) (ret c.val) := by
  subst hx
  intro X fit W tk A fp tmp σ H ρ Q I hw
  unfold okName at hn
  simp only [Bool.and_eq_true, Bool.not_eq_true'] at hn
  obtain ⟨u, v, h1, h2, h3⟩ := fit.cs c hc
  exact ⟨tC v, pe_glob (gl_of fit hg) h1 h2 hn.1, hw v H fp [] (by rw [tF_nil]; exact I) (by rw [tF_nil]; exact .refl) emp (.imm hi (h3 _))⟩
theorem con_int {K : PySem.W.Frag} {mg : Str → Option Value} {x : Str} {i : Int} {t : Tok} (h : mg x = some (.int i t)) : ConAt K mg ⟨x, .int i⟩ := ⟨_, .int i, h, ⟨t, rfl⟩, fun _ => .int i⟩
def dStrI : List D → Option D
  | [.int i] => if i.natAbs.log2 < 1920 then some (.str (toString i)) else none
  | _ => none
theorem ok_strI {mr : Mode} : PrimOk S [.rd] mr (pk1 dStrI) (rdTy "str") := prim_op1 fun X fit H T v d r Q r1 ed hq => by
  cases d <;> simp only [dStrI, reduceCtorEq] at ed
  case int i =>
    split at ed
    · rename_i h
      cases ed; have e1 := r1.i; subst e1; exact ⟨_, call_str_int, i, rfl, h, hq _ (fun U => .str _) rfl⟩
    · cases ed
end
end VS

set_option Elab.async false
set_option linter.all false
set_option maxRecDepth 100000
set_option maxHeartbeats 4000000
/-! VS35: list(range(a, b, c)). -/
namespace VS
open PySem PySem.Spec PyProof.Rows L2
section
variable {X : Cx} {a b c e : Expr}
theorem prg_3 {ta : TA} {p pos : Pos} (hg : Gl X "range") (hm : X.mg "range" = none) (ha : PA X [a, b, c] ta)
    (hs : starEach [a, b, c] X.env = (false, eval a X.env) :: starEach [b, c] X.env) (hpl : (backTo pos (starEach [b, c] X.env)).any (·.1) = false)
    {pins : List (Addr × Obj)} {s : Shared} {σ : L2.St} {H : Hp} {Q : Int → Int → Nat → Hp → Prop} (I : Inv X pins σ H s) (h : ta σ H fun vs H1 => ∃ (i j c : Int) (n : Nat), vs = [.int i, .int j, .int c] ∧ RgC i j c n ∧ Q i c n H1) :
    wpAny (model X.prog X.w) X.A (eval (.Call (.Name "range" p) [a, b, c] [] pos) X.env) (fun x s' => ∃ r i j c n t u v H', x = .ref r ∧ IsRange s'.heap r i j c t u v ∧ RgC i j c n ∧ Inv X pins σ H' s' ∧ Q i c n H') X.xe s := by
  refine Call_ (ld_blt I hg hm boot_range (PyProof.Rows.callWith_type1 (thn (ha.run pos pins s σ H _ I h) fun us s1 ⟨vs, H1, I1, r1, q1⟩ => ?_) hs hpl))
  obtain ⟨i, j, k, n, e, ok, q⟩ := q1
  obtain ⟨c0, c1, c2, c3⟩ := id ok
  subst e
  cases r1 with
  | cons r rr =>
    cases rr with
    | cons r' rr =>
      cases rr with
      | cons r'' rr =>
        cases rr
        obtain ⟨t, rfl⟩ := r
        obtain ⟨t', rfl⟩ := r'
        obtain ⟨t'', rfl⟩ := r''
        refine call_range_3 c0 ?_ (.inl (PyProof.noPylong_small c1))
        exact ⟨_, i, j, k, n, t, t', t'', H1, rfl, IsRange.new _ _ _ _ _ _ _, ok, I1.kept (t' := s1.toks) fun b o e => Heap.get?_push_of_some _ e, q⟩
def rgVC (i c : Int) (n : Nat) : List V := (List.range n).map fun k => V.int (i + (k : Nat) * c)
theorem vals_rgC {i c : Int} {n : Nat} {acc : Array Value} (h : ItemsOf (fun k v => ∃ t, v = .int (i + k * c) t) acc n) : Vals (rgVC i c n) acc.toList := by
  have e : acc.toList.length = n := by rw [Array.length_toList]; exact h.1
  unfold rgVC
  rw [← e]
  refine vals_of_get acc.toList _ fun j u hj => ?_
  obtain ⟨t, rfl⟩ := h.2 j u (by rw [← hj, Array.getElem?_toList])
  exact ⟨t, rfl⟩
def rdListRg3 : List V → Hp → VK → Prop := fun vs H Q => ∃ (i j c : Int) (n : Nat), vs = [.int i, .int j, .int c] ∧ RgC i j c n ∧ n ≤ 2 ^ 24 ∧ ∀ q, H q = none → Q (.ref q) (upd H q (.lst (rgVC i c n)))
theorem pe_listRg3 {ta : TA} {p pos p2 q2 : Pos} (hc : X.calm = true) (hg : Gl X "list") (hm : X.mg "list" = none) (hg2 : Gl X "range") (hm2 : X.mg "range" = none) (ha : PA X [a, b, c] ta)
    (hs : starEach [a, b, c] X.env = (false, eval a X.env) :: starEach [b, c] X.env) (hpl : (backTo q2 (starEach [b, c] X.env)).any (·.1) = false)
    (na : starEach [.Call (.Name "range" p2) [a, b, c] [] q2] X.env = (false, eval (.Call (.Name "range" p2) [a, b, c] [] q2) X.env) :: starEach [] X.env := by rfl) :
    PE X (.Call (.Name "list" p) [.Call (.Name "range" p2) [a, b, c] [] q2] [] pos) (fun σ H Q => ta σ H fun vs H1 => rdListRg3 vs H1 Q) := by
  refine ⟨fun pins s σ H Q I h => ?_⟩
  have h' : ta σ H fun vs H1 => ∃ (i j c : Int) (n : Nat), vs = [.int i, .int j, .int c] ∧ RgC i j c n ∧ (n ≤ 2 ^ 24 ∧ ∀ q, H1 q = none → Q (.ref q) (upd H1 q (.lst (rgVC i c n)))) := h
  refine Call_ (ld_blt I hg hm boot_list (PyProof.Rows.callWith_type1 (args_cons (thn (prg_3 (Q := fun i c n H1 => n ≤ 2 ^ 24 ∧ ∀ q, H1 q = none → Q (.ref q) (upd H1 q (.lst (rgVC i c n)))) hg2 hm2 ha hs hpl I h') fun x s1 ⟨r, i, j, c, n, t, u, v, H1, ex, hr, ok, I1, hn, q⟩ => args_nil ?_) na) na))
  subst ex
  obtain ⟨c0, c1, c2, c3⟩ := ok
  refine call_list_range (n := n) (I1.ok.hd hc) hr c2 c3 hn fun h' tk acc c' hk e' hi => ?_
  refine ⟨.ref s1.heap.objs.size, upd H1 s1.heap.objs.size (.lst (rgVC i c n)), I1.laid hk (Nat.le_refl _) (show ObjOk X.prog X.w _ _ _ (.lst (rgVC i c n)) from ⟨?_, acc.toList, c', vals_rgC hi, ?_⟩), rfl, q _ (I1.hok.fresh (Nat.le_refl _))⟩
  · unfold rgVC; rw [List.length_map, List.length_range, sizeLine_eq]; omega
  · rw [Array.toArray_toList]; exact e'
end
section
variable {S : Sx} {a b c : Expr} {p pos : Pos}
def rgDC (i c : Int) (n : Nat) : List D := (List.range n).map fun k => .int (i + (k : Nat) * c)
theorem rgC_rp {K : PySem.W.Frag} {cl : Cl} {H : Hp} {T : Addr → Prop} (i c : Int) (n : Nat) : RpL K cl H T (rgVC i c n) (rgDC i c n) := by
  unfold rgVC rgDC
  generalize List.range n = l
  induction l with
  | nil => exact .nil
  | cons x r ih => exact .cons (.int _) ih
def dListRg3 : List D → Option D
  | [.int i, .int j, .int c] => if c ≠ 0 ∧ c.natAbs < 1073741824 ∧ Builtin.Range.small i j c = true ∧ 0 ≤ Builtin.Range.rangeSize i j c ∧ (Builtin.Range.rangeSize i j c).toNat ≤ 2 ^ 24 then some (.lst (rgDC i c (Builtin.Range.rangeSize i j c).toNat)) else none
  | _ => none
theorem ok_listRg3 : PrimOk S [.rd, .rd, .rd] (.val 1) (pk3 dListRg3) (fun _ => rdListRg3) := by
  intro X fit A fp tmp σ H ρ F vs ds d Q I nt r ed hq
  cases r with
  | cons r1 n1 q =>
    obtain ⟨v, w, d1, d2, G, G', rfl, rfl, rfl, _, r2, r3⟩ := q.two
    obtain ⟨rfl, r1⟩ := r1
    obtain ⟨rfl, r2⟩ := r2
    obtain ⟨rfl, r3⟩ := r3
    rename_i d0 _
    cases d0 <;> cases d1 <;> cases d2 <;> simp only [pk3, dListRg3, reduceCtorEq] at ed
    split at ed
    · rename_i h
      cases ed
      refine ⟨_, _, _, (Builtin.Range.rangeSize _ _ _).toNat, by rw [r1.i, r2.i, r3.i], ⟨h.1, h.2.1, h.2.2.1, ?_⟩, h.2.2.2.2, fun q hz => newL I nt hq (rgC_rp _ _ _) q hz⟩
      omega
    · cases ed
theorem hrd_listRg3 {q1 q2 : Pos} (hs : noStars [a, b, c] = true) (hl : glB S.sc "list" = true) (hr : glB S.sc "range" = true) (X : Cx) (fit : Fit S X) (W : WX) (tk : Takes X W) (σ : L2.St) (H : Hp) (Q : VK) (h : WEs X [a, b, c] σ H fun vs H1 => rdListRg3 vs H1 Q) :
    WE X (.Call (.Name "list" p) [.Call (.Name "range" q1) [a, b, c] [] q2] [] pos) σ H Q := by
  have h' : noStar a = true ∧ noStars [b, c] = true := by simpa [noStars] using hs
  exact ⟨_, pe_listRg3 fit.calm (gl_of fit hl) (fit.bl _ (by decide)) (gl_of fit hr) (fit.bl _ (by decide)) (pa_WEs hs) (star1 h'.1) (stars_any h'.2), h⟩
end
end VS

set_option Elab.async false
set_option linter.all false
set_option maxRecDepth 100000
set_option maxHeartbeats 4000000
/-! VS36: a list that is owned no longer. -/
namespace VS
open PySem PySem.Spec PyProof.Rows L2
def Sx.frz (S : Sx) (i : Nat) : Sx := { S with κ := S.κ.set i .F }
def mFrz (i : Nat) (f : M Out) : M Out := fun ρ => match f ρ with
  | .ok o ρ' => .ok o (ρ'.set i .un)
  | .err x ρ' => .err x (ρ'.set i .un)
  | .stuck => .stuck
section
variable {K : PySem.W.Frag} {cl : Cl} {κ : List Kd} {A : Gd} {fp : Nat → List Addr} {tmp : Addr → Prop} {σ : L2.St} {H : Hp} {ρ : List D} {i k : Nat}
theorem frz_get {j : Nat} (h : i ≠ j) : (κ.set i .F)[j]? = κ[j]? := List.getElem?_set_ne h
theorem frz_self (hk : ownK κ i k = true) : (κ.set i .F)[i]? = some .F := by
  have : i < κ.length := by
    rcases ownK_get hk with h | h <;> exact (List.getElem?_eq_some_iff.mp h).1
  rw [List.getElem?_set, if_pos rfl, if_pos this]
theorem frz_sub {j : Nat} {b : Addr} (h : b ∈ setF fp i [] j) : j ≠ i ∧ b ∈ fp j := by
  rcases setF_mem h with ⟨_, z⟩ | z
  · cases z
  · exact z
theorem frz_os {b : Addr} (h : OS (setF fp i []) b) : OS fp b := let ⟨j, z⟩ := h; ⟨j, (frz_sub z).2⟩
theorem frz_oo {b : Addr} (h : OO (setF fp i []) tmp b) : OO fp tmp b := h.imp (fun ⟨j, z⟩ => ⟨j, (frz_sub z).2⟩) id
theorem frz_in (hk : ownK κ i k = true) (I : SI K cl κ A fp tmp σ H ρ) : SI K cl (κ.set i .F) A (setF fp i []) tmp σ H ρ where
  sz := ⟨by rw [List.length_set]; exact I.sz.1, by rw [List.length_set]; exact I.sz.2⟩
  an := I.an
  ca := I.ca
  fa := fun b h => I.fa b (frz_oo h)
  fA := fun j b h => I.fA j b (frz_sub h).2
  dj := fun j l b h1 h2 => I.dj j l b (frz_sub h1).2 (frz_sub h2).2
  nd := fun j => by
    by_cases h : j = i
    · rw [h, setF_same]; exact List.nodup_nil
    · rw [setF_ne h]; exact I.nd j
  dt := fun j b h => I.dt j b (frz_sub h).2
  cd := fun j b h => I.cd j b (frz_sub h).2
  lf := fun j b h => by
    obtain ⟨n, z⟩ := frz_sub h
    obtain ⟨c, a, q⟩ := I.lf j b z
    exact ⟨c, by rw [frz_get fun e => n e.symm]; exact a, q⟩
  sl := fun j d c e1 e2 e3 => by
    by_cases h : j = i
    · subst h
      rw [frz_self hk] at e3
      cases e3
      obtain ⟨v, hs, o⟩ := I.root hk e1 e2
      refine ⟨v, hs, Own.read o (fun b s => ⟨s.1, fun z => s.2 (frz_oo z)⟩) fun b hb => ⟨I.fA j b hb, fun z => ?_⟩⟩
      rcases z with ⟨l, z⟩ | z
      · obtain ⟨n, z⟩ := frz_sub z
        exact n (I.dj l j b z hb)
      · exact I.dt j b hb z
    · rw [frz_get fun e => h e.symm] at e3
      obtain ⟨v, hs, o⟩ := I.sl j d c e1 e2 e3
      refine ⟨v, hs, ?_⟩
      have shU : ∀ b, Sh A fp tmp b → Sh A (setF fp i []) tmp b := fun b s => ⟨s.1, fun z => s.2 (frz_oo z)⟩
      have ow : ∀ k, Own K cl H (Sh A fp tmp) k (fp j) v d → Own K cl H (Sh A (setF fp i []) tmp) k (setF fp i [] j) v d := fun k o => by
        rw [setF_ne h]
        exact Own.ext (P := fun _ => False) Ext.refl (fun b s _ => ⟨shU b s, fun z => z⟩) (fun _ _ z => z) o
      cases c with
      | F => exact Rp.ext (P := fun _ => False) Ext.refl (fun b s _ => ⟨shU b s, fun z => z⟩) o
      | B => exact Rp.ext (P := fun _ => False) Ext.refl (fun b s _ => ⟨⟨fun z => s.1 (frz_os z), s.2⟩, fun z => z⟩) o
      | R => exact Rp.ext (P := fun _ => False) Ext.refl (fun b s _ => ⟨⟨fun ⟨l, ⟨q, x⟩, z⟩ => s.1 ⟨l, ⟨q, by
          have n := (frz_sub z).1
          rw [frz_get fun e => n e.symm] at x
          exact x⟩, (frz_sub z).2⟩, s.2⟩, fun z => z⟩) o
      | L k => exact ow k o
      | X k => exact ow k o
theorem frz_out (hk : ownK κ i k = true) {fp' : Nat → List Addr} (I : SI K cl (κ.set i .F) A fp' tmp σ H ρ) : SI K cl κ A fp' tmp σ H (ρ.set i .un) where
  sz := ⟨by have := I.sz.1; rw [List.length_set] at this; exact this, by have := I.sz.2; rw [List.length_set] at this ⊢; exact this⟩
  an := I.an
  ca := I.ca
  fa := I.fa
  fA := I.fA
  dj := I.dj
  nd := I.nd
  dt := I.dt
  cd := I.cd
  lf := fun j b h => by
    obtain ⟨c, a, q⟩ := I.lf j b h
    by_cases e : j = i
    · subst e
      rw [frz_self hk] at a
      cases a
      cases q
    · rw [frz_get fun z => e z.symm] at a
      exact ⟨c, a, q⟩
  sl := fun j d c e1 e2 e3 => by
    by_cases e : j = i
    · subst e
      rw [List.getElem?_set, if_pos rfl] at e1
      split at e1
      · cases e1; exact absurd rfl e2
      · cases e1
    · rw [List.getElem?_set_ne fun z => e z.symm] at e1
      obtain ⟨v, hs, o⟩ := I.sl j d c e1 e2 (by rw [frz_get fun z => e z.symm]; exact e3)
      refine ⟨v, hs, ?_⟩
      cases c with
      | F => exact o
      | B => exact o
      | R => exact Rp.ext (P := fun _ => False) Ext.refl (fun b s _ => ⟨⟨fun ⟨l, ⟨q, x⟩, z⟩ => s.1 ⟨l, ⟨q, by
          have n : l ≠ i := fun y => by
            subst y
            obtain ⟨c, a, w⟩ := I.lf l b z
            rw [frz_self hk] at a
            cases a
            cases w
          rw [frz_get fun y => n y.symm]
          exact x⟩, z⟩, s.2⟩, fun z => z⟩) o
      | L k => exact o
      | X k => exact o
theorem StS.frz {np : Nat} {pr : List Nat} {fp1 : Nat → List Addr} {tmp1 : Addr → Prop} {σ1 : L2.St} {H1 : Hp} (s : StS np pr (setF fp i []) tmp σ H fp1 tmp1 σ1 H1) : StS np pr fp tmp σ H fp1 tmp1 σ1 H1 :=
  ⟨s.ex.mono fun b z => .inl (frz_os z), fun b z => (s.ow b z).imp frz_oo id, fun j b z => (s.si j b z).imp (fun y => (frz_sub y).2) (Or.imp (fun ⟨l, a, y⟩ => ⟨l, a, (frz_sub y).2⟩) id), s.sg⟩
end
section
variable {S : Sx} {sts : List Stmt} {f : M Out} {i k : Nat}
theorem Fit.frz {X : Cx} (fit : Fit S X) : Fit (S.frz i) X := ⟨fit.hN, fit.nd, fit.sc, fit.calm, fit.room, fit.fn, fit.fs, fit.cs, fit.bl, by show (S.κ.set i .F).length = _; rw [List.length_set]; exact fit.kl, fit.bf⟩
theorem Res.frz {K : PySem.W.Frag} {cl : Cl} {κ κ' : List Kd} {A : Gd} {fp : Nat → List Addr} {tmp : Addr → Prop} {H : Hp} {F : List Addr} {v : V} {d : D} {k : Nat} (r : Res K cl κ A fp tmp H F v d (.val k)) : Res K cl κ' A fp tmp H F v d (.val k) := r
theorem ss_frz (hk : ownK S.κ i k = true) (h : SS (S.frz i) sts f) : SS S sts (mFrz i f) := by
  intro X fit W tk po A fp tmp σ H ρ D I hw
  refine h X fit.frz W tk po A (setF fp i []) tmp σ H ρ D (frz_in hk I) ?_
  unfold mFrz at hw
  cases e : f ρ with
  | stuck => rw [e] at hw; exact hw
  | err x ρ' =>
    rw [e] at hw
    intro cls dx σ' H' fp' I' s' q
    exact hw cls dx σ' H' fp' (frz_out hk I') s'.frz q
  | ok o ρ' =>
    rw [e] at hw
    cases o with
    | nx => exact fun σ' H' fp' I' s' => hw σ' H' fp' (frz_out hk I') s'.frz
    | bk => exact fun σ' H' fp' I' s' => hw σ' H' fp' (frz_out hk I') s'.frz
    | ct => exact fun σ' H' fp' I' s' => hw σ' H' fp' (frz_out hk I') s'.frz
    | rt d =>
      intro v σ' H' fp' F I' s' gv r
      refine hw v σ' H' fp' F (frz_out hk I') s'.frz (fun b hb => ?_) r
      exact (gv b hb).imp (fun ⟨j, a, z⟩ => ⟨j, a, (frz_sub z).2⟩) id
end
end VS

set_option Elab.async false
set_option linter.all false
set_option maxRecDepth 100000
set_option maxHeartbeats 4000000
/-! VP: how mirrors are evaluated. -/
namespace VS
open PySem PySem.Spec PyProof.Rows L2
def rb {α β : Type} (r : R α) (k : α → List D → R β) : R β := match r with
  | .ok a ρ => k a ρ
  | .err x ρ => .err x ρ
  | .stuck => .stuck
theorem rb_ok {α β : Type} {a : α} {ρ : List D} {k : α → List D → R β} : rb (.ok a ρ) k = k a ρ := id rfl
theorem rb_stuck {α β : Type} {k : α → List D → R β} : rb .stuck k = .stuck := id rfl
theorem rb_rb {α β γ : Type} {r : R α} {k : α → List D → R β} {l : β → List D → R γ} : rb (rb r k) l = rb r fun a ρ => rb (k a ρ) l := by cases r <;> rfl
theorem rb_ite {α β : Type} {c : Prop} [Decidable c] {r s : R α} {k : α → List D → R β} : rb (if c then r else s) k = if c then rb r k else rb s k := by split <;> rfl
theorem rb_fun {α β : Type} {a : α} {ρ : List D} {k : α → List D → R β} : rb (.ok a ρ) (fun a ρ => k a ρ) = k a ρ := id rfl
def ob {α β : Type} (o : Option α) (k : α → R β) : R β := match o with
  | some a => k a
  | none => .stuck
theorem ob_some {α β : Type} {a : α} {k : α → R β} : ob (some a) k = k a := id rfl
theorem ob_none {α β : Type} {k : α → R β} : ob none k = .stuck := id rfl
theorem ob_map {α β γ : Type} {o : Option α} {f : α → β} {k : β → R γ} : ob (o.map f) k = ob o fun a => k (f a) := by cases o <;> rfl
theorem ob_bind {α β γ : Type} {o : Option α} {f : α → Option β} {k : β → R γ} : ob (o.bind f) k = ob o fun a => ob (f a) k := by cases o <;> rfl
theorem ob_ite {α β : Type} {c : Prop} [Decidable c] {r s : Option α} {k : α → R β} : ob (if c then r else s) k = if c then ob r k else ob s k := by split <;> rfl
theorem rb_ob {α β γ : Type} {o : Option α} {k : α → R β} {l : β → List D → R γ} : rb (ob o k) l = ob o fun a => rb (k a) l := by cases o <;> rfl
def ne {α : Type} (r : R α) : R α := match r with
  | .ok a ρ => .ok a ρ
  | _ => .stuck
theorem ne_ok {α : Type} {a : α} {ρ : List D} : ne (.ok a ρ) = .ok a ρ := id rfl
/-- a value read -/
def gv (d : D) (ρ : List D) : R D := match d with
  | .un => .stuck
  | d => .ok d ρ
theorem gv_of {d : D} {ρ : List D} (h : d ≠ .un) : gv d ρ = .ok d ρ := by cases d <;> first | rfl | exact absurd rfl h
theorem gv_non {ρ : List D} : gv .non ρ = .ok .non ρ := id rfl
theorem gv_bl {ρ : List D} {b : Bool} : gv (.bl b) ρ = .ok (.bl b) ρ := id rfl
theorem gv_int {ρ : List D} {b : Int} : gv (.int b) ρ = .ok (.int b) ρ := id rfl
theorem gv_str {ρ : List D} {b : Str} : gv (.str b) ρ = .ok (.str b) ρ := id rfl
theorem gv_tup {ρ : List D} {b : List D} : gv (.tup b) ρ = .ok (.tup b) ρ := id rfl
theorem gv_lst {ρ : List D} {b : List D} : gv (.lst b) ρ = .ok (.lst b) ρ := id rfl
theorem gv_scr {ρ : List D} {b : List Int} : gv (.scr b) ρ = .ok (.scr b) ρ := id rfl
theorem gv_dic {ρ : List D} {b : List (Key × D)} : gv (.dic b) ρ = .ok (.dic b) ρ := id rfl
theorem gv_obj {ρ : List D} {c : Str} {b : List (Str × D)} : gv (.obj c b) ρ = .ok (.obj c b) ρ := id rfl
/-! ### equations -/
section
variable {α β : Type} {ρ : List D} {κ : List Kd}
theorem e_bnd {f : M α} {g : α → M β} : bnd f g ρ = rb (f ρ) fun a ρ' => g a ρ' := by unfold bnd rb; cases f ρ <;> rfl
theorem e_ret {a : α} : VS.ret a ρ = .ok a ρ := id rfl
theorem e_fail : (VS.fail : M α) ρ = .stuck := id rfl
theorem e_ofO {o : Option α} : ofO o ρ = ob o fun a => .ok a ρ := by cases o <;> rfl
theorem e_ite {c : Prop} [Decidable c] {f g : M α} : (if c then f else g) ρ = if c then f ρ else g ρ := by split <;> rfl
theorem e_var {i : Nat} : mVar i ρ = gv (ρ.getD i .un) ρ := by unfold mVar gv; cases ρ.getD i .un <;> rfl
theorem e_prim {p : List D → Option D} {g : M (List D)} : mPrim p g ρ = rb (g ρ) fun ds ρ' => ob (p ds) fun d => .ok d ρ' := by
  unfold mPrim; rw [e_bnd]; congr 1; funext a ρ'; exact e_ofO
def consK2 (d : D) (ds : List D) (ρ : List D) : R (List D) := .ok (d :: ds) ρ
def consK (g : M (List D)) (d : D) (ρ : List D) : R (List D) := rb (g ρ) (consK2 d)
theorem consK2_ap {d : D} {ds : List D} : consK2 d ds ρ = .ok (d :: ds) ρ := id rfl
theorem consK_ap {g : M (List D)} {d : D} : consK g d ρ = rb (g ρ) (consK2 d) := id rfl
theorem e_cons {f : M D} {g : M (List D)} : mCons f g ρ = rb (f ρ) (consK g) := by
  unfold mCons; rw [e_bnd]; rfl
theorem e_nil : mNil ρ = .ok [] ρ := id rfl
theorem e_imm {f : M D} : mImm f ρ = rb (f ρ) fun d ρ' => if d.imm = true then .ok d ρ' else .stuck := by
  unfold mImm; rw [e_bnd]; congr 1; funext a ρ'; split <;> rfl
theorem e_cmpT {p : List D → Option D} {g : M (List D)} : mCmpT p g ρ = rb (g ρ) fun ds ρ' => ob (p ds) fun d => ob d.bl? fun b => .ok b ρ' := by
  unfold mCmpT; rw [e_bnd]; congr 1; funext a ρ'; rw [e_ofO, ob_bind]
theorem e_tru {f : M D} : mTru f ρ = rb (f ρ) fun d ρ' => ob d.tru fun b => .ok b ρ' := by
  unfold mTru; rw [e_bnd]; congr 1; funext a ρ'; rw [e_ofO]
theorem e_notT {f : M Bool} : mNotT f ρ = rb (f ρ) fun b ρ' => .ok (!b) ρ' := by unfold mNotT; rw [e_bnd]; rfl
theorem e_notV {f : M D} : mNotV f ρ = rb (f ρ) fun d ρ' => ob d.tru fun b => .ok (.bl (!b)) ρ' := by
  unfold mNotV; rw [e_bnd]; congr 1; funext a ρ'; rw [e_ofO, ob_map]
/-- what follows a test -/
def condK {α : Type} (f g : M α) (b : Bool) (ρ : List D) : R α := if b = true then f ρ else g ρ
theorem condK_ap {f g : M α} {b : Bool} : condK f g b ρ = if b = true then f ρ else g ρ := id rfl
theorem condK_t {f g : M α} : condK f g true ρ = f ρ := id rfl
theorem condK_f {f g : M α} : condK f g false ρ = g ρ := id rfl
theorem e_andT {f g : M Bool} : mAndT f g ρ = rb (f ρ) (condK g (VS.ret false)) := by
  unfold mAndT; rw [e_bnd]; congr 1; funext a ρ'; rw [e_ite]; rfl
theorem e_orT {f g : M Bool} : mOrT f g ρ = rb (f ρ) (condK (VS.ret true) g) := by
  unfold mOrT; rw [e_bnd]; congr 1; funext a ρ'; rw [e_ite]; rfl
/-- a truth as a value -/
def blv {α : Type} (d : D) (k : Bool → R α) : R α := match d with
  | .bl b => k b
  | _ => .stuck
theorem blv_bl {b : Bool} {k : Bool → R α} : blv (.bl b) k = k b := id rfl
def condV {α : Type} (f g : M α) (d : D) (ρ : List D) : R α := blv d fun b => condK f g b ρ
theorem condV_ap {f g : M α} {b : Bool} : condV f g (.bl b) ρ = condK f g b ρ := id rfl
theorem e_andV {f g : M D} : mAndV f g ρ = rb (f ρ) (condV g (VS.ret (.bl false))) := by
  unfold mAndV; rw [e_bnd]; congr 1; funext a ρ'; cases a <;> try rfl
  case bl b => cases b <;> rfl
theorem e_orV {f g : M D} : mOrV f g ρ = rb (f ρ) (condV (VS.ret (.bl true)) g) := by
  unfold mOrV; rw [e_bnd]; congr 1; funext a ρ'; cases a <;> try rfl
  case bl b => cases b <;> rfl
theorem e_if {t : M Bool} {f g : M α} : mIf t f g ρ = rb (t ρ) (condK f g) := by
  unfold mIf; rw [e_bnd]; congr 1; funext a ρ'; rw [e_ite]; rfl
theorem e_ifS {t : M Bool} {f g : M Out} : mIfS t f g ρ = rb (t ρ) (condK f g) := by
  unfold mIfS; rw [e_bnd]; congr 1; funext a ρ'; rw [e_ite]; rfl
/-- what follows a statement -/
def seqK (g : M Out) (o : Out) (ρ : List D) : R Out := match o with
  | .nx => g ρ
  | o => .ok o ρ
theorem seqK_nx {g : M Out} : seqK g .nx ρ = g ρ := id rfl
theorem seqK_bk {g : M Out} : seqK g .bk ρ = .ok .bk ρ := id rfl
theorem seqK_ct {g : M Out} : seqK g .ct ρ = .ok .ct ρ := id rfl
theorem seqK_rt {g : M Out} {d : D} : seqK g (.rt d) ρ = .ok (.rt d) ρ := id rfl
theorem e_seq {f g : M Out} : mSeq f g ρ = rb (f ρ) (seqK g) := by
  unfold mSeq; rw [e_bnd]; congr 1; funext a ρ'; cases a <;> rfl
theorem e_drop {f : M D} : mDrop f ρ = rb (f ρ) fun _ ρ' => .ok .nx ρ' := by unfold mDrop; rw [e_bnd]; rfl
theorem e_set {i : Nat} {f : M D} : mSet i f ρ = rb (f ρ) fun d ρ' => .ok .nx (ρ'.set i d) := by unfold mSet; rw [e_bnd]
theorem e_put {im : IM} {t : Tgt} {f : M D} : mPut κ im t f ρ = rb (f ρ) fun d ρ' => ob (tset κ im t d ρ') fun ρ2 => .ok .nx ρ2 := by
  unfold mPut; rw [e_bnd]; congr 1; funext a ρ'; cases tset κ im t a ρ' <;> rfl
theorem e_mul {is : List Nat} {g : M (List D)} : mMul is g ρ = rb (g ρ) fun ds ρ' => if ds.length ≤ 16777216 then .ok .nx (setAll is ds ρ') else .stuck := by
  unfold mMul; rw [e_bnd]
theorem e_mRet {f : M D} : mRet f ρ = rb (f ρ) fun d ρ' => .ok (.rt d) ρ' := by unfold mRet; rw [e_bnd]; rfl
theorem e_lst {g : M (List D)} : mLst g ρ = rb (g ρ) fun ds ρ' => if ds.length ≤ 16777216 then .ok (.lst ds) ρ' else .stuck := by
  unfold mLst; rw [e_bnd]; congr 1; funext a ρ'; split <;> rfl
theorem e_tupS {g : M (List D)} : (bnd g fun ds => if ds.length ≤ 16777216 then VS.ret (D.tup ds) else VS.fail) ρ = rb (g ρ) fun ds ρ' => if ds.length ≤ 16777216 then R.ok (D.tup ds) ρ' else R.stuck := by
  rw [e_bnd]; congr 1; funext a ρ'; split <;> rfl
theorem e_mTup {g : M (List D)} : mTup g ρ = rb (g ρ) fun ds ρ' => if ds.length ≤ 16777216 then .ok (.tup ds) ρ' else .stuck := e_tupS
theorem e_disp {g : M (List D)} : mDisp g ρ = rb (g ρ) fun ds ρ' => ob (pairD ds) fun es => .ok (.dic es) ρ' := by
  unfold mDisp; rw [e_bnd]; congr 1; funext a ρ'; rw [e_ofO, ob_map]
theorem e_ifR {f : M α} : ifR κ f ρ = if noRd κ ρ = true then f ρ else .stuck := id rfl
/-- an integer read -/
def inv {α : Type} (d : D) (k : Int → R α) : R α := match d with
  | .int i => k i
  | _ => .stuck
theorem inv_int {i : Int} {k : Int → R α} : inv (.int i) k = k i := id rfl
theorem e_mI {f : M D} : mI f ρ = rb (f ρ) fun d ρ' => inv d fun i => .ok (some i) ρ' := by
  unfold mI; rw [e_bnd]; congr 1; funext a ρ'; cases a <;> rfl
def slK2 (d : D) (lo : Option Int) (hi : Option Int) (ρ : List D) : R D := ob (dSlice lo hi d) fun x => .ok x ρ
def slK1 (h : M (Option Int)) (d : D) (lo : Option Int) (ρ : List D) : R D := rb (h ρ) (slK2 d lo)
def slK0 (g h : M (Option Int)) (d : D) (ρ : List D) : R D := rb (g ρ) (slK1 h d)
theorem slK0_ap {g h : M (Option Int)} {d : D} : slK0 g h d ρ = rb (g ρ) (slK1 h d) := id rfl
theorem slK1_ap {h : M (Option Int)} {d : D} {lo : Option Int} : slK1 h d lo ρ = rb (h ρ) (slK2 d lo) := id rfl
theorem slK2_ap {d : D} {lo hi : Option Int} : slK2 d lo hi ρ = ob (dSlice lo hi d) fun x => .ok x ρ := id rfl
theorem e_slice {f : M D} {g h : M (Option Int)} : mSlice f g h ρ = rb (f ρ) (slK0 g h) := by
  unfold mSlice; rw [e_bnd]; congr 1; funext a ρ1; rw [e_bnd]; unfold slK0; congr 1; funext b ρ2; rw [e_bnd]; unfold slK1; congr 1; funext c ρ3; rw [e_ofO]; rfl
theorem e_items {f : M D} : mItems f ρ = rb (f ρ) fun d ρ' => ob d.items fun ds => .ok ds ρ' := by
  unfold mItems; rw [e_bnd]; congr 1; funext a ρ'; rw [e_ofO]
theorem e_rng {g : M (List D)} : mRng g ρ = rb (g ρ) fun ds ρ' => ob (rngP ds) fun es => .ok es ρ' := by
  unfold mRng; rw [e_bnd]; congr 1; funext a ρ'; rw [e_ofO]
theorem e_enum {g : M (List D)} : mEnum g ρ = rb (g ρ) fun ds ρ' => ob (enP ds) fun es => .ok es ρ' := by
  unfold mEnum; rw [e_bnd]; congr 1; funext a ρ'; rw [e_ofO]
theorem e_zip {g : M (List D)} : mZip g ρ = rb (g ρ) fun ds ρ' => ob (ziP ds) fun es => .ok es ρ' := by
  unfold mZip; rw [e_bnd]; congr 1; funext a ρ'; rw [e_ofO]
theorem e_isTy {T : String} {f : M D} : mIsTy T f ρ = rb (f ρ) fun d ρ' => ob (isTy T d) fun b => .ok (.bl b) ρ' := by
  unfold mIsTy; rw [e_bnd]; congr 1; funext a ρ'; rw [e_ofO, ob_map]
theorem e_move {i : Nat} : mMove κ i ρ = rb (gv (ρ.getD i .un) ρ) fun d ρ' => if noRd κ ρ = true then .ok d (ρ.set i .un) else .stuck := by
  unfold mMove gv; cases ρ.getD i .un <;> rfl
theorem e_ref {i : Nat} : mRef i ρ = rb (gv (ρ.getD i .un) ρ) fun d ρ' => .ok .un ρ := by
  unfold mRef gv; cases ρ.getD i .un <;> rfl
theorem e_pv {i : Nat} : mPv i ρ = rb (gv (ρ.getD i .un) ρ) fun d ρ' => .ok [] ρ := by
  unfold mPv gv; cases ρ.getD i .un <;> rfl
theorem e_call {sem : List D → R D} {as : List AK} {g : M (List D)} : mCall sem as g ρ = rb (g ρ) (mCallR sem as) := by unfold mCall; rw [e_bnd]
theorem e_mBl {f : M D} : mBl f ρ = rb (f ρ) fun d ρ' => ob d.bl? fun b => .ok b ρ' := by
  unfold mBl; rw [e_bnd]; congr 1; funext a ρ'; rw [e_ofO]
def chK2 (q : List D → Option D) (y z : D) (ρ : List D) : R D := ob (q [y, z]) fun d => ob d.bl? fun b => .ok (.bl b) ρ
def chK3 (q : List D → Option D) (h : M D) (y : D) : M D := fun ρ => rb (h ρ) (chK2 q y)
def chK1 (p q : List D → Option D) (h : M D) (x y : D) (ρ : List D) : R D := ob (p [x, y]) fun d => ob d.bl? fun k => condK (chK3 q h y) (VS.ret (.bl false)) k ρ
def chK0 (p q : List D → Option D) (g h : M D) (x : D) (ρ : List D) : R D := rb (g ρ) (chK1 p q h x)
theorem chK0_ap {p q : List D → Option D} {g h : M D} {x : D} : chK0 p q g h x ρ = rb (g ρ) (chK1 p q h x) := id rfl
theorem chK1_ap {p q : List D → Option D} {h : M D} {x y : D} : chK1 p q h x y ρ = ob (p [x, y]) fun d => ob d.bl? fun k => condK (chK3 q h y) (VS.ret (.bl false)) k ρ := id rfl
theorem chK3_ap {q : List D → Option D} {h : M D} {y : D} : chK3 q h y ρ = rb (h ρ) (chK2 q y) := id rfl
theorem chK2_ap {q : List D → Option D} {y z : D} : chK2 q y z ρ = ob (q [y, z]) fun d => ob d.bl? fun b => .ok (.bl b) ρ := id rfl
theorem e_chain {p q : List D → Option D} {f g h : M D} : mChain p q f g h ρ = rb (f ρ) (chK0 p q g h) := by
  unfold mChain; rw [e_bnd]; congr 1; funext a ρ1; rw [e_bnd]; unfold chK0; congr 1; funext b ρ2; rw [e_bnd, e_ofO, ob_bind]; rw [rb_ob]; unfold chK1; congr 1; funext d; rw [rb_ob]; congr 1; funext k; rw [rb_ok, e_ite]; unfold condK; congr 1
  rw [e_bnd]; unfold chK3; congr 1; funext z ρ3; rw [e_ofO, ob_bind]; unfold chK2; congr 1; funext d; rw [ob_map]
/-- the items of a list -/
def mutK (κ : List Kd) (i : Nat) (q : List D → List D → Option (List D)) (as : List D) (ρ1 : List D) : R Out := ob (slotL i ρ1) fun ds => if noRd κ ρ1 = true then ob (q ds as) fun ds' => .ok .nx (ρ1.set i (.lst ds')) else .stuck
theorem mutK_ap {i : Nat} {q : List D → List D → Option (List D)} {as : List D} : mutK κ i q as ρ = ob (slotL i ρ) fun ds => if noRd κ ρ = true then ob (q ds as) fun ds' => .ok .nx (ρ.set i (.lst ds')) else .stuck := id rfl
theorem e_mut {i : Nat} {g : M (List D)} {q : List D → List D → Option (List D)} : mMut κ i g q ρ = ob (slotL i ρ) fun _ => rb (g ρ) (mutK κ i q) := by
  unfold mMut
  cases slotL i ρ with
  | none => rfl
  | some _ =>
    rw [ob_some]
    show bnd g _ ρ = _
    rw [e_bnd]; congr 1; funext as ρ1
    unfold mutK
    cases slotL i ρ1 with
    | none => rfl
    | some ds =>
      show (if _ then _ else _) = ob (some ds) _
      rw [ob_some]; congr 1
      cases q ds as <;> rfl
def lsv {α : Type} (d : D) (k : List D → R α) : R α := match d with
  | .lst ds => k ds
  | _ => .stuck
theorem lsv_lst {ds : List D} {k : List D → R α} : lsv (.lst ds) k = k ds := id rfl
def six3 (i n : Nat) (x : D) (p : List Nat) (j : D) (ρ2 : List D) : R Out := ob (nodeAt i p ρ2) fun nd => lsv nd fun ds => ob ρ2[i]? fun d => inv j fun t => ob (ixN ds.length t) fun m => if p.length = n then .ok .nx (ρ2.set i (d.put p (.lst (ds.set m x)))) else .stuck
def six2 (i n : Nat) (fa : M D) (x : D) (p : List Nat) (ρ : List D) : R Out := rb (fa ρ) (six3 i n x p)
def six1 (κ : List Kd) (i n : Nat) (g : M (List Nat)) (fa : M D) (x : D) (ρ : List D) : R Out := if noRd κ ρ = true then rb (g ρ) (six2 i n fa x) else .stuck
theorem six3_ap {i n : Nat} {x : D} {p : List Nat} {j : D} : six3 i n x p j ρ = ob (nodeAt i p ρ) fun nd => lsv nd fun ds => ob ρ[i]? fun d => inv j fun t => ob (ixN ds.length t) fun m => if p.length = n then .ok .nx (ρ.set i (d.put p (.lst (ds.set m x)))) else .stuck := id rfl
theorem six2_ap {i n : Nat} {fa : M D} {x : D} {p : List Nat} : six2 i n fa x p ρ = rb (fa ρ) (six3 i n x p) := id rfl
theorem six1_ap {i n : Nat} {g : M (List Nat)} {fa : M D} {x : D} : six1 κ i n g fa x ρ = if noRd κ ρ = true then rb (g ρ) (six2 i n fa x) else .stuck := id rfl
theorem e_setIx {i n : Nat} {f : M D} {g : M (List Nat)} {fa : M D} : mSetIx κ i n f g fa ρ = rb (f ρ) (six1 κ i n g fa) := by
  unfold mSetIx; rw [e_bnd]; congr 1; funext x ρ0; rw [e_ifR]; unfold six1; congr 1; rw [e_bnd]; congr 1; funext p ρ1; rw [e_bnd]; unfold six2; congr 1; funext j ρ2
  unfold six3
  cases nodeAt i p ρ2 with
  | none => rfl
  | some nd =>
    cases nd <;> first | rfl | skip
    case lst ds =>
      cases ρ2[i]? with
      | none => rfl
      | some d =>
        cases j <;> first | rfl | skip
        case int t =>
          rw [ob_some, lsv_lst, ob_some, inv_int]
          show (match ixN ds.length t with | some m => _ | none => _) = _
          cases ixN ds.length t <;> rfl
def lopK2 (i : Nat) (q : List D → List D → Option (List D)) (p : List Nat) (as : List D) (ρ2 : List D) : R Out := ob (nodeAt i p ρ2) fun nd => lsv nd fun ds => ob ρ2[i]? fun d => ob (q ds as) fun ds' => .ok .nx (ρ2.set i (d.put p (.lst ds')))
def lopK1 (i n : Nat) (ge : M (List D)) (q : List D → List D → Option (List D)) (p : List Nat) (ρ1 : List D) : R Out := ob (nodeAt i p ρ1) fun nd => lsv nd fun _ => if p.length = n then rb (ge ρ1) (lopK2 i q p) else .stuck
theorem lopK2_ap {i : Nat} {q : List D → List D → Option (List D)} {p : List Nat} {as : List D} : lopK2 i q p as ρ = ob (nodeAt i p ρ) fun nd => lsv nd fun ds => ob ρ[i]? fun d => ob (q ds as) fun ds' => .ok .nx (ρ.set i (d.put p (.lst ds'))) := id rfl
theorem lopK1_ap {i n : Nat} {ge : M (List D)} {q : List D → List D → Option (List D)} {p : List Nat} : lopK1 i n ge q p ρ = ob (nodeAt i p ρ) fun nd => lsv nd fun _ => if p.length = n then rb (ge ρ) (lopK2 i q p) else .stuck := id rfl
theorem e_lop {i n : Nat} {g : M (List Nat)} {ge : M (List D)} {q : List D → List D → Option (List D)} : mLop κ i n g ge q ρ = if noRd κ ρ = true then rb (g ρ) (lopK1 i n ge q) else .stuck := by
  unfold mLop; rw [e_ifR]; congr 1; rw [e_bnd]; congr 1; funext p ρ1
  unfold lopK1
  cases nodeAt i p ρ1 with
  | none => rfl
  | some nd =>
    cases nd <;> first | rfl | skip
    case lst ds0 =>
      rw [ob_some, lsv_lst]
      show (if _ then _ else _) = _
      congr 1
      rw [e_bnd]; congr 1; funext as ρ2
      unfold lopK2
      cases nodeAt i p ρ2 with
      | none => rfl
      | some nd =>
        cases nd <;> first | rfl | skip
        case lst ds =>
          cases ρ2[i]? with
          | none => rfl
          | some d =>
            rw [ob_some, lsv_lst, ob_some]
            show (match q ds as with | some ds' => _ | none => _) = _
            cases q ds as <;> rfl
def pixK2 (i K : Nat) (p : List Nat) (j : D) (ρ : List D) : R (List Nat) := ob (nodeAt i p ρ) fun nd => lsv nd fun ds => inv j fun t => ob (ixN ds.length t) fun m => if p.length < K then .ok (p ++ [m]) ρ else .stuck
def pixK1 (i K : Nat) (fa : M D) (p : List Nat) (ρ : List D) : R (List Nat) := rb (fa ρ) (pixK2 i K p)
theorem pixK2_ap {i K : Nat} {p : List Nat} {j : D} : pixK2 i K p j ρ = ob (nodeAt i p ρ) fun nd => lsv nd fun ds => inv j fun t => ob (ixN ds.length t) fun m => if p.length < K then .ok (p ++ [m]) ρ else .stuck := id rfl
theorem pixK1_ap {i K : Nat} {fa : M D} {p : List Nat} : pixK1 i K fa p ρ = rb (fa ρ) (pixK2 i K p) := id rfl
theorem e_pix {i K : Nat} {g : M (List Nat)} {fa : M D} : mPix i K g fa ρ = rb (g ρ) (pixK1 i K fa) := by
  unfold mPix; rw [e_bnd]; congr 1; funext p ρ1; rw [e_bnd]; unfold pixK1; congr 1; funext j ρ2
  unfold pixK2
  cases nodeAt i p ρ2 with
  | none => rfl
  | some nd =>
    cases nd <;> first | rfl | skip
    case lst ds =>
      cases j <;> first | rfl | skip
      case int t =>
        rw [ob_some, lsv_lst, inv_int]
        show (match ixN ds.length t with | some m => _ | none => _) = _
        cases ixN ds.length t <;> rfl
def dcv {α : Type} (d : D) (k : List (Key × D) → R α) : R α := match d with
  | .dic ds => k ds
  | _ => .stuck
theorem dcv_dic {ds : List (Key × D)} {k : List (Key × D) → R α} : dcv (.dic ds) k = k ds := id rfl
def sdi3 (i n : Nat) (x : D) (p : List Nat) (j : D) (ρ2 : List D) : R Out := ob (nodeAt i p ρ2) fun nd => dcv nd fun es => ob ρ2[i]? fun d => ob (keyD j) fun q => ob (putD es q x) fun es' => if p.length = n ∧ es.length < 16777216 then .ok .nx (ρ2.set i (d.put p (.dic es'))) else .stuck
def sdi2 (i n : Nat) (fa : M D) (x : D) (p : List Nat) (ρ : List D) : R Out := rb (fa ρ) (sdi3 i n x p)
def sdi1 (κ : List Kd) (i n : Nat) (g : M (List Nat)) (fa : M D) (x : D) (ρ : List D) : R Out := if noRd κ ρ = true then rb (g ρ) (sdi2 i n fa x) else .stuck
theorem sdi3_ap {i n : Nat} {x : D} {p : List Nat} {j : D} : sdi3 i n x p j ρ = ob (nodeAt i p ρ) fun nd => dcv nd fun es => ob ρ[i]? fun d => ob (keyD j) fun q => ob (putD es q x) fun es' => if p.length = n ∧ es.length < 16777216 then .ok .nx (ρ.set i (d.put p (.dic es'))) else .stuck := id rfl
theorem sdi2_ap {i n : Nat} {fa : M D} {x : D} {p : List Nat} : sdi2 i n fa x p ρ = rb (fa ρ) (sdi3 i n x p) := id rfl
theorem sdi1_ap {i n : Nat} {g : M (List Nat)} {fa : M D} {x : D} : sdi1 κ i n g fa x ρ = if noRd κ ρ = true then rb (g ρ) (sdi2 i n fa x) else .stuck := id rfl
theorem e_setD {i n : Nat} {f : M D} {g : M (List Nat)} {fa : M D} : mSetD κ i n f g fa ρ = rb (f ρ) (sdi1 κ i n g fa) := by
  unfold mSetD; rw [e_bnd]; congr 1; funext x ρ0; rw [e_ifR]; unfold sdi1; congr 1; rw [e_bnd]; congr 1; funext p ρ1; rw [e_bnd]; unfold sdi2; congr 1; funext j ρ2
  unfold sdi3
  cases nodeAt i p ρ2 with
  | none => rfl
  | some nd =>
    cases nd <;> first | rfl | skip
    case dic ds =>
      cases ρ2[i]? with
      | none => rfl
      | some d =>
        rw [ob_some, dcv_dic, ob_some]
        cases keyD j with
        | none => rfl
        | some t =>
          rw [ob_some]
          show (match putD ds t x with | some m => _ | none => _) = _
          cases putD ds t x <;> rfl
theorem e_for {im : IM} {t : Tgt} {f : M (List D)} {body : M Out} : mFor κ im t f body ρ = if noRd κ ρ = true then rb (f ρ) fun ds ρ' => forLoop κ im t body ds ρ' else .stuck := by
  unfold mFor; rw [e_ifR]; congr 1
theorem e_comp {own : List Nat} {im : IM} {t : Tgt} {f : M (List D)} {tt : M Bool} {te : M D} : mComp κ own im t f tt te ρ = rb (f ρ) fun ds ρ1 => rb (ne (lcLoop κ own im t tt te ds [] (wipeD ρ1 own))) fun acc ρ2 => .ok (.lst acc) (restD ρ1 ρ2 own) := by
  unfold mComp; rw [e_bnd]; congr 1; funext ds ρ1
  cases lcLoop κ own im t tt te ds [] (wipeD ρ1 own) <;> rfl
theorem e_comp2 {own own1 : List Nat} {im : IM} {t t1 : Tgt} {f : M (List D)} {tt : M Bool} {f1 : M (List D)} {tt1 : M Bool} {te : M D} : mComp2 κ own own1 im t t1 f tt f1 tt1 te ρ = rb (f ρ) fun ds ρ1 => rb (ne (lc2Loop κ own own1 im t t1 tt f1 tt1 te ds [] (wipeD ρ1 own))) fun acc ρ2 => .ok (.lst acc) (restD ρ1 ρ2 own) := by
  unfold mComp2; rw [e_bnd]; congr 1; funext ds ρ1
  cases lc2Loop κ own own1 im t t1 tt f1 tt1 te ds [] (wipeD ρ1 own) <;> rfl
theorem e_pin {pr : List Nat} {i : Nat} {f : M Out} : ne (mPin κ pr i f ρ) = if noRd κ ρ = true then rb (ne (f ρ)) fun o ρ' => if noRd κ ρ' = true then .ok o (fixB κ pr i ρ ρ') else .stuck else .stuck := by
  unfold mPin; rw [e_ifR]
  split
  · cases f ρ with
    | ok o ρ' =>
      show ne (if _ then _ else _) = rb (.ok o ρ') _
      rw [rb_ok]
      split <;> rfl
    | err x ρ' =>
      show ne (if _ then _ else _) = R.stuck
      split <;> rfl
    | stuck => rfl
  · rfl
/-- the answer of a def -/
def semK (ks : List Kd) (o : Out) (ρ : List D) : R D := match o with
  | .rt d => .ok d (osOf ks ρ)
  | .nx => .ok .non (osOf ks ρ)
  | _ => .stuck
theorem semK_rt {ks : List Kd} {d : D} : semK ks (.rt d) ρ = .ok d (osOf ks ρ) := id rfl
theorem semK_nx {ks : List Kd} : semK ks .nx ρ = .ok .non (osOf ks ρ) := id rfl
end
/-! ### what comes out -/
def Ev {α : Type} (r : R α) (Q : α → List D → Prop) : Prop := ∃ a ρ, r = .ok a ρ ∧ Q a ρ
section
variable {α β : Type} {ρ : List D} {κ : List Kd} {Q : α → List D → Prop}
theorem ev_callR {sem : List D → R D} {as : List AK} {ds : List D} {Q : D → List D → Prop} : Ev (mCallR sem as ds ρ) Q = Ev (sem (fillR as ds ρ)) (fun d os => Q d (setR as os ρ)) := by
  unfold mCallR
  cases sem (fillR as ds ρ) with
  | ok d os => exact propext ⟨fun ⟨_, _, e, q⟩ => (by cases e; exact ⟨_, _, rfl, q⟩), fun ⟨_, _, e, q⟩ => (by cases e; exact ⟨_, _, rfl, q⟩)⟩
  | err => exact propext ⟨fun ⟨_, _, e, q⟩ => (by cases e), fun ⟨_, _, e, q⟩ => (by cases e)⟩
  | stuck => exact propext ⟨fun ⟨_, _, e, q⟩ => (by cases e), fun ⟨_, _, e, q⟩ => (by cases e)⟩
theorem ev_ok {a : α} : Ev (.ok a ρ) Q = Q a ρ := propext ⟨fun ⟨a', ρ', e, q⟩ => (by cases e; exact q), fun q => ⟨_, _, rfl, q⟩⟩
def KQ (k : β → List D → R α) (Q : α → List D → Prop) (b : β) (ρ : List D) : Prop := Ev (k b ρ) Q
theorem KQ_ap {k : β → List D → R α} {b : β} : KQ k Q b ρ = Ev (k b ρ) Q := id rfl
theorem ev_rb {r : R β} {k : β → List D → R α} : Ev (rb r k) Q = Ev r (KQ k Q) := by
  cases r with
  | ok b ρ1 => exact propext ⟨fun z => ⟨_, _, rfl, z⟩, fun ⟨_, _, e, q⟩ => (by cases e; exact q)⟩
  | err => exact propext ⟨fun ⟨_, _, e, q⟩ => (by cases e), fun ⟨_, _, e, q⟩ => (by cases e)⟩
  | stuck => exact propext ⟨fun ⟨_, _, e, q⟩ => (by cases e), fun ⟨_, _, e, q⟩ => (by cases e)⟩
theorem ev_ne {r : R α} : Ev (ne r) Q = Ev r Q := by
  cases r with
  | ok => rfl
  | err => exact propext ⟨fun ⟨_, _, e, q⟩ => (by cases e), fun ⟨_, _, e, q⟩ => (by cases e)⟩
  | stuck => rfl
theorem ev_ite {c : Prop} [Decidable c] {r s : R α} : Ev (if c then r else s) Q = if c then Ev r Q else Ev s Q := by split <;> rfl
theorem Ev.mono {r : R α} {Q' : α → List D → Prop} (h : Ev r Q') (k : ∀ a ρ, Q' a ρ → Q a ρ) : Ev r Q := let ⟨a, ρ, e, q⟩ := h; ⟨a, ρ, e, k a ρ q⟩
theorem Ev.eq {r : R α} {a : α} (h : Ev r fun b ρ' => b = a ∧ ρ' = ρ) : r = .ok a ρ := by obtain ⟨_, _, e, rfl, rfl⟩ := h; exact e
theorem ev_semOf {fb : M Out} {n : Nat} {ks : List Kd} {ds : List D} {Q : D → List D → Prop} (h : Ev (fb (ds ++ List.replicate (n - ds.length) .un)) fun o ρ => Ev (semK ks o ρ) Q) : Ev (semOf fb n ks ds) Q := by
  obtain ⟨o, ρ, e, q⟩ := h
  unfold semOf
  rw [e]
  cases o with
  | nx => exact q
  | rt d => exact q
  | bk => obtain ⟨_, _, e, _⟩ := q; cases e
  | ct => obtain ⟨_, _, e, _⟩ := q; cases e
def pinQ (κ : List Kd) (pr : List Nat) (i : Nat) (ρ0 : List D) (Q : Out → List D → Prop) (o : Out) (ρ' : List D) : Prop := noRd κ ρ' = true ∧ Q o (fixB κ pr i ρ0 ρ')
theorem pinQ_ap {pr : List Nat} {i : Nat} {ρ0 : List D} {Q : Out → List D → Prop} {o : Out} : pinQ κ pr i ρ0 Q o ρ = (noRd κ ρ = true ∧ Q o (fixB κ pr i ρ0 ρ)) := id rfl
theorem ev_pin {pr : List Nat} {i : Nat} {f : M Out} {Q : Out → List D → Prop} (h1 : noRd κ ρ = true) (h : Ev (f ρ) (pinQ κ pr i ρ Q)) : Ev (mPin κ pr i f ρ) Q := by
  rw [← ev_ne, e_pin, if_pos h1, ev_rb, ev_ne]
  refine h.mono fun o ρ' z => ?_
  rw [KQ_ap, if_pos z.1, ev_ok]
  exact z.2
/-- a turn -/
def stepF (κ : List Kd) (im : IM) (t : Tgt) (body : M Out) (d : D) (ρ : List D) : R Out := ob (tset κ im t d ρ) fun ρ1 => body ρ1
def forK (κ : List Kd) (im : IM) (t : Tgt) (body : M Out) (xs : List D) (o : Out) (ρ2 : List D) : R Out := match o with
  | .nx => forLoop κ im t body xs ρ2
  | .ct => forLoop κ im t body xs ρ2
  | .bk => .ok .nx ρ2
  | .rt d => .ok (.rt d) ρ2
theorem forK_nx {im : IM} {t : Tgt} {body : M Out} {xs : List D} : forK κ im t body xs .nx ρ = forLoop κ im t body xs ρ := id rfl
theorem forK_ct {im : IM} {t : Tgt} {body : M Out} {xs : List D} : forK κ im t body xs .ct ρ = forLoop κ im t body xs ρ := id rfl
theorem forK_bk {im : IM} {t : Tgt} {body : M Out} {xs : List D} : forK κ im t body xs .bk ρ = .ok .nx ρ := id rfl
theorem forK_rt {im : IM} {t : Tgt} {body : M Out} {xs : List D} {d : D} : forK κ im t body xs (.rt d) ρ = .ok (.rt d) ρ := id rfl
theorem for_cons {im : IM} {t : Tgt} {body : M Out} {x : D} {xs : List D} : forLoop κ im t body (x :: xs) ρ = rb (stepF κ im t body x ρ) (forK κ im t body xs) := by
  unfold stepF
  cases et : tset κ im t x ρ with
  | none => simp only [forLoop, et]; rfl
  | some ρ1 =>
    rw [ob_some]
    cases eb : body ρ1 with
    | ok o ρ2 => cases o <;> (simp only [forLoop, et, eb]; rfl)
    | err => simp only [forLoop, et, eb]; rfl
    | stuck => simp only [forLoop, et, eb]; rfl
theorem for_nil {im : IM} {t : Tgt} {body : M Out} : forLoop κ im t body [] ρ = .ok .nx ρ := id rfl
theorem lc_nil {own : List Nat} {im : IM} {t : Tgt} {tt : M Bool} {te : M D} {acc : List D} : lcLoop κ own im t tt te [] acc ρ = .ok acc ρ := id rfl
def forQ (I : List D → List D → Prop) (Q : Out → List D → Prop) (xs : List D) (o : Out) (ρ2 : List D) : Prop := match o with
  | .nx => I xs ρ2
  | .ct => I xs ρ2
  | .bk => Q .nx ρ2
  | .rt d => Q (.rt d) ρ2
theorem forQ_nx {I : List D → List D → Prop} {Q : Out → List D → Prop} {xs : List D} : forQ I Q xs .nx ρ = I xs ρ := id rfl
theorem forQ_ct {I : List D → List D → Prop} {Q : Out → List D → Prop} {xs : List D} : forQ I Q xs .ct ρ = I xs ρ := id rfl
theorem forQ_bk {I : List D → List D → Prop} {Q : Out → List D → Prop} {xs : List D} : forQ I Q xs .bk ρ = Q .nx ρ := id rfl
theorem forQ_rt {I : List D → List D → Prop} {Q : Out → List D → Prop} {xs : List D} {d : D} : forQ I Q xs (.rt d) ρ = Q (.rt d) ρ := id rfl
theorem ev_for {im : IM} {t : Tgt} {body : M Out} {Q : Out → List D → Prop} (I : List D → List D → Prop)
    (hs : ∀ x xs ρ, I (x :: xs) ρ → Ev (stepF κ im t body x ρ) (forQ I Q xs)) (hn : ∀ ρ, I [] ρ → Q .nx ρ) :
    ∀ {xs : List D} {ρ : List D}, I xs ρ → Ev (forLoop κ im t body xs ρ) Q
  | [], ρ, h => ⟨_, _, rfl, hn ρ h⟩
  | x :: xs, ρ, h => by
    obtain ⟨o, ρ2, e, q⟩ := hs x xs ρ h
    unfold forLoop
    unfold stepF at e
    cases et : tset κ im t x ρ with
    | none => rw [et] at e; cases e
    | some ρ1 =>
      rw [et] at e
      dsimp only [ob] at e ⊢
      rw [e]
      cases o with
      | nx => exact ev_for I hs hn q
      | ct => exact ev_for I hs hn q
      | bk => exact ⟨_, _, rfl, q⟩
      | rt d => exact ⟨_, _, rfl, q⟩
def stepL (κ : List Kd) (own : List Nat) (im : IM) (t : Tgt) (tt : M Bool) (te : M D) (d : D) (acc : List D) (ρ : List D) : R (List D) := ob (tset κ im t d ρ) fun ρ1 => rb (tt ρ1) fun b ρ2 =>
  if b = true then rb (te ρ2) fun y ρ3 => if acc.length < 16777216 then .ok (acc ++ [y]) (wipeD ρ3 own) else .stuck else .ok acc (wipeD ρ2 own)
theorem ev_lc_cons {own : List Nat} {im : IM} {t : Tgt} {tt : M Bool} {te : M D} {Q : List D → List D → Prop} {x : D} {xs acc : List D} (h : Ev (stepL κ own im t tt te x acc ρ) fun acc' ρ' => Ev (lcLoop κ own im t tt te xs acc' ρ') Q) : Ev (lcLoop κ own im t tt te (x :: xs) acc ρ) Q := by
  obtain ⟨o, ρ9, e, q⟩ := h
  unfold lcLoop
  unfold stepL at e
  cases et : tset κ im t x ρ with
  | none => rw [et] at e; cases e
  | some ρ1 =>
    rw [et] at e
    dsimp only [ob] at e ⊢
    cases e2 : tt ρ1 with
    | err => rw [e2] at e; cases e
    | stuck => rw [e2] at e; cases e
    | ok b ρ2 =>
      rw [e2] at e
      dsimp only [rb] at e ⊢
      cases b with
      | false =>
        simp only [Bool.false_eq_true, if_false] at e
        cases e
        exact q
      | true =>
        simp only [if_true] at e ⊢
        cases e3 : te ρ2 with
        | err => rw [e3] at e; cases e
        | stuck => rw [e3] at e; cases e
        | ok y ρ3 =>
          rw [e3] at e
          dsimp only at e ⊢
          split at e
          · rename_i hl
            rw [if_pos hl]
            cases e
            exact q
          · cases e
theorem ev_lc {own : List Nat} {im : IM} {t : Tgt} {tt : M Bool} {te : M D} {Q : List D → List D → Prop} (I : List D → List D → List D → Prop)
    (hs : ∀ x xs acc ρ, I (x :: xs) acc ρ → Ev (stepL κ own im t tt te x acc ρ) (I xs)) (hn : ∀ acc ρ, I [] acc ρ → Q acc ρ) :
    ∀ {xs acc : List D} {ρ : List D}, I xs acc ρ → Ev (lcLoop κ own im t tt te xs acc ρ) Q
  | [], acc, ρ, h => ⟨_, _, rfl, hn _ _ h⟩
  | x :: xs, acc, ρ, h => ev_lc_cons ((hs x xs acc ρ h).mono fun _ _ z => ev_lc I hs hn z)
def stepL2 (κ : List Kd) (own own1 : List Nat) (im : IM) (t t1 : Tgt) (tt : M Bool) (f1 : M (List D)) (tt1 : M Bool) (te : M D) (d : D) (acc : List D) (ρ : List D) : R (List D) := ob (tset κ im t d ρ) fun ρ1 => rb (tt ρ1) fun b ρ2 =>
  if b = true then rb (f1 ρ2) fun ds1 ρ3 => rb (lcLoop κ own1 im t1 tt1 te ds1 acc (wipeD ρ3 own1)) fun acc' ρ4 => .ok acc' (wipeD ρ4 own) else .ok acc (wipeD ρ2 own)
theorem ev_lc2_cons {own own1 : List Nat} {im : IM} {t t1 : Tgt} {tt : M Bool} {f1 : M (List D)} {tt1 : M Bool} {te : M D} {Q : List D → List D → Prop} {x : D} {xs acc : List D} (h : Ev (stepL2 κ own own1 im t t1 tt f1 tt1 te x acc ρ) fun acc' ρ' => Ev (lc2Loop κ own own1 im t t1 tt f1 tt1 te xs acc' ρ') Q) : Ev (lc2Loop κ own own1 im t t1 tt f1 tt1 te (x :: xs) acc ρ) Q := by
  obtain ⟨o, ρ9, e, q⟩ := h
  unfold lc2Loop
  unfold stepL2 at e
  cases et : tset κ im t x ρ with
  | none => rw [et] at e; cases e
  | some ρ1 =>
    rw [et] at e
    dsimp only [ob] at e ⊢
    cases e2 : tt ρ1 with
    | err => rw [e2] at e; cases e
    | stuck => rw [e2] at e; cases e
    | ok b ρ2 =>
      rw [e2] at e
      dsimp only [rb] at e ⊢
      cases b with
      | false =>
        simp only [Bool.false_eq_true, if_false] at e
        cases e
        exact q
      | true =>
        simp only [if_true] at e ⊢
        cases e3 : f1 ρ2 with
        | err => rw [e3] at e; cases e
        | stuck => rw [e3] at e; cases e
        | ok y ρ3 =>
          rw [e3] at e
          dsimp only at e ⊢
          cases e4 : lcLoop κ own1 im t1 tt1 te y acc (wipeD ρ3 own1) with
          | err => rw [e4] at e; cases e
          | stuck => rw [e4] at e; cases e
          | ok acc' ρ4 =>
            rw [e4] at e
            cases e
            exact q
theorem ev_lc2 {own own1 : List Nat} {im : IM} {t t1 : Tgt} {tt : M Bool} {f1 : M (List D)} {tt1 : M Bool} {te : M D} {Q : List D → List D → Prop} (I : List D → List D → List D → Prop)
    (hs : ∀ x xs acc ρ, I (x :: xs) acc ρ → Ev (stepL2 κ own own1 im t t1 tt f1 tt1 te x acc ρ) (I xs)) (hn : ∀ acc ρ, I [] acc ρ → Q acc ρ) :
    ∀ {xs acc : List D} {ρ : List D}, I xs acc ρ → Ev (lc2Loop κ own own1 im t t1 tt f1 tt1 te xs acc ρ) Q
  | [], acc, ρ, h => ⟨_, _, rfl, hn _ _ h⟩
  | x :: xs, acc, ρ, h => ev_lc2_cons ((hs x xs acc ρ h).mono fun _ _ z => ev_lc2 I hs hn z)
end

/-! ### data -/
section
variable {m : Mode} {as : List AK} {d o : D} {ds os ρ : List D} {i k : Nat} {κ ks : List Kd}
theorem fillR_v : fillR (.v m :: as) (d :: ds) ρ = d :: fillR as ds ρ := id rfl
theorem fillR_r : fillR (.r i k :: as) (d :: ds) ρ = ρ.getD i .un :: fillR as ds ρ := id rfl
theorem fillR_n : fillR [] ds ρ = [] := id rfl
theorem setR_v : setR (.v m :: as) (o :: os) ρ = setR as os ρ := id rfl
theorem setR_r : setR (.r i k :: as) (o :: os) ρ = setR as os (ρ.set i o) := id rfl
theorem setR_n : setR [] os ρ = ρ := id rfl
theorem noRd_n : noRd [] ρ = true := id rfl
theorem noRd_F : noRd (.F :: κ) (d :: ρ) = noRd κ ρ := id rfl
theorem noRd_B : noRd (.B :: κ) (d :: ρ) = noRd κ ρ := id rfl
theorem noRd_L : noRd (.L k :: κ) (d :: ρ) = noRd κ ρ := id rfl
theorem noRd_X : noRd (.X k :: κ) (d :: ρ) = noRd κ ρ := id rfl
theorem noRd_R : noRd (.R :: κ) (.un :: ρ) = noRd κ ρ := id rfl
theorem osOf_n : osOf [] ρ = [] := id rfl
theorem osOf_F : osOf (.F :: ks) (d :: ρ) = .un :: osOf ks ρ := id rfl
theorem osOf_B : osOf (.B :: ks) (d :: ρ) = .un :: osOf ks ρ := id rfl
theorem osOf_L : osOf (.L k :: ks) (d :: ρ) = d :: osOf ks ρ := id rfl
theorem osOf_X : osOf (.X k :: ks) (d :: ρ) = d :: osOf ks ρ := id rfl
theorem setAll_n {α : Type} {σ : List α} : setAll [] [] σ = σ := id rfl
theorem setAll_c {α : Type} {i : Nat} {is : List Nat} {v : α} {vs σ : List α} : setAll (i :: is) (v :: vs) σ = setAll is vs (σ.set i v) := id rfl
theorem deq_int {i j : Int} : D.eq (.int i) (.int j) = some (i == j) := id rfl
theorem deq_str {i j : Str} : D.eq (.str i) (.str j) = some (i == j) := id rfl
section
variable {i j k : Int} {a b : Str} {xs ys : List D} {ns : List Int} {p : List D → Option D} {d e f : D} {es : List (Key × D)} {key : Key} {n : Nat} {q t : Bool}
theorem pk1_ap : pk1 p [d] = p [d] := id rfl
theorem pk2_ap : pk2 p [d, e] = p [d, e] := id rfl
theorem pk3_ap : pk3 p [d, e, f] = p [d, e, f] := id rfl
theorem d_add : dAdd [.int i, .int j] = some (.int (i + j)) := id rfl
theorem d_addb : dAdd [.int i, .bl q] = some (.int (i + b2i q)) := id rfl
theorem d_addL : dAdd [.lst xs, .lst ys] = if xs.length + ys.length ≤ 16777216 then some (.lst (xs ++ ys)) else none := id rfl
theorem d_addT : dAdd [.tup xs, .tup ys] = if xs.length + ys.length ≤ 16777216 then some (.tup (xs ++ ys)) else none := id rfl
theorem d_sub : dSub [.int i, .int j] = some (.int (i - j)) := id rfl
theorem d_neg : dNeg [.int i] = some (.int (-i)) := id rfl
theorem d_mul : dMul [.int i, .int j] = if mulOk i j = true then some (.int (i * j)) else none := id rfl
theorem d_mulR (h1 : -18446744073709551616 < j) (h2 : j < 18446744073709551616) : dMul [.int i, .int j] = some (.int (i * j)) := by
  rw [d_mul, if_pos]
  unfold mulOk
  simp only [Bool.or_eq_true, decide_eq_true_eq]
  exact .inl (.inr ⟨by omega, by omega⟩)
theorem d_mulL (h1 : -18446744073709551616 < i) (h2 : i < 18446744073709551616) : dMul [.int i, .int j] = some (.int (i * j)) := by
  rw [d_mul, if_pos]
  unfold mulOk
  simp only [Bool.or_eq_true, decide_eq_true_eq]
  exact .inl (.inl ⟨by omega, by omega⟩)
theorem d_fdiv (h1 : 0 < j) (h2 : j < 1073741824) : dFdiv [.int i, .int j] = some (.int (i / j)) := by
  show (if _ then _ else _) = _
  rw [if_pos ⟨h1, h2⟩]
theorem d_mod (h1 : 0 < j) : dMod [.int i, .int j] = some (.int (i % j)) := by
  show (if _ then _ else _) = _
  rw [if_pos h1]
theorem d_lt : dLt [.int i, .int j] = some (.bl (decide (i < j))) := id rfl
theorem d_le : dLe [.int i, .int j] = some (.bl (decide (i ≤ j))) := id rfl
theorem d_gt : dGt [.int i, .int j] = some (.bl (decide (j < i))) := id rfl
theorem d_ge : dGe [.int i, .int j] = some (.bl (decide (j ≤ i))) := id rfl
theorem d_eqi : dEq [.int i, .int j] = some (.bl (i == j)) := id rfl
theorem d_eqs : dEq [.str a, .str b] = some (.bl (a == b)) := id rfl
theorem d_nei : dNe [.int i, .int j] = some (.bl (!(i == j))) := id rfl
theorem d_nes : dNe [.str a, .str b] = some (.bl (!(a == b))) := id rfl
theorem d_lenT : dLen [.tup xs] = some (.int xs.length) := id rfl
theorem d_lenL : dLen [.lst xs] = some (.int xs.length) := id rfl
theorem d_lenS : dLen [.scr ns] = some (.int ns.length) := id rfl
theorem d_lenD : dLen [.dic es] = some (.int es.length) := id rfl
theorem d_abs : dAbs [.int i] = some (.int (if i < 0 then -i else i)) := id rfl
theorem d_max : dMax2 [.int i, .int j] = some (.int (if j > i then j else i)) := id rfl
theorem d_min : dMin2 [.int i, .int j] = some (.int (if j < i then j else i)) := id rfl
theorem d_max3 : dMax3 [.int i, .int j, .int k] = some (.int (if (if i < j then j else i) < k then k else (if i < j then j else i))) := id rfl
theorem d_int : dInt [.int i] = some (.int i) := id rfl
theorem d_intb : dInt [.bl q] = some (.int (if q then 1 else 0)) := id rfl
theorem d_gcd : dGcd [.int i, .int j] = some (.int ((Nat.gcd i.natAbs j.natAbs : Nat) : Int)) := id rfl
theorem d_ixT : dIx [.tup xs, .int i] = L2.atI xs i := id rfl
theorem d_ixL : dIx [.lst xs, .int i] = L2.atI xs i := id rfl
theorem d_ixS : dIx [.scr ns, .int i] = (L2.atI ns i).map .int := id rfl
theorem d_ixD : dIx [.dic es, d] = (keyD d).bind (valD es) := id rfl
theorem d_tupL : dTuple [.lst xs] = some (.tup xs) := id rfl
theorem d_tupT : dTuple [.tup xs] = some (.tup xs) := id rfl
theorem d_lstL : dList [.lst xs] = some (.lst xs) := id rfl
theorem d_lstT : dList [.tup xs] = some (.lst xs) := id rfl
theorem d_rev : dRev [.lst xs] = some (.lst xs.reverse) := id rfl
theorem d_slL {lo hi : Option Int} : dSlice lo hi (.lst xs) = some (.lst (cutD xs lo hi)) := id rfl
theorem d_slT {lo hi : Option Int} : dSlice lo hi (.tup xs) = some (.tup (cutD xs lo hi)) := id rfl
theorem d_slS {lo hi : Option Int} : dSlice lo hi (.scr ns) = some (.lst ((cutD ns lo hi).map .int)) := id rfl
theorem d_shl (h1 : 0 ≤ j) (h2 : (Builtin.Int.intBits i : Int) + j ≤ 2 ^ 27) : dShl [.int i, .int j] = some (.int (i * 2 ^ j.toNat)) := by
  show (if _ then _ else _) = _
  rw [if_pos ⟨h1, h2⟩]
theorem d_sumL : dSum [.lst xs] = (ints? xs).map fun ns => .int ns.sum := id rfl
theorem d_maxL : dMaxL [.lst xs] = (ints? xs).bind fun ns => if ns = [] then none else some (.int (maxI ns)) := id rfl
theorem it_tup : D.items (.tup xs) = some xs := id rfl
theorem it_lst : D.items (.lst xs) = some xs := id rfl
theorem it_scr : D.items (.scr ns) = some (ns.map .int) := id rfl
theorem rng1 (h1 : -(2 ^ 62) ≤ j) (h2 : j < 2 ^ 62) : rngP [.int j] = some (rgD 0 j) := by
  show (if _ then _ else _) = _
  rw [if_pos ⟨h1, h2⟩]
theorem rng2 (h1 : -(2 ^ 62) ≤ i) (h2 : i < 2 ^ 62) (h3 : -(2 ^ 62) ≤ j) (h4 : j < 2 ^ 62) : rngP [.int i, .int j] = some (rgD i j) := by
  show (if _ then _ else _) = _
  rw [if_pos ⟨h1, h2, h3, h4⟩]
theorem q_app (h : xs.length < 16777216) : qApp xs [d] = some (xs ++ [d]) := by
  show (if _ then _ else _) = _
  rw [if_pos h]
theorem q_extL : qExt xs [.lst ys] = if xs.length + ys.length ≤ 16777216 then some (xs ++ ys) else none := id rfl
theorem sl_0 : slotL 0 (.lst xs :: ys) = some xs := id rfl
theorem sl_1 {d0 : D} : slotL 1 (d0 :: .lst xs :: ys) = some xs := id rfl
theorem sl_2 {d0 d1 : D} : slotL 2 (d0 :: d1 :: .lst xs :: ys) = some xs := id rfl
theorem sl_3 {d0 d1 d2 : D} : slotL 3 (d0 :: d1 :: d2 :: .lst xs :: ys) = some xs := id rfl
theorem sl_4 {d0 d1 d2 d3 : D} : slotL 4 (d0 :: d1 :: d2 :: d3 :: .lst xs :: ys) = some xs := id rfl
theorem sl_5 {d0 d1 d2 d3 d4 : D} : slotL 5 (d0 :: d1 :: d2 :: d3 :: d4 :: .lst xs :: ys) = some xs := id rfl
theorem sl_6 {d0 d1 d2 d3 d4 d5 : D} : slotL 6 (d0 :: d1 :: d2 :: d3 :: d4 :: d5 :: .lst xs :: ys) = some xs := id rfl
theorem sl_7 {d0 d1 d2 d3 d4 d5 d6 : D} : slotL 7 (d0 :: d1 :: d2 :: d3 :: d4 :: d5 :: d6 :: .lst xs :: ys) = some xs := id rfl
theorem sl_8 {d0 d1 d2 d3 d4 d5 d6 d7 : D} : slotL 8 (d0 :: d1 :: d2 :: d3 :: d4 :: d5 :: d6 :: d7 :: .lst xs :: ys) = some xs := id rfl
theorem sl_9 {d0 d1 d2 d3 d4 d5 d6 d7 d8 : D} : slotL 9 (d0 :: d1 :: d2 :: d3 :: d4 :: d5 :: d6 :: d7 :: d8 :: .lst xs :: ys) = some xs := id rfl
theorem sl_10 {d0 d1 d2 d3 d4 d5 d6 d7 d8 d9 : D} : slotL 10 (d0 :: d1 :: d2 :: d3 :: d4 :: d5 :: d6 :: d7 :: d8 :: d9 :: .lst xs :: ys) = some xs := id rfl
theorem key_i : keyD (.int i) = some (.inl i) := id rfl
theorem key_s : keyD (.str a) = some (.inr a) := id rfl
theorem pair_n : pairD [] = some [] := id rfl
theorem tru_b : D.tru (.bl q) = some q := id rfl
theorem tru_i : D.tru (.int i) = some (i != 0) := id rfl
theorem tru_t : D.tru (.tup xs) = some (!xs.isEmpty) := id rfl
theorem tru_l : D.tru (.lst xs) = some (!xs.isEmpty) := id rfl
theorem bl_b : D.bl? (.bl q) = some q := id rfl
theorem im_b : D.imm (.bl q) = true := id rfl
theorem im_i : D.imm (.int i) = true := id rfl
theorem im_s : D.imm (.str a) = true := id rfl
theorem im_n : D.imm .non = true := id rfl
theorem im_t : D.imm (.tup xs) = D.immL xs := id rfl
theorem ixN_of (h1 : 0 ≤ i) (h2 : i < n) : L2.ixN n i = some i.toNat := by unfold L2.ixN; rw [if_pos h1, if_pos h2]
theorem ix_0 : L2.ixN (n + 1) 0 = some 0 := ixN_of (by omega) (by omega)
theorem ix_1 : L2.ixN (n + 2) 1 = some 1 := ixN_of (by omega) (by omega)
theorem ix_2 : L2.ixN (n + 3) 2 = some 2 := ixN_of (by omega) (by omega)
theorem ix_3 : L2.ixN (n + 4) 3 = some 3 := ixN_of (by omega) (by omega)
theorem ix_4 : L2.ixN (n + 5) 4 = some 4 := ixN_of (by omega) (by omega)
theorem ix_5 : L2.ixN (n + 6) 5 = some 5 := ixN_of (by omega) (by omega)
theorem ix_6 : L2.ixN (n + 7) 6 = some 6 := ixN_of (by omega) (by omega)
theorem atI_of {α : Type} {xs : List α} (h1 : 0 ≤ i) (h2 : i < xs.length) : L2.atI xs i = xs[i.toNat]? := by unfold L2.atI; rw [ixN_of h1 h2]; rfl
variable {α : Type} {x0 x1 x2 x3 x4 x5 x6 : α} {l : List α}
theorem at_0 : L2.atI (x0 :: l) 0 = some x0 := atI_of (by omega) (by simp)
theorem at_1 : L2.atI (x0 :: x1 :: l) 1 = some x1 := atI_of (by omega) (by simp <;> omega)
theorem at_2 : L2.atI (x0 :: x1 :: x2 :: l) 2 = some x2 := atI_of (by omega) (by simp <;> omega)
theorem at_3 : L2.atI (x0 :: x1 :: x2 :: x3 :: l) 3 = some x3 := atI_of (by omega) (by simp <;> omega)
theorem at_4 : L2.atI (x0 :: x1 :: x2 :: x3 :: x4 :: l) 4 = some x4 := atI_of (by omega) (by simp <;> omega)
theorem at_5 : L2.atI (x0 :: x1 :: x2 :: x3 :: x4 :: x5 :: l) 5 = some x5 := atI_of (by omega) (by simp <;> omega)
end
theorem imL_c {d : D} {ds : List D} : D.immL (d :: ds) = (d.imm && D.immL ds) := id rfl
theorem imL_n : D.immL [] = true := id rfl
end
theorem pin_κ {S : Sx} {i : Nat} : (S.pin i).κ = S.κ.set i .B := id rfl
theorem light_F : Kd.light .F = true := id rfl
theorem light_B : Kd.light .B = true := id rfl
theorem light_R : Kd.light .R = true := id rfl
def noB : List Kd → Bool
  | [] => true
  | .B :: _ => false
  | _ :: κ => noB κ
theorem noB_n : noB [] = true := id rfl
theorem noB_F {κ : List Kd} : noB (.F :: κ) = noB κ := id rfl
theorem noB_R {κ : List Kd} : noB (.R :: κ) = noB κ := id rfl
theorem noB_L {κ : List Kd} {k : Nat} : noB (.L k :: κ) = noB κ := id rfl
theorem noB_X {κ : List Kd} {k : Nat} : noB (.X k :: κ) = noB κ := id rfl
theorem noB_all : ∀ {κ : List Kd}, noB κ = true → (κ.all fun c => match c with | .B => false | _ => true) = true
  | [], _ => rfl
  | .F :: κ, h => noB_all (κ := κ) h
  | .R :: κ, h => noB_all (κ := κ) h
  | .L _ :: κ, h => noB_all (κ := κ) h
  | .X _ :: κ, h => noB_all (κ := κ) h
  | .B :: κ, h => by cases h
theorem fixB_no {κ : List Kd} {pr : List Nat} {i : Nat} {ρ0 ρ : List D} (hb0 : noB κ = true) : fixB κ pr i ρ0 ρ = ρ.set i (ρ0.getD i .un) := by
  have hb := noB_all hb0
  unfold fixB
  apply List.ext_getElem?
  intro j
  rw [List.getElem?_map, List.getElem?_set]
  by_cases hj : j < ρ.length
  · rw [List.getElem?_range hj]
    simp only [Option.map_some]
    by_cases hij : i = j
    · subst hij
      rw [if_pos rfl, if_pos rfl, if_pos hj]
    · rw [if_neg (fun z => hij z.symm), if_neg hij, List.getElem?_eq_getElem hj]
      have : ∀ c, κ[j]? = some c → c ≠ .B := fun c e z => by
        have := List.all_eq_true.mp hb c (List.mem_of_getElem? e)
        rw [z] at this
        cases this
      have hd : ρ.getD j .un = ρ[j] := by simp [List.getD, List.getElem?_eq_getElem hj]
      split
      · rename_i e
        exact absurd rfl (this _ e)
      · rw [hd]
  · rw [List.getElem?_eq_none (by simpa using Nat.le_of_not_lt hj)]
    by_cases hij : i = j
    · subst hij
      rw [if_pos rfl, if_neg hj]
      rfl
    · rw [if_neg hij, List.getElem?_eq_none (Nat.le_of_not_lt hj)]
      rfl
def pkc {α : Type} (o : Option α) (r : List α) : List α := match o with
  | some x => x :: r
  | none => r
theorem pkc_s {α : Type} {x : α} {r : List α} : pkc (some x) r = x :: r := id rfl
theorem pick_n {α : Type} {l : List α} : pick l [] = [] := id rfl
theorem pick_c {α : Type} {l : List α} {j : Nat} {π : List Nat} : pick l (j :: π) = pkc l[j]? (pick l π) := by
  unfold pick
  rw [List.filterMap_cons]
  cases l[j]? <;> rfl
theorem hot_κ {S : Sx} : S.hot.κ = S.κ.map Kd.hot := id rfl
theorem lock_κ {S : Sx} : S.lock.κ = S.κ.map Kd.lock := id rfl
theorem lk_κ {S : Sx} {i k : Nat} : (S.lk i k).κ = S.κ.set i (.L k) := id rfl
theorem hot_F : Kd.hot .F = .F := id rfl
theorem hot_B : Kd.hot .B = .B := id rfl
theorem hot_R : Kd.hot .R = .R := id rfl
theorem hot_L {k : Nat} : Kd.hot (.L k) = .X k := id rfl
theorem hot_X {k : Nat} : Kd.hot (.X k) = .X k := id rfl
theorem lock_F : Kd.lock .F = .F := id rfl
theorem lock_B : Kd.lock .B = .B := id rfl
theorem lock_R : Kd.lock .R = .R := id rfl
theorem lock_L {k : Nat} : Kd.lock (.L k) = .L k := id rfl
theorem lock_X {k : Nat} : Kd.lock (.X k) = .L k := id rfl
theorem d_listRg {i j : Int} (h1 : -(2 ^ 62) ≤ i) (h2 : i < 2 ^ 62) (h3 : -(2 ^ 62) ≤ j) (h4 : j < 2 ^ 62) (h5 : (j - i).toNat ≤ 2 ^ 24) : dListRg [.int i, .int j] = some (.lst (rgD i j)) := by
  show (if _ then _ else _) = _
  rw [if_pos]
  unfold rgOk
  exact decide_eq_true ⟨h1, h2, h3, h4, h5⟩
theorem frz_κ {S : Sx} {i : Nat} : (S.frz i).κ = S.κ.set i .F := id rfl
def frzQ (i : Nat) (Q : Out → List D → Prop) (o : Out) (ρ : List D) : Prop := Q o (ρ.set i .un)
theorem frzQ_ap {i : Nat} {Q : Out → List D → Prop} {o : Out} {ρ : List D} : frzQ i Q o ρ = Q o (ρ.set i .un) := id rfl
theorem ev_frz {i : Nat} {f : M Out} {ρ : List D} {Q : Out → List D → Prop} : Ev (mFrz i f ρ) Q = Ev (f ρ) (frzQ i Q) := by
  unfold mFrz
  cases f ρ with
  | ok o ρ' => exact propext ⟨fun ⟨_, _, e, q⟩ => (by cases e; exact ⟨_, _, rfl, q⟩), fun ⟨_, _, e, q⟩ => (by cases e; exact ⟨_, _, rfl, q⟩)⟩
  | err => exact propext ⟨fun ⟨_, _, e, q⟩ => (by cases e), fun ⟨_, _, e, q⟩ => (by cases e)⟩
  | stuck => exact propext ⟨fun ⟨_, _, e, q⟩ => (by cases e), fun ⟨_, _, e, q⟩ => (by cases e)⟩
end VS

set_option Elab.async false
set_option linter.all false
set_option maxRecDepth 100000
set_option maxHeartbeats 0
namespace T
open PySem PySem.Spec PyProof.Rows L2 VS
def topS (i : Nat) : Stmt := PySem.Challenge.pw_fewcursors_k32_alike_bound.main.body.getD i (.Pass ⟨0, 0, 0, 0⟩)
def con_LENGTH_MOST : ConI := ⟨"LENGTH_MOST", .int 400⟩
abbrev s__law_reel : Stmt := topS 25
def S__law_reel : Sx := { N := ["script", "seed", "cell"], κ := [.F, .F, .F], np := 1, sc := defScope s__law_reel, k := 0, fs := [], cs := [], kr := 1, as := ["script", "seed", "cell"], bf := [], pr := [] }
def d__law_reel : {f : M Out // SS S__law_reel (defBody s__law_reel) f} := ⟨_, (ss_cons (s1_set (i := 1) (k := 0) (by decide +kernel) rfl rfl (sm_se se_int)) (ss_cons (s1_for (m := .el) (t := (.nm 2)) (it_val (.inr rfl) (se_var (i := 0) (c := .F) rfl rfl rfl (by decide +kernel) (by decide +kernel))) rfl (by decide +kernel) rfl (ss_one (s1_set (i := 1) (k := 0) (by decide +kernel) rfl rfl (sm_se (se_prim ok_mod (ses_cons (SE.rd (se_prim ok_add (ses_cons (SE.el0 (SE.freeze (k := 1) (se_prim ok_add (ses_cons (SE.el0 (SE.freeze (k := 1) (se_prim ok_mul (ses_cons (se_var (i := 1) (c := .F) rfl rfl rfl (by decide +kernel) (by decide +kernel)) (ses_cons se_int ses_nil)) hrd_bin))) (ses_cons (SE.el0 (SE.freeze (k := 1) (se_prim ok_mul (ses_cons (se_prim ok_mod (ses_cons (se_prim ok_int (ses_cons (se_var (i := 2) (c := .F) rfl rfl rfl (by decide +kernel) (by decide +kernel)) ses_nil) (hrd_ty (by decide +kernel) rfl rfl rfl rfl rfl)) (ses_cons se_int ses_nil)) hrd_bin) (ses_cons se_int ses_nil)) hrd_bin))) ses_nil)) hrd_bin))) (ses_cons (se_prim ok_mod (ses_cons (se_prim ok_int (ses_cons (se_prim ok_fdiv (ses_cons (se_prim ok_int (ses_cons (se_var (i := 2) (c := .F) rfl rfl rfl (by decide +kernel) (by decide +kernel)) ses_nil) (hrd_ty (by decide +kernel) rfl rfl rfl rfl rfl)) (ses_cons se_int ses_nil)) hrd_bin) ses_nil) (hrd_ty (by decide +kernel) rfl rfl rfl rfl rfl)) (ses_cons se_int ses_nil)) hrd_bin) ses_nil)) hrd_bin)) (ses_cons se_int ses_nil)) hrd_bin))))) (ss_one (s1_ret (sm_se (se_lst (ms := [.val 0, .val 0]) (k := 0) rfl (ses_cons (se_var (i := 1) (c := .F) rfl rfl rfl (by decide +kernel) (by decide +kernel)) (ses_cons se_int ses_nil)) rfl))))))⟩
def f__law_reel : FnI := { name := "_law_reel", ps := ["script"], ks := [.F], kr := 1, sem := semOf d__law_reel.1 3 [.F], kb := [] }
abbrev s__law_draw : Stmt := topS 26
def S__law_draw : Sx := { N := ["reel", "many"], κ := [.X 1, .F], np := 2, sc := defScope s__law_draw, k := 0, fs := [], cs := [], kr := 0, as := ["reel", "many"], bf := [], pr := [0] }
def d__law_draw : {f : M Out // SS S__law_draw (defBody s__law_draw) f} := ⟨_, (ss_cons (s1_setIx (i := 0) (k := 0) (n := 0) rfl rfl (sm_se (se_lock (SE.rd (se_prim ok_add (ses_cons (SE.el0 (se_prim ok_ixE (ses_cons (se_var (i := 0) (c := .L 1) rfl rfl rfl (by decide +kernel) (by decide +kernel)) (ses_cons se_int ses_nil)) (hrd_ix rfl))) (ses_cons se_int ses_nil)) hrd_bin)))) (spa_var (by decide +kernel) rfl) se_int) (ss_cons (s1_setIx (i := 0) (k := 0) (n := 0) rfl rfl (sm_se (se_lock (se_prim ok_mod (ses_cons (se_prim ok_int (ses_cons (SE.rd (se_prim ok_add (ses_cons (SE.el0 (SE.freeze (k := 1) (se_prim ok_add (ses_cons (SE.el0 (SE.freeze (k := 1) (se_prim ok_mul (ses_cons (SE.el0 (se_prim ok_ixE (ses_cons (se_var (i := 0) (c := .L 1) rfl rfl rfl (by decide +kernel) (by decide +kernel)) (ses_cons se_int ses_nil)) (hrd_ix rfl))) (ses_cons se_int ses_nil)) hrd_bin))) (ses_cons (SE.el0 (SE.freeze (k := 1) (se_prim ok_mul (ses_cons (SE.el0 (se_prim ok_ixE (ses_cons (se_var (i := 0) (c := .L 1) rfl rfl rfl (by decide +kernel) (by decide +kernel)) (ses_cons se_int ses_nil)) (hrd_ix rfl))) (ses_cons se_int ses_nil)) hrd_bin))) ses_nil)) hrd_bin))) (ses_cons se_int ses_nil)) hrd_bin)) ses_nil) (hrd_ty (by decide +kernel) rfl rfl rfl rfl rfl)) (ses_cons se_int ses_nil)) hrd_bin))) (spa_var (by decide +kernel) rfl) se_int) (ss_one (s1_ret (sm_se (se_lock (se_prim ok_mod (ses_cons (se_prim ok_int (ses_cons (se_prim ok_fdiv (ses_cons (se_prim ok_ixR (ses_cons (se_var (i := 0) (c := .L 1) rfl rfl rfl (by decide +kernel) (by decide +kernel)) (ses_cons se_int ses_nil)) (hrd_ix rfl)) (ses_cons se_int ses_nil)) hrd_bin) ses_nil) (hrd_ty (by decide +kernel) rfl rfl rfl rfl rfl)) (ses_cons (se_var (i := 1) (c := .F) rfl rfl rfl (by decide +kernel) (by decide +kernel)) ses_nil)) hrd_bin)))))))⟩
def f__law_draw : FnI := { name := "_law_draw", ps := ["reel", "many"], ks := [.X 1, .F], kr := 0, sem := semOf d__law_draw.1 2 [.X 1, .F], kb := [] }
abbrev s__law_name : Stmt := topS 38
def S__law_name : Sx := { N := ["reel", "letters", "name", "turn", "taken"], κ := [.X 1, .F, .F, .F, .F], np := 1, sc := defScope s__law_name, k := 1, fs := [f__law_draw], cs := [], kr := 0, as := ["reel", "letters", "name", "turn", "taken"], bf := [], pr := [0] }
def d__law_name : {f : M Out // SS S__law_name (defBody s__law_name) f} := ⟨_, (ss_cons (s1_set (i := 1) (k := 0) (by decide +kernel) rfl rfl (sm_se se_str)) (ss_cons (s1_set (i := 2) (k := 0) (by decide +kernel) rfl rfl (sm_se se_str)) (ss_cons (s1_for (m := .el) (t := (.nm 3)) (it_rng1 (by decide +kernel) rfl (ses_cons (SE.rd (se_prim ok_add (ses_cons se_int (ses_cons (SE.el0 (se_call (fi := f__law_draw) (as := [.r 0 1, .v (.val 0)]) (.head _) rfl (by decide +kernel) rfl rfl rfl (by decide) rfl (sas_r rfl rfl (by decide +kernel) (by decide +kernel) (sas_v se_int sas_nil)))) ses_nil)) hrd_bin)) ses_nil)) rfl (by decide +kernel) rfl (ss_one (s1_set (i := 2) (k := 0) (by decide +kernel) rfl rfl (sm_se (SE.freeze (k := 1) (se_prim ok_add (ses_cons (se_var (i := 2) (c := .F) rfl rfl rfl (by decide +kernel) (by decide +kernel)) (ses_cons (SE.el0 (se_prim ok_ixE (ses_cons (se_var (i := 1) (c := .F) rfl rfl rfl (by decide +kernel) (by decide +kernel)) (ses_cons (SE.rd (se_call (fi := f__law_draw) (as := [.r 0 1, .v (.val 0)]) (.head _) rfl (by decide +kernel) rfl rfl rfl (by decide) rfl (sas_r rfl rfl (by decide +kernel) (by decide +kernel) (sas_v se_int sas_nil)))) ses_nil)) (hrd_ix rfl))) ses_nil)) hrd_bin)))))) (ss_cons (s1_set (i := 4) (k := 0) (by decide +kernel) rfl rfl (sm_se (SE.freeze (k := 1) (se_lst (ms := [.val 0, .val 0, .val 0, .val 0, .val 0, .val 0, .val 0, .val 0, .val 0, .val 0, .val 0, .val 0, .val 0, .val 0]) (k := 0) rfl (ses_cons se_str (ses_cons se_str (ses_cons se_str (ses_cons se_str (ses_cons se_str (ses_cons se_str (ses_cons se_str (ses_cons se_str (ses_cons se_str (ses_cons se_str (ses_cons se_str (ses_cons se_str (ses_cons se_str (ses_cons se_str ses_nil)))))))))))))) rfl)))) (ss_cons (s1_if (st_cmp rfl ok_in (ses_cons (se_var (i := 2) (c := .F) rfl rfl rfl (by decide +kernel) (by decide +kernel)) (ses_cons (SE.rd (se_prim ok_add (ses_cons (se_var (i := 4) (c := .F) rfl rfl rfl (by decide +kernel) (by decide +kernel)) (ses_cons (SE.el0 (SE.freeze (k := 1) (se_lst (ms := [.val 0, .val 0, .val 0, .val 0]) (k := 0) rfl (ses_cons se_str (ses_cons se_str (ses_cons se_str (ses_cons se_str ses_nil)))) rfl))) ses_nil)) hrd_bin)) ses_nil))) (ss_one (s1_set (i := 2) (k := 0) (by decide +kernel) rfl rfl (sm_se se_str))) ss_nil) (ss_one (s1_ret (sm_se (se_var (i := 2) (c := .F) rfl rfl rfl (by decide +kernel) (by decide +kernel))))))))))⟩
def f__law_name : FnI := { name := "_law_name", ps := ["reel"], ks := [.X 1], kr := 0, sem := semOf d__law_name.1 5 [.X 1], kb := [] }
abbrev s__law_way : Stmt := topS 39
def S__law_way : Sx := { N := ["reel"], κ := [.X 1], np := 1, sc := defScope s__law_way, k := 1, fs := [f__law_draw], cs := [], kr := 0, as := ["reel"], bf := [], pr := [0] }
def d__law_way : {f : M Out // SS S__law_way (defBody s__law_way) f} := ⟨_, (ss_one (s1_ret (sm_se (se_prim ok_ixE (ses_cons (SE.el0 (SE.freeze (k := 1) (se_lst (ms := [.val 0, .val 0]) (k := 0) rfl (ses_cons se_str (ses_cons se_str ses_nil)) rfl))) (ses_cons (SE.rd (se_call (fi := f__law_draw) (as := [.r 0 1, .v (.val 0)]) (.head _) rfl (by decide +kernel) rfl rfl rfl (by decide) rfl (sas_r rfl rfl (by decide +kernel) (by decide +kernel) (sas_v se_int sas_nil)))) ses_nil)) (hrd_ix rfl)))))⟩
def f__law_way : FnI := { name := "_law_way", ps := ["reel"], ks := [.X 1], kr := 0, sem := semOf d__law_way.1 1 [.X 1], kb := [] }
abbrev s__law_always : Stmt := topS 48
def S__law_always : Sx := { N := ["reel", "name", "cut", "count", "kind"], κ := [.X 1, .F, .F, .F, .F], np := 1, sc := defScope s__law_always, k := 2, fs := [f__law_name, f__law_draw, f__law_way], cs := [], kr := 0, as := ["reel", "name", "cut", "count", "kind"], bf := [], pr := [0] }
def d__law_always : {f : M Out // SS S__law_always (defBody s__law_always) f} := ⟨_, (ss_cons (s1_set (i := 1) (k := 0) (by decide +kernel) rfl rfl (sm_se (se_call (fi := f__law_name) (as := [.r 0 1]) (.head _) rfl (by decide +kernel) rfl rfl rfl (by decide) rfl (sas_r rfl rfl (by decide +kernel) (by decide +kernel) sas_nil)))) (ss_cons (s1_set (i := 2) (k := 0) (by decide +kernel) rfl rfl (sm_se (se_tup (ms := [.val 0, .val 0]) rfl (ses_cons se_str (ses_cons (se_tup (ms := [.val 0, .val 0, .val 0]) rfl (ses_cons (se_tup (ms := [.val 0, .val 0, .val 0]) rfl (ses_cons se_int (ses_cons se_int (ses_cons (se_call (fi := f__law_draw) (as := [.r 0 1, .v (.val 0)]) (.tail _ (.head _)) rfl (by decide +kernel) rfl rfl rfl (by decide) rfl (sas_r rfl rfl (by decide +kernel) (by decide +kernel) (sas_v se_int sas_nil))) ses_nil))) (by decide)) (ses_cons (se_tup (ms := [.val 0, .val 0, .val 0]) rfl (ses_cons se_int (ses_cons se_int (ses_cons (se_prim ok_sub (ses_cons se_int (ses_cons (SE.rd (se_call (fi := f__law_draw) (as := [.r 0 1, .v (.val 0)]) (.tail _ (.head _)) rfl (by decide +kernel) rfl rfl rfl (by decide) rfl (sas_r rfl rfl (by decide +kernel) (by decide +kernel) (sas_v se_int sas_nil)))) ses_nil)) hrd_bin) ses_nil))) (by decide)) (ses_cons (se_call (fi := f__law_way) (as := [.r 0 1]) (.tail _ (.tail _ (.head _))) rfl (by decide +kernel) rfl rfl rfl (by decide) rfl (sas_r rfl rfl (by decide +kernel) (by decide +kernel) sas_nil)) ses_nil))) (by decide)) ses_nil)) (by decide)))) (ss_cons (s1_set (i := 3) (k := 0) (by decide +kernel) rfl rfl (sm_se (SE.freeze (k := 1) (se_prim ok_add (ses_cons se_int (ses_cons (SE.el0 (se_call (fi := f__law_draw) (as := [.r 0 1, .v (.val 0)]) (.tail _ (.head _)) rfl (by decide +kernel) rfl rfl rfl (by decide) rfl (sas_r rfl rfl (by decide +kernel) (by decide +kernel) (sas_v se_int sas_nil)))) ses_nil)) hrd_bin)))) (ss_cons (s1_set (i := 4) (k := 0) (by decide +kernel) rfl rfl (sm_se (se_call (fi := f__law_draw) (as := [.r 0 1, .v (.val 0)]) (.tail _ (.head _)) rfl (by decide +kernel) rfl rfl rfl (by decide) rfl (sas_r rfl rfl (by decide +kernel) (by decide +kernel) (sas_v se_int sas_nil))))) (ss_cons (s1_if (st_cmp rfl ok_eq (ses_cons (se_var (i := 4) (c := .F) rfl rfl rfl (by decide +kernel) (by decide +kernel)) (ses_cons se_int ses_nil))) (ss_one (s1_ret (sm_se (SE.freeze (k := 1) (se_lst (ms := [.val 0, .val 0]) (k := 0) rfl (ses_cons (SE.freeze (k := 1) (se_lst (ms := [.val 0]) (k := 0) rfl (ses_cons (se_var (i := 2) (c := .F) rfl rfl rfl (by decide +kernel) (by decide +kernel)) ses_nil) rfl)) (ses_cons (SE.freeze (k := 1) (se_lst (ms := [.val 0, .val 0]) (k := 0) rfl (ses_cons (se_var (i := 2) (c := .F) rfl rfl rfl (by decide +kernel) (by decide +kernel)) (ses_cons (se_tup (ms := [.val 0, .val 0, .val 0]) rfl (ses_cons se_str (ses_cons (se_var (i := 1) (c := .F) rfl rfl rfl (by decide +kernel) (by decide +kernel)) (ses_cons (se_var (i := 3) (c := .F) rfl rfl rfl (by decide +kernel) (by decide +kernel)) ses_nil))) (by decide)) ses_nil)) rfl)) ses_nil)) rfl))))) ss_nil) (ss_cons (s1_if (st_cmp rfl ok_eq (ses_cons (se_var (i := 4) (c := .F) rfl rfl rfl (by decide +kernel) (by decide +kernel)) (ses_cons se_int ses_nil))) (ss_one (s1_ret (sm_se (SE.freeze (k := 1) (se_lst (ms := [.val 0, .val 0]) (k := 0) rfl (ses_cons (SE.freeze (k := 1) (se_lst (ms := [.val 0, .val 0]) (k := 0) rfl (ses_cons (se_var (i := 2) (c := .F) rfl rfl rfl (by decide +kernel) (by decide +kernel)) (ses_cons (se_tup (ms := [.val 0, .val 0, .val 0]) rfl (ses_cons se_str (ses_cons (se_var (i := 1) (c := .F) rfl rfl rfl (by decide +kernel) (by decide +kernel)) (ses_cons (SE.freeze (k := 1) (se_prim ok_add (ses_cons (se_var (i := 3) (c := .F) rfl rfl rfl (by decide +kernel) (by decide +kernel)) (ses_cons se_int ses_nil)) hrd_bin)) ses_nil))) (by decide)) ses_nil)) rfl)) (ses_cons (SE.freeze (k := 1) (se_lst (ms := [.val 0, .val 0]) (k := 0) rfl (ses_cons (se_var (i := 2) (c := .F) rfl rfl rfl (by decide +kernel) (by decide +kernel)) (ses_cons (se_tup (ms := [.val 0, .val 0, .val 0]) rfl (ses_cons se_str (ses_cons (se_var (i := 1) (c := .F) rfl rfl rfl (by decide +kernel) (by decide +kernel)) (ses_cons (se_var (i := 3) (c := .F) rfl rfl rfl (by decide +kernel) (by decide +kernel)) ses_nil))) (by decide)) ses_nil)) rfl)) ses_nil)) rfl))))) ss_nil) (ss_one (s1_ret (sm_se (SE.freeze (k := 1) (se_lst (ms := [.val 0, .val 0]) (k := 0) rfl (ses_cons (SE.freeze (k := 1) (se_lst (ms := [.val 0, .val 0]) (k := 0) rfl (ses_cons (se_tup (ms := [.val 0, .val 0, .val 0]) rfl (ses_cons se_str (ses_cons (se_var (i := 1) (c := .F) rfl rfl rfl (by decide +kernel) (by decide +kernel)) (ses_cons (se_var (i := 3) (c := .F) rfl rfl rfl (by decide +kernel) (by decide +kernel)) ses_nil))) (by decide)) (ses_cons (se_var (i := 2) (c := .F) rfl rfl rfl (by decide +kernel) (by decide +kernel)) ses_nil)) rfl)) (ses_cons (SE.freeze (k := 1) (se_lst (ms := [.val 0, .val 0]) (k := 0) rfl (ses_cons (se_tup (ms := [.val 0, .val 0, .val 0]) rfl (ses_cons se_str (ses_cons (SE.freeze (k := 1) (se_prim ok_add (ses_cons (SE.el0 (se_prim ok_ixE (ses_cons (SE.el0 (SE.freeze (k := 1) (se_lst (ms := [.val 0, .val 0]) (k := 0) rfl (ses_cons se_str (ses_cons se_str ses_nil)) rfl))) (ses_cons (se_prim ok_int (ses_cons (se_prim ok_eq (ses_cons (se_prim ok_ixR (ses_cons (se_var (i := 1) (c := .F) rfl rfl rfl (by decide +kernel) (by decide +kernel)) (ses_cons se_int ses_nil)) (hrd_ix rfl)) (ses_cons se_str ses_nil)) (hrd_cmp rfl)) ses_nil) (hrd_ty (by decide +kernel) rfl rfl rfl rfl rfl)) ses_nil)) (hrd_ix rfl))) (ses_cons (SE.el0 (SE.freeze (k := 1) (se_slice (se_var (i := 1) (c := .F) rfl rfl rfl (by decide +kernel) (by decide +kernel)) (so_some se_int) so_none))) ses_nil)) hrd_bin)) (ses_cons (se_var (i := 3) (c := .F) rfl rfl rfl (by decide +kernel) (by decide +kernel)) ses_nil))) (by decide)) (ses_cons (se_var (i := 2) (c := .F) rfl rfl rfl (by decide +kernel) (by decide +kernel)) ses_nil)) rfl)) ses_nil)) rfl)))))))))))⟩
def f__law_always : FnI := { name := "_law_always", ps := ["reel"], ks := [.X 1], kr := 0, sem := semOf d__law_always.1 5 [.X 1], kb := [] }
abbrev s__law_late : Stmt := topS 44
def S__law_late : Sx := { N := ["reel", "pairs", "pair", "low", "high", "left", "right", "card"], κ := [.X 1, .F, .F, .F, .F, .F, .F, .F], np := 1, sc := defScope s__law_late, k := 2, fs := [f__law_draw, f__law_name], cs := [], kr := 0, as := ["reel", "pairs", "pair", "low", "high", "left", "right", "card"], bf := [], pr := [0] }
def d__law_late : {f : M Out // SS S__law_late (defBody s__law_late) f} := ⟨_, (ss_cons (s1_set (i := 1) (k := 0) (by decide +kernel) rfl rfl (sm_se (SE.freeze (k := 1) (se_lst (ms := [.val 0, .val 0, .val 0, .val 0, .val 0]) (k := 0) rfl (ses_cons (SE.freeze (k := 1) (se_lst (ms := [.val 0, .val 0, .val 0]) (k := 0) rfl (ses_cons (se_tup (ms := [.val 0, .val 0]) rfl (ses_cons se_int (ses_cons se_int ses_nil)) (by decide)) (ses_cons (se_tup (ms := [.val 0, .val 0]) rfl (ses_cons se_int (ses_cons se_int ses_nil)) (by decide)) (ses_cons se_int ses_nil))) rfl)) (ses_cons (SE.freeze (k := 1) (se_lst (ms := [.val 0, .val 0, .val 0]) (k := 0) rfl (ses_cons (se_tup (ms := [.val 0, .val 0]) rfl (ses_cons se_int (ses_cons se_int ses_nil)) (by decide)) (ses_cons (se_tup (ms := [.val 0, .val 0]) rfl (ses_cons se_int (ses_cons se_int ses_nil)) (by decide)) (ses_cons se_int ses_nil))) rfl)) (ses_cons (SE.freeze (k := 1) (se_lst (ms := [.val 0, .val 0, .val 0]) (k := 0) rfl (ses_cons (se_tup (ms := [.val 0, .val 0]) rfl (ses_cons se_int (ses_cons se_int ses_nil)) (by decide)) (ses_cons (se_tup (ms := [.val 0, .val 0]) rfl (ses_cons se_int (ses_cons se_int ses_nil)) (by decide)) (ses_cons se_int ses_nil))) rfl)) (ses_cons (SE.freeze (k := 1) (se_lst (ms := [.val 0, .val 0, .val 0]) (k := 0) rfl (ses_cons (se_tup (ms := [.val 0, .val 0]) rfl (ses_cons se_int (ses_cons se_int ses_nil)) (by decide)) (ses_cons (se_tup (ms := [.val 0, .val 0]) rfl (ses_cons se_int (ses_cons se_int ses_nil)) (by decide)) (ses_cons se_int ses_nil))) rfl)) (ses_cons (SE.freeze (k := 1) (se_lst (ms := [.val 0, .val 0, .val 0]) (k := 0) rfl (ses_cons (se_tup (ms := [.val 0, .val 0]) rfl (ses_cons se_int (ses_cons se_int ses_nil)) (by decide)) (ses_cons (se_tup (ms := [.val 0, .val 0]) rfl (ses_cons se_int (ses_cons se_int ses_nil)) (by decide)) (ses_cons se_int ses_nil))) rfl)) ses_nil))))) rfl)))) (ss_cons (s1_set (i := 1) (k := 0) (by decide +kernel) rfl rfl (sm_se (SE.freeze (k := 1) (se_prim ok_add (ses_cons (se_var (i := 1) (c := .F) rfl rfl rfl (by decide +kernel) (by decide +kernel)) (ses_cons (SE.el0 (SE.freeze (k := 1) (se_lst (ms := [.val 0, .val 0, .val 0, .val 0]) (k := 0) rfl (ses_cons (SE.freeze (k := 1) (se_lst (ms := [.val 0, .val 0, .val 0]) (k := 0) rfl (ses_cons (se_tup (ms := [.val 0, .val 0]) rfl (ses_cons se_int (ses_cons se_int ses_nil)) (by decide)) (ses_cons (se_tup (ms := [.val 0, .val 0]) rfl (ses_cons se_int (ses_cons se_int ses_nil)) (by decide)) (ses_cons se_int ses_nil))) rfl)) (ses_cons (SE.freeze (k := 1) (se_lst (ms := [.val 0, .val 0, .val 0]) (k := 0) rfl (ses_cons (se_tup (ms := [.val 0, .val 0]) rfl (ses_cons se_int (ses_cons se_int ses_nil)) (by decide)) (ses_cons (se_tup (ms := [.val 0, .val 0]) rfl (ses_cons se_int (ses_cons se_int ses_nil)) (by decide)) (ses_cons se_int ses_nil))) rfl)) (ses_cons (SE.freeze (k := 1) (se_lst (ms := [.val 0, .val 0, .val 0]) (k := 0) rfl (ses_cons (se_tup (ms := [.val 0, .val 0]) rfl (ses_cons se_int (ses_cons se_int ses_nil)) (by decide)) (ses_cons (se_tup (ms := [.val 0, .val 0]) rfl (ses_cons se_int (ses_cons se_int ses_nil)) (by decide)) (ses_cons se_int ses_nil))) rfl)) (ses_cons (SE.freeze (k := 1) (se_lst (ms := [.val 0, .val 0, .val 0]) (k := 0) rfl (ses_cons (se_tup (ms := [.val 0, .val 0]) rfl (ses_cons se_int (ses_cons se_int ses_nil)) (by decide)) (ses_cons (se_tup (ms := [.val 0, .val 0]) rfl (ses_cons se_int (ses_cons se_int ses_nil)) (by decide)) (ses_cons se_int ses_nil))) rfl)) ses_nil)))) rfl))) ses_nil)) hrd_bin)))) (ss_cons (s1_set (i := 2) (k := 0) (by decide +kernel) rfl rfl (sm_se (se_prim ok_ixE (ses_cons (se_var (i := 1) (c := .F) rfl rfl rfl (by decide +kernel) (by decide +kernel)) (ses_cons (SE.rd (se_call (fi := f__law_draw) (as := [.r 0 1, .v (.val 0)]) (.head _) rfl (by decide +kernel) rfl rfl rfl (by decide) rfl (sas_r rfl rfl (by decide +kernel) (by decide +kernel) (sas_v se_int sas_nil)))) ses_nil)) (hrd_ix rfl)))) (ss_cons (s1_set (i := 3) (k := 0) (by decide +kernel) rfl rfl (sm_se (SE.freeze (k := 1) (se_prim ok_add (ses_cons (SE.el0 (se_prim ok_ixE (ses_cons (se_var (i := 2) (c := .F) rfl rfl rfl (by decide +kernel) (by decide +kernel)) (ses_cons se_int ses_nil)) (hrd_ix rfl))) (ses_cons (se_tup (ms := [.val 0]) rfl (ses_cons (se_prim ok_sub (ses_cons (se_prim ok_ixR (ses_cons (se_var (i := 2) (c := .F) rfl rfl rfl (by decide +kernel) (by decide +kernel)) (ses_cons se_int ses_nil)) (hrd_ix rfl)) (ses_cons (SE.rd (se_prim ok_mul (ses_cons (SE.el0 (se_call (fi := f__law_draw) (as := [.r 0 1, .v (.val 0)]) (.head _) rfl (by decide +kernel) rfl rfl rfl (by decide) rfl (sas_r rfl rfl (by decide +kernel) (by decide +kernel) (sas_v se_int sas_nil)))) (ses_cons (SE.el0 (se_call (fi := f__law_draw) (as := [.r 0 1, .v (.val 0)]) (.head _) rfl (by decide +kernel) rfl rfl rfl (by decide) rfl (sas_r rfl rfl (by decide +kernel) (by decide +kernel) (sas_v se_int sas_nil)))) ses_nil)) hrd_bin)) ses_nil)) hrd_bin) ses_nil) (by decide)) ses_nil)) hrd_bin)))) (ss_cons (s1_set (i := 4) (k := 0) (by decide +kernel) rfl rfl (sm_se (SE.freeze (k := 1) (se_prim ok_add (ses_cons (SE.el0 (se_prim ok_ixE (ses_cons (se_var (i := 2) (c := .F) rfl rfl rfl (by decide +kernel) (by decide +kernel)) (ses_cons se_int ses_nil)) (hrd_ix rfl))) (ses_cons (se_tup (ms := [.val 0]) rfl (ses_cons (se_prim ok_sub (ses_cons (SE.rd (se_prim ok_mul (ses_cons (SE.el0 (se_call (fi := f__law_draw) (as := [.r 0 1, .v (.val 0)]) (.head _) rfl (by decide +kernel) rfl rfl rfl (by decide) rfl (sas_r rfl rfl (by decide +kernel) (by decide +kernel) (sas_v se_int sas_nil)))) (ses_cons (SE.el0 (se_call (fi := f__law_draw) (as := [.r 0 1, .v (.val 0)]) (.head _) rfl (by decide +kernel) rfl rfl rfl (by decide) rfl (sas_r rfl rfl (by decide +kernel) (by decide +kernel) (sas_v se_int sas_nil)))) ses_nil)) hrd_bin)) (ses_cons (se_prim ok_ixR (ses_cons (se_var (i := 2) (c := .F) rfl rfl rfl (by decide +kernel) (by decide +kernel)) (ses_cons se_int ses_nil)) (hrd_ix rfl)) ses_nil)) hrd_bin) ses_nil) (by decide)) ses_nil)) hrd_bin)))) (ss_cons (s1_set (i := 5) (k := 0) (by decide +kernel) rfl rfl (sm_se (SE.freeze (k := 1) (se_lst (ms := [.val 0]) (k := 0) rfl (ses_cons (se_tup (ms := [.val 0, .val 0]) rfl (ses_cons se_str (ses_cons (se_tup (ms := [.val 0, .val 0, .val 0]) rfl (ses_cons (se_var (i := 3) (c := .F) rfl rfl rfl (by decide +kernel) (by decide +kernel)) (ses_cons (se_var (i := 4) (c := .F) rfl rfl rfl (by decide +kernel) (by decide +kernel)) (ses_cons se_str ses_nil))) (by decide)) ses_nil)) (by decide)) ses_nil) rfl)))) (ss_cons (s1_set (i := 6) (k := 0) (by decide +kernel) rfl rfl (sm_se (SE.freeze (k := 1) (se_lst (ms := [.val 0]) (k := 0) rfl (ses_cons (se_tup (ms := [.val 0, .val 0]) rfl (ses_cons se_str (ses_cons (se_tup (ms := [.val 0, .val 0, .val 0]) rfl (ses_cons (se_var (i := 4) (c := .F) rfl rfl rfl (by decide +kernel) (by decide +kernel)) (ses_cons (se_var (i := 4) (c := .F) rfl rfl rfl (by decide +kernel) (by decide +kernel)) (ses_cons se_str ses_nil))) (by decide)) ses_nil)) (by decide)) ses_nil) rfl)))) (ss_cons (s1_if (st_cmp rfl ok_eq (ses_cons (SE.rd (se_call (fi := f__law_draw) (as := [.r 0 1, .v (.val 0)]) (.head _) rfl (by decide +kernel) rfl rfl rfl (by decide) rfl (sas_r rfl rfl (by decide +kernel) (by decide +kernel) (sas_v se_int sas_nil)))) (ses_cons se_int ses_nil))) (ss_one (s1_set (i := 6) (k := 0) (by decide +kernel) rfl rfl (sm_se (SE.freeze (k := 1) (se_lst (ms := [.val 0]) (k := 0) rfl (ses_cons (se_tup (ms := [.val 0, .val 0]) rfl (ses_cons se_str (ses_cons (se_tup (ms := [.val 0, .val 0, .val 0]) rfl (ses_cons (se_var (i := 3) (c := .F) rfl rfl rfl (by decide +kernel) (by decide +kernel)) (ses_cons (SE.freeze (k := 1) (se_prim ok_add (ses_cons (SE.el0 (se_prim ok_ixE (ses_cons (se_var (i := 2) (c := .F) rfl rfl rfl (by decide +kernel) (by decide +kernel)) (ses_cons se_int ses_nil)) (hrd_ix rfl))) (ses_cons (se_tup (ms := [.val 0]) rfl (ses_cons (SE.freeze (k := 1) (se_prim ok_add (ses_cons (SE.el0 (se_prim ok_ixE (ses_cons (se_var (i := 4) (c := .F) rfl rfl rfl (by decide +kernel) (by decide +kernel)) (ses_cons se_int ses_nil)) (hrd_ix rfl))) (ses_cons se_int ses_nil)) hrd_bin)) ses_nil) (by decide)) ses_nil)) hrd_bin)) (ses_cons se_str ses_nil))) (by decide)) ses_nil)) (by decide)) ses_nil) rfl))))) ss_nil) (ss_cons (s1_if (st_cmp rfl ok_eq (ses_cons (SE.rd (se_call (fi := f__law_draw) (as := [.r 0 1, .v (.val 0)]) (.head _) rfl (by decide +kernel) rfl rfl rfl (by decide) rfl (sas_r rfl rfl (by decide +kernel) (by decide +kernel) (sas_v se_int sas_nil)))) (ses_cons se_int ses_nil))) (ss_cons (s1_set (i := 7) (k := 0) (by decide +kernel) rfl rfl (sm_se (se_tup (ms := [.val 0, .val 0, .val 0]) rfl (ses_cons se_str (ses_cons (se_call (fi := f__law_name) (as := [.r 0 1]) (.tail _ (.head _)) rfl (by decide +kernel) rfl rfl rfl (by decide) rfl (sas_r rfl rfl (by decide +kernel) (by decide +kernel) sas_nil)) (ses_cons (SE.freeze (k := 1) (se_prim ok_add (ses_cons se_int (ses_cons (SE.el0 (se_call (fi := f__law_draw) (as := [.r 0 1, .v (.val 0)]) (.head _) rfl (by decide +kernel) rfl rfl rfl (by decide) rfl (sas_r rfl rfl (by decide +kernel) (by decide +kernel) (sas_v se_int sas_nil)))) ses_nil)) hrd_bin)) ses_nil))) (by decide)))) (ss_one (s1_ret (sm_se (SE.freeze (k := 1) (se_lst (ms := [.val 0, .val 0]) (k := 0) rfl (ses_cons (SE.freeze (k := 1) (se_prim ok_add (ses_cons (SE.el0 (SE.freeze (k := 1) (se_lst (ms := [.val 0]) (k := 0) rfl (ses_cons (se_var (i := 7) (c := .F) rfl rfl rfl (by decide +kernel) (by decide +kernel)) ses_nil) rfl))) (ses_cons (se_var (i := 5) (c := .F) rfl rfl rfl (by decide +kernel) (by decide +kernel)) ses_nil)) hrd_bin)) (ses_cons (SE.freeze (k := 1) (se_prim ok_add (ses_cons (SE.el0 (SE.freeze (k := 1) (se_lst (ms := [.val 0]) (k := 0) rfl (ses_cons (se_var (i := 7) (c := .F) rfl rfl rfl (by decide +kernel) (by decide +kernel)) ses_nil) rfl))) (ses_cons (se_var (i := 6) (c := .F) rfl rfl rfl (by decide +kernel) (by decide +kernel)) ses_nil)) hrd_bin)) ses_nil)) rfl)))))) ss_nil) (ss_one (s1_ret (sm_se (SE.freeze (k := 1) (se_lst (ms := [.val 0, .val 0]) (k := 0) rfl (ses_cons (se_var (i := 5) (c := .F) rfl rfl rfl (by decide +kernel) (by decide +kernel)) (ses_cons (se_var (i := 6) (c := .F) rfl rfl rfl (by decide +kernel) (by decide +kernel)) ses_nil)) rfl))))))))))))))⟩
def f__law_late : FnI := { name := "_law_late", ps := ["reel"], ks := [.X 1], kr := 0, sem := semOf d__law_late.1 8 [.X 1], kb := [] }
abbrev s__law_window : Stmt := topS 46
def S__law_window : Sx := { N := ["reel", "share", "size", "cut"], κ := [.X 1, .F, .F, .F], np := 1, sc := defScope s__law_window, k := 2, fs := [f__law_draw, f__law_way], cs := [], kr := 0, as := ["reel", "share", "size", "cut"], bf := [], pr := [0] }
def d__law_window : {f : M Out // SS S__law_window (defBody s__law_window) f} := ⟨_, (ss_cons (s1_set (i := 1) (k := 0) (by decide +kernel) rfl rfl (sm_se (se_prim ok_ixE (ses_cons (SE.el0 (SE.freeze (k := 1) (se_lst (ms := [.val 0, .val 0, .val 0, .val 0, .val 0]) (k := 0) rfl (ses_cons (se_tup (ms := [.val 0, .val 0]) rfl (ses_cons se_int (ses_cons se_int ses_nil)) (by decide)) (ses_cons (se_tup (ms := [.val 0, .val 0]) rfl (ses_cons se_int (ses_cons se_int ses_nil)) (by decide)) (ses_cons (se_tup (ms := [.val 0, .val 0]) rfl (ses_cons se_int (ses_cons se_int ses_nil)) (by decide)) (ses_cons (se_tup (ms := [.val 0, .val 0]) rfl (ses_cons se_int (ses_cons se_int ses_nil)) (by decide)) (ses_cons (se_tup (ms := [.val 0, .val 0]) rfl (ses_cons se_int (ses_cons se_int ses_nil)) (by decide)) ses_nil))))) rfl))) (ses_cons (SE.rd (se_call (fi := f__law_draw) (as := [.r 0 1, .v (.val 0)]) (.head _) rfl (by decide +kernel) rfl rfl rfl (by decide) rfl (sas_r rfl rfl (by decide +kernel) (by decide +kernel) (sas_v se_int sas_nil)))) ses_nil)) (hrd_ix rfl)))) (ss_cons (s1_set (i := 2) (k := 0) (by decide +kernel) rfl rfl (sm_se (se_call (fi := f__law_draw) (as := [.r 0 1, .v (.val 0)]) (.head _) rfl (by decide +kernel) rfl rfl rfl (by decide) rfl (sas_r rfl rfl (by decide +kernel) (by decide +kernel) (sas_v se_int sas_nil))))) (ss_cons (s1_set (i := 3) (k := 0) (by decide +kernel) rfl rfl (sm_se (se_tup (ms := [.val 0, .val 0, .val 0]) rfl (ses_cons (SE.freeze (k := 1) (se_prim ok_add (ses_cons (se_var (i := 1) (c := .F) rfl rfl rfl (by decide +kernel) (by decide +kernel)) (ses_cons (se_tup (ms := [.val 0]) rfl (ses_cons (se_var (i := 2) (c := .F) rfl rfl rfl (by decide +kernel) (by decide +kernel)) ses_nil) (by decide)) ses_nil)) hrd_bin)) (ses_cons (se_tup (ms := [.val 0, .val 0, .val 0]) rfl (ses_cons se_int (ses_cons se_int (ses_cons (se_prim ok_min2 (ses_cons se_int (ses_cons (SE.rd (se_prim ok_add (ses_cons (SE.el0 (SE.freeze (k := 1) (se_prim ok_add (ses_cons (se_var (i := 2) (c := .F) rfl rfl rfl (by decide +kernel) (by decide +kernel)) (ses_cons se_int ses_nil)) hrd_bin))) (ses_cons (SE.el0 (se_call (fi := f__law_draw) (as := [.r 0 1, .v (.val 0)]) (.head _) rfl (by decide +kernel) rfl rfl rfl (by decide) rfl (sas_r rfl rfl (by decide +kernel) (by decide +kernel) (sas_v se_int sas_nil)))) ses_nil)) hrd_bin)) ses_nil)) (hrd_fn (by decide +kernel) rfl rfl rfl rfl rfl)) ses_nil))) (by decide)) (ses_cons (se_call (fi := f__law_way) (as := [.r 0 1]) (.tail _ (.head _)) rfl (by decide +kernel) rfl rfl rfl (by decide) rfl (sas_r rfl rfl (by decide +kernel) (by decide +kernel) sas_nil)) ses_nil))) (by decide)))) (ss_cons (s1_if (st_cmp rfl ok_eq (ses_cons (SE.rd (se_call (fi := f__law_draw) (as := [.r 0 1, .v (.val 0)]) (.head _) rfl (by decide +kernel) rfl rfl rfl (by decide) rfl (sas_r rfl rfl (by decide +kernel) (by decide +kernel) (sas_v se_int sas_nil)))) (ses_cons se_int ses_nil))) (ss_one (s1_set (i := 3) (k := 0) (by decide +kernel) rfl rfl (sm_se (se_tup (ms := [.val 0, .val 0, .val 0]) rfl (ses_cons (se_tup (ms := [.val 0, .val 0, .val 0]) rfl (ses_cons se_int (ses_cons se_int (ses_cons (se_prim ok_sub (ses_cons (se_prim ok_sub (ses_cons se_int (ses_cons (se_var (i := 2) (c := .F) rfl rfl rfl (by decide +kernel) (by decide +kernel)) ses_nil)) hrd_bin) (ses_cons se_int ses_nil)) hrd_bin) ses_nil))) (by decide)) (ses_cons (SE.freeze (k := 1) (se_prim ok_add (ses_cons (se_var (i := 1) (c := .F) rfl rfl rfl (by decide +kernel) (by decide +kernel)) (ses_cons (se_tup (ms := [.val 0]) rfl (ses_cons (se_call (fi := f__law_draw) (as := [.r 0 1, .v (.val 0)]) (.head _) rfl (by decide +kernel) rfl rfl rfl (by decide) rfl (sas_r rfl rfl (by decide +kernel) (by decide +kernel) (sas_v se_int sas_nil))) ses_nil) (by decide)) ses_nil)) hrd_bin)) (ses_cons (se_call (fi := f__law_way) (as := [.r 0 1]) (.tail _ (.head _)) rfl (by decide +kernel) rfl rfl rfl (by decide) rfl (sas_r rfl rfl (by decide +kernel) (by decide +kernel) sas_nil)) ses_nil))) (by decide))))) ss_nil) (ss_cons (s1_if (st_cmp rfl ok_eq (ses_cons (SE.rd (se_call (fi := f__law_draw) (as := [.r 0 1, .v (.val 0)]) (.head _) rfl (by decide +kernel) rfl rfl rfl (by decide) rfl (sas_r rfl rfl (by decide +kernel) (by decide +kernel) (sas_v se_int sas_nil)))) (ses_cons se_int ses_nil))) (ss_one (s1_ret (sm_se (SE.freeze (k := 1) (se_lst (ms := [.val 0, .val 0]) (k := 0) rfl (ses_cons (SE.freeze (k := 1) (se_lst (ms := [.val 0]) (k := 0) rfl (ses_cons (se_tup (ms := [.val 0, .val 0]) rfl (ses_cons se_str (ses_cons (se_var (i := 3) (c := .F) rfl rfl rfl (by decide +kernel) (by decide +kernel)) ses_nil)) (by decide)) ses_nil) rfl)) (ses_cons (SE.freeze (k := 1) (se_lst (ms := [.val 0]) (k := 0) rfl (ses_cons (se_tup (ms := [.val 0, .val 0]) rfl (ses_cons se_str (ses_cons (se_tup (ms := [.val 0, .val 0, .val 0]) rfl (ses_cons (se_prim ok_ixE (ses_cons (se_var (i := 3) (c := .F) rfl rfl rfl (by decide +kernel) (by decide +kernel)) (ses_cons se_int ses_nil)) (hrd_ix rfl)) (ses_cons (se_prim ok_ixE (ses_cons (se_var (i := 3) (c := .F) rfl rfl rfl (by decide +kernel) (by decide +kernel)) (ses_cons se_int ses_nil)) (hrd_ix rfl)) (ses_cons se_str ses_nil))) (by decide)) ses_nil)) (by decide)) ses_nil) rfl)) ses_nil)) rfl))))) ss_nil) (ss_one (s1_ret (sm_se (SE.freeze (k := 1) (se_lst (ms := [.val 0, .val 0]) (k := 0) rfl (ses_cons (SE.freeze (k := 1) (se_lst (ms := [.val 0]) (k := 0) rfl (ses_cons (se_tup (ms := [.val 0, .val 0]) rfl (ses_cons se_str (ses_cons (se_var (i := 3) (c := .F) rfl rfl rfl (by decide +kernel) (by decide +kernel)) ses_nil)) (by decide)) ses_nil) rfl)) (ses_cons (SE.freeze (k := 1) (se_lst (ms := [.val 0]) (k := 0) rfl (ses_cons (se_tup (ms := [.val 0, .val 0]) rfl (ses_cons se_str (ses_cons (se_tup (ms := [.val 0, .val 0, .val 0]) rfl (ses_cons (se_prim ok_ixE (ses_cons (se_var (i := 3) (c := .F) rfl rfl rfl (by decide +kernel) (by decide +kernel)) (ses_cons se_int ses_nil)) (hrd_ix rfl)) (ses_cons (se_prim ok_ixE (ses_cons (se_var (i := 3) (c := .F) rfl rfl rfl (by decide +kernel) (by decide +kernel)) (ses_cons se_int ses_nil)) (hrd_ix rfl)) (ses_cons (se_prim ok_ixE (ses_cons (SE.el0 (SE.freeze (k := 1) (se_lst (ms := [.val 0, .val 0]) (k := 0) rfl (ses_cons se_str (ses_cons se_str ses_nil)) rfl))) (ses_cons (se_prim ok_int (ses_cons (se_prim ok_eq (ses_cons (se_prim ok_ixR (ses_cons (se_var (i := 3) (c := .F) rfl rfl rfl (by decide +kernel) (by decide +kernel)) (ses_cons se_int ses_nil)) (hrd_ix rfl)) (ses_cons se_str ses_nil)) (hrd_cmp rfl)) ses_nil) (hrd_ty (by decide +kernel) rfl rfl rfl rfl rfl)) ses_nil)) (hrd_ix rfl)) ses_nil))) (by decide)) ses_nil)) (by decide)) ses_nil) rfl)) ses_nil)) rfl))))))))))⟩
def f__law_window : FnI := { name := "_law_window", ps := ["reel"], ks := [.X 1], kr := 0, sem := semOf d__law_window.1 4 [.X 1], kb := [] }
abbrev s__law_split : Stmt := topS 47
def S__law_split : Sx := { N := ["reel", "share", "size", "way", "step", "right"], κ := [.X 1, .F, .F, .F, .F, .F], np := 1, sc := defScope s__law_split, k := 2, fs := [f__law_way, f__law_draw], cs := [], kr := 0, as := ["reel", "share", "size", "way", "step", "right"], bf := [], pr := [0] }
def d__law_split : {f : M Out // SS S__law_split (defBody s__law_split) f} := ⟨_, (ss_cons (s1_set (i := 1) (k := 0) (by decide +kernel) rfl rfl (sm_se (se_prim ok_ixE (ses_cons (SE.el0 (SE.freeze (k := 1) (se_lst (ms := [.val 0, .val 0, .val 0, .val 0, .val 0, .val 0, .val 0]) (k := 0) rfl (ses_cons (se_tup (ms := [.val 0, .val 0]) rfl (ses_cons se_int (ses_cons se_int ses_nil)) (by decide)) (ses_cons (se_tup (ms := [.val 0, .val 0]) rfl (ses_cons se_int (ses_cons se_int ses_nil)) (by decide)) (ses_cons (se_tup (ms := [.val 0, .val 0]) rfl (ses_cons se_int (ses_cons se_int ses_nil)) (by decide)) (ses_cons (se_tup (ms := [.val 0, .val 0]) rfl (ses_cons se_int (ses_cons se_int ses_nil)) (by decide)) (ses_cons (se_tup (ms := [.val 0, .val 0]) rfl (ses_cons se_int (ses_cons se_int ses_nil)) (by decide)) (ses_cons (se_tup (ms := [.val 0, .val 0]) rfl (ses_cons se_int (ses_cons se_int ses_nil)) (by decide)) (ses_cons (se_tup (ms := [.val 0, .val 0]) rfl (ses_cons se_int (ses_cons se_int ses_nil)) (by decide)) ses_nil))))))) rfl))) (ses_cons (SE.rd (se_call (fi := f__law_draw) (as := [.r 0 1, .v (.val 0)]) (.tail _ (.head _)) rfl (by decide +kernel) rfl rfl rfl (by decide) rfl (sas_r rfl rfl (by decide +kernel) (by decide +kernel) (sas_v se_int sas_nil)))) ses_nil)) (hrd_ix rfl)))) (ss_cons (s1_set (i := 2) (k := 0) (by decide +kernel) rfl rfl (sm_se (se_prim ok_sub (ses_cons (SE.rd (se_call (fi := f__law_draw) (as := [.r 0 1, .v (.val 0)]) (.tail _ (.head _)) rfl (by decide +kernel) rfl rfl rfl (by decide) rfl (sas_r rfl rfl (by decide +kernel) (by decide +kernel) (sas_v se_int sas_nil)))) (ses_cons se_int ses_nil)) hrd_bin))) (ss_cons (s1_set (i := 3) (k := 0) (by decide +kernel) rfl rfl (sm_se (se_call (fi := f__law_way) (as := [.r 0 1]) (.head _) rfl (by decide +kernel) rfl rfl rfl (by decide) rfl (sas_r rfl rfl (by decide +kernel) (by decide +kernel) sas_nil)))) (ss_cons (s1_set (i := 4) (k := 0) (by decide +kernel) rfl rfl (sm_se (se_prim ok_fdiv (ses_cons (SE.rd (se_call (fi := f__law_draw) (as := [.r 0 1, .v (.val 0)]) (.tail _ (.head _)) rfl (by decide +kernel) rfl rfl rfl (by decide) rfl (sas_r rfl rfl (by decide +kernel) (by decide +kernel) (sas_v se_int sas_nil)))) (ses_cons se_int ses_nil)) hrd_bin))) (ss_cons (s1_set (i := 5) (k := 0) (by decide +kernel) rfl rfl (sm_se (SE.freeze (k := 1) (se_lst (ms := [.val 0, .val 0]) (k := 0) rfl (ses_cons (se_tup (ms := [.val 0, .val 0]) rfl (ses_cons se_str (ses_cons (se_tup (ms := [.val 0, .val 0, .val 0]) rfl (ses_cons (se_tup (ms := [.val 0, .val 0, .val 0]) rfl (ses_cons se_int (ses_cons se_int (ses_cons se_int ses_nil))) (by decide)) (ses_cons (SE.freeze (k := 1) (se_prim ok_add (ses_cons (se_var (i := 1) (c := .F) rfl rfl rfl (by decide +kernel) (by decide +kernel)) (ses_cons (se_tup (ms := [.val 0]) rfl (ses_cons (se_var (i := 2) (c := .F) rfl rfl rfl (by decide +kernel) (by decide +kernel)) ses_nil) (by decide)) ses_nil)) hrd_bin)) (ses_cons (se_var (i := 3) (c := .F) rfl rfl rfl (by decide +kernel) (by decide +kernel)) ses_nil))) (by decide)) ses_nil)) (by decide)) (ses_cons (se_tup (ms := [.val 0, .val 0]) rfl (ses_cons se_str (ses_cons (se_tup (ms := [.val 0, .val 0, .val 0]) rfl (ses_cons (SE.freeze (k := 1) (se_prim ok_add (ses_cons (se_var (i := 1) (c := .F) rfl rfl rfl (by decide +kernel) (by decide +kernel)) (ses_cons (se_tup (ms := [.val 0]) rfl (ses_cons (SE.freeze (k := 1) (se_prim ok_add (ses_cons (se_var (i := 2) (c := .F) rfl rfl rfl (by decide +kernel) (by decide +kernel)) (ses_cons (se_var (i := 4) (c := .F) rfl rfl rfl (by decide +kernel) (by decide +kernel)) ses_nil)) hrd_bin)) ses_nil) (by decide)) ses_nil)) hrd_bin)) (ses_cons (se_tup (ms := [.val 0, .val 0, .val 0]) rfl (ses_cons se_int (ses_cons se_int (ses_cons se_int ses_nil))) (by decide)) (ses_cons (se_var (i := 3) (c := .F) rfl rfl rfl (by decide +kernel) (by decide +kernel)) ses_nil))) (by decide)) ses_nil)) (by decide)) ses_nil)) rfl)))) (ss_cons (s1_if (st_cmp rfl ok_eq (ses_cons (se_var (i := 3) (c := .F) rfl rfl rfl (by decide +kernel) (by decide +kernel)) (ses_cons se_str ses_nil))) (ss_one (s1_set (i := 5) (k := 0) (by decide +kernel) rfl rfl (sm_se (SE.freeze (k := 1) (se_lst (ms := [.val 0, .val 0]) (k := 0) rfl (ses_cons (se_prim ok_ixE (ses_cons (se_var (i := 5) (c := .F) rfl rfl rfl (by decide +kernel) (by decide +kernel)) (ses_cons se_int ses_nil)) (hrd_ix rfl)) (ses_cons (se_prim ok_ixE (ses_cons (se_var (i := 5) (c := .F) rfl rfl rfl (by decide +kernel) (by decide +kernel)) (ses_cons se_int ses_nil)) (hrd_ix rfl)) ses_nil)) rfl))))) ss_nil) (ss_one (s1_ret (sm_se (SE.freeze (k := 1) (se_lst (ms := [.val 0, .val 0]) (k := 0) rfl (ses_cons (SE.freeze (k := 1) (se_lst (ms := [.val 0]) (k := 0) rfl (ses_cons (se_tup (ms := [.val 0, .val 0]) rfl (ses_cons se_str (ses_cons (se_tup (ms := [.val 0, .val 0, .val 0]) rfl (ses_cons (se_tup (ms := [.val 0, .val 0, .val 0]) rfl (ses_cons se_int (ses_cons se_int (ses_cons se_int ses_nil))) (by decide)) (ses_cons (se_tup (ms := [.val 0, .val 0, .val 0]) rfl (ses_cons se_int (ses_cons se_int (ses_cons se_int ses_nil))) (by decide)) (ses_cons (se_var (i := 3) (c := .F) rfl rfl rfl (by decide +kernel) (by decide +kernel)) ses_nil))) (by decide)) ses_nil)) (by decide)) ses_nil) rfl)) (ses_cons (se_var (i := 5) (c := .F) rfl rfl rfl (by decide +kernel) (by decide +kernel)) ses_nil)) rfl)))))))))))⟩
def f__law_split : FnI := { name := "_law_split", ps := ["reel"], ks := [.X 1], kr := 0, sem := semOf d__law_split.1 6 [.X 1], kb := [] }
abbrev s__law_woven : Stmt := topS 45
def S__law_woven : Sx := { N := ["reel", "middle", "size", "step", "first", "last", "tail", "kind"], κ := [.X 1, .F, .F, .F, .F, .F, .F, .F], np := 1, sc := defScope s__law_woven, k := 1, fs := [f__law_draw], cs := [], kr := 0, as := ["reel", "middle", "size", "step", "first", "last", "tail", "kind"], bf := [], pr := [0] }
def d__law_woven : {f : M Out // SS S__law_woven (defBody s__law_woven) f} := ⟨_, (ss_cons (s1_set (i := 1) (k := 0) (by decide +kernel) rfl rfl (sm_se (se_prim ok_ixE (ses_cons (SE.el0 (SE.freeze (k := 1) (se_lst (ms := [.val 0, .val 0, .val 0, .val 0, .val 0, .val 0]) (k := 0) rfl (ses_cons (se_tup (ms := [.val 0, .val 0]) rfl (ses_cons se_int (ses_cons se_int ses_nil)) (by decide)) (ses_cons (se_tup (ms := [.val 0, .val 0]) rfl (ses_cons se_int (ses_cons se_int ses_nil)) (by decide)) (ses_cons (se_tup (ms := [.val 0, .val 0]) rfl (ses_cons se_int (ses_cons se_int ses_nil)) (by decide)) (ses_cons (se_tup (ms := [.val 0, .val 0]) rfl (ses_cons se_int (ses_cons se_int ses_nil)) (by decide)) (ses_cons (se_tup (ms := [.val 0, .val 0]) rfl (ses_cons se_int (ses_cons se_int ses_nil)) (by decide)) (ses_cons (se_tup (ms := [.val 0, .val 0]) rfl (ses_cons se_int (ses_cons se_int ses_nil)) (by decide)) ses_nil)))))) rfl))) (ses_cons (SE.rd (se_call (fi := f__law_draw) (as := [.r 0 1, .v (.val 0)]) (.head _) rfl (by decide +kernel) rfl rfl rfl (by decide) rfl (sas_r rfl rfl (by decide +kernel) (by decide +kernel) (sas_v se_int sas_nil)))) ses_nil)) (hrd_ix rfl)))) (ss_cons (s1_set (i := 2) (k := 0) (by decide +kernel) rfl rfl (sm_se (se_prim ok_sub (ses_cons (SE.rd (se_call (fi := f__law_draw) (as := [.r 0 1, .v (.val 0)]) (.head _) rfl (by decide +kernel) rfl rfl rfl (by decide) rfl (sas_r rfl rfl (by decide +kernel) (by decide +kernel) (sas_v se_int sas_nil)))) (ses_cons se_int ses_nil)) hrd_bin))) (ss_cons (s1_set (i := 3) (k := 0) (by decide +kernel) rfl rfl (sm_se (SE.freeze (k := 1) (se_prim ok_add (ses_cons se_int (ses_cons (SE.el0 (se_call (fi := f__law_draw) (as := [.r 0 1, .v (.val 0)]) (.head _) rfl (by decide +kernel) rfl rfl rfl (by decide) rfl (sas_r rfl rfl (by decide +kernel) (by decide +kernel) (sas_v se_int sas_nil)))) ses_nil)) hrd_bin)))) (ss_cons (s1_set (i := 4) (k := 0) (by decide +kernel) rfl rfl (sm_se (se_tup (ms := [.val 0, .val 0, .val 0]) rfl (ses_cons (se_tup (ms := [.val 0, .val 0, .val 0]) rfl (ses_cons se_int (ses_cons se_int (ses_cons se_int ses_nil))) (by decide)) (ses_cons (SE.freeze (k := 1) (se_prim ok_add (ses_cons (se_var (i := 1) (c := .F) rfl rfl rfl (by decide +kernel) (by decide +kernel)) (ses_cons (se_tup (ms := [.val 0]) rfl (ses_cons (se_var (i := 2) (c := .F) rfl rfl rfl (by decide +kernel) (by decide +kernel)) ses_nil) (by decide)) ses_nil)) hrd_bin)) (ses_cons se_str ses_nil))) (by decide)))) (ss_cons (s1_set (i := 5) (k := 0) (by decide +kernel) rfl rfl (sm_se (se_tup (ms := [.val 0, .val 0, .val 0]) rfl (ses_cons (SE.freeze (k := 1) (se_prim ok_add (ses_cons (se_var (i := 1) (c := .F) rfl rfl rfl (by decide +kernel) (by decide +kernel)) (ses_cons (se_tup (ms := [.val 0]) rfl (ses_cons (se_var (i := 2) (c := .F) rfl rfl rfl (by decide +kernel) (by decide +kernel)) ses_nil) (by decide)) ses_nil)) hrd_bin)) (ses_cons (se_tup (ms := [.val 0, .val 0, .val 0]) rfl (ses_cons se_int (ses_cons se_int (ses_cons se_int ses_nil))) (by decide)) (ses_cons se_str ses_nil))) (by decide)))) (ss_cons (s1_set (i := 6) (k := 0) (by decide +kernel) rfl rfl (sm_se (se_tup (ms := [.val 0, .val 0]) rfl (ses_cons se_str (ses_cons (se_tup (ms := [.val 0, .val 0, .val 0]) rfl (ses_cons (se_tup (ms := [.val 0, .val 0, .val 0]) rfl (ses_cons se_int (ses_cons se_int (ses_cons (se_prim ok_sub (ses_cons se_int (ses_cons (se_var (i := 3) (c := .F) rfl rfl rfl (by decide +kernel) (by decide +kernel)) ses_nil)) hrd_bin) ses_nil))) (by decide)) (ses_cons (se_tup (ms := [.val 0, .val 0, .val 0]) rfl (ses_cons se_int (ses_cons se_int (ses_cons se_int ses_nil))) (by decide)) (ses_cons se_str ses_nil))) (by decide)) ses_nil)) (by decide)))) (ss_cons (s1_set (i := 7) (k := 0) (by decide +kernel) rfl rfl (sm_se (se_call (fi := f__law_draw) (as := [.r 0 1, .v (.val 0)]) (.head _) rfl (by decide +kernel) rfl rfl rfl (by decide) rfl (sas_r rfl rfl (by decide +kernel) (by decide +kernel) (sas_v se_int sas_nil))))) (ss_cons (s1_if (st_cmp rfl ok_eq (ses_cons (se_var (i := 7) (c := .F) rfl rfl rfl (by decide +kernel) (by decide +kernel)) (ses_cons se_int ses_nil))) (ss_one (s1_ret (sm_se (SE.freeze (k := 1) (se_lst (ms := [.val 0, .val 0]) (k := 0) rfl (ses_cons (SE.freeze (k := 1) (se_lst (ms := [.val 0]) (k := 0) rfl (ses_cons (se_tup (ms := [.val 0, .val 0]) rfl (ses_cons se_str (ses_cons (se_tup (ms := [.val 0, .val 0]) rfl (ses_cons (se_var (i := 4) (c := .F) rfl rfl rfl (by decide +kernel) (by decide +kernel)) (ses_cons (se_var (i := 5) (c := .F) rfl rfl rfl (by decide +kernel) (by decide +kernel)) ses_nil)) (by decide)) ses_nil)) (by decide)) ses_nil) rfl)) (ses_cons (SE.freeze (k := 1) (se_lst (ms := [.val 0, .val 0]) (k := 0) rfl (ses_cons (se_tup (ms := [.val 0, .val 0]) rfl (ses_cons se_str (ses_cons (se_var (i := 4) (c := .F) rfl rfl rfl (by decide +kernel) (by decide +kernel)) ses_nil)) (by decide)) (ses_cons (se_tup (ms := [.val 0, .val 0]) rfl (ses_cons se_str (ses_cons (se_var (i := 5) (c := .F) rfl rfl rfl (by decide +kernel) (by decide +kernel)) ses_nil)) (by decide)) ses_nil)) rfl)) ses_nil)) rfl))))) ss_nil) (ss_cons (s1_if (st_cmp rfl ok_eq (ses_cons (se_var (i := 7) (c := .F) rfl rfl rfl (by decide +kernel) (by decide +kernel)) (ses_cons se_int ses_nil))) (ss_one (s1_ret (sm_se (SE.freeze (k := 1) (se_lst (ms := [.val 0, .val 0]) (k := 0) rfl (ses_cons (SE.freeze (k := 1) (se_lst (ms := [.val 0]) (k := 0) rfl (ses_cons (se_tup (ms := [.val 0, .val 0]) rfl (ses_cons se_str (ses_cons (se_tup (ms := [.val 0, .val 0]) rfl (ses_cons (se_var (i := 5) (c := .F) rfl rfl rfl (by decide +kernel) (by decide +kernel)) (ses_cons (se_var (i := 4) (c := .F) rfl rfl rfl (by decide +kernel) (by decide +kernel)) ses_nil)) (by decide)) ses_nil)) (by decide)) ses_nil) rfl)) (ses_cons (SE.freeze (k := 1) (se_lst (ms := [.val 0]) (k := 0) rfl (ses_cons (se_tup (ms := [.val 0, .val 0]) rfl (ses_cons se_str (ses_cons (se_tup (ms := [.val 0, .val 0, .val 0]) rfl (ses_cons (se_var (i := 5) (c := .F) rfl rfl rfl (by decide +kernel) (by decide +kernel)) (ses_cons (se_var (i := 4) (c := .F) rfl rfl rfl (by decide +kernel) (by decide +kernel)) (ses_cons (se_tup (ms := [.val 0, .val 0, .val 0]) rfl (ses_cons (se_prim ok_ixE (ses_cons (se_var (i := 5) (c := .F) rfl rfl rfl (by decide +kernel) (by decide +kernel)) (ses_cons se_int ses_nil)) (hrd_ix rfl)) (ses_cons (se_prim ok_ixE (ses_cons (se_var (i := 4) (c := .F) rfl rfl rfl (by decide +kernel) (by decide +kernel)) (ses_cons se_int ses_nil)) (hrd_ix rfl)) (ses_cons se_str ses_nil))) (by decide)) ses_nil))) (by decide)) ses_nil)) (by decide)) ses_nil) rfl)) ses_nil)) rfl))))) ss_nil) (ss_one (s1_ret (sm_se (SE.freeze (k := 1) (se_lst (ms := [.val 0, .val 0]) (k := 0) rfl (ses_cons (SE.freeze (k := 1) (se_lst (ms := [.val 0]) (k := 0) rfl (ses_cons (se_tup (ms := [.val 0, .val 0]) rfl (ses_cons se_str (ses_cons (se_tup (ms := [.val 0, .val 0]) rfl (ses_cons (se_var (i := 4) (c := .F) rfl rfl rfl (by decide +kernel) (by decide +kernel)) (ses_cons (se_var (i := 5) (c := .F) rfl rfl rfl (by decide +kernel) (by decide +kernel)) ses_nil)) (by decide)) ses_nil)) (by decide)) ses_nil) rfl)) (ses_cons (SE.freeze (k := 1) (se_lst (ms := [.val 0, .val 0]) (k := 0) rfl (ses_cons (se_tup (ms := [.val 0, .val 0]) rfl (ses_cons se_str (ses_cons (se_tup (ms := [.val 0, .val 0]) rfl (ses_cons (se_var (i := 4) (c := .F) rfl rfl rfl (by decide +kernel) (by decide +kernel)) (ses_cons (se_tup (ms := [.val 0, .val 0, .val 0]) rfl (ses_cons (se_prim ok_ixE (ses_cons (se_var (i := 5) (c := .F) rfl rfl rfl (by decide +kernel) (by decide +kernel)) (ses_cons se_int ses_nil)) (hrd_ix rfl)) (ses_cons (se_prim ok_ixE (ses_cons (SE.el0 (se_prim ok_ixE (ses_cons (se_var (i := 6) (c := .F) rfl rfl rfl (by decide +kernel) (by decide +kernel)) (ses_cons se_int ses_nil)) (hrd_ix rfl))) (ses_cons se_int ses_nil)) (hrd_ix rfl)) (ses_cons se_str ses_nil))) (by decide)) ses_nil)) (by decide)) ses_nil)) (by decide)) (ses_cons (se_var (i := 6) (c := .F) rfl rfl rfl (by decide +kernel) (by decide +kernel)) ses_nil)) rfl)) ses_nil)) rfl))))))))))))))⟩
def f__law_woven : FnI := { name := "_law_woven", ps := ["reel"], ks := [.X 1], kr := 0, sem := semOf d__law_woven.1 8 [.X 1], kb := [] }
abbrev s__law_cuts : Stmt := topS 31
def S__law_cuts : Sx := { N := ["parts", "cuts", "part"], κ := [.B, .L 1, .F], np := 1, sc := defScope s__law_cuts, k := 0, fs := [], cs := [], kr := 0, as := ["parts", "cuts", "part"], bf := [], pr := [] }
def d__law_cuts : {f : M Out // SS S__law_cuts (defBody s__law_cuts) f} := ⟨_, (ss_cons (s1_set (i := 1) (k := 1) (by decide +kernel) rfl rfl (sm_se (se_lst (ms := []) (k := 0) rfl ses_nil rfl))) (ss_cons (s1_for (m := .rd) (t := (.nm 2)) (it_val (.inl rfl) (se_var (i := 0) (c := .B) rfl rfl rfl (by decide +kernel) (by decide +kernel))) rfl (by decide +kernel) rfl (ss_cons (s1_if (st_cmp rfl ok_eq (ses_cons (se_prim ok_ixR (ses_cons (se_var (i := 2) (c := .F) rfl rfl rfl (by decide +kernel) (by decide +kernel)) (ses_cons se_int ses_nil)) (hrd_ix rfl)) (ses_cons se_str ses_nil))) (ss_one (s1_append (i := 1) (k := 0) (by decide +kernel) rfl rfl (sm_se (se_prim ok_ixE (ses_cons (se_var (i := 2) (c := .F) rfl rfl rfl (by decide +kernel) (by decide +kernel)) (ses_cons se_int ses_nil)) (hrd_ix rfl))))) ss_nil) (ss_one (s1_if (st_cmp rfl ok_eq (ses_cons (se_prim ok_ixR (ses_cons (se_var (i := 2) (c := .F) rfl rfl rfl (by decide +kernel) (by decide +kernel)) (ses_cons se_int ses_nil)) (hrd_ix rfl)) (ses_cons se_str ses_nil))) (ss_one (s1_lop (i := 1) (k := 0) (n := 0) rfl PySem.F.plainAttrs_list PySem.F.slot_list_extend PySem.F.type_list_extend (fun _ => mt_extend) lop_extE rfl rfl rfl (spa_var (by decide +kernel) rfl) (ses_cons (SE.el0 (SE.freeze (k := 1) (se_prim ok_list (ses_cons (SE.el0 (se_prim ok_ixE (ses_cons (se_var (i := 2) (c := .F) rfl rfl rfl (by decide +kernel) (by decide +kernel)) (ses_cons se_int ses_nil)) (hrd_ix rfl))) ses_nil) (hrd_ty (by decide +kernel) rfl rfl rfl rfl rfl)))) ses_nil))) ss_nil)))) (ss_one (s1_ret (sm_freeze (sm_mv (i := 1) rfl (.inl rfl) (by decide) (by decide +kernel) (by decide +kernel)))))))⟩
def f__law_cuts : FnI := { name := "_law_cuts", ps := ["parts"], ks := [.B], kr := 0, sem := semOf d__law_cuts.1 3 [.B], kb := [] }
abbrev s__law_period : Stmt := topS 32
def S__law_period : Sx := { N := ["parts", "period", "cut", "mark", "times"], κ := [.B, .F, .F, .F, .F], np := 1, sc := defScope s__law_period, k := 1, fs := [f__law_cuts], cs := [], kr := 0, as := ["parts", "period", "cut", "mark", "times"], bf := [], pr := [] }
def d__law_period : {f : M Out // SS S__law_period (defBody s__law_period) f} := ⟨_, (ss_cons (s1_set (i := 1) (k := 0) (by decide +kernel) rfl rfl (sm_se se_int)) (ss_cons (s1_for (m := .el) (t := (.nm 2)) (it_val (.inr rfl) (SE.el0 (se_call (fi := f__law_cuts) (as := [.v .rd]) (.head _) rfl (by decide +kernel) rfl rfl rfl (by decide) rfl (sas_v (se_var (i := 0) (c := .B) rfl rfl rfl (by decide +kernel) (by decide +kernel)) sas_nil)))) rfl (by decide +kernel) rfl (ss_one (s1_for (m := .el) (t := (.nm 3)) (it_val (.inr rfl) (SE.el0 (SE.freeze (k := 1) (se_lst (ms := [.val 0, .val 0]) (k := 0) rfl (ses_cons (se_prim ok_ixE (ses_cons (se_var (i := 2) (c := .F) rfl rfl rfl (by decide +kernel) (by decide +kernel)) (ses_cons se_int ses_nil)) (hrd_ix rfl)) (ses_cons (se_prim ok_ixE (ses_cons (se_var (i := 2) (c := .F) rfl rfl rfl (by decide +kernel) (by decide +kernel)) (ses_cons se_int ses_nil)) (hrd_ix rfl)) ses_nil)) rfl)))) rfl (by decide +kernel) rfl (ss_one (s1_for (m := .el) (t := (.nm 4)) (it_rng2 (by decide +kernel) rfl (ses_cons se_int (ses_cons se_int ses_nil))) rfl (by decide +kernel) rfl (ss_one (s1_if (st_cmp rfl ok_eq (ses_cons (se_prim ok_mod (ses_cons (se_prim ok_int (ses_cons (SE.rd (se_prim ok_mul (ses_cons (se_var (i := 1) (c := .F) rfl rfl rfl (by decide +kernel) (by decide +kernel)) (ses_cons (se_var (i := 4) (c := .F) rfl rfl rfl (by decide +kernel) (by decide +kernel)) ses_nil)) hrd_bin)) ses_nil) (hrd_ty (by decide +kernel) rfl rfl rfl rfl rfl)) (ses_cons (se_prim ok_ixR (ses_cons (se_var (i := 3) (c := .F) rfl rfl rfl (by decide +kernel) (by decide +kernel)) (ses_cons se_int ses_nil)) (hrd_ix rfl)) ses_nil)) hrd_bin) (ses_cons se_int ses_nil))) (ss_cons (s1_set (i := 1) (k := 0) (by decide +kernel) rfl rfl (sm_se (SE.freeze (k := 1) (se_prim ok_mul (ses_cons (se_var (i := 1) (c := .F) rfl rfl rfl (by decide +kernel) (by decide +kernel)) (ses_cons (se_var (i := 4) (c := .F) rfl rfl rfl (by decide +kernel) (by decide +kernel)) ses_nil)) hrd_bin)))) (ss_one s1_break)) ss_nil))))))) (ss_one (s1_ret (sm_se (se_var (i := 1) (c := .F) rfl rfl rfl (by decide +kernel) (by decide +kernel)))))))⟩
def f__law_period : FnI := { name := "_law_period", ps := ["parts"], ks := [.B], kr := 0, sem := semOf d__law_period.1 5 [.B], kb := [] }
abbrev s__law_reach : Stmt := topS 33
def S__law_reach : Sx := { N := ["parts", "reach", "cut"], κ := [.B, .F, .F], np := 1, sc := defScope s__law_reach, k := 1, fs := [f__law_cuts], cs := [], kr := 0, as := ["parts", "reach", "cut"], bf := [], pr := [] }
def d__law_reach : {f : M Out // SS S__law_reach (defBody s__law_reach) f} := ⟨_, (ss_cons (s1_set (i := 1) (k := 0) (by decide +kernel) rfl rfl (sm_se se_int)) (ss_cons (s1_for (m := .el) (t := (.nm 2)) (it_val (.inr rfl) (SE.el0 (se_call (fi := f__law_cuts) (as := [.v .rd]) (.head _) rfl (by decide +kernel) rfl rfl rfl (by decide) rfl (sas_v (se_var (i := 0) (c := .B) rfl rfl rfl (by decide +kernel) (by decide +kernel)) sas_nil)))) rfl (by decide +kernel) rfl (ss_one (s1_set (i := 1) (k := 0) (by decide +kernel) rfl rfl (sm_se (se_prim ok_max3 (ses_cons (se_var (i := 1) (c := .F) rfl rfl rfl (by decide +kernel) (by decide +kernel)) (ses_cons (se_prim ok_abs (ses_cons (se_prim ok_ixR (ses_cons (se_prim ok_ixR (ses_cons (se_var (i := 2) (c := .F) rfl rfl rfl (by decide +kernel) (by decide +kernel)) (ses_cons se_int ses_nil)) (hrd_ix rfl)) (ses_cons se_int ses_nil)) (hrd_ix rfl)) ses_nil) (hrd_fn (by decide +kernel) rfl rfl rfl rfl rfl)) (ses_cons (se_prim ok_abs (ses_cons (se_prim ok_ixR (ses_cons (se_prim ok_ixR (ses_cons (se_var (i := 2) (c := .F) rfl rfl rfl (by decide +kernel) (by decide +kernel)) (ses_cons se_int ses_nil)) (hrd_ix rfl)) (ses_cons se_int ses_nil)) (hrd_ix rfl)) ses_nil) (hrd_fn (by decide +kernel) rfl rfl rfl rfl rfl)) ses_nil))) (hrd_fn (by decide +kernel) rfl rfl rfl rfl rfl)))))) (ss_one (s1_ret (sm_se (se_var (i := 1) (c := .F) rfl rfl rfl (by decide +kernel) (by decide +kernel)))))))⟩
def f__law_reach : FnI := { name := "_law_reach", ps := ["parts"], ks := [.B], kr := 0, sem := semOf d__law_reach.1 3 [.B], kb := [] }
abbrev s__law_bound : Stmt := topS 36
def S__law_bound : Sx := { N := ["left", "right"], κ := [.F, .F], np := 2, sc := defScope s__law_bound, k := 2, fs := [f__law_period, f__law_reach], cs := [], kr := 0, as := ["left", "right"], bf := [], pr := [] }
def d__law_bound : {f : M Out // SS S__law_bound (defBody s__law_bound) f} := ⟨_, (ss_one (s1_ret (sm_se (SE.freeze (k := 1) (se_prim ok_mul (ses_cons (SE.el0 (se_call (fi := f__law_period) (as := [.v .rd]) (.head _) rfl (by decide +kernel) rfl rfl rfl (by decide) rfl (sas_v (SE.rd (se_prim ok_add (ses_cons (se_var (i := 0) (c := .F) rfl rfl rfl (by decide +kernel) (by decide +kernel)) (ses_cons (se_var (i := 1) (c := .F) rfl rfl rfl (by decide +kernel) (by decide +kernel)) ses_nil)) hrd_bin)) sas_nil))) (ses_cons (SE.el0 (SE.freeze (k := 1) (se_prim ok_add (ses_cons (SE.el0 (SE.freeze (k := 1) (se_prim ok_mul (ses_cons se_int (ses_cons (se_prim ok_max2 (ses_cons (SE.rd (se_call (fi := f__law_reach) (as := [.v .rd]) (.tail _ (.head _)) rfl (by decide +kernel) rfl rfl rfl (by decide) rfl (sas_v (se_var (i := 0) (c := .F) rfl rfl rfl (by decide +kernel) (by decide +kernel)) sas_nil))) (ses_cons (SE.rd (se_call (fi := f__law_reach) (as := [.v .rd]) (.tail _ (.head _)) rfl (by decide +kernel) rfl rfl rfl (by decide) rfl (sas_v (se_var (i := 1) (c := .F) rfl rfl rfl (by decide +kernel) (by decide +kernel)) sas_nil))) ses_nil)) (hrd_fn (by decide +kernel) rfl rfl rfl rfl rfl)) ses_nil)) hrd_bin))) (ses_cons se_int ses_nil)) hrd_bin))) ses_nil)) hrd_bin)))))⟩
def f__law_bound : FnI := { name := "_law_bound", ps := ["left", "right"], ks := [.F, .F], kr := 0, sem := semOf d__law_bound.1 2 [.F, .F], kb := [] }
abbrev s_is_whole : Stmt := topS 3
def S_is_whole : Sx := { N := ["thing"], κ := [.F], np := 1, sc := defScope s_is_whole, k := 0, fs := [], cs := [], kr := 0, as := ["thing"], bf := [], pr := [] }
def d_is_whole : {f : M Out // SS S_is_whole (defBody s_is_whole) f} := ⟨_, (ss_one (s1_ret (sm_se (se_and (se_isTy (T := "int") (by decide +kernel) rfl rfl rfl (by decide +kernel) (by decide +kernel) rfl rfl rfl (se_var (i := 0) (c := .F) rfl rfl rfl (by decide +kernel) (by decide +kernel))) (se_one (se_not (se_isTy (T := "bool") (by decide +kernel) rfl rfl rfl (by decide +kernel) (by decide +kernel) rfl rfl rfl (se_var (i := 0) (c := .F) rfl rfl rfl (by decide +kernel) (by decide +kernel)))))))))⟩
def f_is_whole : FnI := { name := "is_whole", ps := ["thing"], ks := [.F], kr := 0, sem := semOf d_is_whole.1 1 [.F], kb := [] }
abbrev s_whole_within : Stmt := topS 4
def S_whole_within : Sx := { N := ["thing", "low", "high"], κ := [.F, .F, .F], np := 3, sc := defScope s_whole_within, k := 1, fs := [f_is_whole], cs := [], kr := 0, as := ["thing", "low", "high"], bf := [], pr := [] }
def d_whole_within : {f : M Out // SS S_whole_within (defBody s_whole_within) f} := ⟨_, (ss_one (s1_ret (sm_se (se_and (SE.rd (se_call (fi := f_is_whole) (as := [.v (.val 0)]) (.head _) rfl (by decide +kernel) rfl rfl rfl (by decide) rfl (sas_v (se_var (i := 0) (c := .F) rfl rfl rfl (by decide +kernel) (by decide +kernel)) sas_nil))) (se_one (se_chain cmpok_le cmpok_le (se_var (i := 1) (c := .F) rfl rfl rfl (by decide +kernel) (by decide +kernel)) (se_var (i := 0) (c := .F) rfl rfl rfl (by decide +kernel) (by decide +kernel)) (se_var (i := 2) (c := .F) rfl rfl rfl (by decide +kernel) (by decide +kernel)) rfl))))))⟩
def f_whole_within : FnI := { name := "whole_within", ps := ["thing", "low", "high"], ks := [.F, .F, .F], kr := 0, sem := semOf d_whole_within.1 3 [.F, .F, .F], kb := [] }
abbrev s_mark_at : Stmt := topS 6
def S_mark_at : Sx := { N := ["mark", "n", "share", "bottom", "more"], κ := [.F, .F, .F, .F, .F], np := 2, sc := defScope s_mark_at, k := 0, fs := [], cs := [], kr := 0, as := ["mark", "n", "share", "bottom", "more"], bf := [], pr := [] }
def d_mark_at : {f : M Out // SS S_mark_at (defBody s_mark_at) f} := ⟨_, (ss_cons (s1_asg (t := (.tp [2, 3, 4])) rfl (by decide +kernel) rfl (sm_se (se_var (i := 0) (c := .F) rfl rfl rfl (by decide +kernel) (by decide +kernel)))) (ss_one (s1_ret (sm_se (se_prim ok_min2 (ses_cons (se_var (i := 1) (c := .F) rfl rfl rfl (by decide +kernel) (by decide +kernel)) (ses_cons (se_prim ok_max2 (ses_cons se_int (ses_cons (SE.rd (se_prim ok_add (ses_cons (se_prim ok_fdiv (ses_cons (SE.rd (se_prim ok_mul (ses_cons (se_var (i := 1) (c := .F) rfl rfl rfl (by decide +kernel) (by decide +kernel)) (ses_cons (se_var (i := 2) (c := .F) rfl rfl rfl (by decide +kernel) (by decide +kernel)) ses_nil)) hrd_bin)) (ses_cons (se_var (i := 3) (c := .F) rfl rfl rfl (by decide +kernel) (by decide +kernel)) ses_nil)) hrd_bin) (ses_cons (se_var (i := 4) (c := .F) rfl rfl rfl (by decide +kernel) (by decide +kernel)) ses_nil)) hrd_bin)) ses_nil)) (hrd_fn (by decide +kernel) rfl rfl rfl rfl rfl)) ses_nil)) (hrd_fn (by decide +kernel) rfl rfl rfl rfl rfl))))))⟩
def f_mark_at : FnI := { name := "mark_at", ps := ["mark", "n"], ks := [.F, .F], kr := 0, sem := semOf d_mark_at.1 5 [.F, .F], kb := [] }
abbrev s_cut_frames : Stmt := topS 8
def S_cut_frames : Sx := { N := ["cut", "n", "told"], κ := [.F, .F, .F], np := 2, sc := defScope s_cut_frames, k := 1, fs := [f_mark_at], cs := [], kr := 0, as := ["cut", "n", "told"], bf := [], pr := [] }
def d_cut_frames : {f : M Out // SS S_cut_frames (defBody s_cut_frames) f} := ⟨_, (ss_cons (s1_set (i := 2) (k := 0) (by decide +kernel) rfl rfl (sm_se (SE.freeze (k := 1) (se_prim ok_listRg2 (ses_cons (SE.rd (se_call (fi := f_mark_at) (as := [.v (.val 0), .v (.val 0)]) (.head _) rfl (by decide +kernel) rfl rfl rfl (by decide) rfl (sas_v (se_prim ok_ixE (ses_cons (se_var (i := 0) (c := .F) rfl rfl rfl (by decide +kernel) (by decide +kernel)) (ses_cons se_int ses_nil)) (hrd_ix rfl)) (sas_v (se_var (i := 1) (c := .F) rfl rfl rfl (by decide +kernel) (by decide +kernel)) sas_nil)))) (ses_cons (SE.rd (se_call (fi := f_mark_at) (as := [.v (.val 0), .v (.val 0)]) (.head _) rfl (by decide +kernel) rfl rfl rfl (by decide) rfl (sas_v (se_prim ok_ixE (ses_cons (se_var (i := 0) (c := .F) rfl rfl rfl (by decide +kernel) (by decide +kernel)) (ses_cons se_int ses_nil)) (hrd_ix rfl)) (sas_v (se_var (i := 1) (c := .F) rfl rfl rfl (by decide +kernel) (by decide +kernel)) sas_nil)))) ses_nil)) (hrd_listRg2 rfl rfl (by decide +kernel) (by decide +kernel)))))) (ss_one (s1_ret (sm_se (se_prim ok_tuple (ses_cons (se_if (st_cmp rfl ok_eq (ses_cons (se_prim ok_ixR (ses_cons (se_var (i := 0) (c := .F) rfl rfl rfl (by decide +kernel) (by decide +kernel)) (ses_cons se_int ses_nil)) (hrd_ix rfl)) (ses_cons se_str ses_nil))) (se_var (i := 2) (c := .F) rfl rfl rfl (by decide +kernel) (by decide +kernel)) (SE.el0 (SE.freeze (k := 1) (se_prim ok_rev (ses_cons (se_var (i := 2) (c := .F) rfl rfl rfl (by decide +kernel) (by decide +kernel)) ses_nil) hrd_rev)))) ses_nil) (hrd_ty (by decide +kernel) rfl rfl rfl rfl rfl))))))⟩
def f_cut_frames : FnI := { name := "cut_frames", ps := ["cut", "n"], ks := [.F, .F], kr := 0, sem := semOf d_cut_frames.1 3 [.F, .F], kb := [] }
abbrev s_weave_frames : Stmt := topS 19
def S_weave_frames : Sx := { N := ["cuts", "n", "rows", "told", "at", "cut", "row"], κ := [.F, .F, .L 1, .L 1, .F, .F, .F], np := 2, sc := defScope s_weave_frames, k := 2, fs := [f_cut_frames], cs := [], kr := 0, as := ["cuts", "n", "rows", "told", "at"], bf := [], pr := [] }
def d_weave_frames : {f : M Out // SS S_weave_frames (defBody s_weave_frames) f} := ⟨_, (ss_cons (s1_setLcA (i := 2) (k := 1) (by decide +kernel) rfl (slc_comp (k := 0) (own := [("cut", 5)]) (m := .el) (t := (.nm 5)) (it_val (.inr rfl) (se_var (i := 0) (c := .F) rfl rfl rfl (by decide +kernel) (by decide +kernel))) rfl (by decide +kernel) (by decide +kernel) (by decide +kernel) (by decide +kernel) rfl sts_nil (se_call (fi := f_cut_frames) (as := [.v (.val 0), .v (.val 0)]) (.head _) rfl (by decide +kernel) rfl rfl rfl (by decide) rfl (sas_v (se_var (i := 5) (c := .F) rfl rfl rfl (by decide +kernel) (by decide +kernel)) (sas_v (se_var (i := 1) (c := .F) rfl rfl rfl (by decide +kernel) (by decide +kernel)) sas_nil))))) (ss_cons (s1_set (i := 3) (k := 1) (by decide +kernel) rfl rfl (sm_se (se_lst (ms := []) (k := 0) rfl ses_nil rfl))) (ss_cons (s1_for (m := .el) (t := (.nm 4)) (it_rng1 (by decide +kernel) rfl (ses_cons (se_lock (se_prim ok_maxL (ses_cons (SE.rd (se_comp (slc_comp (k := 0) (own := [("row", 6)]) (m := .el) (t := (.nm 6)) (it_val (.inr rfl) (se_var (i := 2) (c := .L 1) rfl rfl rfl (by decide +kernel) (by decide +kernel))) rfl (by decide +kernel) (by decide +kernel) (by decide +kernel) (by decide +kernel) rfl sts_nil (se_prim ok_len (ses_cons (se_var (i := 6) (c := .F) rfl rfl rfl (by decide +kernel) (by decide +kernel)) ses_nil) (hrd_fn (by decide +kernel) rfl rfl rfl rfl rfl))))) ses_nil) (hrd_fn (by decide +kernel) rfl rfl rfl rfl rfl))) ses_nil)) rfl (by decide +kernel) rfl (ss_one (s1_lop (i := 3) (k := 0) (n := 0) rfl PySem.F.plainAttrs_list PySem.F.slot_list_extend PySem.F.type_list_extend (fun _ => mt_extend) lop_extE rfl rfl rfl (spa_var (by decide +kernel) rfl) (ses_cons (SE.el0 (SE.freeze (k := 1) (se_comp (slc_comp (k := 0) (own := [("row", 6)]) (m := .el) (t := (.nm 6)) (it_val (.inr rfl) (se_var (i := 2) (c := .L 1) rfl rfl rfl (by decide +kernel) (by decide +kernel))) rfl (by decide +kernel) (by decide +kernel) (by decide +kernel) (by decide +kernel) rfl (sts_one (st_cmp rfl ok_lt (ses_cons (se_var (i := 4) (c := .F) rfl rfl rfl (by decide +kernel) (by decide +kernel)) (ses_cons (se_prim ok_len (ses_cons (se_var (i := 6) (c := .F) rfl rfl rfl (by decide +kernel) (by decide +kernel)) ses_nil) (hrd_fn (by decide +kernel) rfl rfl rfl rfl rfl)) ses_nil)))) (se_prim ok_ixE (ses_cons (se_var (i := 6) (c := .F) rfl rfl rfl (by decide +kernel) (by decide +kernel)) (ses_cons (se_var (i := 4) (c := .F) rfl rfl rfl (by decide +kernel) (by decide +kernel)) ses_nil)) (hrd_ix rfl)))))) ses_nil)))) (ss_one (s1_ret (sm_freeze (sm_mv (i := 3) rfl (.inl rfl) (by decide) (by decide +kernel) (by decide +kernel))))))))⟩
def f_weave_frames : FnI := { name := "weave_frames", ps := ["cuts", "n"], ks := [.F, .F], kr := 0, sem := semOf d_weave_frames.1 7 [.F, .F], kb := [] }
abbrev s_part_shown : Stmt := topS 20
def S_part_shown : Sx := { N := ["part", "n"], κ := [.F, .F], np := 2, sc := defScope s_part_shown, k := 3, fs := [f_weave_frames, f_cut_frames], cs := [], kr := 0, as := ["part", "n"], bf := [], pr := [] }
def d_part_shown : {f : M Out // SS S_part_shown (defBody s_part_shown) f} := ⟨_, (ss_cons (s1_if (st_cmp rfl ok_eq (ses_cons (se_prim ok_ixR (ses_cons (se_var (i := 0) (c := .F) rfl rfl rfl (by decide +kernel) (by decide +kernel)) (ses_cons se_int ses_nil)) (hrd_ix rfl)) (ses_cons se_str ses_nil))) (ss_one (s1_ret (sm_se (SE.freeze (k := 1) (se_prim ok_mul (ses_cons (SE.el0 (SE.freeze (k := 1) (se_lst (ms := [.val 0]) (k := 0) rfl (ses_cons (se_prim ok_ixE (ses_cons (se_var (i := 0) (c := .F) rfl rfl rfl (by decide +kernel) (by decide +kernel)) (ses_cons se_int ses_nil)) (hrd_ix rfl)) ses_nil) rfl))) (ses_cons (SE.el0 (se_prim ok_ixE (ses_cons (se_var (i := 0) (c := .F) rfl rfl rfl (by decide +kernel) (by decide +kernel)) (ses_cons se_int ses_nil)) (hrd_ix rfl))) ses_nil)) hrd_bin))))) ss_nil) (ss_one (s1_ret (sm_se (se_if (st_cmp rfl ok_eq (ses_cons (se_prim ok_ixR (ses_cons (se_var (i := 0) (c := .F) rfl rfl rfl (by decide +kernel) (by decide +kernel)) (ses_cons se_int ses_nil)) (hrd_ix rfl)) (ses_cons se_str ses_nil))) (se_call (fi := f_weave_frames) (as := [.v (.val 0), .v (.val 0)]) (.head _) rfl (by decide +kernel) rfl rfl rfl (by decide) rfl (sas_v (se_prim ok_ixE (ses_cons (se_var (i := 0) (c := .F) rfl rfl rfl (by decide +kernel) (by decide +kernel)) (ses_cons se_int ses_nil)) (hrd_ix rfl)) (sas_v (se_var (i := 1) (c := .F) rfl rfl rfl (by decide +kernel) (by decide +kernel)) sas_nil))) (SE.freeze (k := 1) (se_prim ok_list (ses_cons (SE.el0 (se_call (fi := f_cut_frames) (as := [.v (.val 0), .v (.val 0)]) (.tail _ (.head _)) rfl (by decide +kernel) rfl rfl rfl (by decide) rfl (sas_v (se_prim ok_ixE (ses_cons (se_var (i := 0) (c := .F) rfl rfl rfl (by decide +kernel) (by decide +kernel)) (ses_cons se_int ses_nil)) (hrd_ix rfl)) (sas_v (se_var (i := 1) (c := .F) rfl rfl rfl (by decide +kernel) (by decide +kernel)) sas_nil)))) ses_nil) (hrd_ty (by decide +kernel) rfl rfl rfl rfl rfl))))))))⟩
def f_part_shown : FnI := { name := "part_shown", ps := ["part", "n"], ks := [.F, .F], kr := 0, sem := semOf d_part_shown.1 2 [.F, .F], kb := [] }
abbrev s_shown : Stmt := topS 21
def S_shown : Sx := { N := ["code", "n", "part", "what"], κ := [.F, .F, .F, .F], np := 2, sc := defScope s_shown, k := 4, fs := [f_part_shown], cs := [], kr := 0, as := ["code", "n"], bf := [], pr := [] }
def d_shown : {f : M Out // SS S_shown (defBody s_shown) f} := ⟨_, (ss_one (s1_ret (sm_se (se_prim ok_tuple (ses_cons (SE.el0 (SE.freeze (k := 1) (se_comp2 (slc2_comp (k := 0) (own := [("part", 2), ("what", 3)]) (own1 := [3]) (m := .el) (t := (.nm 2)) (t1 := (.nm 3)) (it_val (.inr rfl) (se_var (i := 0) (c := .F) rfl rfl rfl (by decide +kernel) (by decide +kernel))) rfl rfl (by decide +kernel) (by decide +kernel) (by decide +kernel) (by decide +kernel) rfl (by decide +kernel) rfl rfl sts_nil (it_val (.inr rfl) (SE.el0 (se_call (fi := f_part_shown) (as := [.v (.val 0), .v (.val 0)]) (.head _) rfl (by decide +kernel) rfl rfl rfl (by decide) rfl (sas_v (se_var (i := 2) (c := .F) rfl rfl rfl (by decide +kernel) (by decide +kernel)) (sas_v (se_var (i := 1) (c := .F) rfl rfl rfl (by decide +kernel) (by decide +kernel)) sas_nil))))) sts_nil (se_var (i := 3) (c := .F) rfl rfl rfl (by decide +kernel) (by decide +kernel)))))) ses_nil) (hrd_ty (by decide +kernel) rfl rfl rfl rfl rfl)))))⟩
def f_shown : FnI := { name := "shown", ps := ["code", "n"], ks := [.F, .F], kr := 0, sem := semOf d_shown.1 4 [.F, .F], kb := [] }
abbrev s_is_unlike_paper : Stmt := topS 23
def S_is_unlike_paper : Sx := { N := ["one", "other", "thing"], κ := [.F, .F, .F], np := 3, sc := defScope s_is_unlike_paper, k := 5, fs := [f_whole_within, f_shown], cs := [con_LENGTH_MOST], kr := 0, as := ["one", "other", "thing"], bf := [], pr := [] }
def d_is_unlike_paper : {f : M Out // SS S_is_unlike_paper (defBody s_is_unlike_paper) f} := ⟨_, (ss_one (s1_ret (sm_se (se_and (SE.rd (se_call (fi := f_whole_within) (as := [.v (.val 0), .v (.val 0), .v (.val 0)]) (.head _) rfl (by decide +kernel) rfl rfl rfl (by decide) rfl (sas_v (se_var (i := 2) (c := .F) rfl rfl rfl (by decide +kernel) (by decide +kernel)) (sas_v se_int (sas_v (se_glob (c := con_LENGTH_MOST) (.head _) rfl (by decide +kernel) (by decide +kernel) rfl) sas_nil))))) (se_one (se_prim ok_ne (ses_cons (SE.rd (se_call (fi := f_shown) (as := [.v (.val 0), .v (.val 0)]) (.tail _ (.head _)) rfl (by decide +kernel) rfl rfl rfl (by decide) rfl (sas_v (se_var (i := 0) (c := .F) rfl rfl rfl (by decide +kernel) (by decide +kernel)) (sas_v (se_var (i := 2) (c := .F) rfl rfl rfl (by decide +kernel) (by decide +kernel)) sas_nil)))) (ses_cons (SE.rd (se_call (fi := f_shown) (as := [.v (.val 0), .v (.val 0)]) (.tail _ (.head _)) rfl (by decide +kernel) rfl rfl rfl (by decide) rfl (sas_v (se_var (i := 1) (c := .F) rfl rfl rfl (by decide +kernel) (by decide +kernel)) (sas_v (se_var (i := 2) (c := .F) rfl rfl rfl (by decide +kernel) (by decide +kernel)) sas_nil)))) ses_nil)) (hrd_cmp rfl)))))))⟩
def f_is_unlike_paper : FnI := { name := "is_unlike_paper", ps := ["one", "other", "thing"], ks := [.F, .F, .F], kr := 0, sem := semOf d_is_unlike_paper.1 3 [.F, .F, .F], kb := [(0, ["one", "thing", "other"], [0, 2, 1])] }
abbrev s__law_place : Stmt := topS 28
def S__law_place : Sx := { N := ["mark", "n", "place"], κ := [.F, .F, .F], np := 2, sc := defScope s__law_place, k := 0, fs := [], cs := [], kr := 0, as := ["mark", "n", "place"], bf := [], pr := [] }
def d__law_place : {f : M Out // SS S__law_place (defBody s__law_place) f} := ⟨_, (ss_cons (s1_set (i := 2) (k := 0) (by decide +kernel) rfl rfl (sm_se (SE.freeze (k := 1) (se_prim ok_add (ses_cons (se_prim ok_fdiv (ses_cons (SE.rd (se_prim ok_mul (ses_cons (se_var (i := 1) (c := .F) rfl rfl rfl (by decide +kernel) (by decide +kernel)) (ses_cons (SE.el0 (se_prim ok_ixE (ses_cons (se_var (i := 0) (c := .F) rfl rfl rfl (by decide +kernel) (by decide +kernel)) (ses_cons se_int ses_nil)) (hrd_ix rfl))) ses_nil)) hrd_bin)) (ses_cons (se_prim ok_ixR (ses_cons (se_var (i := 0) (c := .F) rfl rfl rfl (by decide +kernel) (by decide +kernel)) (ses_cons se_int ses_nil)) (hrd_ix rfl)) ses_nil)) hrd_bin) (ses_cons (SE.el0 (se_prim ok_ixE (ses_cons (se_var (i := 0) (c := .F) rfl rfl rfl (by decide +kernel) (by decide +kernel)) (ses_cons se_int ses_nil)) (hrd_ix rfl))) ses_nil)) hrd_bin)))) (ss_cons (s1_if (st_cmp rfl ok_lt (ses_cons (se_var (i := 2) (c := .F) rfl rfl rfl (by decide +kernel) (by decide +kernel)) (ses_cons se_int ses_nil))) (ss_one (s1_ret (sm_se se_int))) ss_nil) (ss_cons (s1_if (st_cmp rfl ok_gt (ses_cons (se_var (i := 2) (c := .F) rfl rfl rfl (by decide +kernel) (by decide +kernel)) (ses_cons (se_var (i := 1) (c := .F) rfl rfl rfl (by decide +kernel) (by decide +kernel)) ses_nil))) (ss_one (s1_ret (sm_se (se_var (i := 1) (c := .F) rfl rfl rfl (by decide +kernel) (by decide +kernel))))) ss_nil) (ss_one (s1_ret (sm_se (se_var (i := 2) (c := .F) rfl rfl rfl (by decide +kernel) (by decide +kernel))))))))⟩
def f__law_place : FnI := { name := "_law_place", ps := ["mark", "n"], ks := [.F, .F], kr := 0, sem := semOf d__law_place.1 3 [.F, .F], kb := [] }
abbrev s__law_frames : Stmt := topS 29
def S__law_frames : Sx := { N := ["cut", "n", "low", "high"], κ := [.F, .F, .F, .F], np := 2, sc := defScope s__law_frames, k := 1, fs := [f__law_place], cs := [], kr := 0, as := ["cut", "n", "low", "high"], bf := [], pr := [] }
def d__law_frames : {f : M Out // SS S__law_frames (defBody s__law_frames) f} := ⟨_, (ss_cons (s1_set (i := 2) (k := 0) (by decide +kernel) rfl rfl (sm_se (se_call (fi := f__law_place) (as := [.v (.val 0), .v (.val 0)]) (.head _) rfl (by decide +kernel) rfl rfl rfl (by decide) rfl (sas_v (se_prim ok_ixE (ses_cons (se_var (i := 0) (c := .F) rfl rfl rfl (by decide +kernel) (by decide +kernel)) (ses_cons se_int ses_nil)) (hrd_ix rfl)) (sas_v (se_var (i := 1) (c := .F) rfl rfl rfl (by decide +kernel) (by decide +kernel)) sas_nil))))) (ss_cons (s1_set (i := 3) (k := 0) (by decide +kernel) rfl rfl (sm_se (se_call (fi := f__law_place) (as := [.v (.val 0), .v (.val 0)]) (.head _) rfl (by decide +kernel) rfl rfl rfl (by decide) rfl (sas_v (se_prim ok_ixE (ses_cons (se_var (i := 0) (c := .F) rfl rfl rfl (by decide +kernel) (by decide +kernel)) (ses_cons se_int ses_nil)) (hrd_ix rfl)) (sas_v (se_var (i := 1) (c := .F) rfl rfl rfl (by decide +kernel) (by decide +kernel)) sas_nil))))) (ss_cons (s1_if (st_cmp rfl ok_eq (ses_cons (se_prim ok_ixR (ses_cons (se_var (i := 0) (c := .F) rfl rfl rfl (by decide +kernel) (by decide +kernel)) (ses_cons se_int ses_nil)) (hrd_ix rfl)) (ses_cons se_str ses_nil))) (ss_one (s1_ret (sm_se (SE.freeze (k := 1) (se_prim ok_listRg2 (ses_cons (se_var (i := 2) (c := .F) rfl rfl rfl (by decide +kernel) (by decide +kernel)) (ses_cons (se_var (i := 3) (c := .F) rfl rfl rfl (by decide +kernel) (by decide +kernel)) ses_nil)) (hrd_listRg2 rfl rfl (by decide +kernel) (by decide +kernel))))))) ss_nil) (ss_one (s1_ret (sm_se (SE.freeze (k := 1) (se_prim ok_listRg3 (ses_cons (se_prim ok_sub (ses_cons (se_var (i := 3) (c := .F) rfl rfl rfl (by decide +kernel) (by decide +kernel)) (ses_cons se_int ses_nil)) hrd_bin) (ses_cons (se_prim ok_sub (ses_cons (se_var (i := 2) (c := .F) rfl rfl rfl (by decide +kernel) (by decide +kernel)) (ses_cons se_int ses_nil)) hrd_bin) (ses_cons (se_prim ok_neg (ses_cons se_int ses_nil) hrd_un) ses_nil))) (hrd_listRg3 rfl (by decide +kernel) (by decide +kernel))))))))))⟩
def f__law_frames : FnI := { name := "_law_frames", ps := ["cut", "n"], ks := [.F, .F], kr := 0, sem := semOf d__law_frames.1 4 [.F, .F], kb := [] }
abbrev s__law_row : Stmt := topS 30
def S__law_row : Sx := { N := ["parts", "n", "row", "part", "runs", "turn", "cut", "run"], κ := [.F, .F, .L 1, .F, .L 1, .F, .F, .F], np := 2, sc := defScope s__law_row, k := 2, fs := [f__law_frames], cs := [], kr := 0, as := ["parts", "n", "row", "part", "runs", "turn"], bf := [], pr := [] }
def d__law_row : {f : M Out // SS S__law_row (defBody s__law_row) f} := ⟨_, (ss_cons (s1_set (i := 2) (k := 1) (by decide +kernel) rfl rfl (sm_se (se_lst (ms := []) (k := 0) rfl ses_nil rfl))) (ss_cons (s1_for (m := .el) (t := (.nm 3)) (it_val (.inr rfl) (se_var (i := 0) (c := .F) rfl rfl rfl (by decide +kernel) (by decide +kernel))) rfl (by decide +kernel) rfl (ss_one (s1_if (st_cmp rfl ok_eq (ses_cons (se_prim ok_ixR (ses_cons (se_var (i := 3) (c := .F) rfl rfl rfl (by decide +kernel) (by decide +kernel)) (ses_cons se_int ses_nil)) (hrd_ix rfl)) (ses_cons se_str ses_nil))) (ss_one (s1_lop (i := 2) (k := 0) (n := 0) rfl PySem.F.plainAttrs_list PySem.F.slot_list_extend PySem.F.type_list_extend (fun _ => mt_extend) lop_extE rfl rfl rfl (spa_var (by decide +kernel) rfl) (ses_cons (SE.el0 (SE.freeze (k := 1) (se_prim ok_mul (ses_cons (SE.el0 (SE.freeze (k := 1) (se_lst (ms := [.val 0]) (k := 0) rfl (ses_cons (se_prim ok_ixE (ses_cons (se_var (i := 3) (c := .F) rfl rfl rfl (by decide +kernel) (by decide +kernel)) (ses_cons se_int ses_nil)) (hrd_ix rfl)) ses_nil) rfl))) (ses_cons (SE.el0 (se_prim ok_ixE (ses_cons (se_var (i := 3) (c := .F) rfl rfl rfl (by decide +kernel) (by decide +kernel)) (ses_cons se_int ses_nil)) (hrd_ix rfl))) ses_nil)) hrd_bin))) ses_nil))) (ss_one (s1_if (st_cmp rfl ok_eq (ses_cons (se_prim ok_ixR (ses_cons (se_var (i := 3) (c := .F) rfl rfl rfl (by decide +kernel) (by decide +kernel)) (ses_cons se_int ses_nil)) (hrd_ix rfl)) (ses_cons se_str ses_nil))) (ss_one (s1_lop (i := 2) (k := 0) (n := 0) rfl PySem.F.plainAttrs_list PySem.F.slot_list_extend PySem.F.type_list_extend (fun _ => mt_extend) lop_extE rfl rfl rfl (spa_var (by decide +kernel) rfl) (ses_cons (SE.el0 (se_call (fi := f__law_frames) (as := [.v (.val 0), .v (.val 0)]) (.head _) rfl (by decide +kernel) rfl rfl rfl (by decide) rfl (sas_v (se_prim ok_ixE (ses_cons (se_var (i := 3) (c := .F) rfl rfl rfl (by decide +kernel) (by decide +kernel)) (ses_cons se_int ses_nil)) (hrd_ix rfl)) (sas_v (se_var (i := 1) (c := .F) rfl rfl rfl (by decide +kernel) (by decide +kernel)) sas_nil)))) ses_nil))) (ss_cons (s1_setLcA (i := 4) (k := 1) (by decide +kernel) rfl (slc_comp (k := 0) (own := [("cut", 6)]) (m := .el) (t := (.nm 6)) (it_val (.inr rfl) (SE.el0 (se_prim ok_ixE (ses_cons (se_var (i := 3) (c := .F) rfl rfl rfl (by decide +kernel) (by decide +kernel)) (ses_cons se_int ses_nil)) (hrd_ix rfl)))) rfl (by decide +kernel) (by decide +kernel) (by decide +kernel) (by decide +kernel) rfl sts_nil (se_call (fi := f__law_frames) (as := [.v (.val 0), .v (.val 0)]) (.head _) rfl (by decide +kernel) rfl rfl rfl (by decide) rfl (sas_v (se_var (i := 6) (c := .F) rfl rfl rfl (by decide +kernel) (by decide +kernel)) (sas_v (se_var (i := 1) (c := .F) rfl rfl rfl (by decide +kernel) (by decide +kernel)) sas_nil))))) (ss_one (s1_for (m := .el) (t := (.nm 5)) (it_rng1 (by decide +kernel) rfl (ses_cons (se_lock (se_prim ok_maxL (ses_cons (SE.rd (se_comp (slc_comp (k := 0) (own := [("run", 7)]) (m := .el) (t := (.nm 7)) (it_val (.inr rfl) (se_var (i := 4) (c := .L 1) rfl rfl rfl (by decide +kernel) (by decide +kernel))) rfl (by decide +kernel) (by decide +kernel) (by decide +kernel) (by decide +kernel) rfl sts_nil (se_prim ok_len (ses_cons (se_var (i := 7) (c := .F) rfl rfl rfl (by decide +kernel) (by decide +kernel)) ses_nil) (hrd_fn (by decide +kernel) rfl rfl rfl rfl rfl))))) ses_nil) (hrd_fn (by decide +kernel) rfl rfl rfl rfl rfl))) ses_nil)) rfl (by decide +kernel) rfl (ss_one (s1_lop (i := 2) (k := 0) (n := 0) rfl PySem.F.plainAttrs_list PySem.F.slot_list_extend PySem.F.type_list_extend (fun _ => mt_extend) lop_extE rfl rfl rfl (spa_var (by decide +kernel) rfl) (ses_cons (SE.el0 (SE.freeze (k := 1) (se_comp (slc_comp (k := 0) (own := [("run", 7)]) (m := .el) (t := (.nm 7)) (it_val (.inr rfl) (se_var (i := 4) (c := .L 1) rfl rfl rfl (by decide +kernel) (by decide +kernel))) rfl (by decide +kernel) (by decide +kernel) (by decide +kernel) (by decide +kernel) rfl (sts_one (st_cmp rfl ok_lt (ses_cons (se_var (i := 5) (c := .F) rfl rfl rfl (by decide +kernel) (by decide +kernel)) (ses_cons (se_prim ok_len (ses_cons (se_var (i := 7) (c := .F) rfl rfl rfl (by decide +kernel) (by decide +kernel)) ses_nil) (hrd_fn (by decide +kernel) rfl rfl rfl rfl rfl)) ses_nil)))) (se_prim ok_ixE (ses_cons (se_var (i := 7) (c := .F) rfl rfl rfl (by decide +kernel) (by decide +kernel)) (ses_cons (se_var (i := 5) (c := .F) rfl rfl rfl (by decide +kernel) (by decide +kernel)) ses_nil)) (hrd_ix rfl)))))) ses_nil))))))))))) (ss_one (s1_ret (sm_freeze (sm_mv (i := 2) rfl (.inl rfl) (by decide) (by decide +kernel) (by decide +kernel)))))))⟩
def f__law_row : FnI := { name := "_law_row", ps := ["parts", "n"], ks := [.F, .F], kr := 0, sem := semOf d__law_row.1 8 [.F, .F], kb := [] }
abbrev s__law_unlike : Stmt := topS 37
def S__law_unlike : Sx := { N := ["left", "right", "n"], κ := [.F, .F, .F], np := 3, sc := defScope s__law_unlike, k := 3, fs := [f__law_row], cs := [], kr := 0, as := ["left", "right", "n"], bf := [], pr := [] }
def d__law_unlike : {f : M Out // SS S__law_unlike (defBody s__law_unlike) f} := ⟨_, (ss_one (s1_ret (sm_se (se_prim ok_ne (ses_cons (SE.rd (se_call (fi := f__law_row) (as := [.v (.val 0), .v (.val 0)]) (.head _) rfl (by decide +kernel) rfl rfl rfl (by decide) rfl (sas_v (se_var (i := 0) (c := .F) rfl rfl rfl (by decide +kernel) (by decide +kernel)) (sas_v (se_var (i := 2) (c := .F) rfl rfl rfl (by decide +kernel) (by decide +kernel)) sas_nil)))) (ses_cons (SE.rd (se_call (fi := f__law_row) (as := [.v (.val 0), .v (.val 0)]) (.head _) rfl (by decide +kernel) rfl rfl rfl (by decide) rfl (sas_v (se_var (i := 1) (c := .F) rfl rfl rfl (by decide +kernel) (by decide +kernel)) (sas_v (se_var (i := 2) (c := .F) rfl rfl rfl (by decide +kernel) (by decide +kernel)) sas_nil)))) ses_nil)) (hrd_cmp rfl)))))⟩
def f__law_unlike : FnI := { name := "_law_unlike", ps := ["left", "right", "n"], ks := [.F, .F, .F], kr := 0, sem := semOf d__law_unlike.1 3 [.F, .F, .F], kb := [] }
abbrev s__law_papers : Stmt := topS 52
def S__law_papers : Sx := { N := ["left", "right", "lengths", "met", "n", "due", "told"], κ := [.F, .F, .F, .L 1, .F, .F, .F], np := 3, sc := defScope s__law_papers, k := 6, fs := [f_is_unlike_paper, f__law_unlike], cs := [], kr := 0, as := ["left", "right", "lengths", "met", "n", "due", "told"], bf := [], pr := [] }
def d__law_papers : {f : M Out // SS S__law_papers (defBody s__law_papers) f} := ⟨_, (ss_cons (s1_set (i := 3) (k := 1) (by decide +kernel) rfl rfl (sm_se (se_lst (ms := [.val 0, .val 0]) (k := 0) rfl (ses_cons se_int (ses_cons se_int ses_nil)) rfl))) (ss_cons (s1_for (m := .el) (t := (.nm 4)) (it_val (.inr rfl) (se_var (i := 2) (c := .F) rfl rfl rfl (by decide +kernel) (by decide +kernel))) rfl (by decide +kernel) rfl (ss_cons (s1_set (i := 5) (k := 0) (by decide +kernel) rfl rfl (sm_se (se_and (se_chain cmpok_le cmpok_le se_int (se_var (i := 4) (c := .F) rfl rfl rfl (by decide +kernel) (by decide +kernel)) se_int rfl) (se_one (se_call (fi := f__law_unlike) (as := [.v (.val 0), .v (.val 0), .v (.val 0)]) (.tail _ (.head _)) rfl (by decide +kernel) rfl rfl rfl (by decide) rfl (sas_v (se_var (i := 0) (c := .F) rfl rfl rfl (by decide +kernel) (by decide +kernel)) (sas_v (se_var (i := 1) (c := .F) rfl rfl rfl (by decide +kernel) (by decide +kernel)) (sas_v (se_var (i := 4) (c := .F) rfl rfl rfl (by decide +kernel) (by decide +kernel)) sas_nil)))))))) (ss_cons (s1_set (i := 6) (k := 0) (by decide +kernel) rfl rfl (sm_se (se_call (fi := f_is_unlike_paper) (as := [.v (.val 0), .v (.val 0), .v (.val 0)]) (.head _) rfl (by decide +kernel) rfl rfl rfl (by decide) rfl (sas_v (se_prim ok_tuple (ses_cons (se_var (i := 0) (c := .F) rfl rfl rfl (by decide +kernel) (by decide +kernel)) ses_nil) (hrd_ty (by decide +kernel) rfl rfl rfl rfl rfl)) (sas_v (se_prim ok_tuple (ses_cons (se_var (i := 1) (c := .F) rfl rfl rfl (by decide +kernel) (by decide +kernel)) ses_nil) (hrd_ty (by decide +kernel) rfl rfl rfl rfl rfl)) (sas_v (se_var (i := 4) (c := .F) rfl rfl rfl (by decide +kernel) (by decide +kernel)) sas_nil)))))) (ss_cons (s1_if (st_w (sw_or (st_not (st_tru rfl (se_isTy (T := "bool") (by decide +kernel) rfl rfl rfl (by decide +kernel) (by decide +kernel) rfl rfl rfl (se_var (i := 6) (c := .F) rfl rfl rfl (by decide +kernel) (by decide +kernel))))) (sw_one (st_cmp rfl ok_ne (ses_cons (se_var (i := 6) (c := .F) rfl rfl rfl (by decide +kernel) (by decide +kernel)) (ses_cons (se_var (i := 5) (c := .F) rfl rfl rfl (by decide +kernel) (by decide +kernel)) ses_nil)))))) (ss_one (s1_ret (sm_se (SE.freeze (k := 1) (se_lst (ms := []) (k := 0) rfl ses_nil rfl))))) ss_nil) (ss_one (s1_setIx (i := 3) (k := 0) (n := 0) rfl rfl (sm_se (SE.freeze (k := 1) (se_prim ok_add (ses_cons (SE.el0 (se_prim ok_ixE (ses_cons (se_var (i := 3) (c := .L 1) rfl rfl rfl (by decide +kernel) (by decide +kernel)) (ses_cons (se_prim ok_int (ses_cons (se_not (se_var (i := 5) (c := .F) rfl rfl rfl (by decide +kernel) (by decide +kernel))) ses_nil) (hrd_ty (by decide +kernel) rfl rfl rfl rfl rfl)) ses_nil)) (hrd_ix rfl))) (ses_cons se_int ses_nil)) hrd_bin))) (spa_var (by decide +kernel) rfl) (se_prim ok_int (ses_cons (se_not (se_var (i := 5) (c := .F) rfl rfl rfl (by decide +kernel) (by decide +kernel))) ses_nil) (hrd_ty (by decide +kernel) rfl rfl rfl rfl rfl)))))))) (ss_one (s1_ret (sm_freeze (sm_mv (i := 3) rfl (.inl rfl) (by decide) (by decide +kernel) (by decide +kernel)))))))⟩
def f__law_papers : FnI := { name := "_law_papers", ps := ["left", "right", "lengths"], ks := [.F, .F, .F], kr := 0, sem := semOf d__law_papers.1 7 [.F, .F, .F], kb := [] }
abbrev s__law_strange : Stmt := topS 53
def S__law_strange : Sx := { N := ["left", "right", "n", "things", "strange", "told"], κ := [.F, .F, .F, .F, .F, .F], np := 3, sc := defScope s__law_strange, k := 6, fs := [f_is_unlike_paper], cs := [], kr := 0, as := ["left", "right", "n", "things", "strange", "told"], bf := [], pr := [] }
def d__law_strange : {f : M Out // SS S__law_strange (defBody s__law_strange) f} := ⟨_, (ss_cons (s1_set (i := 3) (k := 0) (by decide +kernel) rfl rfl (sm_se (SE.freeze (k := 1) (se_lst (ms := [.val 0, .val 0, .val 0, .val 0, .val 0, .val 0, .val 0, .val 0, .val 0, .val 0, .val 0, .val 0, .val 0, .val 0]) (k := 0) rfl (ses_cons se_bl (ses_cons se_bl (ses_cons se_non (ses_cons (se_prim ok_strI (ses_cons (se_var (i := 2) (c := .F) rfl rfl rfl (by decide +kernel) (by decide +kernel)) ses_nil) (hrd_ty (by decide +kernel) rfl rfl rfl rfl rfl)) (ses_cons se_str (ses_cons se_str (ses_cons (se_tup (ms := [.val 0]) rfl (ses_cons (se_var (i := 2) (c := .F) rfl rfl rfl (by decide +kernel) (by decide +kernel)) ses_nil) (by decide)) (ses_cons (SE.freeze (k := 1) (se_lst (ms := [.val 0]) (k := 0) rfl (ses_cons (se_var (i := 2) (c := .F) rfl rfl rfl (by decide +kernel) (by decide +kernel)) ses_nil) rfl)) (ses_cons (se_tup (ms := []) rfl ses_nil (by decide)) (ses_cons (SE.freeze (k := 1) (se_lst (ms := []) (k := 0) rfl ses_nil rfl)) (ses_cons (se_tup (ms := [.val 0, .val 0]) rfl (ses_cons (se_var (i := 2) (c := .F) rfl rfl rfl (by decide +kernel) (by decide +kernel)) (ses_cons (se_var (i := 2) (c := .F) rfl rfl rfl (by decide +kernel) (by decide +kernel)) ses_nil)) (by decide)) (ses_cons (SE.freeze (k := 1) (se_lst (ms := [.val 0]) (k := 0) rfl (ses_cons (SE.freeze (k := 1) (se_lst (ms := [.val 0]) (k := 0) rfl (ses_cons (se_var (i := 2) (c := .F) rfl rfl rfl (by decide +kernel) (by decide +kernel)) ses_nil) rfl)) ses_nil) rfl)) (ses_cons (se_tup (ms := [.val 0, .val 0]) rfl (ses_cons se_str (ses_cons (se_var (i := 2) (c := .F) rfl rfl rfl (by decide +kernel) (by decide +kernel)) ses_nil)) (by decide)) (ses_cons (se_tup (ms := [.val 0, .val 0]) rfl (ses_cons se_non (ses_cons (se_tup (ms := [.val 0, .val 0]) rfl (ses_cons se_bl (ses_cons (se_var (i := 2) (c := .F) rfl rfl rfl (by decide +kernel) (by decide +kernel)) ses_nil)) (by decide)) ses_nil)) (by decide)) ses_nil)))))))))))))) rfl)))) (ss_cons (s1_for (m := .el) (t := (.nm 4)) (it_val (.inr rfl) (se_var (i := 3) (c := .F) rfl rfl rfl (by decide +kernel) (by decide +kernel))) rfl (by decide +kernel) rfl (ss_cons (s1_set (i := 5) (k := 0) (by decide +kernel) rfl rfl (sm_se (se_callK (fi := f_is_unlike_paper) (as := [.v (.val 0), .v (.val 0), .v (.val 0)]) (π := [0, 2, 1]) (.head _) rfl (by decide +kernel) rfl rfl (.head _) rfl (by decide) rfl rfl rfl (by decide) rfl (sas_v (se_prim ok_tuple (ses_cons (se_var (i := 0) (c := .F) rfl rfl rfl (by decide +kernel) (by decide +kernel)) ses_nil) (hrd_ty (by decide +kernel) rfl rfl rfl rfl rfl)) (sas_v (se_var (i := 4) (c := .F) rfl rfl rfl (by decide +kernel) (by decide +kernel)) (sas_v (se_prim ok_tuple (ses_cons (se_var (i := 1) (c := .F) rfl rfl rfl (by decide +kernel) (by decide +kernel)) ses_nil) (hrd_ty (by decide +kernel) rfl rfl rfl rfl rfl)) sas_nil)))))) (ss_one (s1_if (st_w (sw_or (st_not (st_tru rfl (se_isTy (T := "bool") (by decide +kernel) rfl rfl rfl (by decide +kernel) (by decide +kernel) rfl rfl rfl (se_var (i := 5) (c := .F) rfl rfl rfl (by decide +kernel) (by decide +kernel))))) (sw_one (st_tru rfl (se_var (i := 5) (c := .F) rfl rfl rfl (by decide +kernel) (by decide +kernel)))))) (ss_one (s1_ret (sm_se se_bl))) ss_nil)))) (ss_one (s1_ret (sm_se se_bl)))))⟩
def f__law_strange : FnI := { name := "_law_strange", ps := ["left", "right", "n"], ks := [.F, .F, .F], kr := 0, sem := semOf d__law_strange.1 6 [.F, .F, .F], kb := [] }
abbrev s__law_shares : Stmt := topS 27
def S__law_shares : Sx := { N := ["most", "shares", "share"], κ := [.F, .F, .F], np := 1, sc := defScope s__law_shares, k := 0, fs := [], cs := [], kr := 0, as := ["most", "shares"], bf := [], pr := [] }
def d__law_shares : {f : M Out // SS S__law_shares (defBody s__law_shares) f} := ⟨_, (ss_cons (s1_set (i := 1) (k := 0) (by decide +kernel) rfl rfl (sm_se (SE.freeze (k := 1) (se_lst (ms := [.val 0, .val 0, .val 0, .val 0, .val 0, .val 0, .val 0, .val 0, .val 0]) (k := 0) rfl (ses_cons (se_tup (ms := [.val 0, .val 0]) rfl (ses_cons se_int (ses_cons se_int ses_nil)) (by decide)) (ses_cons (se_tup (ms := [.val 0, .val 0]) rfl (ses_cons se_int (ses_cons se_int ses_nil)) (by decide)) (ses_cons (se_tup (ms := [.val 0, .val 0]) rfl (ses_cons se_int (ses_cons se_int ses_nil)) (by decide)) (ses_cons (se_tup (ms := [.val 0, .val 0]) rfl (ses_cons se_int (ses_cons se_int ses_nil)) (by decide)) (ses_cons (se_tup (ms := [.val 0, .val 0]) rfl (ses_cons se_int (ses_cons se_int ses_nil)) (by decide)) (ses_cons (se_tup (ms := [.val 0, .val 0]) rfl (ses_cons se_int (ses_cons se_int ses_nil)) (by decide)) (ses_cons (se_tup (ms := [.val 0, .val 0]) rfl (ses_cons se_int (ses_cons se_int ses_nil)) (by decide)) (ses_cons (se_tup (ms := [.val 0, .val 0]) rfl (ses_cons se_int (ses_cons se_int ses_nil)) (by decide)) (ses_cons (se_tup (ms := [.val 0, .val 0]) rfl (ses_cons se_int (ses_cons se_int ses_nil)) (by decide)) ses_nil))))))))) rfl)))) (ss_one (s1_ret (sm_se (SE.freeze (k := 1) (se_comp (slc_comp (k := 0) (own := [("share", 2)]) (m := .el) (t := (.nm 2)) (it_val (.inr rfl) (se_var (i := 1) (c := .F) rfl rfl rfl (by decide +kernel) (by decide +kernel))) rfl (by decide +kernel) (by decide +kernel) (by decide +kernel) (by decide +kernel) rfl (sts_one (st_cmp rfl ok_eq (ses_cons (se_prim ok_mod (ses_cons (se_prim ok_int (ses_cons (se_var (i := 0) (c := .F) rfl rfl rfl (by decide +kernel) (by decide +kernel)) ses_nil) (hrd_ty (by decide +kernel) rfl rfl rfl rfl rfl)) (ses_cons (se_prim ok_ixR (ses_cons (se_var (i := 2) (c := .F) rfl rfl rfl (by decide +kernel) (by decide +kernel)) (ses_cons se_int ses_nil)) (hrd_ix rfl)) ses_nil)) hrd_bin) (ses_cons se_int ses_nil)))) (se_var (i := 2) (c := .F) rfl rfl rfl (by decide +kernel) (by decide +kernel)))))))))⟩
def f__law_shares : FnI := { name := "_law_shares", ps := ["most"], ks := [.F], kr := 0, sem := semOf d__law_shares.1 3 [.F], kb := [] }
abbrev s__law_grows : Stmt := topS 34
def S__law_grows : Sx := { N := ["parts", "cut"], κ := [.B, .F], np := 1, sc := defScope s__law_grows, k := 1, fs := [f__law_cuts], cs := [], kr := 0, as := ["parts", "cut"], bf := [], pr := [] }
def d__law_grows : {f : M Out // SS S__law_grows (defBody s__law_grows) f} := ⟨_, (ss_cons (s1_for (m := .el) (t := (.nm 1)) (it_val (.inr rfl) (SE.el0 (se_call (fi := f__law_cuts) (as := [.v .rd]) (.head _) rfl (by decide +kernel) rfl rfl rfl (by decide) rfl (sas_v (se_var (i := 0) (c := .B) rfl rfl rfl (by decide +kernel) (by decide +kernel)) sas_nil)))) rfl (by decide +kernel) rfl (ss_one (s1_if (st_w (sw_and (st_cmp rfl ok_eq (ses_cons (se_prim ok_ixR (ses_cons (se_var (i := 1) (c := .F) rfl rfl rfl (by decide +kernel) (by decide +kernel)) (ses_cons se_int ses_nil)) (hrd_ix rfl)) (ses_cons se_str ses_nil))) (sw_one (st_cmp rfl ok_lt (ses_cons (SE.rd (se_prim ok_mul (ses_cons (SE.el0 (se_prim ok_ixE (ses_cons (SE.el0 (se_prim ok_ixE (ses_cons (se_var (i := 1) (c := .F) rfl rfl rfl (by decide +kernel) (by decide +kernel)) (ses_cons se_int ses_nil)) (hrd_ix rfl))) (ses_cons se_int ses_nil)) (hrd_ix rfl))) (ses_cons (SE.el0 (se_prim ok_ixE (ses_cons (SE.el0 (se_prim ok_ixE (ses_cons (se_var (i := 1) (c := .F) rfl rfl rfl (by decide +kernel) (by decide +kernel)) (ses_cons se_int ses_nil)) (hrd_ix rfl))) (ses_cons se_int ses_nil)) (hrd_ix rfl))) ses_nil)) hrd_bin)) (ses_cons (SE.rd (se_prim ok_mul (ses_cons (SE.el0 (se_prim ok_ixE (ses_cons (SE.el0 (se_prim ok_ixE (ses_cons (se_var (i := 1) (c := .F) rfl rfl rfl (by decide +kernel) (by decide +kernel)) (ses_cons se_int ses_nil)) (hrd_ix rfl))) (ses_cons se_int ses_nil)) (hrd_ix rfl))) (ses_cons (SE.el0 (se_prim ok_ixE (ses_cons (SE.el0 (se_prim ok_ixE (ses_cons (se_var (i := 1) (c := .F) rfl rfl rfl (by decide +kernel) (by decide +kernel)) (ses_cons se_int ses_nil)) (hrd_ix rfl))) (ses_cons se_int ses_nil)) (hrd_ix rfl))) ses_nil)) hrd_bin)) ses_nil)))))) (ss_one (s1_ret (sm_se se_bl))) ss_nil))) (ss_one (s1_ret (sm_se se_bl))))⟩
def f__law_grows : FnI := { name := "_law_grows", ps := ["parts"], ks := [.B], kr := 0, sem := semOf d__law_grows.1 2 [.B], kb := [] }
abbrev s__law_let : Stmt := topS 35
def S__law_let : Sx := { N := ["parts", "reach", "lanes", "places", "cut"], κ := [.B, .F, .F, .F, .F], np := 1, sc := defScope s__law_let, k := 2, fs := [f__law_reach, f__law_cuts, f__law_grows, f__law_period, f__law_place], cs := [], kr := 0, as := ["parts", "reach", "lanes", "places", "cut"], bf := [], pr := [] }
def d__law_let : {f : M Out // SS S__law_let (defBody s__law_let) f} := ⟨_, (ss_cons (s1_set (i := 1) (k := 0) (by decide +kernel) rfl rfl (sm_se (se_call (fi := f__law_reach) (as := [.v .rd]) (.head _) rfl (by decide +kernel) rfl rfl rfl (by decide) rfl (sas_v (se_var (i := 0) (c := .B) rfl rfl rfl (by decide +kernel) (by decide +kernel)) sas_nil)))) (ss_cons (s1_set (i := 2) (k := 0) (by decide +kernel) rfl rfl (sm_se se_int)) (ss_cons (s1_set (i := 3) (k := 0) (by decide +kernel) rfl rfl (sm_se (SE.freeze (k := 1) (se_prim ok_mul (ses_cons se_int (ses_cons (se_prim ok_len (ses_cons (se_var (i := 0) (c := .B) rfl rfl rfl (by decide +kernel) (by decide +kernel)) ses_nil) (hrd_fn (by decide +kernel) rfl rfl rfl rfl rfl)) ses_nil)) hrd_bin)))) (ss_cons (s1_for (m := .el) (t := (.nm 4)) (it_val (.inr rfl) (SE.el0 (se_call (fi := f__law_cuts) (as := [.v .rd]) (.tail _ (.head _)) rfl (by decide +kernel) rfl rfl rfl (by decide) rfl (sas_v (se_var (i := 0) (c := .B) rfl rfl rfl (by decide +kernel) (by decide +kernel)) sas_nil)))) rfl (by decide +kernel) rfl (ss_cons (s1_set (i := 2) (k := 0) (by decide +kernel) rfl rfl (sm_se (SE.freeze (k := 1) (se_prim ok_add (ses_cons (SE.el0 (SE.freeze (k := 1) (se_prim ok_add (ses_cons (se_var (i := 2) (c := .F) rfl rfl rfl (by decide +kernel) (by decide +kernel)) (ses_cons se_int ses_nil)) hrd_bin))) (ses_cons (SE.el0 (SE.freeze (k := 1) (se_prim ok_mul (ses_cons (SE.el0 (SE.freeze (k := 1) (se_prim ok_mul (ses_cons se_int (ses_cons (se_var (i := 1) (c := .F) rfl rfl rfl (by decide +kernel) (by decide +kernel)) ses_nil)) hrd_bin))) (ses_cons (se_prim ok_int (ses_cons (se_prim ok_eq (ses_cons (se_prim ok_ixR (ses_cons (se_var (i := 4) (c := .F) rfl rfl rfl (by decide +kernel) (by decide +kernel)) (ses_cons se_int ses_nil)) (hrd_ix rfl)) (ses_cons se_str ses_nil)) (hrd_cmp rfl)) ses_nil) (hrd_ty (by decide +kernel) rfl rfl rfl rfl rfl)) ses_nil)) hrd_bin))) ses_nil)) hrd_bin)))) (ss_one (s1_set (i := 3) (k := 0) (by decide +kernel) rfl rfl (sm_se (SE.freeze (k := 1) (se_prim ok_add (ses_cons (se_var (i := 3) (c := .F) rfl rfl rfl (by decide +kernel) (by decide +kernel)) (ses_cons (se_prim ok_max2 (ses_cons se_int (ses_cons (se_prim ok_sub (ses_cons (SE.rd (se_call (fi := f__law_place) (as := [.v (.val 0), .v (.val 0)]) (.tail _ (.tail _ (.tail _ (.tail _ (.head _))))) rfl (by decide +kernel) rfl rfl rfl (by decide) rfl (sas_v (se_prim ok_ixE (ses_cons (se_var (i := 4) (c := .F) rfl rfl rfl (by decide +kernel) (by decide +kernel)) (ses_cons se_int ses_nil)) (hrd_ix rfl)) (sas_v se_int sas_nil)))) (ses_cons (SE.rd (se_call (fi := f__law_place) (as := [.v (.val 0), .v (.val 0)]) (.tail _ (.tail _ (.tail _ (.tail _ (.head _))))) rfl (by decide +kernel) rfl rfl rfl (by decide) rfl (sas_v (se_prim ok_ixE (ses_cons (se_var (i := 4) (c := .F) rfl rfl rfl (by decide +kernel) (by decide +kernel)) (ses_cons se_int ses_nil)) (hrd_ix rfl)) (sas_v se_int sas_nil)))) ses_nil)) hrd_bin) ses_nil)) (hrd_fn (by decide +kernel) rfl rfl rfl rfl rfl)) ses_nil)) hrd_bin))))))) (ss_cons (s1_if (st_cmp rfl ok_gt (ses_cons (se_var (i := 3) (c := .F) rfl rfl rfl (by decide +kernel) (by decide +kernel)) (ses_cons se_int ses_nil))) (ss_one (s1_ret (sm_se se_bl))) ss_nil) (ss_one (s1_ret (sm_se (se_or (SE.rd (se_call (fi := f__law_grows) (as := [.v .rd]) (.tail _ (.tail _ (.head _))) rfl (by decide +kernel) rfl rfl rfl (by decide) rfl (sas_v (se_var (i := 0) (c := .B) rfl rfl rfl (by decide +kernel) (by decide +kernel)) sas_nil))) (se_one (se_prim ok_le (ses_cons (SE.rd (se_prim ok_mul (ses_cons (SE.el0 (se_call (fi := f__law_period) (as := [.v .rd]) (.tail _ (.tail _ (.tail _ (.head _)))) rfl (by decide +kernel) rfl rfl rfl (by decide) rfl (sas_v (se_var (i := 0) (c := .B) rfl rfl rfl (by decide +kernel) (by decide +kernel)) sas_nil))) (ses_cons (SE.el0 (SE.freeze (k := 1) (se_prim ok_add (ses_cons (SE.el0 (SE.freeze (k := 1) (se_prim ok_add (ses_cons (SE.el0 (SE.freeze (k := 1) (se_prim ok_mul (ses_cons se_int (ses_cons (se_var (i := 1) (c := .F) rfl rfl rfl (by decide +kernel) (by decide +kernel)) ses_nil)) hrd_bin))) (ses_cons (se_var (i := 2) (c := .F) rfl rfl rfl (by decide +kernel) (by decide +kernel)) ses_nil)) hrd_bin))) (ses_cons se_int ses_nil)) hrd_bin))) ses_nil)) hrd_bin)) (ses_cons se_int ses_nil)) (hrd_cmp rfl))))))))))))⟩
def f__law_let : FnI := { name := "_law_let", ps := ["parts"], ks := [.B], kr := 0, sem := semOf d__law_let.1 5 [.B], kb := [] }
abbrev s__law_mark : Stmt := topS 40
def S__law_mark : Sx := { N := ["reel", "most", "size", "rank", "shares", "share"], κ := [.X 1, .F, .F, .F, .F, .F], np := 4, sc := defScope s__law_mark, k := 1, fs := [f__law_shares, f__law_draw], cs := [], kr := 0, as := ["reel", "most", "size", "rank", "shares", "share"], bf := [], pr := [0] }
def d__law_mark : {f : M Out // SS S__law_mark (defBody s__law_mark) f} := ⟨_, (ss_cons (s1_set (i := 4) (k := 0) (by decide +kernel) rfl rfl (sm_se (se_call (fi := f__law_shares) (as := [.v (.val 0)]) (.head _) rfl (by decide +kernel) rfl rfl rfl (by decide) rfl (sas_v (se_var (i := 1) (c := .F) rfl rfl rfl (by decide +kernel) (by decide +kernel)) sas_nil)))) (ss_cons (s1_set (i := 5) (k := 0) (by decide +kernel) rfl rfl (sm_se (se_prim ok_ixE (ses_cons (se_var (i := 4) (c := .F) rfl rfl rfl (by decide +kernel) (by decide +kernel)) (ses_cons (se_prim ok_fdiv (ses_cons (SE.rd (se_prim ok_mul (ses_cons (se_var (i := 3) (c := .F) rfl rfl rfl (by decide +kernel) (by decide +kernel)) (ses_cons (se_prim ok_len (ses_cons (se_var (i := 4) (c := .F) rfl rfl rfl (by decide +kernel) (by decide +kernel)) ses_nil) (hrd_fn (by decide +kernel) rfl rfl rfl rfl rfl)) ses_nil)) hrd_bin)) (ses_cons se_int ses_nil)) hrd_bin) ses_nil)) (hrd_ix rfl)))) (ss_one (s1_ret (sm_se (se_tup (ms := [.val 0, .val 0, .val 0]) rfl (ses_cons (se_prim ok_ixE (ses_cons (se_var (i := 5) (c := .F) rfl rfl rfl (by decide +kernel) (by decide +kernel)) (ses_cons se_int ses_nil)) (hrd_ix rfl)) (ses_cons (se_prim ok_ixE (ses_cons (se_var (i := 5) (c := .F) rfl rfl rfl (by decide +kernel) (by decide +kernel)) (ses_cons se_int ses_nil)) (hrd_ix rfl)) (ses_cons (SE.freeze (k := 1) (se_prim ok_mul (ses_cons (se_prim ok_sub (ses_cons (SE.rd (se_call (fi := f__law_draw) (as := [.r 0 1, .v (.val 0)]) (.tail _ (.head _)) rfl (by decide +kernel) rfl rfl rfl (by decide) rfl (sas_r rfl rfl (by decide +kernel) (by decide +kernel) (sas_v (SE.freeze (k := 1) (se_prim ok_add (ses_cons (SE.el0 (SE.freeze (k := 1) (se_prim ok_mul (ses_cons se_int (ses_cons (se_var (i := 2) (c := .F) rfl rfl rfl (by decide +kernel) (by decide +kernel)) ses_nil)) hrd_bin))) (ses_cons se_int ses_nil)) hrd_bin)) sas_nil)))) (ses_cons (se_var (i := 2) (c := .F) rfl rfl rfl (by decide +kernel) (by decide +kernel)) ses_nil)) hrd_bin) (ses_cons (se_prim ok_min2 (ses_cons se_int (ses_cons (SE.rd (se_call (fi := f__law_draw) (as := [.r 0 1, .v (.val 0)]) (.tail _ (.head _)) rfl (by decide +kernel) rfl rfl rfl (by decide) rfl (sas_r rfl rfl (by decide +kernel) (by decide +kernel) (sas_v se_int sas_nil)))) ses_nil)) (hrd_fn (by decide +kernel) rfl rfl rfl rfl rfl)) ses_nil)) hrd_bin)) ses_nil))) (by decide)))))))⟩
def f__law_mark : FnI := { name := "_law_mark", ps := ["reel", "most", "size", "rank"], ks := [.X 1, .F, .F, .F], kr := 0, sem := semOf d__law_mark.1 6 [.X 1, .F, .F, .F], kb := [] }
abbrev s__law_cut : Stmt := topS 41
def S__law_cut : Sx := { N := ["reel", "most", "size", "rank", "near"], κ := [.X 1, .F, .F, .F, .F], np := 3, sc := defScope s__law_cut, k := 2, fs := [f__law_draw, f__law_mark, f__law_way], cs := [], kr := 0, as := ["reel", "most", "size", "rank", "near"], bf := [], pr := [0] }
def d__law_cut : {f : M Out // SS S__law_cut (defBody s__law_cut) f} := ⟨_, (ss_cons (s1_set (i := 3) (k := 0) (by decide +kernel) rfl rfl (sm_se (se_call (fi := f__law_draw) (as := [.r 0 1, .v (.val 0)]) (.head _) rfl (by decide +kernel) rfl rfl rfl (by decide) rfl (sas_r rfl rfl (by decide +kernel) (by decide +kernel) (sas_v se_int sas_nil))))) (ss_cons (s1_set (i := 4) (k := 0) (by decide +kernel) rfl rfl (sm_se (se_prim ok_min2 (ses_cons se_int (ses_cons (SE.rd (se_prim ok_add (ses_cons (se_var (i := 3) (c := .F) rfl rfl rfl (by decide +kernel) (by decide +kernel)) (ses_cons (SE.el0 (SE.freeze (k := 1) (se_prim ok_mul (ses_cons (SE.el0 (se_call (fi := f__law_draw) (as := [.r 0 1, .v (.val 0)]) (.head _) rfl (by decide +kernel) rfl rfl rfl (by decide) rfl (sas_r rfl rfl (by decide +kernel) (by decide +kernel) (sas_v se_int sas_nil)))) (ses_cons (SE.el0 (se_call (fi := f__law_draw) (as := [.r 0 1, .v (.val 0)]) (.head _) rfl (by decide +kernel) rfl rfl rfl (by decide) rfl (sas_r rfl rfl (by decide +kernel) (by decide +kernel) (sas_v se_int sas_nil)))) ses_nil)) hrd_bin))) ses_nil)) hrd_bin)) ses_nil)) (hrd_fn (by decide +kernel) rfl rfl rfl rfl rfl)))) (ss_one (s1_ret (sm_se (se_tup (ms := [.val 0, .val 0, .val 0]) rfl (ses_cons (se_call (fi := f__law_mark) (as := [.r 0 1, .v (.val 0), .v (.val 0), .v (.val 0)]) (.tail _ (.head _)) rfl (by decide +kernel) rfl rfl rfl (by decide) rfl (sas_r rfl rfl (by decide +kernel) (by decide +kernel) (sas_v (se_var (i := 1) (c := .F) rfl rfl rfl (by decide +kernel) (by decide +kernel)) (sas_v (se_var (i := 2) (c := .F) rfl rfl rfl (by decide +kernel) (by decide +kernel)) (sas_v (se_var (i := 3) (c := .F) rfl rfl rfl (by decide +kernel) (by decide +kernel)) sas_nil))))) (ses_cons (se_call (fi := f__law_mark) (as := [.r 0 1, .v (.val 0), .v (.val 0), .v (.val 0)]) (.tail _ (.head _)) rfl (by decide +kernel) rfl rfl rfl (by decide) rfl (sas_r rfl rfl (by decide +kernel) (by decide +kernel) (sas_v (se_var (i := 1) (c := .F) rfl rfl rfl (by decide +kernel) (by decide +kernel)) (sas_v (se_var (i := 2) (c := .F) rfl rfl rfl (by decide +kernel) (by decide +kernel)) (sas_v (se_var (i := 4) (c := .F) rfl rfl rfl (by decide +kernel) (by decide +kernel)) sas_nil))))) (ses_cons (se_call (fi := f__law_way) (as := [.r 0 1]) (.tail _ (.tail _ (.head _))) rfl (by decide +kernel) rfl rfl rfl (by decide) rfl (sas_r rfl rfl (by decide +kernel) (by decide +kernel) sas_nil)) ses_nil))) (by decide)))))))⟩
def f__law_cut : FnI := { name := "_law_cut", ps := ["reel", "most", "size"], ks := [.X 1, .F, .F], kr := 0, sem := semOf d__law_cut.1 5 [.X 1, .F, .F], kb := [] }
abbrev s__law_parts : Stmt := topS 42
def S__law_parts : Sx := { N := ["reel", "many", "woven", "most", "size", "count", "dense", "parts", "turn", "kind", "cuts", "spot", "shares", "grown"], κ := [.X 1, .F, .F, .F, .F, .F, .F, .L 1, .F, .F, .L 1, .F, .F, .F], np := 3, sc := defScope s__law_parts, k := 3, fs := [f__law_draw, f__law_shares, f__law_let, f__law_cut, f__law_name], cs := [], kr := 0, as := ["reel", "many", "woven", "most", "size", "count", "dense", "parts", "turn", "kind", "cuts", "spot", "shares", "grown"], bf := [], pr := [0] }
def d__law_parts : {f : M Out // SS S__law_parts (defBody s__law_parts) f} := ⟨_, (ss_cons (s1_set (i := 3) (k := 0) (by decide +kernel) rfl rfl (sm_se (se_prim ok_ixE (ses_cons (SE.el0 (SE.freeze (k := 1) (se_lst (ms := [.val 0, .val 0, .val 0, .val 0, .val 0, .val 0]) (k := 0) rfl (ses_cons se_int (ses_cons se_int (ses_cons se_int (ses_cons se_int (ses_cons se_int (ses_cons se_int ses_nil)))))) rfl))) (ses_cons (SE.rd (se_call (fi := f__law_draw) (as := [.r 0 1, .v (.val 0)]) (.head _) rfl (by decide +kernel) rfl rfl rfl (by decide) rfl (sas_r rfl rfl (by decide +kernel) (by decide +kernel) (sas_v se_int sas_nil)))) ses_nil)) (hrd_ix rfl)))) (ss_cons (s1_set (i := 4) (k := 0) (by decide +kernel) rfl rfl (sm_se (se_call (fi := f__law_draw) (as := [.r 0 1, .v (.val 0)]) (.head _) rfl (by decide +kernel) rfl rfl rfl (by decide) rfl (sas_r rfl rfl (by decide +kernel) (by decide +kernel) (sas_v se_int sas_nil))))) (ss_cons (s1_set (i := 5) (k := 0) (by decide +kernel) rfl rfl (sm_se (SE.freeze (k := 1) (se_prim ok_add (ses_cons se_int (ses_cons (SE.el0 (se_call (fi := f__law_draw) (as := [.r 0 1, .v (.val 0)]) (.head _) rfl (by decide +kernel) rfl rfl rfl (by decide) rfl (sas_r rfl rfl (by decide +kernel) (by decide +kernel) (sas_v se_int sas_nil)))) ses_nil)) hrd_bin)))) (ss_cons (s1_set (i := 6) (k := 0) (by decide +kernel) rfl rfl (sm_se (se_call (fi := f__law_draw) (as := [.r 0 1, .v (.val 0)]) (.head _) rfl (by decide +kernel) rfl rfl rfl (by decide) rfl (sas_r rfl rfl (by decide +kernel) (by decide +kernel) (sas_v se_int sas_nil))))) (ss_cons (s1_set (i := 7) (k := 1) (by decide +kernel) rfl rfl (sm_se (se_lst (ms := []) (k := 0) rfl ses_nil rfl))) (ss_cons (s1_for (m := .el) (t := (.nm 8)) (it_rng1 (by decide +kernel) rfl (ses_cons (se_var (i := 1) (c := .F) rfl rfl rfl (by decide +kernel) (by decide +kernel)) ses_nil)) rfl (by decide +kernel) rfl (ss_cons (s1_set (i := 9) (k := 0) (by decide +kernel) rfl rfl (sm_se (se_call (fi := f__law_draw) (as := [.r 0 1, .v (.val 0)]) (.head _) rfl (by decide +kernel) rfl rfl rfl (by decide) rfl (sas_r rfl rfl (by decide +kernel) (by decide +kernel) (sas_v se_int sas_nil))))) (ss_one (s1_if (st_cmp rfl ok_lt (ses_cons (se_var (i := 9) (c := .F) rfl rfl rfl (by decide +kernel) (by decide +kernel)) (ses_cons (se_var (i := 6) (c := .F) rfl rfl rfl (by decide +kernel) (by decide +kernel)) ses_nil))) (ss_one (s1_append (i := 7) (k := 0) (by decide +kernel) rfl rfl (sm_se (se_tup (ms := [.val 0, .val 0]) rfl (ses_cons se_str (ses_cons (se_call (fi := f__law_cut) (as := [.r 0 1, .v (.val 0), .v (.val 0)]) (.tail _ (.tail _ (.tail _ (.head _)))) rfl (by decide +kernel) rfl rfl rfl (by decide) rfl (sas_r rfl rfl (by decide +kernel) (by decide +kernel) (sas_v (se_var (i := 3) (c := .F) rfl rfl rfl (by decide +kernel) (by decide +kernel)) (sas_v (se_var (i := 4) (c := .F) rfl rfl rfl (by decide +kernel) (by decide +kernel)) sas_nil)))) ses_nil)) (by decide))))) (ss_one (s1_append (i := 7) (k := 0) (by decide +kernel) rfl rfl (sm_se (se_tup (ms := [.val 0, .val 0, .val 0]) rfl (ses_cons se_str (ses_cons (se_call (fi := f__law_name) (as := [.r 0 1]) (.tail _ (.tail _ (.tail _ (.tail _ (.head _))))) rfl (by decide +kernel) rfl rfl rfl (by decide) rfl (sas_r rfl rfl (by decide +kernel) (by decide +kernel) sas_nil)) (ses_cons (SE.freeze (k := 1) (se_prim ok_add (ses_cons se_int (ses_cons (SE.el0 (se_call (fi := f__law_draw) (as := [.r 0 1, .v (.val 0)]) (.head _) rfl (by decide +kernel) rfl rfl rfl (by decide) rfl (sas_r rfl rfl (by decide +kernel) (by decide +kernel) (sas_v (se_var (i := 5) (c := .F) rfl rfl rfl (by decide +kernel) (by decide +kernel)) sas_nil)))) ses_nil)) hrd_bin)) ses_nil))) (by decide))))))))) (ss_cons (s1_if (st_tru rfl (se_var (i := 2) (c := .F) rfl rfl rfl (by decide +kernel) (by decide +kernel))) (ss_cons (s1_setLcA (i := 10) (k := 1) (by decide +kernel) rfl (slc_comp (k := 0) (own := [("turn", 8)]) (m := .el) (t := (.nm 8)) (it_rng1 (by decide +kernel) rfl (ses_cons (SE.rd (se_prim ok_add (ses_cons se_int (ses_cons (SE.el0 (se_call (fi := f__law_draw) (as := [.r 0 1, .v (.val 0)]) (.head _) rfl (by decide +kernel) rfl rfl rfl (by decide) rfl (sas_r rfl rfl (by decide +kernel) (by decide +kernel) (sas_v se_int sas_nil)))) ses_nil)) hrd_bin)) ses_nil)) rfl (by decide +kernel) (by decide +kernel) (by decide +kernel) (by decide +kernel) rfl sts_nil (se_call (fi := f__law_cut) (as := [.r 0 1, .v (.val 0), .v (.val 0)]) (.tail _ (.tail _ (.tail _ (.head _)))) rfl (by decide +kernel) rfl rfl rfl (by decide) rfl (sas_r rfl rfl (by decide +kernel) (by decide +kernel) (sas_v (se_var (i := 3) (c := .F) rfl rfl rfl (by decide +kernel) (by decide +kernel)) (sas_v (se_var (i := 4) (c := .F) rfl rfl rfl (by decide +kernel) (by decide +kernel)) sas_nil)))))) (ss_cons (s1_set (i := 11) (k := 0) (by decide +kernel) rfl rfl (sm_se (se_call (fi := f__law_draw) (as := [.r 0 1, .v (.val 0)]) (.head _) rfl (by decide +kernel) rfl rfl rfl (by decide) rfl (sas_r rfl rfl (by decide +kernel) (by decide +kernel) (sas_v (SE.freeze (k := 1) (se_prim ok_add (ses_cons (se_var (i := 1) (c := .F) rfl rfl rfl (by decide +kernel) (by decide +kernel)) (ses_cons se_int ses_nil)) hrd_bin)) sas_nil))))) (ss_one (s1_set (i := 7) (k := 1) (by decide +kernel) rfl rfl (sm_se (se_prim ok_add (ses_cons (SE.el0 (SE.freeze (k := 1) (se_prim ok_add (ses_cons (SE.el0 (SE.freeze (k := 1) (se_slice (se_var (i := 7) (c := .L 1) rfl rfl rfl (by decide +kernel) (by decide +kernel)) so_none (so_some (se_var (i := 11) (c := .F) rfl rfl rfl (by decide +kernel) (by decide +kernel)))))) (ses_cons (SE.el0 (SE.freeze (k := 1) (se_lst (ms := [.val 0]) (k := 0) rfl (ses_cons (se_tup (ms := [.val 0, .val 0]) rfl (ses_cons se_str (ses_cons (se_prim ok_tuple (ses_cons (se_var (i := 10) (c := .L 1) rfl rfl rfl (by decide +kernel) (by decide +kernel)) ses_nil) (hrd_ty (by decide +kernel) rfl rfl rfl rfl rfl)) ses_nil)) (by decide)) ses_nil) rfl))) ses_nil)) hrd_bin))) (ses_cons (SE.el0 (SE.freeze (k := 1) (se_slice (se_var (i := 7) (c := .L 1) rfl rfl rfl (by decide +kernel) (by decide +kernel)) (so_some (se_var (i := 11) (c := .F) rfl rfl rfl (by decide +kernel) (by decide +kernel))) so_none))) ses_nil)) hrd_bin)))))) ss_nil) (ss_cons (s1_set (i := 12) (k := 0) (by decide +kernel) rfl rfl (sm_se (se_call (fi := f__law_shares) (as := [.v (.val 0)]) (.tail _ (.head _)) rfl (by decide +kernel) rfl rfl rfl (by decide) rfl (sas_v (se_var (i := 3) (c := .F) rfl rfl rfl (by decide +kernel) (by decide +kernel)) sas_nil)))) (ss_cons (s1_set (i := 11) (k := 0) (by decide +kernel) rfl rfl (sm_se (se_call (fi := f__law_draw) (as := [.r 0 1, .v (.val 0)]) (.head _) rfl (by decide +kernel) rfl rfl rfl (by decide) rfl (sas_r rfl rfl (by decide +kernel) (by decide +kernel) (sas_v (se_prim ok_sub (ses_cons (se_prim ok_len (ses_cons (se_var (i := 12) (c := .F) rfl rfl rfl (by decide +kernel) (by decide +kernel)) ses_nil) (hrd_fn (by decide +kernel) rfl rfl rfl rfl rfl)) (ses_cons se_int ses_nil)) hrd_bin) sas_nil))))) (ss_cons (s1_set (i := 13) (k := 0) (by decide +kernel) rfl rfl (sm_se (se_tup (ms := [.val 0, .val 0]) rfl (ses_cons se_str (ses_cons (se_tup (ms := [.val 0, .val 0, .val 0]) rfl (ses_cons (SE.freeze (k := 1) (se_prim ok_add (ses_cons (SE.el0 (se_prim ok_ixE (ses_cons (se_var (i := 12) (c := .F) rfl rfl rfl (by decide +kernel) (by decide +kernel)) (ses_cons (se_var (i := 11) (c := .F) rfl rfl rfl (by decide +kernel) (by decide +kernel)) ses_nil)) (hrd_ix rfl))) (ses_cons (se_tup (ms := [.val 0]) rfl (ses_cons (se_var (i := 4) (c := .F) rfl rfl rfl (by decide +kernel) (by decide +kernel)) ses_nil) (by decide)) ses_nil)) hrd_bin)) (ses_cons (SE.freeze (k := 1) (se_prim ok_add (ses_cons (SE.el0 (se_prim ok_ixE (ses_cons (se_var (i := 12) (c := .F) rfl rfl rfl (by decide +kernel) (by decide +kernel)) (ses_cons (SE.rd (se_prim ok_add (ses_cons (se_var (i := 11) (c := .F) rfl rfl rfl (by decide +kernel) (by decide +kernel)) (ses_cons se_int ses_nil)) hrd_bin)) ses_nil)) (hrd_ix rfl))) (ses_cons (se_tup (ms := [.val 0]) rfl (ses_cons (se_prim ok_sub (ses_cons se_int (ses_cons (se_var (i := 4) (c := .F) rfl rfl rfl (by decide +kernel) (by decide +kernel)) ses_nil)) hrd_bin) ses_nil) (by decide)) ses_nil)) hrd_bin)) (ses_cons se_str ses_nil))) (by decide)) ses_nil)) (by decide)))) (ss_cons (s1_for (m := .el) (t := (.nm 8)) (it_rng1 (by decide +kernel) rfl (ses_cons (se_lock (se_prim ok_sub (ses_cons (se_prim ok_len (ses_cons (se_var (i := 7) (c := .L 1) rfl rfl rfl (by decide +kernel) (by decide +kernel)) ses_nil) (hrd_fn (by decide +kernel) rfl rfl rfl rfl rfl)) (ses_cons se_int ses_nil)) hrd_bin)) ses_nil)) rfl (by decide +kernel) rfl (ss_one (s1_if (st_not (st_tru rfl (SE.rd (se_call (fi := f__law_let) (as := [.v .rd]) (.tail _ (.tail _ (.head _))) rfl (by decide +kernel) rfl rfl rfl (by decide) rfl (sas_v (se_var (i := 7) (c := .L 1) rfl rfl rfl (by decide +kernel) (by decide +kernel)) sas_nil))))) (ss_one (s1_if (st_tru rfl (SE.rd (se_call (fi := f__law_let) (as := [.v .rd]) (.tail _ (.tail _ (.head _))) rfl (by decide +kernel) rfl rfl rfl (by decide) rfl (sas_v (SE.rd (se_prim ok_add (ses_cons (SE.el0 (SE.freeze (k := 1) (se_slice (se_var (i := 7) (c := .L 1) rfl rfl rfl (by decide +kernel) (by decide +kernel)) so_none (so_some (se_prim ok_neg (ses_cons se_int ses_nil) hrd_un))))) (ses_cons (SE.el0 (SE.freeze (k := 1) (se_lst (ms := [.val 0]) (k := 0) rfl (ses_cons (se_var (i := 13) (c := .F) rfl rfl rfl (by decide +kernel) (by decide +kernel)) ses_nil) rfl))) ses_nil)) hrd_bin)) sas_nil)))) (ss_one (s1_set (i := 7) (k := 1) (by decide +kernel) rfl rfl (sm_se (se_prim ok_add (ses_cons (SE.el0 (SE.freeze (k := 1) (se_slice (se_var (i := 7) (c := .L 1) rfl rfl rfl (by decide +kernel) (by decide +kernel)) so_none (so_some (se_prim ok_neg (ses_cons se_int ses_nil) hrd_un))))) (ses_cons (SE.el0 (SE.freeze (k := 1) (se_lst (ms := [.val 0]) (k := 0) rfl (ses_cons (se_var (i := 13) (c := .F) rfl rfl rfl (by decide +kernel) (by decide +kernel)) ses_nil) rfl))) ses_nil)) hrd_bin)))) (ss_one (s1_set (i := 7) (k := 1) (by decide +kernel) rfl rfl (sm_se (se_slice (se_var (i := 7) (c := .L 1) rfl rfl rfl (by decide +kernel) (by decide +kernel)) so_none (so_some (se_prim ok_neg (ses_cons se_int ses_nil) hrd_un)))))))) ss_nil))) (ss_cons (s1_if (st_not (st_tru rfl (SE.rd (se_call (fi := f__law_let) (as := [.v .rd]) (.tail _ (.tail _ (.head _))) rfl (by decide +kernel) rfl rfl rfl (by decide) rfl (sas_v (se_var (i := 7) (c := .L 1) rfl rfl rfl (by decide +kernel) (by decide +kernel)) sas_nil))))) (ss_one (s1_set (i := 7) (k := 1) (by decide +kernel) rfl rfl (sm_se (se_lst (ms := [.val 0]) (k := 0) rfl (ses_cons (se_tup (ms := [.val 0, .val 0, .val 0]) rfl (ses_cons se_str (ses_cons (se_call (fi := f__law_name) (as := [.r 0 1]) (.tail _ (.tail _ (.tail _ (.tail _ (.head _))))) rfl (by decide +kernel) rfl rfl rfl (by decide) rfl (sas_r rfl rfl (by decide +kernel) (by decide +kernel) sas_nil)) (ses_cons (se_var (i := 5) (c := .F) rfl rfl rfl (by decide +kernel) (by decide +kernel)) ses_nil))) (by decide)) ses_nil) rfl)))) ss_nil) (ss_one (s1_ret (sm_freeze (sm_mv (i := 7) rfl (.inl rfl) (by decide) (by decide +kernel) (by decide +kernel)))))))))))))))))⟩
def f__law_parts : FnI := { name := "_law_parts", ps := ["reel", "many", "woven"], ks := [.X 1, .F, .F], kr := 0, sem := semOf d__law_parts.1 14 [.X 1, .F, .F], kb := [] }
abbrev s__law_sides : Stmt := topS 43
def S__law_sides : Sx := { N := ["reel", "wide", "left", "right", "woven"], κ := [.X 1, .F, .F, .F, .F], np := 2, sc := defScope s__law_sides, k := 4, fs := [f__law_draw, f__law_parts], cs := [], kr := 0, as := ["reel", "wide", "left", "right", "woven"], bf := [], pr := [0] }
def d__law_sides : {f : M Out // SS S__law_sides (defBody s__law_sides) f} := ⟨_, (ss_cons (s1_set (i := 2) (k := 0) (by decide +kernel) rfl rfl (sm_se (SE.freeze (k := 1) (se_prim ok_add (ses_cons se_int (ses_cons (SE.el0 (se_call (fi := f__law_draw) (as := [.r 0 1, .v (.val 0)]) (.head _) rfl (by decide +kernel) rfl rfl rfl (by decide) rfl (sas_r rfl rfl (by decide +kernel) (by decide +kernel) (sas_v se_int sas_nil)))) ses_nil)) hrd_bin)))) (ss_cons (s1_set (i := 3) (k := 0) (by decide +kernel) rfl rfl (sm_se (SE.freeze (k := 1) (se_prim ok_add (ses_cons se_int (ses_cons (SE.el0 (se_call (fi := f__law_draw) (as := [.r 0 1, .v (.val 0)]) (.head _) rfl (by decide +kernel) rfl rfl rfl (by decide) rfl (sas_r rfl rfl (by decide +kernel) (by decide +kernel) (sas_v se_int sas_nil)))) ses_nil)) hrd_bin)))) (ss_cons (s1_if (st_tru rfl (se_var (i := 1) (c := .F) rfl rfl rfl (by decide +kernel) (by decide +kernel))) (ss_cons (s1_set (i := 2) (k := 0) (by decide +kernel) rfl rfl (sm_se (SE.freeze (k := 1) (se_prim ok_add (ses_cons se_int (ses_cons (SE.el0 (se_call (fi := f__law_draw) (as := [.r 0 1, .v (.val 0)]) (.head _) rfl (by decide +kernel) rfl rfl rfl (by decide) rfl (sas_r rfl rfl (by decide +kernel) (by decide +kernel) (sas_v se_int sas_nil)))) ses_nil)) hrd_bin)))) (ss_one (s1_set (i := 3) (k := 0) (by decide +kernel) rfl rfl (sm_se (SE.freeze (k := 1) (se_prim ok_add (ses_cons se_int (ses_cons (SE.el0 (se_call (fi := f__law_draw) (as := [.r 0 1, .v (.val 0)]) (.head _) rfl (by decide +kernel) rfl rfl rfl (by decide) rfl (sas_r rfl rfl (by decide +kernel) (by decide +kernel) (sas_v se_int sas_nil)))) ses_nil)) hrd_bin)))))) ss_nil) (ss_cons (s1_set (i := 4) (k := 0) (by decide +kernel) rfl rfl (sm_se (se_call (fi := f__law_draw) (as := [.r 0 1, .v (.val 0)]) (.head _) rfl (by decide +kernel) rfl rfl rfl (by decide) rfl (sas_r rfl rfl (by decide +kernel) (by decide +kernel) (sas_v se_int sas_nil))))) (ss_one (s1_ret (sm_se (SE.freeze (k := 1) (se_lst (ms := [.val 0, .val 0]) (k := 0) rfl (ses_cons (se_call (fi := f__law_parts) (as := [.r 0 1, .v (.val 0), .v (.val 0)]) (.tail _ (.head _)) rfl (by decide +kernel) rfl rfl rfl (by decide) rfl (sas_r rfl rfl (by decide +kernel) (by decide +kernel) (sas_v (se_var (i := 2) (c := .F) rfl rfl rfl (by decide +kernel) (by decide +kernel)) (sas_v (se_prim ok_eq (ses_cons (se_var (i := 4) (c := .F) rfl rfl rfl (by decide +kernel) (by decide +kernel)) (ses_cons se_int ses_nil)) (hrd_cmp rfl)) sas_nil)))) (ses_cons (se_call (fi := f__law_parts) (as := [.r 0 1, .v (.val 0), .v (.val 0)]) (.tail _ (.head _)) rfl (by decide +kernel) rfl rfl rfl (by decide) rfl (sas_r rfl rfl (by decide +kernel) (by decide +kernel) (sas_v (se_var (i := 3) (c := .F) rfl rfl rfl (by decide +kernel) (by decide +kernel)) (sas_v (se_prim ok_lt (ses_cons (se_var (i := 4) (c := .F) rfl rfl rfl (by decide +kernel) (by decide +kernel)) (ses_cons se_int ses_nil)) (hrd_cmp rfl)) sas_nil)))) ses_nil)) rfl)))))))))⟩
def f__law_sides : FnI := { name := "_law_sides", ps := ["reel", "wide"], ks := [.X 1, .F], kr := 0, sem := semOf d__law_sides.1 5 [.X 1, .F], kb := [] }
abbrev s__law_is : Stmt := topS 50
def S__law_is : Sx := { N := ["told", "due"], κ := [.F, .F], np := 2, sc := defScope s__law_is, k := 0, fs := [], cs := [], kr := 0, as := ["told", "due"], bf := [], pr := [] }
def d__law_is : {f : M Out // SS S__law_is (defBody s__law_is) f} := ⟨_, (ss_one (s1_ret (sm_se (se_and (se_isTy (T := "int") (by decide +kernel) rfl rfl rfl (by decide +kernel) (by decide +kernel) rfl rfl rfl (se_var (i := 0) (c := .F) rfl rfl rfl (by decide +kernel) (by decide +kernel))) (se_and (se_not (se_isTy (T := "bool") (by decide +kernel) rfl rfl rfl (by decide +kernel) (by decide +kernel) rfl rfl rfl (se_var (i := 0) (c := .F) rfl rfl rfl (by decide +kernel) (by decide +kernel)))) (se_one (se_prim ok_eq (ses_cons (se_var (i := 0) (c := .F) rfl rfl rfl (by decide +kernel) (by decide +kernel)) (ses_cons (se_var (i := 1) (c := .F) rfl rfl rfl (by decide +kernel) (by decide +kernel)) ses_nil)) (hrd_cmp rfl))))))))⟩
def f__law_is : FnI := { name := "_law_is", ps := ["told", "due"], ks := [.F, .F], kr := 0, sem := semOf d__law_is.1 2 [.F, .F], kb := [] }
abbrev s_part_cuts : Stmt := topS 10
def S_part_cuts : Sx := { N := ["part"], κ := [.F], np := 1, sc := defScope s_part_cuts, k := 0, fs := [], cs := [], kr := 0, as := ["part"], bf := [], pr := [] }
def d_part_cuts : {f : M Out // SS S_part_cuts (defBody s_part_cuts) f} := ⟨_, (ss_cons (s1_if (st_cmp rfl ok_eq (ses_cons (se_prim ok_ixR (ses_cons (se_var (i := 0) (c := .F) rfl rfl rfl (by decide +kernel) (by decide +kernel)) (ses_cons se_int ses_nil)) (hrd_ix rfl)) (ses_cons se_str ses_nil))) (ss_one (s1_ret (sm_se (se_tup (ms := []) rfl ses_nil (by decide))))) ss_nil) (ss_one (s1_ret (sm_se (se_if (st_cmp rfl ok_eq (ses_cons (se_prim ok_ixR (ses_cons (se_var (i := 0) (c := .F) rfl rfl rfl (by decide +kernel) (by decide +kernel)) (ses_cons se_int ses_nil)) (hrd_ix rfl)) (ses_cons se_str ses_nil))) (se_prim ok_ixE (ses_cons (se_var (i := 0) (c := .F) rfl rfl rfl (by decide +kernel) (by decide +kernel)) (ses_cons se_int ses_nil)) (hrd_ix rfl)) (se_tup (ms := [.val 0]) rfl (ses_cons (se_prim ok_ixE (ses_cons (se_var (i := 0) (c := .F) rfl rfl rfl (by decide +kernel) (by decide +kernel)) (ses_cons se_int ses_nil)) (hrd_ix rfl)) ses_nil) (by decide)))))))⟩
def f_part_cuts : FnI := { name := "part_cuts", ps := ["part"], ks := [.F], kr := 0, sem := semOf d_part_cuts.1 1 [.F], kb := [] }
abbrev s_cuts_of : Stmt := topS 11
def S_cuts_of : Sx := { N := ["code", "cut", "part"], κ := [.F, .F, .F], np := 1, sc := defScope s_cuts_of, k := 1, fs := [f_part_cuts], cs := [], kr := 0, as := ["code"], bf := [], pr := [] }
def d_cuts_of : {f : M Out // SS S_cuts_of (defBody s_cuts_of) f} := ⟨_, (ss_one (s1_ret (sm_se (se_prim ok_tuple (ses_cons (SE.el0 (SE.freeze (k := 1) (se_comp2 (slc2_comp (k := 0) (own := [("part", 2), ("cut", 1)]) (own1 := [1]) (m := .el) (t := (.nm 2)) (t1 := (.nm 1)) (it_val (.inr rfl) (se_var (i := 0) (c := .F) rfl rfl rfl (by decide +kernel) (by decide +kernel))) rfl rfl (by decide +kernel) (by decide +kernel) (by decide +kernel) (by decide +kernel) rfl (by decide +kernel) rfl rfl sts_nil (it_val (.inr rfl) (SE.el0 (se_call (fi := f_part_cuts) (as := [.v (.val 0)]) (.head _) rfl (by decide +kernel) rfl rfl rfl (by decide) rfl (sas_v (se_var (i := 2) (c := .F) rfl rfl rfl (by decide +kernel) (by decide +kernel)) sas_nil)))) sts_nil (se_var (i := 1) (c := .F) rfl rfl rfl (by decide +kernel) (by decide +kernel)))))) ses_nil) (hrd_ty (by decide +kernel) rfl rfl rfl rfl rfl)))))⟩
def f_cuts_of : FnI := { name := "cuts_of", ps := ["code"], ks := [.F], kr := 0, sem := semOf d_cuts_of.1 3 [.F], kb := [] }
abbrev s_marks_of : Stmt := topS 13
def S_marks_of : Sx := { N := ["code", "cut", "mark"], κ := [.F, .F, .F], np := 1, sc := defScope s_marks_of, k := 2, fs := [f_cuts_of], cs := [], kr := 0, as := ["code"], bf := [], pr := [] }
def d_marks_of : {f : M Out // SS S_marks_of (defBody s_marks_of) f} := ⟨_, (ss_one (s1_ret (sm_se (SE.freeze (k := 1) (se_comp2 (slc2_comp (k := 0) (own := [("cut", 1), ("mark", 2)]) (own1 := [2]) (m := .el) (t := (.nm 1)) (t1 := (.nm 2)) (it_val (.inr rfl) (SE.el0 (se_call (fi := f_cuts_of) (as := [.v (.val 0)]) (.head _) rfl (by decide +kernel) rfl rfl rfl (by decide) rfl (sas_v (se_var (i := 0) (c := .F) rfl rfl rfl (by decide +kernel) (by decide +kernel)) sas_nil)))) rfl rfl (by decide +kernel) (by decide +kernel) (by decide +kernel) (by decide +kernel) rfl (by decide +kernel) rfl rfl sts_nil (it_val (.inr rfl) (SE.el0 (SE.freeze (k := 1) (se_slice (se_var (i := 1) (c := .F) rfl rfl rfl (by decide +kernel) (by decide +kernel)) so_none (so_some se_int))))) sts_nil (se_var (i := 2) (c := .F) rfl rfl rfl (by decide +kernel) (by decide +kernel))))))))⟩
def f_marks_of : FnI := { name := "marks_of", ps := ["code"], ks := [.F], kr := 0, sem := semOf d_marks_of.1 3 [.F], kb := [] }
abbrev s_period_of : Stmt := topS 14
def S_period_of : Sx := { N := ["code", "told", "mark"], κ := [.F, .F, .F], np := 1, sc := defScope s_period_of, k := 3, fs := [f_marks_of], cs := [], kr := 0, as := ["code", "told", "mark"], bf := [("gcd", "math.gcd")], pr := [] }
def d_period_of : {f : M Out // SS S_period_of (defBody s_period_of) f} := ⟨_, (ss_cons (s1_set (i := 1) (k := 0) (by decide +kernel) rfl rfl (sm_se se_int)) (ss_cons (s1_for (m := .el) (t := (.nm 2)) (it_val (.inr rfl) (SE.el0 (se_call (fi := f_marks_of) (as := [.v (.val 0)]) (.head _) rfl (by decide +kernel) rfl rfl rfl (by decide) rfl (sas_v (se_var (i := 0) (c := .F) rfl rfl rfl (by decide +kernel) (by decide +kernel)) sas_nil)))) rfl (by decide +kernel) rfl (ss_one (s1_set (i := 1) (k := 0) (by decide +kernel) rfl rfl (sm_se (se_prim ok_fdiv (ses_cons (SE.rd (se_prim ok_mul (ses_cons (se_var (i := 1) (c := .F) rfl rfl rfl (by decide +kernel) (by decide +kernel)) (ses_cons (SE.el0 (se_prim ok_ixE (ses_cons (se_var (i := 2) (c := .F) rfl rfl rfl (by decide +kernel) (by decide +kernel)) (ses_cons se_int ses_nil)) (hrd_ix rfl))) ses_nil)) hrd_bin)) (ses_cons (se_prim ok_gcd (ses_cons (se_var (i := 1) (c := .F) rfl rfl rfl (by decide +kernel) (by decide +kernel)) (ses_cons (se_prim ok_ixR (ses_cons (se_var (i := 2) (c := .F) rfl rfl rfl (by decide +kernel) (by decide +kernel)) (ses_cons se_int ses_nil)) (hrd_ix rfl)) ses_nil)) (hrd_bf (id := "math.gcd") (.head _) (by decide +kernel) rfl rfl)) ses_nil)) hrd_bin))))) (ss_one (s1_ret (sm_se (se_var (i := 1) (c := .F) rfl rfl rfl (by decide +kernel) (by decide +kernel)))))))⟩
def f_period_of : FnI := { name := "period_of", ps := ["code"], ks := [.F], kr := 0, sem := semOf d_period_of.1 3 [.F], kb := [] }
abbrev s_reach_of : Stmt := topS 15
def S_reach_of : Sx := { N := ["code", "mark"], κ := [.F, .F], np := 1, sc := defScope s_reach_of, k := 3, fs := [f_marks_of], cs := [], kr := 0, as := ["code"], bf := [], pr := [] }
def d_reach_of : {f : M Out // SS S_reach_of (defBody s_reach_of) f} := ⟨_, (ss_one (s1_ret (sm_se (se_prim ok_maxL (ses_cons (SE.rd (se_prim ok_add (ses_cons (SE.el0 (SE.freeze (k := 1) (se_lst (ms := [.val 0]) (k := 0) rfl (ses_cons se_int ses_nil) rfl))) (ses_cons (SE.el0 (SE.freeze (k := 1) (se_comp (slc_comp (k := 0) (own := [("mark", 1)]) (m := .el) (t := (.nm 1)) (it_val (.inr rfl) (SE.el0 (se_call (fi := f_marks_of) (as := [.v (.val 0)]) (.head _) rfl (by decide +kernel) rfl rfl rfl (by decide) rfl (sas_v (se_var (i := 0) (c := .F) rfl rfl rfl (by decide +kernel) (by decide +kernel)) sas_nil)))) rfl (by decide +kernel) (by decide +kernel) (by decide +kernel) (by decide +kernel) rfl sts_nil (se_prim ok_abs (ses_cons (se_prim ok_ixR (ses_cons (se_var (i := 1) (c := .F) rfl rfl rfl (by decide +kernel) (by decide +kernel)) (ses_cons se_int ses_nil)) (hrd_ix rfl)) ses_nil) (hrd_fn (by decide +kernel) rfl rfl rfl rfl rfl)))))) ses_nil)) hrd_bin)) ses_nil) (hrd_fn (by decide +kernel) rfl rfl rfl rfl rfl)))))⟩
def f_reach_of : FnI := { name := "reach_of", ps := ["code"], ks := [.F], kr := 0, sem := semOf d_reach_of.1 2 [.F], kb := [] }
abbrev s_alike_bound : Stmt := topS 17
def S_alike_bound : Sx := { N := ["one", "other", "period"], κ := [.F, .F, .F], np := 2, sc := defScope s_alike_bound, k := 4, fs := [f_period_of, f_reach_of], cs := [], kr := 0, as := ["one", "other", "period"], bf := [("gcd", "math.gcd")], pr := [] }
def d_alike_bound : {f : M Out // SS S_alike_bound (defBody s_alike_bound) f} := ⟨_, (ss_cons (s1_set (i := 2) (k := 0) (by decide +kernel) rfl rfl (sm_se (se_prim ok_fdiv (ses_cons (SE.rd (se_prim ok_mul (ses_cons (SE.el0 (se_call (fi := f_period_of) (as := [.v (.val 0)]) (.head _) rfl (by decide +kernel) rfl rfl rfl (by decide) rfl (sas_v (se_var (i := 0) (c := .F) rfl rfl rfl (by decide +kernel) (by decide +kernel)) sas_nil))) (ses_cons (SE.el0 (se_call (fi := f_period_of) (as := [.v (.val 0)]) (.head _) rfl (by decide +kernel) rfl rfl rfl (by decide) rfl (sas_v (se_var (i := 1) (c := .F) rfl rfl rfl (by decide +kernel) (by decide +kernel)) sas_nil))) ses_nil)) hrd_bin)) (ses_cons (se_prim ok_gcd (ses_cons (SE.rd (se_call (fi := f_period_of) (as := [.v (.val 0)]) (.head _) rfl (by decide +kernel) rfl rfl rfl (by decide) rfl (sas_v (se_var (i := 0) (c := .F) rfl rfl rfl (by decide +kernel) (by decide +kernel)) sas_nil))) (ses_cons (SE.rd (se_call (fi := f_period_of) (as := [.v (.val 0)]) (.head _) rfl (by decide +kernel) rfl rfl rfl (by decide) rfl (sas_v (se_var (i := 1) (c := .F) rfl rfl rfl (by decide +kernel) (by decide +kernel)) sas_nil))) ses_nil)) (hrd_bf (id := "math.gcd") (.head _) (by decide +kernel) rfl rfl)) ses_nil)) hrd_bin))) (ss_one (s1_ret (sm_se (SE.freeze (k := 1) (se_prim ok_mul (ses_cons (se_var (i := 2) (c := .F) rfl rfl rfl (by decide +kernel) (by decide +kernel)) (ses_cons (SE.el0 (SE.freeze (k := 1) (se_prim ok_add (ses_cons (SE.el0 (SE.freeze (k := 1) (se_prim ok_mul (ses_cons se_int (ses_cons (se_prim ok_max2 (ses_cons (SE.rd (se_call (fi := f_reach_of) (as := [.v (.val 0)]) (.tail _ (.head _)) rfl (by decide +kernel) rfl rfl rfl (by decide) rfl (sas_v (se_var (i := 0) (c := .F) rfl rfl rfl (by decide +kernel) (by decide +kernel)) sas_nil))) (ses_cons (SE.rd (se_call (fi := f_reach_of) (as := [.v (.val 0)]) (.tail _ (.head _)) rfl (by decide +kernel) rfl rfl rfl (by decide) rfl (sas_v (se_var (i := 1) (c := .F) rfl rfl rfl (by decide +kernel) (by decide +kernel)) sas_nil))) ses_nil)) (hrd_fn (by decide +kernel) rfl rfl rfl rfl rfl)) ses_nil)) hrd_bin))) (ses_cons se_int ses_nil)) hrd_bin))) ses_nil)) hrd_bin))))))⟩
def f_alike_bound : FnI := { name := "alike_bound", ps := ["one", "other"], ks := [.F, .F], kr := 0, sem := semOf d_alike_bound.1 3 [.F, .F], kb := [(0, ["other", "one"], [1, 0])] }
abbrev s__law_sums : Stmt := topS 51
def S__law_sums : Sx := { N := ["reel", "wide", "sides", "due"], κ := [.X 1, .F, .F, .F], np := 1, sc := defScope s__law_sums, k := 5, fs := [f__law_sides, f__law_bound, f__law_is, f_alike_bound], cs := [], kr := 0, as := ["reel", "wide", "sides", "due"], bf := [], pr := [0] }
def d__law_sums : {f : M Out // SS S__law_sums (defBody s__law_sums) f} := ⟨_, (ss_cons (s1_for (m := .el) (t := (.nm 1)) (it_val (.inr rfl) (SE.el0 (SE.freeze (k := 1) (se_lst (ms := [.val 0, .val 0, .val 0]) (k := 0) rfl (ses_cons se_bl (ses_cons se_bl (ses_cons se_bl ses_nil))) rfl)))) rfl (by decide +kernel) rfl (ss_cons (s1_set (i := 2) (k := 0) (by decide +kernel) rfl rfl (sm_se (se_call (fi := f__law_sides) (as := [.r 0 1, .v (.val 0)]) (.head _) rfl (by decide +kernel) rfl rfl rfl (by decide) rfl (sas_r rfl rfl (by decide +kernel) (by decide +kernel) (sas_v (se_var (i := 1) (c := .F) rfl rfl rfl (by decide +kernel) (by decide +kernel)) sas_nil))))) (ss_cons (s1_set (i := 3) (k := 0) (by decide +kernel) rfl rfl (sm_se (se_call (fi := f__law_bound) (as := [.v (.val 0), .v (.val 0)]) (.tail _ (.head _)) rfl (by decide +kernel) rfl rfl rfl (by decide) rfl (sas_v (se_prim ok_ixE (ses_cons (se_var (i := 2) (c := .F) rfl rfl rfl (by decide +kernel) (by decide +kernel)) (ses_cons se_int ses_nil)) (hrd_ix rfl)) (sas_v (se_prim ok_ixE (ses_cons (se_var (i := 2) (c := .F) rfl rfl rfl (by decide +kernel) (by decide +kernel)) (ses_cons se_int ses_nil)) (hrd_ix rfl)) sas_nil))))) (ss_cons (s1_if (st_not (st_tru rfl (SE.rd (se_call (fi := f__law_is) (as := [.v (.val 0), .v (.val 0)]) (.tail _ (.tail _ (.head _))) rfl (by decide +kernel) rfl rfl rfl (by decide) rfl (sas_v (se_call (fi := f_alike_bound) (as := [.v (.val 0), .v (.val 0)]) (.tail _ (.tail _ (.tail _ (.head _)))) rfl (by decide +kernel) rfl rfl rfl (by decide) rfl (sas_v (se_prim ok_tuple (ses_cons (SE.el0 (se_prim ok_ixE (ses_cons (se_var (i := 2) (c := .F) rfl rfl rfl (by decide +kernel) (by decide +kernel)) (ses_cons se_int ses_nil)) (hrd_ix rfl))) ses_nil) (hrd_ty (by decide +kernel) rfl rfl rfl rfl rfl)) (sas_v (se_prim ok_tuple (ses_cons (SE.el0 (se_prim ok_ixE (ses_cons (se_var (i := 2) (c := .F) rfl rfl rfl (by decide +kernel) (by decide +kernel)) (ses_cons se_int ses_nil)) (hrd_ix rfl))) ses_nil) (hrd_ty (by decide +kernel) rfl rfl rfl rfl rfl)) sas_nil))) (sas_v (se_var (i := 3) (c := .F) rfl rfl rfl (by decide +kernel) (by decide +kernel)) sas_nil)))))) (ss_one (s1_ret (sm_se se_bl))) ss_nil) (ss_one (s1_if (st_not (st_tru rfl (SE.rd (se_call (fi := f__law_is) (as := [.v (.val 0), .v (.val 0)]) (.tail _ (.tail _ (.head _))) rfl (by decide +kernel) rfl rfl rfl (by decide) rfl (sas_v (se_callK (fi := f_alike_bound) (as := [.v (.val 0), .v (.val 0)]) (π := [1, 0]) (.tail _ (.tail _ (.tail _ (.head _)))) rfl (by decide +kernel) rfl rfl (.head _) rfl (by decide) rfl rfl rfl (by decide) rfl (sas_v (se_prim ok_tuple (ses_cons (SE.el0 (se_prim ok_ixE (ses_cons (se_var (i := 2) (c := .F) rfl rfl rfl (by decide +kernel) (by decide +kernel)) (ses_cons se_int ses_nil)) (hrd_ix rfl))) ses_nil) (hrd_ty (by decide +kernel) rfl rfl rfl rfl rfl)) (sas_v (se_prim ok_tuple (ses_cons (SE.el0 (se_prim ok_ixE (ses_cons (se_var (i := 2) (c := .F) rfl rfl rfl (by decide +kernel) (by decide +kernel)) (ses_cons se_int ses_nil)) (hrd_ix rfl))) ses_nil) (hrd_ty (by decide +kernel) rfl rfl rfl rfl rfl)) sas_nil))) (sas_v (se_var (i := 3) (c := .F) rfl rfl rfl (by decide +kernel) (by decide +kernel)) sas_nil)))))) (ss_one (s1_ret (sm_se se_bl))) ss_nil)))))) (ss_one (s1_ret (sm_se se_bl))))⟩
def f__law_sums : FnI := { name := "_law_sums", ps := ["reel"], ks := [.X 1], kr := 0, sem := semOf d__law_sums.1 4 [.X 1], kb := [] }
abbrev s__law_long : Stmt := topS 49
def S__law_long : Sx := { N := ["reel", "name", "parts", "turn", "first", "last"], κ := [.X 1, .F, .L 1, .F, .F, .F], np := 1, sc := defScope s__law_long, k := 2, fs := [f__law_name, f__law_draw, f__law_way], cs := [], kr := 0, as := ["reel", "name", "parts", "turn", "first", "last"], bf := [], pr := [0] }
def d__law_long : {f : M Out // SS S__law_long (defBody s__law_long) f} := ⟨_, (ss_cons (s1_set (i := 1) (k := 0) (by decide +kernel) rfl rfl (sm_se (se_call (fi := f__law_name) (as := [.r 0 1]) (.head _) rfl (by decide +kernel) rfl rfl rfl (by decide) rfl (sas_r rfl rfl (by decide +kernel) (by decide +kernel) sas_nil)))) (ss_cons (s1_set (i := 2) (k := 1) (by decide +kernel) rfl rfl (sm_se (se_lst (ms := []) (k := 0) rfl ses_nil rfl))) (ss_cons (s1_for (m := .el) (t := (.nm 3)) (it_rng1 (by decide +kernel) rfl (ses_cons se_int ses_nil)) rfl (by decide +kernel) rfl (ss_cons (s1_set (i := 4) (k := 0) (by decide +kernel) rfl rfl (sm_se (se_tup (ms := [.val 0, .val 0, .val 0]) rfl (ses_cons (se_call (fi := f__law_draw) (as := [.r 0 1, .v (.val 0)]) (.tail _ (.head _)) rfl (by decide +kernel) rfl rfl rfl (by decide) rfl (sas_r rfl rfl (by decide +kernel) (by decide +kernel) (sas_v se_int sas_nil))) (ses_cons se_int (ses_cons (se_prim ok_sub (ses_cons (SE.rd (se_call (fi := f__law_draw) (as := [.r 0 1, .v (.val 0)]) (.tail _ (.head _)) rfl (by decide +kernel) rfl rfl rfl (by decide) rfl (sas_r rfl rfl (by decide +kernel) (by decide +kernel) (sas_v se_int sas_nil)))) (ses_cons se_int ses_nil)) hrd_bin) ses_nil))) (by decide)))) (ss_cons (s1_append (i := 2) (k := 0) (by decide +kernel) rfl rfl (sm_se (se_tup (ms := [.val 0, .val 0]) rfl (ses_cons se_str (ses_cons (se_tup (ms := [.val 0, .val 0, .val 0]) rfl (ses_cons (se_var (i := 4) (c := .F) rfl rfl rfl (by decide +kernel) (by decide +kernel)) (ses_cons (se_tup (ms := [.val 0, .val 0, .val 0]) rfl (ses_cons (se_prim ok_ixE (ses_cons (se_var (i := 4) (c := .F) rfl rfl rfl (by decide +kernel) (by decide +kernel)) (ses_cons se_int ses_nil)) (hrd_ix rfl)) (ses_cons se_int (ses_cons (se_prim ok_sub (ses_cons (SE.rd (se_call (fi := f__law_draw) (as := [.r 0 1, .v (.val 0)]) (.tail _ (.head _)) rfl (by decide +kernel) rfl rfl rfl (by decide) rfl (sas_r rfl rfl (by decide +kernel) (by decide +kernel) (sas_v se_int sas_nil)))) (ses_cons se_int ses_nil)) hrd_bin) ses_nil))) (by decide)) (ses_cons (se_call (fi := f__law_way) (as := [.r 0 1]) (.tail _ (.tail _ (.head _))) rfl (by decide +kernel) rfl rfl rfl (by decide) rfl (sas_r rfl rfl (by decide +kernel) (by decide +kernel) sas_nil)) ses_nil))) (by decide)) ses_nil)) (by decide)))) (ss_one (s1_if (st_cmp rfl ok_eq (ses_cons (SE.rd (se_call (fi := f__law_draw) (as := [.r 0 1, .v (.val 0)]) (.tail _ (.head _)) rfl (by decide +kernel) rfl rfl rfl (by decide) rfl (sas_r rfl rfl (by decide +kernel) (by decide +kernel) (sas_v se_int sas_nil)))) (ses_cons se_int ses_nil))) (ss_one (s1_setIx (i := 2) (k := 0) (n := 0) rfl rfl (sm_se (se_tup (ms := [.val 0, .val 0, .val 0]) rfl (ses_cons se_str (ses_cons (se_var (i := 1) (c := .F) rfl rfl rfl (by decide +kernel) (by decide +kernel)) (ses_cons (SE.freeze (k := 1) (se_prim ok_add (ses_cons se_int (ses_cons (SE.el0 (se_call (fi := f__law_draw) (as := [.r 0 1, .v (.val 0)]) (.tail _ (.head _)) rfl (by decide +kernel) rfl rfl rfl (by decide) rfl (sas_r rfl rfl (by decide +kernel) (by decide +kernel) (sas_v se_int sas_nil)))) ses_nil)) hrd_bin)) ses_nil))) (by decide))) (spa_var (by decide +kernel) rfl) (se_prim ok_neg (ses_cons se_int ses_nil) hrd_un))) ss_nil))))) (ss_cons (s1_set (i := 5) (k := 0) (by decide +kernel) rfl rfl (sm_se (SE.freeze (k := 1) (se_prim ok_add (ses_cons se_int (ses_cons (SE.el0 (se_call (fi := f__law_draw) (as := [.r 0 1, .v (.val 0)]) (.tail _ (.head _)) rfl (by decide +kernel) rfl rfl rfl (by decide) rfl (sas_r rfl rfl (by decide +kernel) (by decide +kernel) (sas_v se_int sas_nil)))) ses_nil)) hrd_bin)))) (ss_one (s1_ret (sm_se (SE.freeze (k := 1) (se_lst (ms := [.val 0, .val 0]) (k := 0) rfl (ses_cons (SE.freeze (k := 1) (se_prim ok_add (ses_cons (se_var (i := 2) (c := .L 1) rfl rfl rfl (by decide +kernel) (by decide +kernel)) (ses_cons (SE.el0 (SE.freeze (k := 1) (se_lst (ms := [.val 0]) (k := 0) rfl (ses_cons (se_tup (ms := [.val 0, .val 0, .val 0]) rfl (ses_cons se_str (ses_cons (se_var (i := 1) (c := .F) rfl rfl rfl (by decide +kernel) (by decide +kernel)) (ses_cons (se_var (i := 5) (c := .F) rfl rfl rfl (by decide +kernel) (by decide +kernel)) ses_nil))) (by decide)) ses_nil) rfl))) ses_nil)) hrd_bin)) (ses_cons (SE.freeze (k := 1) (se_prim ok_add (ses_cons (se_var (i := 2) (c := .L 1) rfl rfl rfl (by decide +kernel) (by decide +kernel)) (ses_cons (SE.el0 (SE.freeze (k := 1) (se_lst (ms := [.val 0]) (k := 0) rfl (ses_cons (se_tup (ms := [.val 0, .val 0, .val 0]) rfl (ses_cons se_str (ses_cons (se_var (i := 1) (c := .F) rfl rfl rfl (by decide +kernel) (by decide +kernel)) (ses_cons (se_prim ok_sub (ses_cons se_int (ses_cons (se_var (i := 5) (c := .F) rfl rfl rfl (by decide +kernel) (by decide +kernel)) ses_nil)) hrd_bin) ses_nil))) (by decide)) ses_nil) rfl))) ses_nil)) hrd_bin)) ses_nil)) rfl)))))))))⟩
def f__law_long : FnI := { name := "_law_long", ps := ["reel"], ks := [.X 1], kr := 0, sem := semOf d__law_long.1 6 [.X 1], kb := [] }
abbrev s_law : Stmt := topS 54
def S_law : Sx := { N := ["script", "reel", "always", "pairs", "met", "pair", "top", "early", "n", "lengths", "side", "heard"], κ := [.F, .X 1, .F, .L 1, .F, .F, .F, .F, .F, .F, .F, .F], np := 1, sc := defScope s_law, k := 7, fs := [f__law_reel, f__law_always, f__law_late, f__law_window, f__law_split, f__law_woven, f__law_draw, f__law_bound, f__law_papers, f__law_strange, f__law_sums, f__law_long, f__law_unlike], cs := [], kr := 0, as := ["script", "reel", "always", "pairs", "met", "pair", "top", "early", "n", "lengths", "side", "heard"], bf := [], pr := [] }
def d_law : {f : M Out // SS S_law (defBody s_law) f} := ⟨_, (ss_cons (s1_set (i := 1) (k := 1) (by decide +kernel) rfl rfl (sm_se (se_call (fi := f__law_reel) (as := [.v (.val 0)]) (.head _) rfl (by decide +kernel) rfl rfl rfl (by decide) rfl (sas_v (se_var (i := 0) (c := .F) rfl rfl rfl (by decide +kernel) (by decide +kernel)) sas_nil)))) (ss_cons (s1_set (i := 2) (k := 0) (by decide +kernel) rfl rfl (sm_se (se_call (fi := f__law_always) (as := [.r 1 1]) (.tail _ (.head _)) rfl (by decide +kernel) rfl rfl rfl (by decide) rfl (sas_r rfl rfl (by decide +kernel) (by decide +kernel) sas_nil)))) (ss_cons (s1_set (i := 3) (k := 1) (by decide +kernel) rfl rfl (sm_se (se_lst (ms := [.val 0, .val 0, .val 0, .val 0, .val 0]) (k := 0) rfl (ses_cons (se_call (fi := f__law_late) (as := [.r 1 1]) (.tail _ (.tail _ (.head _))) rfl (by decide +kernel) rfl rfl rfl (by decide) rfl (sas_r rfl rfl (by decide +kernel) (by decide +kernel) sas_nil)) (ses_cons (se_call (fi := f__law_window) (as := [.r 1 1]) (.tail _ (.tail _ (.tail _ (.head _)))) rfl (by decide +kernel) rfl rfl rfl (by decide) rfl (sas_r rfl rfl (by decide +kernel) (by decide +kernel) sas_nil)) (ses_cons (se_call (fi := f__law_split) (as := [.r 1 1]) (.tail _ (.tail _ (.tail _ (.tail _ (.head _))))) rfl (by decide +kernel) rfl rfl rfl (by decide) rfl (sas_r rfl rfl (by decide +kernel) (by decide +kernel) sas_nil)) (ses_cons (se_var (i := 2) (c := .F) rfl rfl rfl (by decide +kernel) (by decide +kernel)) (ses_cons (se_call (fi := f__law_woven) (as := [.r 1 1]) (.tail _ (.tail _ (.tail _ (.tail _ (.tail _ (.head _)))))) rfl (by decide +kernel) rfl rfl rfl (by decide) rfl (sas_r rfl rfl (by decide +kernel) (by decide +kernel) sas_nil)) ses_nil))))) rfl))) (ss_cons (s1_if (st_cmp rfl ok_eq (ses_cons (SE.rd (se_call (fi := f__law_draw) (as := [.r 1 1, .v (.val 0)]) (.tail _ (.tail _ (.tail _ (.tail _ (.tail _ (.tail _ (.head _))))))) rfl (by decide +kernel) rfl rfl rfl (by decide) rfl (sas_r rfl rfl (by decide +kernel) (by decide +kernel) (sas_v se_int sas_nil)))) (ses_cons se_int ses_nil))) (ss_one (s1_append (i := 3) (k := 0) (by decide +kernel) rfl rfl (sm_se (se_call (fi := f__law_long) (as := [.r 1 1]) (.tail _ (.tail _ (.tail _ (.tail _ (.tail _ (.tail _ (.tail _ (.tail _ (.tail _ (.tail _ (.tail _ (.head _)))))))))))) rfl (by decide +kernel) rfl rfl rfl (by decide) rfl (sas_r rfl rfl (by decide +kernel) (by decide +kernel) sas_nil))))) ss_nil) (ss_cons (s1_set (i := 4) (k := 0) (by decide +kernel) rfl rfl (sm_se (SE.freeze (k := 1) (se_lst (ms := [.val 0, .val 0]) (k := 0) rfl (ses_cons se_int (ses_cons se_int ses_nil)) rfl)))) (ss_frz (i := 3) (k := 1) rfl (ss_cons (s1_for (m := .el) (t := (.nm 5)) (it_val (.inr rfl) (se_var (i := 3) (c := .F) rfl rfl rfl (by decide +kernel) (by decide +kernel))) rfl (by decide +kernel) rfl (ss_cons (s1_set (i := 6) (k := 0) (by decide +kernel) rfl rfl (sm_se (se_call (fi := f__law_bound) (as := [.v (.val 0), .v (.val 0)]) (.tail _ (.tail _ (.tail _ (.tail _ (.tail _ (.tail _ (.tail _ (.head _)))))))) rfl (by decide +kernel) rfl rfl rfl (by decide) rfl (sas_v (se_prim ok_ixE (ses_cons (se_var (i := 5) (c := .F) rfl rfl rfl (by decide +kernel) (by decide +kernel)) (ses_cons se_int ses_nil)) (hrd_ix rfl)) (sas_v (se_prim ok_ixE (ses_cons (se_var (i := 5) (c := .F) rfl rfl rfl (by decide +kernel) (by decide +kernel)) (ses_cons se_int ses_nil)) (hrd_ix rfl)) sas_nil))))) (ss_cons (s1_set (i := 7) (k := 0) (by decide +kernel) rfl rfl (sm_se se_int)) (ss_cons (s1_for (m := .el) (t := (.nm 8)) (it_rng1 (by decide +kernel) rfl (ses_cons (se_var (i := 6) (c := .F) rfl rfl rfl (by decide +kernel) (by decide +kernel)) ses_nil)) rfl (by decide +kernel) rfl (ss_one (s1_if (st_tru rfl (SE.rd (se_call (fi := f__law_unlike) (as := [.v (.val 0), .v (.val 0), .v (.val 0)]) (.tail _ (.tail _ (.tail _ (.tail _ (.tail _ (.tail _ (.tail _ (.tail _ (.tail _ (.tail _ (.tail _ (.tail _ (.head _))))))))))))) rfl (by decide +kernel) rfl rfl rfl (by decide) rfl (sas_v (se_prim ok_ixE (ses_cons (se_var (i := 5) (c := .F) rfl rfl rfl (by decide +kernel) (by decide +kernel)) (ses_cons se_int ses_nil)) (hrd_ix rfl)) (sas_v (se_prim ok_ixE (ses_cons (se_var (i := 5) (c := .F) rfl rfl rfl (by decide +kernel) (by decide +kernel)) (ses_cons se_int ses_nil)) (hrd_ix rfl)) (sas_v (se_var (i := 8) (c := .F) rfl rfl rfl (by decide +kernel) (by decide +kernel)) sas_nil)))))) (ss_cons (s1_set (i := 7) (k := 0) (by decide +kernel) rfl rfl (sm_se (se_var (i := 8) (c := .F) rfl rfl rfl (by decide +kernel) (by decide +kernel)))) (ss_one s1_break)) ss_nil))) (ss_cons (s1_set (i := 9) (k := 0) (by decide +kernel) rfl rfl (sm_se (SE.freeze (k := 1) (se_lst (ms := [.val 0, .val 0, .val 0, .val 0, .val 0, .val 0, .val 0]) (k := 0) rfl (ses_cons (se_prim ok_sub (ses_cons (se_var (i := 7) (c := .F) rfl rfl rfl (by decide +kernel) (by decide +kernel)) (ses_cons se_int ses_nil)) hrd_bin) (ses_cons (se_var (i := 7) (c := .F) rfl rfl rfl (by decide +kernel) (by decide +kernel)) (ses_cons (SE.freeze (k := 1) (se_prim ok_add (ses_cons (se_var (i := 7) (c := .F) rfl rfl rfl (by decide +kernel) (by decide +kernel)) (ses_cons se_int ses_nil)) hrd_bin)) (ses_cons (SE.freeze (k := 1) (se_prim ok_add (ses_cons (SE.el0 (SE.freeze (k := 1) (se_prim ok_add (ses_cons (se_var (i := 7) (c := .F) rfl rfl rfl (by decide +kernel) (by decide +kernel)) (ses_cons se_int ses_nil)) hrd_bin))) (ses_cons (SE.el0 (se_call (fi := f__law_draw) (as := [.r 1 1, .v (.val 0)]) (.tail _ (.tail _ (.tail _ (.tail _ (.tail _ (.tail _ (.head _))))))) rfl (by decide +kernel) rfl rfl rfl (by decide) rfl (sas_r rfl rfl (by decide +kernel) (by decide +kernel) (sas_v se_int sas_nil)))) ses_nil)) hrd_bin)) (ses_cons se_int (ses_cons se_int (ses_cons (se_prim ok_sub (ses_cons se_int (ses_cons (SE.rd (se_call (fi := f__law_draw) (as := [.r 1 1, .v (.val 0)]) (.tail _ (.tail _ (.tail _ (.tail _ (.tail _ (.tail _ (.head _))))))) rfl (by decide +kernel) rfl rfl rfl (by decide) rfl (sas_r rfl rfl (by decide +kernel) (by decide +kernel) (sas_v se_int sas_nil)))) ses_nil)) hrd_bin) ses_nil))))))) rfl)))) (ss_cons (s1_set (i := 9) (k := 0) (by decide +kernel) rfl rfl (sm_se (SE.freeze (k := 1) (se_prim ok_add (ses_cons (se_var (i := 9) (c := .F) rfl rfl rfl (by decide +kernel) (by decide +kernel)) (ses_cons (SE.el0 (SE.freeze (k := 1) (se_lst (ms := [.val 0, .val 0, .val 0, .val 0, .val 0]) (k := 0) rfl (ses_cons (se_call (fi := f__law_draw) (as := [.r 1 1, .v (.val 0)]) (.tail _ (.tail _ (.tail _ (.tail _ (.tail _ (.tail _ (.head _))))))) rfl (by decide +kernel) rfl rfl rfl (by decide) rfl (sas_r rfl rfl (by decide +kernel) (by decide +kernel) (sas_v se_int sas_nil))) (ses_cons (se_call (fi := f__law_draw) (as := [.r 1 1, .v (.val 0)]) (.tail _ (.tail _ (.tail _ (.tail _ (.tail _ (.tail _ (.head _))))))) rfl (by decide +kernel) rfl rfl rfl (by decide) rfl (sas_r rfl rfl (by decide +kernel) (by decide +kernel) (sas_v (se_var (i := 6) (c := .F) rfl rfl rfl (by decide +kernel) (by decide +kernel)) sas_nil))) (ses_cons (se_call (fi := f__law_draw) (as := [.r 1 1, .v (.val 0)]) (.tail _ (.tail _ (.tail _ (.tail _ (.tail _ (.tail _ (.head _))))))) rfl (by decide +kernel) rfl rfl rfl (by decide) rfl (sas_r rfl rfl (by decide +kernel) (by decide +kernel) (sas_v se_int sas_nil))) (ses_cons se_int (ses_cons (SE.freeze (k := 1) (se_prim ok_add (ses_cons se_int (ses_cons (SE.el0 (se_call (fi := f__law_draw) (as := [.r 1 1, .v (.val 0)]) (.tail _ (.tail _ (.tail _ (.tail _ (.tail _ (.tail _ (.head _))))))) rfl (by decide +kernel) rfl rfl rfl (by decide) rfl (sas_r rfl rfl (by decide +kernel) (by decide +kernel) (sas_v se_int sas_nil)))) ses_nil)) hrd_bin)) ses_nil))))) rfl))) ses_nil)) hrd_bin)))) (ss_cons (s1_set (i := 10) (k := 0) (by decide +kernel) rfl rfl (sm_se (se_call (fi := f__law_draw) (as := [.r 1 1, .v (.val 0)]) (.tail _ (.tail _ (.tail _ (.tail _ (.tail _ (.tail _ (.head _))))))) rfl (by decide +kernel) rfl rfl rfl (by decide) rfl (sas_r rfl rfl (by decide +kernel) (by decide +kernel) (sas_v se_int sas_nil))))) (ss_cons (s1_set (i := 11) (k := 0) (by decide +kernel) rfl rfl (sm_se (se_call (fi := f__law_papers) (as := [.v (.val 0), .v (.val 0), .v (.val 0)]) (.tail _ (.tail _ (.tail _ (.tail _ (.tail _ (.tail _ (.tail _ (.tail _ (.head _))))))))) rfl (by decide +kernel) rfl rfl rfl (by decide) rfl (sas_v (se_prim ok_ixE (ses_cons (se_var (i := 5) (c := .F) rfl rfl rfl (by decide +kernel) (by decide +kernel)) (ses_cons (se_var (i := 10) (c := .F) rfl rfl rfl (by decide +kernel) (by decide +kernel)) ses_nil)) (hrd_ix rfl)) (sas_v (se_prim ok_ixE (ses_cons (se_var (i := 5) (c := .F) rfl rfl rfl (by decide +kernel) (by decide +kernel)) (ses_cons (se_prim ok_sub (ses_cons se_int (ses_cons (se_var (i := 10) (c := .F) rfl rfl rfl (by decide +kernel) (by decide +kernel)) ses_nil)) hrd_bin) ses_nil)) (hrd_ix rfl)) (sas_v (se_var (i := 9) (c := .F) rfl rfl rfl (by decide +kernel) (by decide +kernel)) sas_nil)))))) (ss_cons (s1_if (st_cmp rfl ok_eq (ses_cons (se_var (i := 11) (c := .F) rfl rfl rfl (by decide +kernel) (by decide +kernel)) (ses_cons (SE.rd (se_lst (ms := []) (k := 0) rfl ses_nil rfl)) ses_nil))) (ss_one (s1_ret (sm_se se_bl))) ss_nil) (ss_one (s1_set (i := 4) (k := 0) (by decide +kernel) rfl rfl (sm_se (SE.freeze (k := 1) (se_lst (ms := [.val 0, .val 0]) (k := 0) rfl (ses_cons (SE.freeze (k := 1) (se_prim ok_add (ses_cons (SE.el0 (se_prim ok_ixE (ses_cons (se_var (i := 4) (c := .F) rfl rfl rfl (by decide +kernel) (by decide +kernel)) (ses_cons se_int ses_nil)) (hrd_ix rfl))) (ses_cons (SE.el0 (se_prim ok_ixE (ses_cons (se_var (i := 11) (c := .F) rfl rfl rfl (by decide +kernel) (by decide +kernel)) (ses_cons se_int ses_nil)) (hrd_ix rfl))) ses_nil)) hrd_bin)) (ses_cons (SE.freeze (k := 1) (se_prim ok_add (ses_cons (SE.el0 (se_prim ok_ixE (ses_cons (se_var (i := 4) (c := .F) rfl rfl rfl (by decide +kernel) (by decide +kernel)) (ses_cons se_int ses_nil)) (hrd_ix rfl))) (ses_cons (SE.el0 (se_prim ok_ixE (ses_cons (se_var (i := 11) (c := .F) rfl rfl rfl (by decide +kernel) (by decide +kernel)) (ses_cons se_int ses_nil)) (hrd_ix rfl))) ses_nil)) hrd_bin)) ses_nil)) rfl)))))))))))))) (ss_cons (s1_if (st_not (st_tru rfl (SE.rd (se_call (fi := f__law_strange) (as := [.v (.val 0), .v (.val 0), .v (.val 0)]) (.tail _ (.tail _ (.tail _ (.tail _ (.tail _ (.tail _ (.tail _ (.tail _ (.tail _ (.head _)))))))))) rfl (by decide +kernel) rfl rfl rfl (by decide) rfl (sas_v (se_prim ok_ixE (ses_cons (se_var (i := 2) (c := .F) rfl rfl rfl (by decide +kernel) (by decide +kernel)) (ses_cons se_int ses_nil)) (hrd_ix rfl)) (sas_v (se_prim ok_ixE (ses_cons (se_var (i := 2) (c := .F) rfl rfl rfl (by decide +kernel) (by decide +kernel)) (ses_cons se_int ses_nil)) (hrd_ix rfl)) (sas_v (se_call (fi := f__law_draw) (as := [.r 1 1, .v (.val 0)]) (.tail _ (.tail _ (.tail _ (.tail _ (.tail _ (.tail _ (.head _))))))) rfl (by decide +kernel) rfl rfl rfl (by decide) rfl (sas_r rfl rfl (by decide +kernel) (by decide +kernel) (sas_v se_int sas_nil))) sas_nil))))))) (ss_one (s1_ret (sm_se se_bl))) ss_nil) (ss_one (s1_ret (sm_se (se_and (SE.rd (se_call (fi := f__law_sums) (as := [.r 1 1]) (.tail _ (.tail _ (.tail _ (.tail _ (.tail _ (.tail _ (.tail _ (.tail _ (.tail _ (.tail _ (.head _))))))))))) rfl (by decide +kernel) rfl rfl rfl (by decide) rfl (sas_r rfl rfl (by decide +kernel) (by decide +kernel) sas_nil))) (se_and (se_prim ok_gt (ses_cons (se_prim ok_ixR (ses_cons (se_var (i := 4) (c := .F) rfl rfl rfl (by decide +kernel) (by decide +kernel)) (ses_cons se_int ses_nil)) (hrd_ix rfl)) (ses_cons se_int ses_nil)) (hrd_cmp rfl)) (se_one (se_prim ok_gt (ses_cons (se_prim ok_ixR (ses_cons (se_var (i := 4) (c := .F) rfl rfl rfl (by decide +kernel) (by decide +kernel)) (ses_cons se_int ses_nil)) (hrd_ix rfl)) (ses_cons se_int ses_nil)) (hrd_cmp rfl))))))))))))))))⟩
def f_law : FnI := { name := "law", ps := ["script"], ks := [.F], kr := 0, sem := semOf d_law.1 12 [.F], kb := [] }
end T

namespace T
open PySem PySem.Spec PyProof.Rows L2 VS
local macro_rules
  | `(tactic| dsimp? [$ls,*]) => `(tactic| simp only [e_bnd, e_ret, e_fail, e_ofO, e_ite, e_var, e_prim, consK_ap, consK2_ap, e_cons, e_nil, e_imm, e_cmpT, e_tru, e_notT, e_notV, condK_t, condK_f, condK_ap, condV_ap, e_andT, e_orT, e_andV, e_orV, e_if, e_ifS, seqK_nx, seqK_bk, seqK_ct, seqK_rt, e_seq, e_drop, e_set, e_put, e_mul, e_mRet, e_lst, e_tupS, e_mTup, e_disp, e_ifR, inv_int, e_mI, slK0_ap, slK1_ap, slK2_ap, e_slice, e_items, e_rng, e_enum, e_zip, e_isTy, e_move, e_ref, e_pv, e_call, e_mBl, chK0_ap, chK1_ap, chK2_ap, chK3_ap, e_chain, mutK_ap, e_mut, lsv_lst, six1_ap, six2_ap, six3_ap, e_setIx, pixK1_ap, pixK2_ap, e_pix, dcv_dic, sdi1_ap, sdi2_ap, sdi3_ap, e_setD, lopK1_ap, lopK2_ap, e_lop, e_for, e_comp, e_comp2, semK_rt, semK_nx, ev_ok, ev_rb, KQ_ap, ev_ne, ev_callR, rb_ok, ob_some, ob_none, ob_map, ob_bind, gv_non, gv_bl, gv_int, gv_str, gv_tup, gv_lst, gv_scr, gv_dic, gv_obj, fillR_v, fillR_r, fillR_n, setR_v, setR_r, setR_n, noRd_n, noRd_F, noRd_B, noRd_L, noRd_X, noRd_R, osOf_n, osOf_F, osOf_B, osOf_L, osOf_X, setAll_n, setAll_c, deq_int, deq_str, imL_c, imL_n, frz_κ, frzQ_ap, ev_frz, hot_κ, lock_κ, lk_κ, hot_F, hot_B, hot_R, hot_L, hot_X, lock_F, lock_B, lock_R, lock_L, lock_X, pkc_s, pick_n, pick_c, noB_n, noB_F, noB_R, noB_L, noB_X, fixB_no, forQ_nx, forQ_ct, forQ_bk, forQ_rt, pinQ_ap, pin_κ, light_F, light_B, light_R, List.map_cons, List.map_nil, imOf, stepF, stepL, stepL2, tset, put1, puts, takes, imH, wipeD, restD, pk1_ap, pk2_ap, pk3_ap, d_add, d_addb, d_addL, d_addT, d_sub, d_neg, d_mulR, d_mulL, d_fdiv, d_mod, d_lt, d_le, d_gt, d_ge, d_eqi, d_eqs, d_nei, d_nes, d_lenT, d_lenL, d_lenS, d_lenD, d_abs, d_max, d_min, d_max3, d_int, d_intb, d_gcd, d_ixT, d_ixL, d_ixS, d_ixD, d_tupL, d_tupT, d_lstL, d_lstT, d_rev, d_slL, d_slT, d_slS, d_sumL, d_maxL, it_tup, it_lst, it_scr, rng1, rng2, q_app, q_extL, sl_0, sl_1, sl_2, sl_3, sl_4, sl_5, sl_6, sl_7, sl_8, sl_9, sl_10, key_i, key_s, tru_b, tru_i, tru_t, tru_l, bl_b, im_b, im_i, im_s, im_n, im_t, ix_0, ix_1, ix_2, ix_3, ix_4, ix_5, ix_6, at_0, at_1, at_2, at_3, at_4, at_5, nodeAt, D.at, D.put, D.kid, D.setKid,
      Nat.reduceAdd, Nat.reduceSub, Nat.reduceLT, Nat.reduceLeDiff, Int.reduceLT, Int.reduceEq, Int.reduceLE, Int.reduceNeg, Int.reducePow, Int.reduceToNat, Nat.lt_eq, Nat.le_eq,
      List.getD_cons_zero, List.getD_cons_succ, List.getElem?_cons_zero, List.getElem?_cons_succ, List.set_cons_zero, List.set_cons_succ, List.length_cons, List.length_nil, List.replicate_succ, List.replicate_zero, List.cons_append, List.nil_append, Nat.sub_self, Option.map_some, Option.bind_some, Option.map_none, Bool.true_or, Bool.or_true, Bool.false_or, Bool.or_false, Bool.true_and, Bool.and_true, Bool.false_and, Bool.and_false, if_true, if_false, Bool.false_eq_true, reduceCtorEq, ↓reduceIte, decide_eq_true_eq, beq_iff_eq, Bool.not_true, Bool.not_false, and_true, true_and, and_self, $ls,*])

structure Mk where
  p : Int
  q : Int
  m : Int
def Mk.d (a : Mk) : D := .tup [.int a.p, .int a.q, .int a.m]
structure Mk.ok (a : Mk) : Prop where
  p : 0 ≤ a.p ∧ a.p ≤ a.q
  q : 1 ≤ a.q ∧ a.q ≤ 6
  q5 : a.q ≠ 5
  m : -9 ≤ a.m ∧ a.m ≤ 9
structure Cu where
  f : Mk
  l : Mk
  b : Bool
def wayS (b : Bool) : Str := if b then "back" else "on"
theorem way_b {b : Bool} : (wayS b == ("back" : Str)) = b := by cases b <;> decide +kernel
theorem way_o {b : Bool} : (wayS b == ("on" : Str)) = !b := by cases b <;> decide +kernel
def Cu.d (c : Cu) : D := .tup [c.f.d, c.l.d, .str (wayS c.b)]
def Cu.ok (c : Cu) : Prop := c.f.ok ∧ c.l.ok
inductive Pa where
  | card (s : Str) (n : Int)
  | cut (c : Cu)
  | weave (cs : List Cu)
def Pa.d : Pa → D
  | .card s n => .tup [.str "card", .str s, .int n]
  | .cut c => .tup [.str "cut", c.d]
  | .weave cs => .tup [.str "weave", .tup (cs.map Cu.d)]
theorem gvP {p : Pa} {ρ : List D} : gv p.d ρ = .ok p.d ρ := by cases p <;> rfl
theorem gvC {p : Cu} {ρ : List D} : gv p.d ρ = .ok p.d ρ := id rfl
theorem gvM {p : Mk} {ρ : List D} : gv p.d ρ = .ok p.d ρ := id rfl
theorem s_cc : (("card" : Str) == ("card" : Str)) = true := by decide +kernel
theorem s_uc : (("cut" : Str) == ("card" : Str)) = false := by decide +kernel
theorem s_wc : (("weave" : Str) == ("card" : Str)) = false := by decide +kernel
theorem s_uw : (("cut" : Str) == ("weave" : Str)) = false := by decide +kernel
theorem s_ww : (("weave" : Str) == ("weave" : Str)) = true := by decide +kernel
theorem s_uu : (("cut" : Str) == ("cut" : Str)) = true := by decide +kernel
theorem s_cu : (("card" : Str) == ("cut" : Str)) = false := by decide +kernel
theorem s_wu : (("weave" : Str) == ("cut" : Str)) = false := by decide +kernel
theorem s_cw : (("card" : Str) == ("weave" : Str)) = false := by decide +kernel
theorem map_cons_inv {α : Type} {f : α → D} {l : List α} {x : D} {xs : List D} (h : x :: xs = l.map f) : ∃ a r, l = a :: r ∧ x = f a ∧ xs = r.map f := by
  cases l with
  | nil => cases h
  | cons a r => cases h; exact ⟨a, r, rfl, rfl, rfl⟩
theorem map_nil_inv {α : Type} {f : α → D} {l : List α} (h : [] = l.map f) : l = [] := by
  cases l with
  | nil => rfl
  | cons a r => cases h
theorem Ev.sem {fi : FnI} {fb : M Out} {n : Nat} {ks : List Kd} {ds : List D} {Q : D → List D → Prop} (e : fi.sem = semOf fb n ks) (h : Ev (fb (ds ++ List.replicate (n - ds.length) .un)) fun o ρ => Ev (semK ks o ρ) Q) : Ev (fi.sem ds) Q := by rw [e]; exact ev_semOf h
theorem rg_map {a b : Int} : rgD a b = ((List.range (b - a).toNat).map fun i => (a + (i : Nat) : Int)).map D.int := by unfold rgD; rw [List.map_map]; rfl
def MA (a : Mk) (n : Int) : Int := min n (max 0 (n * a.p / a.q + a.m))
theorem mark_at_ev (a : Mk) (ha : a.ok) (n : Int) : Ev (f_mark_at.sem [a.d, .int n]) fun r os => r = .int (MA a n) ∧ os = [.un, .un] := by
  refine Ev.sem (fb := d_mark_at.1) rfl ?_
  unfold d_mark_at
  have h1 : -18446744073709551616 < a.p := by have := ha.p; omega
  have h2 : a.p < 18446744073709551616 := by have := ha.p; have := ha.q; omega
  have h3 : 0 < a.q := by have := ha.q; omega
  have h4 : a.q < 1073741824 := by have := ha.q; omega
  dsimp? [S_mark_at, Mk.d, h1, h2, h3, h4]
  unfold MA
  congr 1
  simp only [gt_iff_lt]
  split <;> split <;> omega
def rgI (a b : Int) : List Int := (List.range (b - a).toNat).map fun i => (a + (i : Nat) : Int)
def fr (c : Cu) (n : Int) : List Int := if c.b then (rgI (MA c.f n) (MA c.l n)).reverse else rgI (MA c.f n) (MA c.l n)
theorem cut_frames_ev (c : Cu) (hc : c.ok) (n : Int) (h0 : 0 ≤ n) (h4 : n ≤ 1000) : Ev (f_cut_frames.sem [c.d, .int n]) fun r os => r = .tup ((fr c n).map D.int) ∧ os = [.un, .un] := by
  refine Ev.sem (fb := d_cut_frames.1) rfl ?_
  unfold d_cut_frames
  dsimp? [S_cut_frames, Cu.d, gvM]
  refine (mark_at_ev c.f hc.1 n).mono ?_
  rintro _ _ ⟨rfl, rfl⟩
  dsimp? [gvM]
  refine (mark_at_ev c.l hc.2 n).mono ?_
  rintro _ _ ⟨rfl, rfl⟩
  have m1 : 0 ≤ MA c.f n ∧ MA c.f n ≤ 1000 := by unfold MA; omega
  have m2 : 0 ≤ MA c.l n ∧ MA c.l n ≤ 1000 := by unfold MA; omega
  have e : dListRg [D.int (MA c.f n), D.int (MA c.l n)] = some (.lst ((rgI (MA c.f n) (MA c.l n)).map D.int)) := by
    rw [d_listRg (by omega) (by omega) (by omega) (by omega) (by omega), rg_map]
    rfl
  cases hb : c.b with
  | false =>
    dsimp? [e, way_o, hb, gvM]
    unfold fr
    rw [hb]
    rfl
  | true =>
    dsimp? [e, way_o, hb, gvM]
    unfold fr
    rw [hb, if_pos rfl, List.map_reverse]
theorem fr_len {c : Cu} {n : Int} (h0 : 0 ≤ n) (h4 : n ≤ 1000) : (fr c n).length ≤ 1000 := by
  have m1 : 0 ≤ MA c.f n ∧ MA c.f n ≤ 1000 := by unfold MA; omega
  have m2 : 0 ≤ MA c.l n ∧ MA c.l n ≤ 1000 := by unfold MA; omega
  unfold fr rgI
  split
  · rw [List.length_reverse, List.length_map, List.length_range]; omega
  · rw [List.length_map, List.length_range]; omega
theorem rgN {M : Int} : rgD 0 M = (List.range M.toNat).map fun i : Nat => D.int i := by
  unfold rgD
  rw [Int.sub_zero]
  apply List.map_congr_left
  intro i _
  rw [Int.zero_add]
def ML (rows : List (List Int)) : Int := VS.maxI (rows.map fun r => (r.length : Int))
def gat (rows : List (List Int)) (i : Nat) : List Int := rows.filterMap fun r => r[i]?
def wv (rows : List (List Int)) : List Int := (List.range (ML rows).toNat).flatMap (gat rows)
theorem ML_le {rows : List (List Int)} {B : Int} (hB : 0 ≤ B) (h : ∀ r ∈ rows, (r.length : Int) ≤ B) : ML rows ≤ B := by
  unfold ML
  induction rows with
  | nil => exact hB
  | cons r rs ih =>
    have h1 := h r List.mem_cons_self
    have h2 := ih fun x hx => h x (List.mem_cons_of_mem _ hx)
    cases rs with
    | nil => exact h1
    | cons r2 rs2 =>
      show max (r.length : Int) (VS.maxI ((r2 :: rs2).map fun r => (r.length : Int))) ≤ B
      omega
theorem gat_len {rows : List (List Int)} {i : Nat} : (gat rows i).length ≤ rows.length := List.length_filterMap_le _ _
theorem ints_mapf {α : Type} (f : α → Int) : ∀ l : List α, ints? (l.map fun a => D.int (f a)) = some (l.map f)
  | [] => rfl
  | a :: l => by show (ints? (l.map fun a => D.int (f a))).map _ = _; rw [ints_mapf f l]; rfl
theorem at_in {xs : List Int} {i : Nat} (h : (i : Int) < xs.length) : L2.atI (xs.map D.int) (i : Int) = some (.int (xs[i]'(by omega))) := by
  rw [atI_of (by omega) (by simpa using h), List.getElem?_map, Int.toNat_natCast, List.getElem?_eq_getElem (by omega)]
  rfl
theorem len_pos {α : Type} {l : List α} (h : l ≠ []) : 0 < (l.length : Int) := by
  cases l with
  | nil => exact absurd rfl h
  | cons x xs => rw [List.length_cons]; omega
def tupI (r : List Int) : D := .tup (r.map D.int)
def lstI (r : List Int) : D := .lst (r.map D.int)
theorem weave_frames_ev (cs : List Cu) (hn : cs ≠ []) (h40 : cs.length ≤ 40) (hc : ∀ c ∈ cs, c.ok) (n : Int) (h0 : 0 ≤ n) (h4 : n ≤ 1000) : Ev (f_weave_frames.sem [.tup (cs.map Cu.d), .int n]) fun r os => r = .lst ((wv (cs.map (fr · n))).map D.int) ∧ os = [.un, .un] := by
  refine Ev.sem (fb := d_weave_frames.1) rfl ?_
  unfold d_weave_frames
  dsimp? [S_weave_frames]
  refine ev_lc (fun xs acc ρ => ∃ rest : List Cu, xs = rest.map Cu.d ∧ acc ++ rest.map (fun c => tupI (fr c n)) = cs.map (fun c => tupI (fr c n)) ∧ (∀ c ∈ rest, c.ok) ∧ ρ = [.tup (cs.map Cu.d), .int n, .un, .un, .un, .un, .un]) ?_ ?_ ⟨cs, rfl, rfl, hc, rfl⟩
  · rintro x xs acc ρ ⟨rest, hx, ha, ho, rfl⟩
    obtain ⟨c, r, rfl, rfl, rfl⟩ := map_cons_inv hx
    have hlen : acc.length < 16777216 := by
      have := congrArg List.length ha
      simp at this
      omega
    dsimp? [gvC]
    refine (cut_frames_ev c (ho c List.mem_cons_self) n h0 h4).mono ?_
    rintro _ _ ⟨rfl, rfl⟩
    dsimp? [hlen]
    exact ⟨r, rfl, by rw [← ha]; simp [tupI], fun b hb => ho b (List.mem_cons_of_mem _ hb)⟩
  · rintro acc ρ ⟨rest, hx, ha, ho, rfl⟩
    have := map_nil_inv hx
    subst this
    have ha' : acc = (cs.map (fr · n)).map tupI := by rw [List.map_map]; have z := ha; rw [List.map_nil, List.append_nil] at z; exact z
    subst ha'
    clear ha
    generalize hrows : cs.map (fr · n) = rows
    have hr40 : rows.length ≤ 40 := by rw [← hrows, List.length_map]; exact h40
    have hr4 : ∀ r ∈ rows, (r.length : Int) ≤ 1000 := fun r hr => by
      rw [← hrows] at hr
      obtain ⟨c, _, rfl⟩ := List.mem_map.mp hr
      have := fr_len (c := c) h0 h4
      omega
    have hM := ML_le (by omega) hr4
    have hne : rows ≠ [] := fun e => hn (by rw [← hrows] at e; simpa using e)
    dsimp? []
    refine ev_lc (fun xs acc ρ => ∃ rest : List (List Int), xs = rest.map tupI ∧ acc ++ rest.map (fun r => D.int r.length) = rows.map (fun r => D.int r.length) ∧ ρ = [.tup (cs.map Cu.d), .int n, .lst (rows.map tupI), .lst [], .un, .un, .un]) ?_ ?_ ⟨rows, rfl, rfl, rfl⟩
    · rintro x xs acc ρ ⟨rest, hx, ha, rfl⟩
      obtain ⟨r, rs, rfl, rfl, rfl⟩ := map_cons_inv hx
      have hlen : acc.length < 16777216 := by
        have := congrArg List.length ha
        simp at this
        omega
      dsimp? [tupI, List.length_map, hlen]
      exact ⟨rs, rfl, by rw [← ha]; simp⟩
    · rintro acc ρ ⟨rest, hx, ha, rfl⟩
      have := map_nil_inv hx
      subst this
      rw [List.map_nil, List.append_nil] at ha
      subst ha
      have hmn : ¬ (rows.map fun r => (r.length : Int)) = [] := fun e => hne (by simpa using e)
      have q1 : -(2 ^ 62) ≤ VS.maxI (rows.map fun r => (r.length : Int)) := by
        cases rows with
        | nil => exact absurd rfl hne
        | cons r rs =>
          have : (0 : Int) ≤ VS.maxI ((r :: rs).map fun r => (r.length : Int)) := by
            cases rs with
            | nil => show (0 : Int) ≤ (r.length : Int); omega
            | cons r2 rs2 => show (0 : Int) ≤ max (r.length : Int) _; omega
          omega
      have q2 : VS.maxI (rows.map fun r => (r.length : Int)) < 2 ^ 62 := by
        have : VS.maxI (rows.map fun r => (r.length : Int)) ≤ 1000 := hM
        omega
      dsimp? [ints_mapf, hmn, rng1 q1 q2, rgN]
      rw [show VS.maxI (rows.map fun r => (r.length : Int)) = ML rows from rfl]
      refine ev_for (fun xs ρ => ∃ (rest : List Nat) (acc : List Int) (u : D), xs = rest.map (fun i : Nat => D.int i) ∧ acc ++ rest.flatMap (gat rows) = wv rows ∧ acc.length + 40 * rest.length ≤ 40000 ∧ ρ = [.tup (cs.map Cu.d), .int n, .lst (rows.map tupI), .lst (acc.map D.int), u, .un, .un]) ?_ ?_ ⟨List.range (ML rows).toNat, [], .un, rfl, rfl, by rw [List.length_range, List.length_nil]; omega, rfl⟩
      · rintro x xs ρ ⟨rest, acc, u, hx, ha, hl, rfl⟩
        obtain ⟨i, r, rfl, rfl, rfl⟩ := map_cons_inv hx
        rw [List.length_cons] at hl
        dsimp? []
        refine ev_lc (fun xs acc2 ρ => ∃ rest : List (List Int), xs = rest.map tupI ∧ acc2 ++ (gat rest i).map D.int = (gat rows i).map D.int ∧ ρ = [.tup (cs.map Cu.d), .int n, .lst (rows.map tupI), .lst (acc.map D.int), .int i, .un, .un]) ?_ ?_ ⟨rows, rfl, rfl, rfl⟩
        · rintro x xs acc2 ρ ⟨rest, hx, ha2, rfl⟩
          obtain ⟨row, rs, rfl, rfl, rfl⟩ := map_cons_inv hx
          have hlen : acc2.length < 16777216 := by
            have z := congrArg List.length ha2
            have := gat_len (rows := rows) (i := i)
            simp only [List.length_append, List.length_map] at z
            omega
          by_cases hh : (i : Int) < row.length
          · have hi : i < row.length := by omega
            dsimp? [tupI, List.length_map, hlen, hh, at_in hh]
            exact ⟨rs, rfl, by rw [← ha2]; simp [gat, List.getElem?_eq_getElem hi]⟩
          · have hi : row.length ≤ i := by omega
            dsimp? [tupI, List.length_map, hh]
            exact ⟨rs, rfl, by rw [← ha2]; simp [gat, List.getElem?_eq_none hi]⟩
        · rintro acc2 ρ ⟨rest, hx, ha2, rfl⟩
          have := map_nil_inv hx
          subst this
          rw [show (gat [] i).map D.int = [] from rfl, List.append_nil] at ha2
          subst ha2
          have hle : acc.length + (gat rows i).length ≤ 16777216 := by
            have := gat_len (rows := rows) (i := i)
            omega
          dsimp? [List.length_map, hle]
          exact ⟨r, acc ++ gat rows i, _, rfl, by rw [← ha, List.flatMap_cons, List.append_assoc], by
            have := gat_len (rows := rows) (i := i)
            rw [List.length_append]; omega, by rw [List.map_append]⟩
      · rintro ρ ⟨rest, acc, u, hx, ha, hl, rfl⟩
        have := map_nil_inv hx
        subst this
        rw [List.flatMap_nil, List.append_nil] at ha
        subst ha
        dsimp? []
theorem flat_len {α β : Type} (f : α → List β) (B : Nat) : ∀ l : List α, (∀ a ∈ l, (f a).length ≤ B) → (l.flatMap f).length ≤ B * l.length
  | [], _ => by simp
  | a :: l, h => by
    have h1 := h a List.mem_cons_self
    have h2 := flat_len f B l fun x hx => h x (List.mem_cons_of_mem _ hx)
    rw [List.flatMap_cons, List.length_append, List.length_cons, Nat.mul_add, Nat.mul_one]
    omega
theorem wv_len {rows : List (List Int)} (h : rows.length ≤ 40) (h4 : ∀ r ∈ rows, (r.length : Int) ≤ 1000) : (wv rows).length ≤ 40000 := by
  have h1 := flat_len (gat rows) 40 (List.range (ML rows).toNat) fun i _ => Nat.le_trans gat_len h
  have h2 := ML_le (B := 1000) (by omega) h4
  rw [List.length_range] at h1
  unfold wv
  omega
def showP (n : Int) : Pa → List D
  | .card s k => List.replicate k.toNat (.str s)
  | .cut c => (fr c n).map D.int
  | .weave cs => (wv (cs.map (fr · n))).map D.int
def sOk (x : Str) : Bool := x.cps.all (· < 0x110000)
def Pa.ok : Pa → Prop
  | .card s k => (0 ≤ k ∧ k ≤ 20) ∧ sOk s = true
  | .cut c => c.ok
  | .weave cs => cs ≠ [] ∧ cs.length ≤ 40 ∧ ∀ c ∈ cs, c.ok
def showD (code : List Pa) (n : Int) : List D := code.flatMap (showP n)
theorem showP_len {p : Pa} (hp : p.ok) {n : Int} (h0 : 0 ≤ n) (h4 : n ≤ 1000) : (showP n p).length ≤ 40000 := by
  cases p with
  | card s k => obtain ⟨⟨a, b⟩, _⟩ := hp; unfold showP; rw [List.length_replicate]; omega
  | cut c => unfold showP; rw [List.length_map]; have := fr_len (c := c) h0 h4; omega
  | weave cs =>
    obtain ⟨a, b, c⟩ := hp
    unfold showP
    rw [List.length_map]
    exact wv_len (by rw [List.length_map]; exact b) fun r hr => by
      obtain ⟨c, _, rfl⟩ := List.mem_map.mp hr
      have := fr_len (c := c) h0 h4
      omega
theorem rep_one {x : D} {k : Int} : VS.repL k [x] = List.replicate k.toNat x := by
  unfold VS.repL
  generalize k.toNat = m
  induction m with
  | zero => rfl
  | succ m ih => rw [List.replicate_succ, List.flatten_cons, ih, List.replicate_succ]; rfl
theorem mul_rep {x : D} {k : Int} (h0 : 0 ≤ k) (h1 : k ≤ 20) : dMul [.lst [x], .int k] = some (.lst (List.replicate k.toNat x)) := by
  rw [← rep_one]
  show (if _ then _ else _) = _
  rw [if_pos]
  refine ⟨by omega, by omega, ?_⟩
  show 1 * k.toNat ≤ 16777216
  omega
theorem part_shown_ev (p : Pa) (hp : p.ok) (n : Int) (h0 : 0 ≤ n) (h4 : n ≤ 1000) : Ev (f_part_shown.sem [p.d, .int n]) fun r os => r = .lst (showP n p) ∧ os = [.un, .un] := by
  refine Ev.sem (fb := d_part_shown.1) rfl ?_
  unfold d_part_shown
  cases p with
  | card s k =>
    obtain ⟨⟨a, b⟩, _⟩ := hp
    dsimp? [Pa.d, s_cc, mul_rep a b]
    rfl
  | cut c =>
    dsimp? [Pa.d, s_uc, s_uw, gvC]
    refine (cut_frames_ev c hp n h0 h4).mono ?_
    rintro _ _ ⟨rfl, rfl⟩
    dsimp? []
    rfl
  | weave cs =>
    obtain ⟨a, b, c⟩ := hp
    dsimp? [Pa.d, s_wc, s_ww]
    refine (weave_frames_ev cs a b c n h0 h4).mono ?_
    rintro _ _ ⟨rfl, rfl⟩
    dsimp? []
    rfl
structure Code (code : List Pa) : Prop where
  len : code.length ≤ 300
  ok : ∀ p ∈ code, p.ok
theorem show_len {code : List Pa} (h : Code code) {n : Int} (h0 : 0 ≤ n) (h4 : n ≤ 1000) : (showD code n).length ≤ 16000000 := by
  have := flat_len (showP n) 40000 code fun p hp => showP_len (h.ok p hp) h0 h4
  have := h.len
  unfold showD
  omega
theorem shown_ev (code : List Pa) (h : Code code) (n : Int) (h0 : 0 ≤ n) (h4 : n ≤ 1000) : Ev (f_shown.sem [.tup (code.map Pa.d), .int n]) fun r os => r = .tup (showD code n) ∧ os = [.un, .un] := by
  refine Ev.sem (fb := d_shown.1) rfl ?_
  unfold d_shown
  have hl := show_len h h0 h4
  dsimp? [S_shown]
  refine ev_lc2 (fun xs acc ρ => ∃ rest : List Pa, xs = rest.map Pa.d ∧ acc ++ showD rest n = showD code n ∧ (∀ p ∈ rest, p.ok) ∧ ρ = [.tup (code.map Pa.d), .int n, .un, .un]) ?_ ?_ ⟨code, rfl, rfl, h.ok, rfl⟩
  · rintro x xs acc ρ ⟨rest, hx, ha, ho, rfl⟩
    obtain ⟨p, r, rfl, rfl, rfl⟩ := map_cons_inv hx
    have hp := ho p List.mem_cons_self
    have ho' : ∀ q ∈ r, q.ok := fun q hq => ho q (List.mem_cons_of_mem _ hq)
    dsimp? [gvP]
    refine (part_shown_ev p hp n h0 h4).mono ?_
    rintro _ _ ⟨rfl, rfl⟩
    dsimp? []
    have scal : ∀ x ∈ showP n p, ∀ ρ, gv x ρ = .ok x ρ := fun x hx ρ => by
      cases p with
      | card s k => rw [(List.mem_replicate.mp hx).2]; rfl
      | cut c => obtain ⟨i, _, rfl⟩ := List.mem_map.mp hx; rfl
      | weave cs => obtain ⟨i, _, rfl⟩ := List.mem_map.mp hx; rfl
    refine ev_lc (fun xs acc' ρ => acc' ++ xs ++ showD r n = showD code n ∧ (∀ x ∈ xs, ∀ ρ, gv x ρ = .ok x ρ) ∧ ∃ u, ρ = [.tup (code.map Pa.d), .int n, u, .un]) ?_ ?_ ⟨?_, scal, p.d, rfl⟩
    · rintro x xs acc ρ ⟨ha, hs, u, rfl⟩
      have hlen : acc.length < 16777216 := by
        have := congrArg List.length ha
        simp only [List.length_append, List.length_cons] at this
        omega
      dsimp? [hs x List.mem_cons_self, hlen]
      exact ⟨by rw [← ha]; simp, fun y hy => hs y (List.mem_cons_of_mem _ hy), u, rfl⟩
    · rintro acc ρ ⟨ha, hs, u, rfl⟩
      dsimp? []
      exact ⟨r, rfl, by rw [← ha]; simp, ho'⟩
    · rw [← ha]; simp [showD]
  · rintro acc ρ ⟨rest, hx, ha, ho, rfl⟩
    have := map_nil_inv hx
    subst this
    have ha' : acc = showD code n := by rw [← ha]; simp [showD]
    subst ha'
    dsimp? []

def Pa.cuts : Pa → List Cu
  | .card _ _ => []
  | .cut c => [c]
  | .weave cs => cs
def cutsOf (code : List Pa) : List Cu := code.flatMap Pa.cuts
theorem part_cuts_ev (p : Pa) : Ev (f_part_cuts.sem [p.d]) fun r os => r = .tup (p.cuts.map Cu.d) ∧ os = [.un] := by
  refine Ev.sem (fb := d_part_cuts.1) rfl ?_
  unfold d_part_cuts
  cases p with
  | card s n => dsimp? [Pa.d, s_cc, s_uc, s_wc, s_uw, s_ww, Pa.cuts, List.map_nil]
  | cut c => dsimp? [Pa.d, s_cc, s_uc, s_wc, s_uw, s_ww, Pa.cuts, List.map_nil, List.map_cons, Cu.d]
  | weave cs => dsimp? [Pa.d, s_cc, s_uc, s_wc, s_uw, s_ww, Pa.cuts]
theorem cuts_of_ev (code : List Pa) (hl : (cutsOf code).length ≤ 16777216) : Ev (f_cuts_of.sem [.tup (code.map Pa.d)]) fun r os => r = .tup ((cutsOf code).map Cu.d) ∧ os = [.un] := by
  refine Ev.sem (fb := d_cuts_of.1) rfl ?_
  unfold d_cuts_of
  dsimp? [S_cuts_of]
  refine ev_lc2 (fun xs acc ρ => ∃ rest : List Pa, xs = rest.map Pa.d ∧ acc ++ (cutsOf rest).map Cu.d = (cutsOf code).map Cu.d ∧ ρ = [.tup (code.map Pa.d), .un, .un]) ?_ ?_ ⟨code, rfl, rfl, rfl⟩
  · rintro x xs acc ρ ⟨rest, hx, ha, rfl⟩
    obtain ⟨p, r, rfl, rfl, rfl⟩ := map_cons_inv hx
    dsimp? [gvP]
    refine (part_cuts_ev p).mono ?_
    rintro _ _ ⟨rfl, rfl⟩
    dsimp? []
    refine ev_lc (fun xs acc' ρ => ∃ rest : List Cu, xs = rest.map Cu.d ∧ acc' ++ rest.map Cu.d ++ (cutsOf r).map Cu.d = (cutsOf code).map Cu.d ∧ ρ = [.tup (code.map Pa.d), .un, p.d]) ?_ ?_ ⟨p.cuts, rfl, ?_, rfl⟩
    · rintro x xs acc ρ ⟨rest, hx, ha, rfl⟩
      obtain ⟨c, r, rfl, rfl, rfl⟩ := map_cons_inv hx
      have hlen : acc.length < 16777216 := by
        have := congrArg List.length ha
        simp at this
        omega
      dsimp? [gvC]
      rw [if_pos hlen, ev_ok]
      exact ⟨r, rfl, by rw [← ha]; simp, rfl⟩
    · rintro acc ρ ⟨rest, hx, ha, rfl⟩
      have := map_nil_inv hx
      subst this
      dsimp? []
      exact ⟨r, rfl, by rw [← ha]; simp⟩
    · rw [← ha]; simp [cutsOf]
  · rintro acc ρ ⟨rest, hx, ha, rfl⟩
    have := map_nil_inv hx
    subst this
    have ha' : acc = (cutsOf code).map Cu.d := by rw [← ha]; simp [cutsOf]
    subst ha'
    dsimp? []

def Cu.ms (c : Cu) : List Mk := [c.f, c.l]
def marksOf (cs : List Cu) : List Mk := cs.flatMap Cu.ms
theorem marks_of_ev (code : List Pa) (hl : (cutsOf code).length ≤ 8000000) : Ev (f_marks_of.sem [.tup (code.map Pa.d)]) fun r os => r = .lst ((marksOf (cutsOf code)).map Mk.d) ∧ os = [.un] := by
  refine Ev.sem (fb := d_marks_of.1) rfl ?_
  unfold d_marks_of
  dsimp? [S_marks_of]
  refine (cuts_of_ev code (by omega)).mono ?_
  rintro _ _ ⟨rfl, rfl⟩
  dsimp? []
  have hlen : ∀ cs : List Cu, (marksOf cs).length = 2 * cs.length := fun cs => by
    induction cs with
    | nil => rfl
    | cons c cs ih =>
      show (Cu.ms c ++ marksOf cs).length = _
      rw [List.length_append, ih, List.length_cons]
      show 2 + _ = _
      omega
  refine ev_lc2 (fun xs acc ρ => ∃ rest : List Cu, xs = rest.map Cu.d ∧ acc ++ (marksOf rest).map Mk.d = (marksOf (cutsOf code)).map Mk.d ∧ ρ = [.tup (code.map Pa.d), .un, .un]) ?_ ?_ ⟨cutsOf code, rfl, rfl, rfl⟩
  · rintro x xs acc ρ ⟨rest, hx, ha, rfl⟩
    obtain ⟨c, r, rfl, rfl, rfl⟩ := map_cons_inv hx
    have e0 : acc ++ [c.f.d, c.l.d] ++ (marksOf r).map Mk.d = (marksOf (cutsOf code)).map Mk.d := by rw [← ha]; simp [marksOf, Cu.ms]
    have h3 := congrArg List.length e0
    simp [hlen] at h3
    have h1 : acc.length < 16777216 := by omega
    have h2 : (acc ++ [c.f.d]).length < 16777216 := by simp; omega
    dsimp? [gvC, Cu.d]
    rw [show VS.cutD [c.f.d, c.l.d, D.str (wayS c.b)] none (some 2) = [c.f.d, c.l.d] from rfl]
    refine ev_lc_cons ?_
    dsimp? [gvM]
    rw [if_pos h1, ev_ok]
    refine ev_lc_cons ?_
    dsimp? [gvM]
    rw [if_pos h2, ev_ok]
    dsimp? [lc_nil]
    exact ⟨r, rfl, by rw [← e0]; simp⟩
  · rintro acc ρ ⟨rest, hx, ha, rfl⟩
    have := map_nil_inv hx
    subst this
    have ha' : acc = (marksOf (cutsOf code)).map Mk.d := by rw [← ha]; simp [marksOf]
    subst ha'
    dsimp? []
def lc (t q : Int) : Int := t * q / ((Nat.gcd t.natAbs q.natAbs : Nat) : Int)
def per (ms : List Mk) : Int := (ms.map Mk.q).foldl lc 1
def T12 (t : Int) : Prop := t = 1 ∨ t = 2 ∨ t = 3 ∨ t = 4 ∨ t = 6 ∨ t = 12
def Q5 (t : Int) : Prop := t = 1 ∨ t = 2 ∨ t = 3 ∨ t = 4 ∨ t = 6
theorem lc_T {t q : Int} (h : T12 t) (k : Q5 q) : T12 (lc t q) := by
  unfold T12 at h; unfold Q5 at k
  rcases h with rfl | rfl | rfl | rfl | rfl | rfl <;> rcases k with rfl | rfl | rfl | rfl | rfl <;> (unfold T12; decide)
theorem gcd_pos {t q : Int} (h : T12 t) (k : Q5 q) : 0 < ((Nat.gcd t.natAbs q.natAbs : Nat) : Int) ∧ ((Nat.gcd t.natAbs q.natAbs : Nat) : Int) < 1073741824 := by
  unfold T12 at h; unfold Q5 at k
  rcases h with rfl | rfl | rfl | rfl | rfl | rfl <;> rcases k with rfl | rfl | rfl | rfl | rfl <;> decide
theorem Mk.ok.Q {a : Mk} (h : a.ok) : Q5 a.q := by have := h.q; have := h.q5; unfold Q5; omega
def okL (cs : List Cu) : Prop := ∀ c ∈ cs, c.ok
theorem marks_ok {cs : List Cu} (h : okL cs) : ∀ a ∈ marksOf cs, a.ok := fun a ha => by
  obtain ⟨c, hc, hm⟩ := List.mem_flatMap.mp ha
  simp [Cu.ms] at hm
  rcases hm with rfl | rfl
  · exact (h c hc).1
  · exact (h c hc).2
theorem period_of_ev (code : List Pa) (hl : (cutsOf code).length ≤ 8000000) (hk : okL (cutsOf code)) : Ev (f_period_of.sem [.tup (code.map Pa.d)]) fun r os => r = .int (per (marksOf (cutsOf code))) ∧ os = [.un] := by
  refine Ev.sem (fb := d_period_of.1) rfl ?_
  unfold d_period_of
  dsimp? [S_period_of]
  refine (marks_of_ev code hl).mono ?_
  rintro _ _ ⟨rfl, rfl⟩
  dsimp? []
  refine ev_for (fun xs ρ => ∃ (rest : List Mk) (t : Int) (u : D), xs = rest.map Mk.d ∧ T12 t ∧ (rest.map Mk.q).foldl lc t = per (marksOf (cutsOf code)) ∧ (∀ a ∈ rest, a.ok) ∧ ρ = [.tup (code.map Pa.d), .int t, u]) ?_ ?_ ⟨_, 1, .un, rfl, .inl rfl, rfl, marks_ok hk, rfl⟩
  · rintro x xs ρ ⟨rest, t, u, hx, ht, hp, ho, rfl⟩
    obtain ⟨a, r, rfl, rfl, rfl⟩ := map_cons_inv hx
    have ha := ho a List.mem_cons_self
    have hq : -18446744073709551616 < a.q ∧ a.q < 18446744073709551616 := by have := ha.Q; unfold Q5 at this; omega
    obtain ⟨g1, g2⟩ := gcd_pos ht ha.Q
    dsimp? [Mk.d, hq.1, hq.2, g1, g2]
    exact ⟨r, lc t a.q, _, rfl, lc_T ht ha.Q, hp, fun b hb => ho b (List.mem_cons_of_mem _ hb), rfl⟩
  · rintro ρ ⟨rest, t, u, hx, ht, hp, ho, rfl⟩
    have := map_nil_inv hx
    subst this
    dsimp? []
    rw [← hp]; rfl

def sgn (m : Int) : Int := if m < 0 then -m else m
def rea (ms : List Mk) : Int := (ms.map fun a => sgn a.m).foldl max 0
theorem maxI_foldl : ∀ (xs : List Int) (a : Int), VS.maxI (a :: xs) = xs.foldl max a
  | [], a => rfl
  | b :: xs, a => by
    show max a (VS.maxI (b :: xs)) = (xs.foldl max (max a b))
    rw [maxI_foldl xs b]
    have : ∀ (ys : List Int) (u v : Int), max u (ys.foldl max v) = ys.foldl max (max u v) := fun ys => by
      induction ys with
      | nil => intro u v; rfl
      | cons y ys ih => intro u v; show max u (ys.foldl max (max v y)) = ys.foldl max (max (max u v) y); rw [ih]; congr 1; omega
    exact this xs a b
theorem ints_map {xs : List Int} : ints? (xs.map D.int) = some xs := by
  induction xs with
  | nil => rfl
  | cons x xs ih => show (ints? (xs.map D.int)).map _ = _; rw [ih]; rfl
theorem reach_of_ev (code : List Pa) (hl : (cutsOf code).length ≤ 8000000) : Ev (f_reach_of.sem [.tup (code.map Pa.d)]) fun r os => r = .int (rea (marksOf (cutsOf code))) ∧ os = [.un] := by
  refine Ev.sem (fb := d_reach_of.1) rfl ?_
  unfold d_reach_of
  dsimp? [S_reach_of]
  refine (marks_of_ev code hl).mono ?_
  rintro _ _ ⟨rfl, rfl⟩
  dsimp? []
  have hlen : ∀ cs : List Cu, (marksOf cs).length = 2 * cs.length := fun cs => by
    induction cs with
    | nil => rfl
    | cons c cs ih =>
      show (Cu.ms c ++ marksOf cs).length = _
      rw [List.length_append, ih, List.length_cons]
      show 2 + _ = _
      omega
  refine ev_lc (fun xs acc ρ => ∃ (rest : List Mk) , xs = rest.map Mk.d ∧ acc ++ (rest.map fun a => D.int (sgn a.m)) = ((marksOf (cutsOf code)).map fun a => D.int (sgn a.m)) ∧ ρ = [.tup (code.map Pa.d), .un]) ?_ ?_ ⟨_, rfl, rfl, rfl⟩
  · rintro x xs acc ρ ⟨rest, hx, ha, rfl⟩
    obtain ⟨a, r, rfl, rfl, rfl⟩ := map_cons_inv hx
    have h3 := congrArg List.length ha
    simp [hlen] at h3
    have h1 : acc.length < 16777216 := by omega
    dsimp? [Mk.d]
    rw [if_pos h1, ev_ok]
    exact ⟨r, rfl, by rw [← ha]; simp [sgn], rfl⟩
  · rintro acc ρ ⟨rest, hx, ha, rfl⟩
    have := map_nil_inv hx
    subst this
    have ha' : acc = ((marksOf (cutsOf code)).map fun a => D.int (sgn a.m)) := by rw [← ha]; simp
    subst ha'
    have hle : 1 + 2 * (cutsOf code).length ≤ 16777216 := by omega
    have hi : ints? (D.int 0 :: (marksOf (cutsOf code)).map fun a => D.int (sgn a.m)) = some (0 :: (marksOf (cutsOf code)).map fun a => sgn a.m) := by
      show (ints? _).map _ = _
      rw [ints_mapf fun a : Mk => sgn a.m]; rfl
    dsimp? [List.length_map, hlen, hle, hi, maxI_foldl]
    rfl


theorem rg_rev {a b : Int} : (rgI a b).reverse = (List.range (b - a).toNat).map fun k : Nat => b - 1 - (k : Int) := by
  unfold rgI
  apply List.ext_getElem
  · simp
  · intro i h1 h2
    simp only [List.length_reverse, List.length_map, List.length_range] at h1
    rw [List.getElem_reverse, List.getElem_map, List.getElem_map, List.getElem_range, List.getElem_range]
    simp only [List.length_map, List.length_range]
    omega
theorem T12_lt {t : Int} (h : T12 t) : -18446744073709551616 < t ∧ t < 18446744073709551616 := by unfold T12 at h; omega
theorem gcd_pos2 {t q : Int} (h : T12 t) (k : T12 q) : 0 < ((Nat.gcd t.natAbs q.natAbs : Nat) : Int) ∧ ((Nat.gcd t.natAbs q.natAbs : Nat) : Int) < 1073741824 := by
  unfold T12 at h k
  rcases h with rfl | rfl | rfl | rfl | rfl | rfl <;> rcases k with rfl | rfl | rfl | rfl | rfl | rfl <;> decide
def L12 : List Int := [1, 2, 3, 4, 6, 12]
theorem T12_mem {t : Int} (h : T12 t) : t ∈ L12 := by unfold T12 at h; unfold L12; simp; exact h
theorem lc_all : ∀ t ∈ L12, ∀ q ∈ L12, (lc t q ∈ L12 ∧ lc t q = lc q t ∧ lc 1 t = t ∧ lc t 1 = t) := by decide +kernel
theorem lc_assoc : ∀ t ∈ L12, ∀ q ∈ L12, ∀ s ∈ L12, lc (lc t q) s = lc t (lc q s) := by decide +kernel
theorem mem_T12 {t : Int} (h : t ∈ L12) : T12 t := by unfold L12 at h; simp at h; unfold T12; exact h
theorem Q5_T {t : Int} (h : Q5 t) : T12 t := by unfold Q5 at h; unfold T12; omega
theorem per_T : ∀ (ms : List Mk) (t : Int), T12 t → (∀ a ∈ ms, a.ok) → T12 ((ms.map Mk.q).foldl lc t)
  | [], t, h, _ => h
  | a :: ms, t, h, k => per_T ms (lc t a.q) (lc_T h (k a List.mem_cons_self).Q) fun b hb => k b (List.mem_cons_of_mem _ hb)
theorem per_fold : ∀ (ms : List Mk) (t : Int), T12 t → (∀ a ∈ ms, a.ok) → (ms.map Mk.q).foldl lc t = lc t ((ms.map Mk.q).foldl lc 1)
  | [], t, h, _ => ((lc_all t (T12_mem h) 1 (by decide)).2.2.2).symm
  | a :: ms, t, h, k => by
    have ha := (k a List.mem_cons_self).Q
    have k' : ∀ b ∈ ms, b.ok := fun b hb => k b (List.mem_cons_of_mem _ hb)
    have e1 := per_fold ms (lc t a.q) (lc_T h ha) k'
    have e2 := per_fold ms (lc 1 a.q) (lc_T (.inl rfl) ha) k'
    have e3 : lc 1 a.q = a.q := (lc_all a.q (T12_mem (Q5_T ha)) 1 (by decide)).2.2.1
    show (ms.map Mk.q).foldl lc (lc t a.q) = lc t ((ms.map Mk.q).foldl lc (lc 1 a.q))
    rw [e1, e2, e3]
    exact lc_assoc t (T12_mem h) a.q (T12_mem (Q5_T ha)) _ (T12_mem (per_T ms 1 (.inl rfl) k'))
def pe (code : List Pa) : Int := per (marksOf (cutsOf code))
def re' (code : List Pa) : Int := rea (marksOf (cutsOf code))
def Sm (code : List Pa) : Prop := (cutsOf code).length ≤ 8000000 ∧ okL (cutsOf code)
theorem pe_T {code : List Pa} (h : Sm code) : T12 (pe code) := per_T _ 1 (.inl rfl) (marks_ok h.2)
theorem cuts_app {l r : List Pa} : cutsOf (l ++ r) = cutsOf l ++ cutsOf r := by unfold cutsOf; rw [List.flatMap_append]
theorem marks_app {l r : List Cu} : marksOf (l ++ r) = marksOf l ++ marksOf r := by unfold marksOf; rw [List.flatMap_append]
theorem pe_app {l r : List Pa} (hl : Sm l) (hr : Sm r) : pe (l ++ r) = lc (pe l) (pe r) := by
  unfold pe per
  rw [cuts_app, marks_app, List.map_append, List.foldl_append]
  exact per_fold _ _ (pe_T hl) (marks_ok hr.2)
def abd (l r : List Pa) : Int := lc (pe l) (pe r) * (6 * max (re' l) (re' r) + 19)
theorem abd_symm {l r : List Pa} (hl : Sm l) (hr : Sm r) : abd l r = abd r l := by
  unfold abd
  rw [(lc_all _ (T12_mem (pe_T hl)) _ (T12_mem (pe_T hr))).2.1, Int.max_comm]
theorem max_if {i j : Int} : (if j > i then j else i) = max i j := by split <;> omega
theorem lc_T2 {t q : Int} (h : T12 t) (k : T12 q) : T12 (lc t q) := mem_T12 (lc_all t (T12_mem h) q (T12_mem k)).1
theorem alike_bound_ev (l r : List Pa) (hl : Sm l) (hr : Sm r) : Ev (f_alike_bound.sem [.tup (l.map Pa.d), .tup (r.map Pa.d)]) fun v os => v = .int (abd l r) ∧ os = [.un, .un] := by
  refine Ev.sem (fb := d_alike_bound.1) rfl ?_
  unfold d_alike_bound
  obtain ⟨t1, t2⟩ := T12_lt (pe_T hl)
  obtain ⟨g1, g2⟩ := gcd_pos2 (pe_T hl) (pe_T hr)
  obtain ⟨x1, x2⟩ := T12_lt (lc_T2 (pe_T hl) (pe_T hr))
  dsimp? [S_alike_bound]
  refine (period_of_ev l hl.1 hl.2).mono ?_
  rintro _ _ ⟨rfl, rfl⟩
  dsimp? []
  refine (period_of_ev r hr.1 hr.2).mono ?_
  rintro _ _ ⟨rfl, rfl⟩
  rw [show per (marksOf (cutsOf l)) = pe l from rfl, show per (marksOf (cutsOf r)) = pe r from rfl]
  dsimp? [d_mulL t1 t2]
  refine (period_of_ev l hl.1 hl.2).mono ?_
  rintro _ _ ⟨rfl, rfl⟩
  dsimp? []
  refine (period_of_ev r hr.1 hr.2).mono ?_
  rintro _ _ ⟨rfl, rfl⟩
  rw [show per (marksOf (cutsOf l)) = pe l from rfl, show per (marksOf (cutsOf r)) = pe r from rfl]
  dsimp? [g1, g2]
  rw [show pe l * pe r / ((Nat.gcd (pe l).natAbs (pe r).natAbs : Nat) : Int) = lc (pe l) (pe r) from rfl]
  refine (reach_of_ev l hl.1).mono ?_
  rintro _ _ ⟨rfl, rfl⟩
  dsimp? []
  refine (reach_of_ev r hr.1).mono ?_
  rintro _ _ ⟨rfl, rfl⟩
  dsimp? [d_mulL x1 x2, max_if]
  rfl
theorem sgn_fold {m : Int} : (if m < 0 then -m else m) = sgn m := rfl
theorem mx3 {a b c : Int} : (if (if a < b then b else a) < c then c else (if a < b then b else a)) = max (max a b) c := by split <;> split <;> omega
/-! ### the law's own -/
theorem law_place_ev (a : Mk) (ha : a.ok) (n : Int) (h0 : 0 ≤ n) : Ev (f__law_place.sem [a.d, .int n]) fun r os => r = .int (MA a n) ∧ os = [.un, .un] := by
  refine Ev.sem (fb := d__law_place.1) rfl ?_
  unfold d__law_place
  have h1 : -18446744073709551616 < a.p := by have := ha.p; omega
  have h2 : a.p < 18446744073709551616 := by have := ha.p; have := ha.q; omega
  have h3 : 0 < a.q := by have := ha.q; omega
  have h4 : a.q < 1073741824 := by have := ha.q; omega
  unfold MA
  by_cases c1 : n * a.p / a.q + a.m < 0
  · dsimp? [S__law_place, Mk.d, h1, h2, h3, h4, c1]
    congr 1; omega
  · by_cases c2 : n < n * a.p / a.q + a.m
    · dsimp? [S__law_place, Mk.d, h1, h2, h3, h4, c1, c2]
      congr 1; omega
    · dsimp? [S__law_place, Mk.d, h1, h2, h3, h4, c1, c2]
      congr 1; omega
theorem law_frames_ev (c : Cu) (hc : c.ok) (n : Int) (h0 : 0 ≤ n) (h4 : n ≤ 1000) : Ev (f__law_frames.sem [c.d, .int n]) fun r os => r = .lst ((fr c n).map D.int) ∧ os = [.un, .un] := by
  refine Ev.sem (fb := d__law_frames.1) rfl ?_
  unfold d__law_frames
  dsimp? [S__law_frames, Cu.d, gvM]
  refine (law_place_ev c.f hc.1 n h0).mono ?_
  rintro _ _ ⟨rfl, rfl⟩
  dsimp? [gvM]
  refine (law_place_ev c.l hc.2 n h0).mono ?_
  rintro _ _ ⟨rfl, rfl⟩
  have m1 : 0 ≤ MA c.f n ∧ MA c.f n ≤ 1000 := by unfold MA; omega
  have m2 : 0 ≤ MA c.l n ∧ MA c.l n ≤ 1000 := by unfold MA; omega
  cases hw : c.b with
  | false =>
    have e : dListRg [D.int (MA c.f n), D.int (MA c.l n)] = some (.lst ((fr c n).map D.int)) := by
      rw [d_listRg (by omega) (by omega) (by omega) (by omega) (by omega), rg_map]
      unfold fr rgI
      rw [hw]; rfl
    dsimp? [way_o, hw, e]
  | true =>
    have e : dListRg3 [D.int (MA c.l n - 1), D.int (MA c.f n - 1), .int (-1)] = some (.lst ((fr c n).map D.int)) := by
      have z := RgC.neg (i := MA c.l n - 1) (j := MA c.f n - 1) (by omega) (by omega) (by omega) (by omega)
      show (if _ then _ else _) = _
      rw [if_pos ⟨z.1, z.2.1, z.2.2.1, by rw [z.2.2.2]; omega, by rw [z.2.2.2]; omega⟩, z.2.2.2]
      unfold fr
      rw [hw, if_pos rfl, rg_rev]
      unfold rgDC
      rw [List.map_map]
      congr 2
      rw [show ((MA c.l n - 1 - (MA c.f n - 1)).toNat : Int).toNat = (MA c.l n - MA c.f n).toNat from by omega]
      apply List.map_congr_left
      intro i _
      show D.int _ = D.int _
      congr 1
      dsimp only
      omega
    dsimp? [way_o, hw, e]
theorem law_row_ev (code : List Pa) (h : Code code) (n : Int) (h0 : 0 ≤ n) (h4 : n ≤ 1000) : Ev (f__law_row.sem [.lst (code.map Pa.d), .int n]) fun r os => r = .lst (showD code n) ∧ os = [.un, .un] := by
  refine Ev.sem (fb := d__law_row.1) rfl ?_
  unfold d__law_row
  have hl := show_len h h0 h4
  dsimp? [S__law_row]
  refine ev_for (fun xs ρ => ∃ (rest : List Pa) (acc : List D) (u3 u4 u5 : D), xs = rest.map Pa.d ∧ acc ++ showD rest n = showD code n ∧ (∀ p ∈ rest, p.ok) ∧ ρ = [.lst (code.map Pa.d), .int n, .lst acc, u3, u4, u5, .un, .un]) ?_ ?_ ⟨code, [], .un, .un, .un, rfl, rfl, h.ok, rfl⟩
  · rintro x xs ρ ⟨rest, acc, u3, u4, u5, hx, ha, ho, rfl⟩
    obtain ⟨p, r, rfl, rfl, rfl⟩ := map_cons_inv hx
    have hp := ho p List.mem_cons_self
    have ho' : ∀ q ∈ r, q.ok := fun q hq => ho q (List.mem_cons_of_mem _ hq)
    have ha' : acc ++ showP n p ++ showD r n = showD code n := by rw [← ha]; simp [showD]
    have hlen : acc.length + (showP n p).length ≤ 16777216 := by
      have := congrArg List.length ha'
      simp only [List.length_append] at this
      omega
    cases p with
    | card s k =>
      obtain ⟨⟨a, b⟩, _⟩ := hp
      unfold showP at hlen
      dsimp? [Pa.d, s_cc, mul_rep a b, hlen]
      exact ⟨r, _, _, _, _, rfl, ha', ho', rfl⟩
    | cut c =>
      unfold showP at hlen
      dsimp? [Pa.d, s_uc, s_uu, gvC]
      refine (law_frames_ev c hp n h0 h4).mono ?_
      rintro _ _ ⟨rfl, rfl⟩
      dsimp? [hlen]
      exact ⟨r, _, _, _, _, rfl, ha', ho', rfl⟩
    | weave cs =>
      obtain ⟨hn, h40, hc⟩ := hp
      dsimp? [Pa.d, s_wc, s_wu]
      refine ev_lc (fun xs acc2 ρ => ∃ rest : List Cu, xs = rest.map Cu.d ∧ acc2 ++ rest.map (fun c => lstI (fr c n)) = cs.map (fun c => lstI (fr c n)) ∧ (∀ c ∈ rest, c.ok) ∧ ρ = [.lst (code.map Pa.d), .int n, .lst acc, .tup [.str "weave", .tup (cs.map Cu.d)], u4, u5, .un, .un]) ?_ ?_ ⟨cs, rfl, rfl, hc, rfl⟩
      · rintro x xs acc2 ρ ⟨rest, hx, ha, ho, rfl⟩
        obtain ⟨c, r, rfl, rfl, rfl⟩ := map_cons_inv hx
        have hlen : acc2.length < 16777216 := by
          have := congrArg List.length ha
          simp at this
          omega
        dsimp? [gvC]
        refine (law_frames_ev c (ho c List.mem_cons_self) n h0 h4).mono ?_
        rintro _ _ ⟨rfl, rfl⟩
        dsimp? [hlen]
        exact ⟨r, rfl, by rw [← ha]; simp [lstI], fun b hb => ho b (List.mem_cons_of_mem _ hb)⟩
      · rintro acc2 ρ ⟨rest, hx, ha2, ho2, rfl⟩
        have := map_nil_inv hx
        subst this
        have ha3 : acc2 = (cs.map (fr · n)).map lstI := by rw [List.map_map]; have z := ha2; rw [List.map_nil, List.append_nil] at z; exact z
        subst ha3
        clear ha2
        have hsw : showP n (.weave cs) = (wv (cs.map (fr · n))).map D.int := rfl
        rw [hsw] at ha' hlen
        generalize hrows : cs.map (fr · n) = rows at *
        have hr40 : rows.length ≤ 40 := by rw [← hrows, List.length_map]; exact h40
        have hr4 : ∀ r ∈ rows, (r.length : Int) ≤ 1000 := fun r hr => by
          rw [← hrows] at hr
          obtain ⟨c, _, rfl⟩ := List.mem_map.mp hr
          have := fr_len (c := c) h0 h4
          omega
        have hM := ML_le (by omega) hr4
        have hne : rows ≠ [] := fun e => hn (by rw [← hrows] at e; simpa using e)
        dsimp? []
        refine ev_lc (fun xs acc2 ρ => ∃ rest : List (List Int), xs = rest.map lstI ∧ acc2 ++ rest.map (fun r => D.int r.length) = rows.map (fun r => D.int r.length) ∧ ρ = [.lst (code.map Pa.d), .int n, .lst acc, .tup [.str "weave", .tup (cs.map Cu.d)], .lst (rows.map lstI), u5, .un, .un]) ?_ ?_ ⟨rows, rfl, rfl, rfl⟩
        · rintro x xs acc2 ρ ⟨rest, hx, ha, rfl⟩
          obtain ⟨r, rs, rfl, rfl, rfl⟩ := map_cons_inv hx
          have hlen : acc2.length < 16777216 := by
            have := congrArg List.length ha
            simp at this
            omega
          dsimp? [lstI, List.length_map, hlen]
          exact ⟨rs, rfl, by rw [← ha]; simp⟩
        · rintro acc2 ρ ⟨rest, hx, ha2, rfl⟩
          have := map_nil_inv hx
          subst this
          rw [List.map_nil, List.append_nil] at ha2
          subst ha2
          have hmn : ¬ (rows.map fun r => (r.length : Int)) = [] := fun e => hne (by simpa using e)
          have q1 : -(2 ^ 62) ≤ VS.maxI (rows.map fun r => (r.length : Int)) := by
            cases rows with
            | nil => exact absurd rfl hne
            | cons r rs =>
              have : (0 : Int) ≤ VS.maxI ((r :: rs).map fun r => (r.length : Int)) := by
                cases rs with
                | nil => show (0 : Int) ≤ (r.length : Int); omega
                | cons r2 rs2 => show (0 : Int) ≤ max (r.length : Int) _; omega
              omega
          have q2 : VS.maxI (rows.map fun r => (r.length : Int)) < 2 ^ 62 := by
            have : VS.maxI (rows.map fun r => (r.length : Int)) ≤ 1000 := hM
            omega
          dsimp? [ints_mapf, hmn, rng1 q1 q2, rgN]
          rw [show VS.maxI (rows.map fun r => (r.length : Int)) = ML rows from rfl]
          refine ev_for (fun xs ρ => ∃ (rest : List Nat) (acc2 : List Int) (u : D), xs = rest.map (fun i : Nat => D.int i) ∧ acc2 ++ rest.flatMap (gat rows) = wv rows ∧ ρ = [.lst (code.map Pa.d), .int n, .lst (acc ++ acc2.map D.int), .tup [.str "weave", .tup (cs.map Cu.d)], .lst (rows.map lstI), u, .un, .un]) ?_ ?_ ⟨List.range (ML rows).toNat, [], u5, rfl, rfl, by rw [List.map_nil, List.append_nil]⟩
          · rintro x xs ρ ⟨rest, acc2, u, hx, ha, rfl⟩
            obtain ⟨i, r, rfl, rfl, rfl⟩ := map_cons_inv hx
            dsimp? []
            refine ev_lc (fun xs acc3 ρ => ∃ rest : List (List Int), xs = rest.map lstI ∧ acc3 ++ (gat rest i).map D.int = (gat rows i).map D.int ∧ ρ = [.lst (code.map Pa.d), .int n, .lst (acc ++ acc2.map D.int), .tup [.str "weave", .tup (cs.map Cu.d)], .lst (rows.map lstI), .int i, .un, .un]) ?_ ?_ ⟨rows, rfl, rfl, rfl⟩
            · rintro x xs acc3 ρ ⟨rest, hx, ha2, rfl⟩
              obtain ⟨row, rs, rfl, rfl, rfl⟩ := map_cons_inv hx
              have hlen : acc3.length < 16777216 := by
                have z := congrArg List.length ha2
                have := gat_len (rows := rows) (i := i)
                simp only [List.length_append, List.length_map] at z
                omega
              by_cases hh : (i : Int) < row.length
              · have hi : i < row.length := by omega
                dsimp? [lstI, List.length_map, hlen, hh, at_in hh]
                exact ⟨rs, rfl, by rw [← ha2]; simp [gat, List.getElem?_eq_getElem hi]⟩
              · have hi : row.length ≤ i := by omega
                dsimp? [lstI, List.length_map, hh]
                exact ⟨rs, rfl, by rw [← ha2]; simp [gat, List.getElem?_eq_none hi]⟩
            · rintro acc3 ρ ⟨rest, hx, ha2, rfl⟩
              have := map_nil_inv hx
              subst this
              rw [show (gat [] i).map D.int = [] from rfl, List.append_nil] at ha2
              subst ha2
              have hle : (acc ++ acc2.map D.int).length + ((gat rows i).map D.int).length ≤ 16777216 := by
                have z := congrArg List.length ha
                rw [List.flatMap_cons] at z
                simp only [List.length_append, List.length_map] at z hlen ⊢
                omega
              dsimp? [hle]
              exact ⟨r, acc2 ++ gat rows i, _, rfl, by rw [← ha, List.flatMap_cons, List.append_assoc], by rw [List.map_append, List.append_assoc]⟩
          · rintro ρ ⟨rest, acc2, u, hx, ha, rfl⟩
            have := map_nil_inv hx
            subst this
            rw [List.flatMap_nil, List.append_nil] at ha
            subst ha
            dsimp? []
            exact ⟨r, _, _, _, _, rfl, ha', ho', rfl⟩
  · rintro ρ ⟨rest, acc, u3, u4, u5, hx, ha, ho, rfl⟩
    have := map_nil_inv hx
    subst this
    have ha' : acc = showD code n := by rw [← ha]; simp [showD]
    subst ha'
    dsimp? []

theorem imC {c : Cu} : D.imm c.d = true := id rfl
theorem imLc : ∀ l : List Cu, D.immL (l.map Cu.d) = true
  | [] => rfl
  | x :: l => by rw [List.map_cons, imL_c, imLc l]; rfl
theorem law_cuts_ev (code : List Pa) (hl : (cutsOf code).length ≤ 8000000) : Ev (f__law_cuts.sem [.lst (code.map Pa.d)]) fun r os => r = .lst ((cutsOf code).map Cu.d) ∧ os = [.un] := by
  refine Ev.sem (fb := d__law_cuts.1) rfl ?_
  unfold d__law_cuts
  dsimp? [S__law_cuts]
  refine ev_for (fun xs ρ => ∃ (rest : List Pa) (acc : List Cu) (u : D), xs = rest.map Pa.d ∧ acc ++ cutsOf rest = cutsOf code ∧ ρ = [.lst (code.map Pa.d), .lst (acc.map Cu.d), u]) ?_ ?_ ⟨code, [], .un, rfl, rfl, rfl⟩
  · rintro x xs ρ ⟨rest, acc, u, hx, ha, rfl⟩
    obtain ⟨p, r, rfl, rfl, rfl⟩ := map_cons_inv hx
    have h3 : acc.length + p.cuts.length ≤ 8000000 := by
      have := congrArg List.length ha
      simp only [cutsOf, List.flatMap_cons, List.length_append] at this hl
      omega
    cases p with
    | card s n =>
      dsimp? [Pa.d, s_cu, s_cw, imC]
      exact ⟨r, acc, _, rfl, by rw [← ha]; simp [cutsOf, Pa.cuts], rfl⟩
    | cut c =>
      have h4 : acc.length < 16777216 := by have h5 : acc.length + 1 ≤ 8000000 := h3; omega
      dsimp? [Pa.d, s_uu, s_uw, imC, List.length_map, h4]
      exact ⟨r, acc ++ [c], _, rfl, by rw [← ha]; simp [cutsOf, Pa.cuts], by rw [List.map_append]; rfl⟩
    | weave cs =>
      have h4 : acc.length + cs.length ≤ 16777216 := by have h5 : acc.length + cs.length ≤ 8000000 := h3; omega
      dsimp? [Pa.d, s_wu, s_ww, imC, imLc cs, List.length_map, h4]
      exact ⟨r, acc ++ cs, _, rfl, by rw [← ha]; simp [cutsOf, Pa.cuts], by rw [List.map_append]⟩
  · rintro ρ ⟨rest, acc, u, hx, ha, rfl⟩
    have := map_nil_inv hx
    subst this
    have ha' : acc = cutsOf code := by rw [← ha]; simp [cutsOf]
    subst ha'
    dsimp? []
theorem law_reach_ev (code : List Pa) (hl : (cutsOf code).length ≤ 8000000) : Ev (f__law_reach.sem [.lst (code.map Pa.d)]) fun r os => r = .int (re' code) ∧ os = [.un] := by
  refine Ev.sem (fb := d__law_reach.1) rfl ?_
  unfold d__law_reach
  dsimp? [S__law_reach]
  refine (law_cuts_ev code hl).mono ?_
  rintro _ _ ⟨rfl, rfl⟩
  dsimp? []
  refine ev_for (fun xs ρ => ∃ (rest : List Cu) (r : Int) (u : D), xs = rest.map Cu.d ∧ ((marksOf rest).map fun a => sgn a.m).foldl max r = re' code ∧ ρ = [.lst (code.map Pa.d), .int r, u]) ?_ ?_ ⟨cutsOf code, 0, .un, rfl, rfl, rfl⟩
  · rintro x xs ρ ⟨rest, r, u, hx, hr, rfl⟩
    obtain ⟨c, cs, rfl, rfl, rfl⟩ := map_cons_inv hx
    dsimp? [Cu.d, Mk.d, sgn_fold, mx3]
    exact ⟨cs, _, _, rfl, hr, rfl⟩
  · rintro ρ ⟨rest, r, u, hx, hr, rfl⟩
    have := map_nil_inv hx
    subst this
    dsimp? []
    rw [← hr]; rfl
theorem law_period_ev (code : List Pa) (h : Sm code) : Ev (f__law_period.sem [.lst (code.map Pa.d)]) fun r os => r = .int (pe code) ∧ os = [.un] := by
  refine Ev.sem (fb := d__law_period.1) rfl ?_
  unfold d__law_period
  dsimp? [S__law_period]
  refine (law_cuts_ev code h.1).mono ?_
  rintro _ _ ⟨rfl, rfl⟩
  dsimp? []
  refine ev_for (fun xs ρ => ∃ (rest : List Cu) (t : Int) (u2 u3 u4 : D), xs = rest.map Cu.d ∧ T12 t ∧ okL rest ∧ ((marksOf rest).map Mk.q).foldl lc t = pe code ∧ ρ = [.lst (code.map Pa.d), .int t, u2, u3, u4]) ?_ ?_ ⟨cutsOf code, 1, .un, .un, .un, rfl, .inl rfl, h.2, rfl, rfl⟩
  · rintro x xs ρ ⟨rest, t, u2, u3, u4, hx, ht, ho, hp, rfl⟩
    obtain ⟨c, cs, rfl, rfl, rfl⟩ := map_cons_inv hx
    have hc := ho c List.mem_cons_self
    dsimp? [Cu.d, gvM]
    refine ev_for (fun ys ρ => ∃ (ms : List Mk) (t' : Int) (u3 u4 : D), ys = ms.map Mk.d ∧ T12 t' ∧ (∀ a ∈ ms, a.ok) ∧ (ms.map Mk.q).foldl lc t' = lc (lc t c.f.q) c.l.q ∧ ρ = [.lst (code.map Pa.d), .int t', .tup [c.f.d, c.l.d, .str (wayS c.b)], u3, u4]) ?_ ?_ ⟨[c.f, c.l], t, u3, u4, rfl, ht, by intro a ha; simp at ha; rcases ha with rfl | rfl; exact hc.1; exact hc.2, rfl, rfl⟩
    · rintro y ys ρ ⟨ms, t', u3, u4, hy, ht', hm, hq, rfl⟩
      obtain ⟨a, r, rfl, rfl, rfl⟩ := map_cons_inv hy
      have ha := hm a List.mem_cons_self
      have hQ := ha.Q
      have fin : ∀ u4 : D, ∃ (ms : List Mk) (t'' : Int) (v3 v4 : D), r.map Mk.d = ms.map Mk.d ∧ T12 t'' ∧ (∀ a ∈ ms, a.ok) ∧ (ms.map Mk.q).foldl lc t'' = lc (lc t c.f.q) c.l.q ∧ [.lst (code.map Pa.d), .int (lc t' a.q), .tup [c.f.d, c.l.d, .str (wayS c.b)], a.d, u4] = [.lst (code.map Pa.d), .int t'', .tup [c.f.d, c.l.d, .str (wayS c.b)], v3, v4] :=
        fun u4 => ⟨r, lc t' a.q, a.d, u4, rfl, lc_T ht' hQ, fun b hb => hm b (List.mem_cons_of_mem _ hb), hq, rfl⟩
      obtain ⟨p, q, m⟩ := a
      dsimp only at hQ fin
      dsimp? [Mk.d, rng2 (show -(2 ^ 62) ≤ (1 : Int) by decide) (show (1 : Int) < 2 ^ 62 by decide) (show -(2 ^ 62) ≤ (13 : Int) by decide) (show (13 : Int) < 2 ^ 62 by decide)]
      unfold T12 at ht'
      unfold Q5 at hQ
      rcases ht' with rfl | rfl | rfl | rfl | rfl | rfl <;> rcases hQ with rfl | rfl | rfl | rfl | rfl <;> exact ⟨.nx, _, rfl, fin _⟩
    · rintro ρ ⟨ms, t', u3, u4, hy, ht', hm, hq, rfl⟩
      have := map_nil_inv hy
      subst this
      dsimp? []
      exact ⟨cs, t', _, _, _, rfl, ht', fun b hb => ho b (List.mem_cons_of_mem _ hb), by rw [show t' = lc (lc t c.f.q) c.l.q from hq]; exact hp, rfl⟩
  · rintro ρ ⟨rest, t, u2, u3, u4, hx, ht, ho, hp, rfl⟩
    have := map_nil_inv hx
    subst this
    dsimp? []
    rw [← hp]; rfl

theorem ty_ss {x : Str} : isTy "str" (.str x) = some true := id rfl
theorem ty_bi {i : Int} : isTy "bool" (.int i) = some false := id rfl
theorem ty_ii {i : Int} : isTy "int" (.int i) = some true := id rfl
theorem ty_bb {i : Bool} : isTy "bool" (.bl i) = some true := id rfl
def Scl (d : D) : Prop := (∃ i, d = .int i) ∨ ∃ s, d = .str s ∧ sOk s = true
theorem show_scl {code : List Pa} (h : ∀ p ∈ code, p.ok) {n : Int} : ∀ x ∈ showD code n, Scl x := fun x hx => by
  obtain ⟨p, hp, hm⟩ := List.mem_flatMap.mp hx
  cases p with
  | card s k => exact .inr ⟨s, (List.mem_replicate.mp hm).2, (h _ hp).2⟩
  | cut c => obtain ⟨i, _, rfl⟩ := List.mem_map.mp hm; exact .inl ⟨i, rfl⟩
  | weave cs => obtain ⟨i, _, rfl⟩ := List.mem_map.mp hm; exact .inl ⟨i, rfl⟩
/-- what a list of parts keeps -/
structure Cd (code : List Pa) : Prop where
  len : code.length ≤ 100
  ok : ∀ p ∈ code, p.ok
  n : ∀ p ∈ code, p.cuts.length ≤ 3
theorem Cd.code {c : List Pa} (h : Cd c) : Code c := ⟨by have := h.len; omega, h.ok⟩
theorem cuts_le : ∀ (code : List Pa), (∀ p ∈ code, p.cuts.length ≤ 3) → (cutsOf code).length ≤ 3 * code.length
  | [], _ => by simp [cutsOf]
  | p :: r, h => by
    have h1 := h p List.mem_cons_self
    have h2 := cuts_le r fun q hq => h q (List.mem_cons_of_mem _ hq)
    simp only [cutsOf, List.flatMap_cons, List.length_append, List.length_cons] at h2 ⊢
    omega
theorem Pa.okc {p : Pa} (h : p.ok) : okL p.cuts := fun c hc => by
  cases p with
  | card s n => simp [Pa.cuts] at hc
  | cut c' => simp [Pa.cuts] at hc; subst hc; exact h
  | weave cs => exact h.2.2 c hc
theorem Cd.sm {c : List Pa} (h : Cd c) : Sm c := ⟨by have := cuts_le c h.n; have := h.len; omega, fun x hx => by
  obtain ⟨p, hp, hm⟩ := List.mem_flatMap.mp hx
  exact Pa.okc (h.ok p hp) x hm⟩
theorem law_bound_ev (l r : List Pa) (hl : Cd l) (hr : Cd r) : Ev (f__law_bound.sem [.lst (l.map Pa.d), .lst (r.map Pa.d)]) fun v os => v = .int (abd l r) ∧ os = [.un, .un] := by
  refine Ev.sem (fb := d__law_bound.1) rfl ?_
  unfold d__law_bound
  have hlen : (l.map Pa.d).length + (r.map Pa.d).length ≤ 16777216 := by rw [List.length_map, List.length_map]; have := hl.len; have := hr.len; omega
  have hsm : Sm (l ++ r) := ⟨by rw [cuts_app, List.length_append]; have := cuts_le l hl.n; have := cuts_le r hr.n; have := hl.len; have := hr.len; omega, fun x hx => by
    rw [cuts_app] at hx
    rcases List.mem_append.mp hx with z | z
    · exact hl.sm.2 x z
    · exact hr.sm.2 x z⟩
  obtain ⟨x1, x2⟩ := T12_lt (pe_T hsm)
  dsimp? [S__law_bound, hlen]
  rw [show l.map Pa.d ++ r.map Pa.d = (l ++ r).map Pa.d from List.map_append.symm]
  refine (law_period_ev (l ++ r) hsm).mono ?_
  rintro _ _ ⟨rfl, rfl⟩
  dsimp? []
  refine (law_reach_ev l hl.sm.1).mono ?_
  rintro _ _ ⟨rfl, rfl⟩
  dsimp? []
  refine (law_reach_ev r hr.sm.1).mono ?_
  rintro _ _ ⟨rfl, rfl⟩
  dsimp? [d_mulL x1 x2, max_if]
  rw [pe_app hl.sm hr.sm]
  rfl
/-! ### rows are compared -/
theorem toPy_scl {d : D} (h : Scl d) : d.pyOk = true ∧ d.toPy.canLay0 = true ∧ d.toPy.depth = 0 := by
  rcases h with ⟨i, rfl⟩ | ⟨s, rfl, hs⟩
  · refine ⟨rfl, ?_, ?_⟩
    · show PyData.canLay0 (.int i) = true
      simp only [PyData.canLay0]
    · show PyData.depth (.int i) = 0
      simp only [PyData.depth]
  · refine ⟨rfl, ?_, ?_⟩
    · show PyData.canLay0 (.str s) = true
      simp only [PyData.canLay0]
      exact hs
    · show PyData.depth (.str s) = 0
      simp only [PyData.depth]
theorem toPyL_scl : ∀ {xs : List D}, (∀ x ∈ xs, Scl x) → D.pyOkL xs = true ∧ PyData.canLayAll0 (D.toPyL xs) = true ∧ PyData.depthAll (D.toPyL xs) = 0
  | [], _ => by
    refine ⟨rfl, ?_, ?_⟩
    · show PyData.canLayAll0 [] = true
      simp only [PyData.canLayAll0]
    · show PyData.depthAll [] = 0
      simp only [PyData.depthAll]
  | x :: xs, h => by
    obtain ⟨a1, a2, a3⟩ := toPy_scl (h x List.mem_cons_self)
    obtain ⟨b1, b2, b3⟩ := toPyL_scl fun y hy => h y (List.mem_cons_of_mem _ hy)
    refine ⟨?_, ?_, ?_⟩
    · show (D.pyOk x && D.pyOkL xs) = true
      rw [a1, b1]; rfl
    · show PyData.canLayAll0 (x.toPy :: D.toPyL xs) = true
      simp only [PyData.canLayAll0, a2, b2, Bool.and_self]
    · show PyData.depthAll (x.toPy :: D.toPyL xs) = 0
      simp only [PyData.depthAll, a3, b3, Nat.max_self]
def Eq' (a b : List D) : Bool := PyData.eqvAll (D.toPyL a) (D.toPyL b)
theorem ok_lst {xs : List D} (h : ∀ x ∈ xs, Scl x) : (D.lst xs).eqOk = true := by
  obtain ⟨b1, b2, b3⟩ := toPyL_scl h
  show ((D.lst xs).pyOk && (PyData.canLay0 (.list (D.toPyL xs)) && decide (PyData.depth (.list (D.toPyL xs)) ≤ 64))) = true
  rw [show (D.lst xs).pyOk = D.pyOkL xs from rfl, b1]
  simp only [PyData.canLay0, PyData.depth, b2, b3, Bool.true_and]
  decide
theorem ok_tup {xs : List D} (h : ∀ x ∈ xs, Scl x) : (D.tup xs).eqOk = true := by
  obtain ⟨b1, b2, b3⟩ := toPyL_scl h
  show ((D.tup xs).pyOk && (PyData.canLay0 (.tuple (D.toPyL xs)) && decide (PyData.depth (.tuple (D.toPyL xs)) ≤ 64))) = true
  rw [show (D.tup xs).pyOk = D.pyOkL xs from rfl, b1]
  simp only [PyData.canLay0, PyData.depth, b2, b3, Bool.true_and]
  decide
theorem ne_lst {a b : List D} (ha : ∀ x ∈ a, Scl x) (hb : ∀ x ∈ b, Scl x) : dNe [.lst a, .lst b] = some (.bl (!Eq' a b)) := by
  show (if ((D.lst a).eqOk && (D.lst b).eqOk) = true then some (PyData.eqv (.list (D.toPyL a)) (.list (D.toPyL b))) else none).map _ = _
  rw [ok_lst ha, ok_lst hb]
  simp only [PyData.eqv]
  rfl
theorem ne_tup {a b : List D} (ha : ∀ x ∈ a, Scl x) (hb : ∀ x ∈ b, Scl x) : dNe [.tup a, .tup b] = some (.bl (!Eq' a b)) := by
  show (if ((D.tup a).eqOk && (D.tup b).eqOk) = true then some (PyData.eqv (.tuple (D.toPyL a)) (.tuple (D.toPyL b))) else none).map _ = _
  rw [ok_tup ha, ok_tup hb]
  simp only [PyData.eqv]
  rfl
theorem Eq'_eq : ∀ {a b : List D}, (∀ x ∈ a, Scl x) → (∀ x ∈ b, Scl x) → Eq' a b = true → a = b
  | [], [], _, _, _ => rfl
  | [], _ :: _, _, _, h => by
    have h : PyData.eqvAll [] (_ :: _) = true := h
    simp [PyData.eqvAll] at h
  | _ :: _, [], _, _, h => by
    have h : PyData.eqvAll (_ :: _) [] = true := h
    simp [PyData.eqvAll] at h
  | x :: a, y :: b, ha, hb, h => by
    have h : PyData.eqvAll (x.toPy :: D.toPyL a) (y.toPy :: D.toPyL b) = true := h
    simp only [PyData.eqvAll, Bool.and_eq_true] at h
    have e := Eq'_eq (fun z hz => ha z (List.mem_cons_of_mem _ hz)) (fun z hz => hb z (List.mem_cons_of_mem _ hz)) h.2
    have e2 : x = y := by
      have h1 := h.1
      rcases ha x List.mem_cons_self with ⟨i, rfl⟩ | ⟨s, rfl, _⟩ <;> rcases hb y List.mem_cons_self with ⟨j, rfl⟩ | ⟨t, rfl, _⟩
      · have h1 : PyData.eqv (.int i) (.int j) = true := h1
        simp only [PyData.eqv, beq_iff_eq] at h1
        rw [h1]
      · have h1 : PyData.eqv (.int i) (.str t) = true := h1
        simp [PyData.eqv] at h1
      · have h1 : PyData.eqv (.str s) (.int j) = true := h1
        simp [PyData.eqv] at h1
      · have h1 : PyData.eqv (.str s) (.str t) = true := h1
        simp only [PyData.eqv, beq_iff_eq] at h1
        rw [h1]
    rw [e, e2]
def un (l r : List Pa) (n : Int) : Bool := !Eq' (showD l n) (showD r n)
theorem un_of {l r : List Pa} (hl : Cd l) (hr : Cd r) {n : Int} (h : showD l n ≠ showD r n) : un l r n = true := by
  unfold un
  cases e : Eq' (showD l n) (showD r n) with
  | false => rfl
  | true => exact absurd (Eq'_eq (show_scl hl.ok) (show_scl hr.ok) e) h
theorem law_unlike_ev (l r : List Pa) (hl : Cd l) (hr : Cd r) (n : Int) (h0 : 0 ≤ n) (h1 : n ≤ 1000) : Ev (f__law_unlike.sem [.lst (l.map Pa.d), .lst (r.map Pa.d), .int n]) fun v os => v = .bl (un l r n) ∧ os = [.un, .un, .un] := by
  refine Ev.sem (fb := d__law_unlike.1) rfl ?_
  unfold d__law_unlike
  dsimp? [S__law_unlike]
  refine (law_row_ev l hl.code n h0 h1).mono ?_
  rintro _ _ ⟨rfl, rfl⟩
  dsimp? []
  refine (law_row_ev r hr.code n h0 h1).mono ?_
  rintro _ _ ⟨rfl, rfl⟩
  dsimp? [ne_lst (show_scl hl.ok) (show_scl hr.ok)]
  rfl
theorem whole_ev (d : D) (hg : ∀ ρ, gv d ρ = .ok d ρ) (b : Bool) (h : (isTy "int" d = some false ∧ b = false) ∨ (isTy "int" d = some true ∧ isTy "bool" d = some (!b))) : Ev (f_is_whole.sem [d]) fun v os => v = .bl b ∧ os = [.un] := by
  refine Ev.sem (fb := d_is_whole.1) rfl ?_
  unfold d_is_whole
  rcases h with ⟨h1, rfl⟩ | ⟨h1, h2⟩
  · dsimp? [hg, h1]
  · dsimp? [hg, h1, h2]
    cases b <;> rfl
theorem within_ev (n : Int) : Ev (f_whole_within.sem [.int n, .int 0, .int 400]) fun v os => v = .bl (decide (0 ≤ n ∧ n ≤ 400)) ∧ os = [.un, .un, .un] := by
  refine Ev.sem (fb := d_whole_within.1) rfl ?_
  unfold d_whole_within
  dsimp? [S_whole_within]
  refine (whole_ev (.int n) (fun _ => id rfl) true (.inr ⟨ty_ii, ty_bi⟩)).mono ?_
  rintro _ _ ⟨rfl, rfl⟩
  by_cases h0 : 0 ≤ n
  · by_cases h4 : n ≤ 400
    · dsimp? [h0, h4]
      try simp [h0, h4]
    · dsimp? [h0, h4]
      try simp [h0, h4]
  · dsimp? [h0]
    simp [h0]
theorem within_no (d : D) (hg : ∀ ρ, gv d ρ = .ok d ρ) (h : isTy "int" d = some false ∨ (isTy "int" d = some true ∧ isTy "bool" d = some true)) : Ev (f_whole_within.sem [d, .int 0, .int 400]) fun v os => v = .bl false ∧ os = [.un, .un, .un] := by
  refine Ev.sem (fb := d_whole_within.1) rfl ?_
  unfold d_whole_within
  dsimp? [S_whole_within, hg]
  refine (whole_ev d hg false (h.imp (fun z => ⟨z, rfl⟩) fun z => z)).mono ?_
  rintro _ _ ⟨rfl, rfl⟩
  dsimp? []
theorem paper_ev (l r : List Pa) (hl : Cd l) (hr : Cd r) (n : Int) : Ev (f_is_unlike_paper.sem [.tup (l.map Pa.d), .tup (r.map Pa.d), .int n]) fun v os => v = .bl (decide (0 ≤ n ∧ n ≤ 400) && un l r n) ∧ os = [.un, .un, .un] := by
  refine Ev.sem (fb := d_is_unlike_paper.1) rfl ?_
  unfold d_is_unlike_paper
  dsimp? [S_is_unlike_paper, con_LENGTH_MOST]
  refine (within_ev n).mono ?_
  rintro _ _ ⟨rfl, rfl⟩
  by_cases h : 0 ≤ n ∧ n ≤ 400
  · dsimp? [h]
    refine (shown_ev l hl.code n h.1 (by omega)).mono ?_
    rintro _ _ ⟨rfl, rfl⟩
    dsimp? []
    refine (shown_ev r hr.code n h.1 (by omega)).mono ?_
    rintro _ _ ⟨rfl, rfl⟩
    dsimp? [ne_tup (show_scl hl.ok) (show_scl hr.ok)]
    simp [h, un]
  · dsimp? [h]
    simp [h]
theorem paper_no (l r : List Pa) (d : D) (hg : ∀ ρ, gv d ρ = .ok d ρ) (h : isTy "int" d = some false ∨ (isTy "int" d = some true ∧ isTy "bool" d = some true)) : Ev (f_is_unlike_paper.sem [.tup (l.map Pa.d), .tup (r.map Pa.d), d]) fun v os => v = .bl false ∧ os = [.un, .un, .un] := by
  refine Ev.sem (fb := d_is_unlike_paper.1) rfl ?_
  unfold d_is_unlike_paper
  dsimp? [S_is_unlike_paper, con_LENGTH_MOST, hg]
  refine (within_no d hg h).mono ?_
  rintro _ _ ⟨rfl, rfl⟩
  dsimp? []

theorem ne_bb {b : Bool} : dNe [.bl b, .bl b] = some (.bl false) := by cases b <;> rfl
def due (l r : List Pa) (n : Int) : Bool := decide (0 ≤ n ∧ n ≤ 400) && un l r n
theorem papers_ev (l r : List Pa) (hl : Cd l) (hr : Cd r) (ns : List Int) : Ev (f__law_papers.sem [.lst (l.map Pa.d), .lst (r.map Pa.d), .lst (ns.map D.int)]) fun v os => ∃ a b : Int, v = .lst [.int a, .int b] ∧ os = [.un, .un, .un] ∧ 0 ≤ a ∧ 0 ≤ b ∧ (∀ n ∈ ns, due l r n = true → 0 < a) ∧ (∀ n ∈ ns, due l r n = false → 0 < b) := by
  refine Ev.sem (fb := d__law_papers.1) rfl ?_
  unfold d__law_papers
  dsimp? [S__law_papers]
  refine ev_for (fun xs ρ => ∃ (rest : List Int) (a b : Int) (u1 u2 u3 : D), xs = rest.map D.int ∧ 0 ≤ a ∧ 0 ≤ b ∧ (∀ n ∈ ns, n ∈ rest ∨ (due l r n = true → 0 < a) ∧ (due l r n = false → 0 < b)) ∧ ρ = [.lst (l.map Pa.d), .lst (r.map Pa.d), .lst (ns.map D.int), .lst [.int a, .int b], u1, u2, u3]) ?_ ?_ ⟨ns, 0, 0, .un, .un, .un, rfl, by omega, by omega, fun n hn => .inl hn, rfl⟩
  · rintro x xs ρ ⟨rest, a, b, u1, u2, u3, hx, ha, hb, hd, rfl⟩
    obtain ⟨n, rs, rfl, rfl, rfl⟩ := map_cons_inv hx
    have fin : ∀ a' b' : Int, a ≤ a' → b ≤ b' → (due l r n = true → 0 < a') → (due l r n = false → 0 < b') → ∀ m ∈ ns, m ∈ rs ∨ (due l r m = true → 0 < a') ∧ (due l r m = false → 0 < b') := fun a' b' h1 h2 h3 h4 m hm => by
      rcases hd m hm with z | ⟨z1, z2⟩
      · rcases List.mem_cons.mp z with rfl | z
        · exact .inr ⟨h3, h4⟩
        · exact .inl z
      · exact .inr ⟨fun e => by have := z1 e; omega, fun e => by have := z2 e; omega⟩
    have tail : Ev (f_is_unlike_paper.sem [.tup (l.map Pa.d), .tup (r.map Pa.d), .int n]) fun v os => v = .bl (due l r n) ∧ os = [.un, .un, .un] := paper_ev l r hl hr n
    by_cases h0 : 0 ≤ n
    · by_cases h4 : n ≤ 400
      · have hdu : due l r n = un l r n := by unfold due; rw [decide_eq_true ⟨h0, h4⟩]; rfl
        dsimp? [h0, h4]
        refine (law_unlike_ev l r hl hr n h0 (by omega)).mono ?_
        rintro _ _ ⟨rfl, rfl⟩
        rw [← hdu]
        dsimp? []
        refine tail.mono ?_
        rintro _ _ ⟨rfl, rfl⟩
        cases e : due l r n with
        | true =>
          dsimp? [ty_bb, ne_bb]
          exact ⟨rs, a + 1, b, _, _, _, rfl, by omega, hb, fin _ _ (by omega) (by omega) (fun _ => by omega) (fun z => by rw [e] at z; cases z), rfl⟩
        | false =>
          dsimp? [ty_bb, ne_bb]
          exact ⟨rs, a, b + 1, _, _, _, rfl, ha, by omega, fin _ _ (by omega) (by omega) (fun z => by rw [e] at z; cases z) (fun _ => by omega), rfl⟩
      · have e : due l r n = false := by unfold due; rw [decide_eq_false (fun z => h4 z.2)]; rfl
        rw [e] at tail
        dsimp? [h0, h4]
        refine tail.mono ?_
        rintro _ _ ⟨rfl, rfl⟩
        dsimp? [ty_bb, ne_bb]
        exact ⟨rs, a, b + 1, _, _, _, rfl, ha, by omega, fin _ _ (by omega) (by omega) (fun z => by rw [e] at z; cases z) (fun _ => by omega), rfl⟩
    · have e : due l r n = false := by unfold due; rw [decide_eq_false (fun z => h0 z.1)]; rfl
      rw [e] at tail
      dsimp? [h0]
      refine tail.mono ?_
      rintro _ _ ⟨rfl, rfl⟩
      dsimp? [ty_bb, ne_bb]
      exact ⟨rs, a, b + 1, _, _, _, rfl, ha, by omega, fin _ _ (by omega) (by omega) (fun z => by rw [e] at z; cases z) (fun _ => by omega), rfl⟩
  · rintro ρ ⟨rest, a, b, u1, u2, u3, hx, ha, hb, hd, rfl⟩
    have := map_nil_inv hx
    subst this
    dsimp? []
    exact ⟨a, b, rfl, ha, hb, fun n hn e => by
      rcases hd n hn with z | z
      · cases z
      · exact z.1 e, fun n hn e => by
      rcases hd n hn with z | z
      · cases z
      · exact z.2 e⟩
def Odd' (d : D) : Prop := (∀ ρ, gv d ρ = .ok d ρ) ∧ (isTy "int" d = some false ∨ (isTy "int" d = some true ∧ isTy "bool" d = some true))
theorem strI {n : Int} (h0 : 0 ≤ n) (h4 : n ≤ 400) : ∃ s : Str, dStrI [.int n] = some (.str s) := by
  refine ⟨Str.ofString (toString n), ?_⟩
  show (if _ then _ else _) = _
  rw [if_pos]
  by_cases h : n.natAbs = 0
  · rw [h]; decide
  · have := (Nat.log2_lt h (k := 9)).mpr (by omega)
    omega
theorem strange_ev (l r : List Pa) (n : Int) (h0 : 0 ≤ n) (h4 : n ≤ 400) : Ev (f__law_strange.sem [.lst (l.map Pa.d), .lst (r.map Pa.d), .int n]) fun v os => v = .bl true ∧ os = [.un, .un, .un] := by
  refine Ev.sem (fb := d__law_strange.1) rfl ?_
  unfold d__law_strange
  obtain ⟨s, hs⟩ := strI h0 h4
  dsimp? [S__law_strange, hs]
  refine ev_for (fun xs ρ => (∀ x ∈ xs, Odd' x) ∧ ∃ u3 u4 u5 : D, ρ = [.lst (l.map Pa.d), .lst (r.map Pa.d), .int n, u3, u4, u5]) ?_ ?_ ⟨?_, _, .un, .un, rfl⟩
  · rintro x xs ρ ⟨hx, u3, u4, u5, rfl⟩
    obtain ⟨h1, h2⟩ := hx x List.mem_cons_self
    dsimp? [h1]
    refine (paper_no l r x h1 h2).mono ?_
    rintro _ _ ⟨rfl, rfl⟩
    dsimp? [ty_bb]
    exact ⟨fun y hy => hx y (List.mem_cons_of_mem _ hy), _, _, _, rfl⟩
  · rintro ρ ⟨hx, u3, u4, u5, rfl⟩
    dsimp? []
  · intro x hx
    simp only [List.mem_cons, List.mem_nil_iff, or_false] at hx
    rcases hx with rfl | rfl | rfl | rfl | rfl | rfl | rfl | rfl | rfl | rfl | rfl | rfl | rfl | rfl
    · exact ⟨fun _ => rfl, .inr ⟨rfl, rfl⟩⟩
    · exact ⟨fun _ => rfl, .inr ⟨rfl, rfl⟩⟩
    · exact ⟨fun _ => rfl, .inl rfl⟩
    · exact ⟨fun _ => rfl, .inl rfl⟩
    · exact ⟨fun _ => rfl, .inl rfl⟩
    · exact ⟨fun _ => rfl, .inl rfl⟩
    · exact ⟨fun _ => rfl, .inl rfl⟩
    · exact ⟨fun _ => rfl, .inl rfl⟩
    · exact ⟨fun _ => rfl, .inl rfl⟩
    · exact ⟨fun _ => rfl, .inl rfl⟩
    · exact ⟨fun _ => rfl, .inl rfl⟩
    · exact ⟨fun _ => rfl, .inl rfl⟩
    · exact ⟨fun _ => rfl, .inl rfl⟩
    · exact ⟨fun _ => rfl, .inl rfl⟩

structure Re where
  s : Int
  n : Int
def Re.d (c : Re) : D := .lst [.int c.s, .int c.n]
def Re.ok (c : Re) : Prop := 0 ≤ c.s ∧ c.s < 2147483423
theorem gvR {c : Re} {ρ : List D} : gv c.d ρ = .ok c.d ρ := id rfl
theorem reel_ev (ns : List Int) : Ev (f__law_reel.sem [.scr ns]) fun r os => ∃ c : Re, r = c.d ∧ os = [.un] ∧ c.ok := by
  refine Ev.sem (fb := d__law_reel.1) rfl ?_
  unfold d__law_reel
  dsimp? [S__law_reel]
  refine ev_for (fun xs ρ => ∃ (rest : List Int) (s : Int) (u : D), xs = rest.map D.int ∧ (0 ≤ s ∧ s < 2147483423) ∧ ρ = [.scr ns, .int s, u]) ?_ ?_ ⟨ns, 91139, .un, rfl, by omega, rfl⟩
  · rintro x xs ρ ⟨rest, s, u, hx, hs, rfl⟩
    obtain ⟨z, r, rfl, rfl, rfl⟩ := map_cons_inv hx
    dsimp? []
    exact ⟨r, _, _, rfl, ⟨Int.emod_nonneg _ (by decide), Int.emod_lt_of_pos _ (by decide)⟩, rfl⟩
  · rintro ρ ⟨rest, s, u, hx, hs, rfl⟩
    dsimp? []
    exact ⟨⟨s, 0⟩, rfl, hs⟩
theorem draw_ev (c : Re) (hc : c.ok) (m : Int) (h0 : 0 < m) : Ev (f__law_draw.sem [c.d, .int m]) fun r os => ∃ (k : Int) (c' : Re), r = .int k ∧ os = [c'.d, .un] ∧ 0 ≤ k ∧ k < m ∧ c'.ok := by
  refine Ev.sem (fb := d__law_draw.1) rfl ?_
  unfold d__law_draw
  dsimp? [S__law_draw, Re.d, h0]
  exact ⟨_, ⟨_, c.n + 1⟩, rfl, rfl, Int.emod_nonneg _ (by omega), Int.emod_lt_of_pos _ h0, ⟨Int.emod_nonneg _ (by decide), Int.emod_lt_of_pos _ (by decide)⟩⟩
def prD (s : Int × Int) : D := .tup [.int s.1, .int s.2]
def okS (s : Int × Int) : Prop := (0 ≤ s.1 ∧ s.1 ≤ s.2) ∧ (1 ≤ s.2 ∧ s.2 ≤ 6) ∧ s.2 ≠ 5
instance (s : Int × Int) : Decidable (okS s) := by unfold okS; infer_instance
theorem Sh.mk {s : Int × Int} (h : okS s) {m : Int} (hm : -9 ≤ m ∧ m ≤ 9) : Mk.ok ⟨s.1, s.2, m⟩ := ⟨h.1, h.2.1, h.2.2, hm⟩
def M6 (m : Int) : Prop := m = 1 ∨ m = 2 ∨ m = 3 ∨ m = 4 ∨ m = 6 ∨ m = 12
theorem shares_eq {m : Int} (h : M6 m) : ∃ sh : List (Int × Int), f__law_shares.sem [.int m] = .ok (.lst (sh.map prD)) [.un] ∧ 2 ≤ sh.length ∧ sh.length ≤ 9 ∧ ∀ s ∈ sh, okS s := by
  unfold M6 at h
  rcases h with rfl | rfl | rfl | rfl | rfl | rfl
  · exact ⟨[(0, 1), (1, 1)], rfl, by decide, by decide, by decide⟩
  · exact ⟨[(0, 1), (1, 2), (1, 1)], rfl, by decide, by decide, by decide⟩
  · exact ⟨[(0, 1), (1, 3), (2, 3), (1, 1)], rfl, by decide, by decide, by decide⟩
  · exact ⟨[(0, 1), (1, 4), (1, 2), (3, 4), (1, 1)], rfl, by decide, by decide, by decide⟩
  · exact ⟨[(0, 1), (1, 6), (1, 3), (1, 2), (2, 3), (5, 6), (1, 1)], rfl, by decide, by decide, by decide⟩
  · exact ⟨[(0, 1), (1, 6), (1, 4), (1, 3), (1, 2), (2, 3), (3, 4), (5, 6), (1, 1)], rfl, by decide, by decide, by decide⟩
theorem pick_sh {sh : List (Int × Int)} {k : Int} (k0 : 0 ≤ k) (k1 : k < sh.length) : ∃ s, s ∈ sh ∧ L2.atI (sh.map prD) k = some (prD s) := by
  have hk : k.toNat < sh.length := by omega
  exact ⟨sh[k.toNat], List.getElem_mem hk, by rw [atI_of k0 (by simpa using k1), List.getElem?_map, List.getElem?_eq_getElem hk]; rfl⟩
theorem way_ev (c : Re) (hc : c.ok) : Ev (f__law_way.sem [c.d]) fun r os => ∃ (w : Bool) (c' : Re), r = .str (wayS w) ∧ os = [c'.d] ∧ c'.ok := by
  refine Ev.sem (fb := d__law_way.1) rfl ?_
  unfold d__law_way
  dsimp? [S__law_way, gvR]
  refine (draw_ev c hc 2 (by omega)).mono ?_
  rintro _ _ ⟨k, c1, rfl, rfl, k0, k1, hc1⟩
  have hw : ∃ w : Bool, L2.atI [D.str "on", D.str "back"] k = some (.str (wayS w)) := by
    rcases (show k = 0 ∨ k = 1 by omega) with rfl | rfl
    · exact ⟨false, rfl⟩
    · exact ⟨true, rfl⟩
  obtain ⟨w, hw⟩ := hw
  dsimp? [gvR, hw]
  exact ⟨w, c1, rfl, rfl, hc1⟩
theorem mark_ev (c : Re) (hc : c.ok) (m : Int) (hm : M6 m) (sz : Int) (z0 : 0 ≤ sz) (z9 : sz ≤ 9) (rk : Int) (r0 : 0 ≤ rk) (r8 : rk ≤ 8) : Ev (f__law_mark.sem [c.d, .int m, .int sz, .int rk]) fun r os => ∃ (a : Mk) (c' : Re), r = a.d ∧ os = [c'.d, .un, .un, .un] ∧ a.ok ∧ c'.ok := by
  refine Ev.sem (fb := d__law_mark.1) rfl ?_
  unfold d__law_mark
  obtain ⟨sh, hsh, s2, s9, hok⟩ := shares_eq hm
  have b1 : -18446744073709551616 < rk := by omega
  have b2 : rk < 18446744073709551616 := by omega
  have hmul : 0 ≤ rk * (sh.length : Int) := Int.mul_nonneg r0 (by omega)
  have hmul2 : rk * (sh.length : Int) ≤ 8 * (sh.length : Int) := Int.mul_le_mul_of_nonneg_right r8 (by omega)
  obtain ⟨s, hs, hat⟩ := pick_sh (sh := sh) (k := rk * (sh.length : Int) / 9) (by omega) (by omega)
  dsimp? [S__law_mark, gvR, hsh, List.length_map, d_mulL b1 b2, hat, prD]
  refine (draw_ev c hc (2 * sz + 1) (by omega)).mono ?_
  rintro _ _ ⟨k, c1, rfl, rfl, k0, k1, hc1⟩
  dsimp? [gvR]
  refine (draw_ev c1 hc1 4 (by omega)).mono ?_
  rintro _ _ ⟨k2, c2, rfl, rfl, k20, k21, hc2⟩
  have e1 : -18446744073709551616 < k - sz := by omega
  have e2 : k - sz < 18446744073709551616 := by omega
  have hb : -9 ≤ (k - sz) * (if k2 < 1 then k2 else 1) ∧ (k - sz) * (if k2 < 1 then k2 else 1) ≤ 9 := by
    split
    · rw [show k2 = 0 by omega]; omega
    · omega
  dsimp? [gvR, d_mulL e1 e2]
  exact ⟨⟨s.1, s.2, _⟩, c2, rfl, rfl, Sh.mk (hok s hs) hb, hc2⟩
theorem cut_ev (c : Re) (hc : c.ok) (m : Int) (hm : M6 m) (sz : Int) (z0 : 0 ≤ sz) (z9 : sz ≤ 9) : Ev (f__law_cut.sem [c.d, .int m, .int sz]) fun r os => ∃ (a : Cu) (c' : Re), r = a.d ∧ os = [c'.d, .un, .un] ∧ a.ok ∧ c'.ok := by
  refine Ev.sem (fb := d__law_cut.1) rfl ?_
  unfold d__law_cut
  dsimp? [S__law_cut, gvR]
  refine (draw_ev c hc 9 (by omega)).mono ?_
  rintro _ _ ⟨rk, c1, rfl, rfl, k0, k1, hc1⟩
  dsimp? [gvR]
  refine (draw_ev c1 hc1 3 (by omega)).mono ?_
  rintro _ _ ⟨k2, c2, rfl, rfl, k20, k21, hc2⟩
  dsimp? [gvR]
  refine (draw_ev c2 hc2 2 (by omega)).mono ?_
  rintro _ _ ⟨k3, c3, rfl, rfl, k30, k31, hc3⟩
  have e1 : -18446744073709551616 < k2 := by omega
  have e2 : k2 < 18446744073709551616 := by omega
  have hp : 0 ≤ k2 * k3 := Int.mul_nonneg k20 k30
  have hn : 0 ≤ (if rk + k2 * k3 < 8 then rk + k2 * k3 else 8) ∧ (if rk + k2 * k3 < 8 then rk + k2 * k3 else 8) ≤ 8 := by split <;> omega
  dsimp? [gvR, d_mulL e1 e2]
  generalize (if rk + k2 * k3 < 8 then rk + k2 * k3 else 8) = near at hn
  refine (mark_ev c3 hc3 m hm sz z0 z9 rk k0 (by omega)).mono ?_
  rintro _ _ ⟨a, c4, rfl, rfl, ha, hc4⟩
  dsimp? [gvR]
  refine (mark_ev c4 hc4 m hm sz z0 z9 near hn.1 hn.2).mono ?_
  rintro _ _ ⟨b, c5, rfl, rfl, hb, hc5⟩
  dsimp? [gvR]
  refine (way_ev c5 hc5).mono ?_
  rintro _ _ ⟨w, c6, rfl, rfl, hc6⟩
  dsimp? [gvR]
  exact ⟨⟨a, b, w⟩, c6, rfl, rfl, ⟨ha, hb⟩, hc6⟩
def NameI (s : Str) (n : Nat) : Prop := sOk s = true ∧ s.length = n
theorem len_app {a b : Str} : (a ++ b).length = a.length + b.length := Array.size_append
theorem ok_app {a b : Str} (ha : sOk a = true) (hb : sOk b = true) : sOk (a ++ b) = true := by
  show (a.cps ++ b.cps).all _ = true
  rw [Array.all_append]
  show (a.cps.all _ && b.cps.all _) = true
  rw [show a.cps.all (fun x => decide (x < 0x110000)) = true from ha, show b.cps.all (fun x => decide (x < 0x110000)) = true from hb]
  rfl
def AZ : Str := "abcdefghijklmnopqrstuvwxyz"
theorem az_len : AZ.cps.toList.length = 26 := by decide +kernel
theorem az_ok : ∀ c ∈ AZ.cps.toList, c < 0x110000 := by decide +kernel
theorem az_at {k : Int} (k0 : 0 ≤ k) (k1 : k < 26) : ∃ c : Nat, dIx [.str AZ, .int k] = some (.str ⟨#[c]⟩) ∧ sOk ⟨#[c]⟩ = true := by
  have hl : k.toNat < AZ.cps.toList.length := by rw [az_len]; omega
  refine ⟨AZ.cps.toList[k.toNat], ?_, ?_⟩
  · show (if AZ.length ≤ 16777216 then (L2.atI AZ.cps.toList k).map _ else none) = _
    rw [if_pos (by decide +kernel), atI_of k0 (by rw [az_len]; exact k1), List.getElem?_eq_getElem hl]
    rfl
  · have := az_ok _ (List.getElem_mem hl)
    generalize AZ.cps.toList[k.toNat] = x at this
    show (#[x] : Array Nat).all _ = true
    simp [this]
theorem d_addS {a b : Str} (h : a.length + b.length ≤ 16777216) : dAdd [.str a, .str b] = some (.str (a ++ b)) := by
  show (if _ then _ else _) = _
  rw [if_pos h]
theorem in_some {s : Str} {ys : List D} (h : ys.all D.sc = true) : ∃ b, dInD [.str s, .lst ys] = some (.bl b) := by
  refine ⟨ys.any fun y => y.eqF (.str s), ?_⟩
  show (if ((D.str s).sc && ys.all D.sc) = true then some (ys.any fun y => y.eqF (.str s)) else _).map D.bl = _
  rw [h]
  rfl
theorem name_ev (c : Re) (hc : c.ok) : Ev (f__law_name.sem [c.d]) fun r os => ∃ (s : Str) (c' : Re), r = .str s ∧ os = [c'.d] ∧ sOk s = true ∧ 1 ≤ s.length ∧ s.length ≤ 8 ∧ c'.ok := by
  refine Ev.sem (fb := d__law_name.1) rfl ?_
  unfold d__law_name
  dsimp? [S__law_name, gvR]
  refine (draw_ev c hc 8 (by omega)).mono ?_
  rintro _ _ ⟨k, c1, rfl, rfl, k0, k1, hc1⟩
  have q1 : -(2 ^ 62) ≤ 1 + k := by omega
  have q2 : 1 + k < 2 ^ 62 := by omega
  dsimp? [gvR, rng1 q1 q2]
  refine ev_for (fun xs ρ => ∃ (s : Str) (c' : Re) (u : D), sOk s = true ∧ s.length + xs.length = (1 + k).toNat ∧ c'.ok ∧ ρ = [c'.d, .str AZ, .str s, u, .un]) ?_ ?_ ⟨"", c1, .un, by decide +kernel, ?_, hc1, rfl⟩
  · rintro x xs ρ ⟨s, c2, u, hs, hl, hc2, rfl⟩
    rw [List.length_cons] at hl
    dsimp? [gvR]
    refine (draw_ev c2 hc2 26 (by omega)).mono ?_
    rintro _ _ ⟨k2, c3, rfl, rfl, k20, k21, hc3⟩
    obtain ⟨ch, hch, hok⟩ := az_at k20 k21
    have hle : s.length + (⟨#[ch]⟩ : Str).length ≤ 16777216 := by show s.length + 1 ≤ _; omega
    dsimp? [gvR, hch, d_addS hle]
    exact ⟨s ++ ⟨#[ch]⟩, c3, _, ok_app hs hok, by rw [len_app]; show s.length + 1 + xs.length = _; omega, hc3, rfl⟩
  · rintro ρ ⟨s, c2, u, hs, hl, hc2, rfl⟩
    rw [List.length_nil] at hl
    obtain ⟨b, hb⟩ := in_some (s := s) (ys := ["back", "card", "clip", "code", "cut", "end", "is", "list", "loop", "name", "on", "plays", "show", "start", "times", "to", "use", "weave"].map fun x : String => D.str x) rfl
    simp only [List.map_cons, List.map_nil] at hb
    cases b with
    | true =>
      dsimp? [hb]
      exact ⟨"jx", c2, rfl, rfl, by decide +kernel, by decide +kernel, by decide +kernel, hc2⟩
    | false =>
      dsimp? [hb]
      exact ⟨s, c2, rfl, rfl, hs, by omega, by omega, hc2⟩
  · unfold rgD
    rw [List.length_map, List.length_range]
    show 0 + _ = _
    omega

theorem grows_ev (ps : List Pa) (h : Cd ps) : Ev (f__law_grows.sem [.lst (ps.map Pa.d)]) fun r os => ∃ b, r = .bl b ∧ os = [.un] := by
  refine Ev.sem (fb := d__law_grows.1) rfl ?_
  unfold d__law_grows
  have hsm := h.sm
  dsimp? [S__law_grows]
  refine (law_cuts_ev ps hsm.1).mono ?_
  rintro _ _ ⟨rfl, rfl⟩
  dsimp? []
  refine ev_for (fun xs ρ => ∃ (rest : List Cu) (u : D), xs = rest.map Cu.d ∧ okL rest ∧ ρ = [.lst (ps.map Pa.d), u]) ?_ ?_ ⟨cutsOf ps, .un, rfl, hsm.2, rfl⟩
  · rintro x xs ρ ⟨rest, u, hx, ho, rfl⟩
    obtain ⟨c, cs, rfl, rfl, rfl⟩ := map_cons_inv hx
    have hc := ho c List.mem_cons_self
    have h1 : -18446744073709551616 < c.f.q ∧ c.f.q < 18446744073709551616 := by have := hc.1.q; omega
    have h2 : -18446744073709551616 < c.l.q ∧ c.l.q < 18446744073709551616 := by have := hc.2.q; omega
    have ho' : okL cs := fun z hz => ho z (List.mem_cons_of_mem _ hz)
    cases hb : c.b with
    | false =>
      dsimp? [Cu.d, Mk.d, way_b, hb, h1.1, h1.2, h2.1, h2.2]
      exact ⟨cs, _, rfl, ho', rfl⟩
    | true =>
      by_cases hh : c.f.p * c.l.q < c.l.p * c.f.q
      · dsimp? [Cu.d, Mk.d, way_b, hb, h1.1, h1.2, h2.1, h2.2, hh]
        exact ⟨_, rfl⟩
      · dsimp? [Cu.d, Mk.d, way_b, hb, h1.1, h1.2, h2.1, h2.2, hh]
        exact ⟨cs, _, rfl, ho', rfl⟩
  · rintro ρ ⟨rest, u, hx, ho, rfl⟩
    dsimp? []
    exact ⟨_, rfl⟩
theorem let_ev (ps : List Pa) (h : Cd ps) : Ev (f__law_let.sem [.lst (ps.map Pa.d)]) fun r os => ∃ b, r = .bl b ∧ os = [.un] := by
  refine Ev.sem (fb := d__law_let.1) rfl ?_
  unfold d__law_let
  have hsm := h.sm
  obtain ⟨t1, t2⟩ := T12_lt (pe_T hsm)
  dsimp? [S__law_let]
  refine (law_reach_ev ps hsm.1).mono ?_
  rintro _ _ ⟨rfl, rfl⟩
  dsimp? [List.length_map]
  refine (law_cuts_ev ps hsm.1).mono ?_
  rintro _ _ ⟨rfl, rfl⟩
  dsimp? []
  refine ev_for (fun xs ρ => ∃ (rest : List Cu) (a b : Int) (u : D), xs = rest.map Cu.d ∧ okL rest ∧ ρ = [.lst (ps.map Pa.d), .int (re' ps), .int a, .int b, u]) ?_ ?_ ⟨cutsOf ps, _, _, .un, rfl, hsm.2, rfl⟩
  · rintro x xs ρ ⟨rest, a, b, u, hx, ho, rfl⟩
    obtain ⟨c, cs, rfl, rfl, rfl⟩ := map_cons_inv hx
    have hc := ho c List.mem_cons_self
    have fin : ∀ a b : Int, ∃ (rest : List Cu) (a' b' : Int) (u : D), cs.map Cu.d = rest.map Cu.d ∧ okL rest ∧ [D.lst (ps.map Pa.d), .int (re' ps), .int a, .int b, c.d] = [.lst (ps.map Pa.d), .int (re' ps), .int a', .int b', u] := fun a b => ⟨cs, a, b, c.d, rfl, fun z hz => ho z (List.mem_cons_of_mem _ hz), rfl⟩
    cases hb : c.b with
    | false =>
      dsimp? [Cu.d, way_b, hb, gvM]
      refine (law_place_ev c.l hc.2 400 (by omega)).mono ?_
      rintro _ _ ⟨rfl, rfl⟩
      dsimp? [Cu.d, way_b, hb, gvM]
      refine (law_place_ev c.f hc.1 400 (by omega)).mono ?_
      rintro _ _ ⟨rfl, rfl⟩
      dsimp? []
      have z := fin
      unfold Cu.d at z
      rw [hb] at z
      exact z _ _
    | true =>
      dsimp? [Cu.d, way_b, hb, gvM]
      refine (law_place_ev c.l hc.2 400 (by omega)).mono ?_
      rintro _ _ ⟨rfl, rfl⟩
      dsimp? [Cu.d, way_b, hb, gvM]
      refine (law_place_ev c.f hc.1 400 (by omega)).mono ?_
      rintro _ _ ⟨rfl, rfl⟩
      dsimp? []
      have z := fin
      unfold Cu.d at z
      rw [hb] at z
      exact z _ _
  · rintro ρ ⟨rest, a, b, u, hx, ho, rfl⟩
    by_cases hh : b > 1700
    · dsimp? [hh]
      exact ⟨_, rfl⟩
    · dsimp? [hh]
      refine (grows_ev ps h).mono ?_
      rintro _ _ ⟨g, rfl, rfl⟩
      cases g with
      | true =>
        dsimp? []
        exact ⟨_, rfl⟩
      | false =>
        dsimp? []
        refine (law_period_ev ps hsm).mono ?_
        rintro _ _ ⟨rfl, rfl⟩
        dsimp? [d_mulL t1 t2]
        exact ⟨_, rfl⟩

theorem Cd.one {p : Pa} (h : p.ok) (h3 : p.cuts.length ≤ 3) : Cd [p] := ⟨by simp, fun q hq => by rw [List.mem_singleton.mp hq]; exact h, fun q hq => by rw [List.mem_singleton.mp hq]; exact h3⟩
theorem Cd.app {l r : List Pa} (hl : Cd l) (hr : Cd r) (h : l.length + r.length ≤ 100) : Cd (l ++ r) := ⟨by rw [List.length_append]; exact h, fun p hp => (List.mem_append.mp hp).elim (hl.ok p) (hr.ok p), fun p hp => (List.mem_append.mp hp).elim (hl.n p) (hr.n p)⟩
theorem Cd.sub {l r : List Pa} (hl : Cd l) (hs : ∀ p ∈ r, p ∈ l) (h : r.length ≤ l.length) : Cd r := ⟨by have := hl.len; omega, fun p hp => hl.ok p (hs p hp), fun p hp => hl.n p (hs p hp)⟩
theorem cut_to {α : Type} {xs : List α} {i : Int} (h : 0 ≤ i) : VS.cutD xs none (some i) = xs.take i.toNat := by
  unfold VS.cutD
  rw [HT.sIx_none]
  show (xs.drop 0).take ((if i < 0 then (i + (xs.length : Int)).toNat else min i.toNat xs.length) - 0) = _
  rw [if_neg (by omega), List.drop_zero, Nat.sub_zero]
  by_cases h2 : i.toNat ≤ xs.length
  · rw [Nat.min_eq_left h2]
  · rw [Nat.min_eq_right (by omega), List.take_length, List.take_of_length_le (by omega)]
theorem cut_from {α : Type} {xs : List α} {i : Int} (h : 0 ≤ i) : VS.cutD xs (some i) none = xs.drop i.toNat := by
  unfold VS.cutD
  show (xs.drop (if i < 0 then (i + (xs.length : Int)).toNat else min i.toNat xs.length)).take (xs.length - (if i < 0 then (i + (xs.length : Int)).toNat else min i.toNat xs.length)) = _
  rw [if_neg (by omega)]
  by_cases h2 : i.toNat ≤ xs.length
  · rw [Nat.min_eq_left h2, List.take_of_length_le (by simp)]
  · rw [Nat.min_eq_right (by omega), List.drop_of_length_le (by omega), List.drop_of_length_le (by omega)]; simp
theorem cut_last {α : Type} {xs : List α} : VS.cutD xs none (some (-1)) = xs.take (xs.length - 1) := by
  unfold VS.cutD
  rw [HT.sIx_none]
  show (xs.drop 0).take ((if (-1 : Int) < 0 then (-1 + (xs.length : Int)).toNat else min (-1 : Int).toNat xs.length) - 0) = _
  rw [if_pos (by decide), List.drop_zero, Nat.sub_zero]
  congr 1
  omega
theorem parts_ev (c : Re) (hc : c.ok) (many : Int) (m1 : 1 ≤ many) (m36 : many ≤ 36) (wov : Bool) : Ev (f__law_parts.sem [c.d, .int many, .bl wov]) fun r os => ∃ (ps : List Pa) (c' : Re), r = .lst (ps.map Pa.d) ∧ os = [c'.d, .un, .un] ∧ Cd ps ∧ ps.length ≤ 37 ∧ c'.ok := by
  refine Ev.sem (fb := d__law_parts.1) rfl ?_
  unfold d__law_parts
  dsimp? [S__law_parts, gvR]
  refine (draw_ev c hc 6 (by omega)).mono ?_
  rintro _ _ ⟨k, c1, rfl, rfl, k0, k1, hc1⟩
  have hat : ∃ m : Int, L2.atI [D.int 1, .int 2, .int 3, .int 4, .int 6, .int 12] k = some (.int m) ∧ M6 m := by
    rcases (show k = 0 ∨ k = 1 ∨ k = 2 ∨ k = 3 ∨ k = 4 ∨ k = 5 by omega) with rfl | rfl | rfl | rfl | rfl | rfl
    · exact ⟨1, rfl, by simp [M6]⟩
    · exact ⟨2, rfl, by simp [M6]⟩
    · exact ⟨3, rfl, by simp [M6]⟩
    · exact ⟨4, rfl, by simp [M6]⟩
    · exact ⟨6, rfl, by simp [M6]⟩
    · exact ⟨12, rfl, by simp [M6]⟩
  obtain ⟨m, hat, hm⟩ := hat
  dsimp? [gvR, hat]
  refine (draw_ev c1 hc1 10 (by omega)).mono ?_
  rintro _ _ ⟨sz, c2, rfl, rfl, z0, z1, hc2⟩
  dsimp? [gvR]
  refine (draw_ev c2 hc2 9 (by omega)).mono ?_
  rintro _ _ ⟨ct, c3, rfl, rfl, ct0, ct1, hc3⟩
  dsimp? [gvR]
  refine (draw_ev c3 hc3 4 (by omega)).mono ?_
  rintro _ _ ⟨dn, c4, rfl, rfl, dn0, dn1, hc4⟩
  have q1 : -(2 ^ 62) ≤ many := by omega
  have q2 : many < 2 ^ 62 := by omega
  dsimp? [gvR, rng1 q1 q2]
  refine ev_for (fun xs ρ => ∃ (ps : List Pa) (c' : Re) (u8 u9 : D), Cd ps ∧ ps.length + xs.length = many.toNat ∧ c'.ok ∧ ρ = [c'.d, .int many, .bl wov, .int m, .int sz, .int (1 + ct), .int dn, .lst (ps.map Pa.d), u8, u9, .un, .un, .un, .un]) ?_ ?_ ⟨[], c4, .un, .un, ⟨by simp, fun p hp => by simp at hp, fun p hp => by simp at hp⟩, by unfold rgD; simp, hc4, rfl⟩
  · rintro x xs ρ ⟨ps, c5, u8, u9, hps, hl, hc5, rfl⟩
    rw [List.length_cons] at hl
    have hpl : ps.length < 16777216 := by omega
    dsimp? [gvR]
    refine (draw_ev c5 hc5 4 (by omega)).mono ?_
    rintro _ _ ⟨kd, c6, rfl, rfl, kd0, kd1, hc6⟩
    by_cases hk : kd < dn
    · dsimp? [gvR, hk]
      refine (cut_ev c6 hc6 m hm sz z0 (by omega)).mono ?_
      rintro _ _ ⟨a, c7, rfl, rfl, ha, hc7⟩
      dsimp? [gvR, gvC, List.length_map, hpl]
      exact ⟨ps ++ [.cut a], c7, _, _, hps.app (Cd.one (p := .cut a) ha (by simp [Pa.cuts])) (by simp; omega), by simp; omega, hc7, by rw [List.map_append]; rfl⟩
    · dsimp? [gvR, hk]
      refine (name_ev c6 hc6).mono ?_
      rintro _ _ ⟨s, c7, rfl, rfl, hs, _, _, hc7⟩
      dsimp? [gvR]
      refine (draw_ev c7 hc7 (1 + ct) (by omega)).mono ?_
      rintro _ _ ⟨k2, c8, rfl, rfl, k20, k21, hc8⟩
      dsimp? [gvR, List.length_map, hpl]
      exact ⟨ps ++ [.card s (1 + k2)], c8, _, _, hps.app (Cd.one (p := .card s (1 + k2)) ⟨⟨by omega, by omega⟩, hs⟩ (by simp [Pa.cuts])) (by simp; omega), by simp; omega, hc8, by rw [List.map_append]; rfl⟩
  · rintro ρ ⟨ps, c5, u8, u9, hps, hl, hc5, rfl⟩
    rw [List.length_nil] at hl
    dsimp? [gvR]
    refine Ev.mono (Q' := fun o ρ => o = .nx ∧ ∃ (ps : List Pa) (c5 : Re) (u8 u9 u10 u11 : D), Cd ps ∧ ps.length ≤ 37 ∧ c5.ok ∧ ρ = [c5.d, .int many, .bl wov, .int m, .int sz, .int (1 + ct), .int dn, .lst (ps.map Pa.d), u8, u9, u10, u11, .un, .un]) ?_ ?_
    · cases wov with
      | false =>
        dsimp? []
        exact ⟨ps, c5, _, _, _, _, hps, by omega, hc5, rfl⟩
      | true =>
        dsimp? [gvR]
        refine (draw_ev c5 hc5 2 (by omega)).mono ?_
        rintro _ _ ⟨k2, c6, rfl, rfl, k20, k21, hc6⟩
        have q1 : -(2 ^ 62) ≤ 2 + k2 := by omega
        have q2 : 2 + k2 < 2 ^ 62 := by omega
        dsimp? [gvR, rng1 q1 q2]
        refine ev_lc (fun ys acc ρ => ∃ (cs : List Cu) (c' : Re), acc = cs.map Cu.d ∧ cs.length + ys.length = (2 + k2).toNat ∧ (∀ x ∈ cs, x.ok) ∧ c'.ok ∧ ρ = [c'.d, .int many, .bl true, .int m, .int sz, .int (1 + ct), .int dn, .lst (ps.map Pa.d), .un, u9, .un, .un, .un, .un]) ?_ ?_ ⟨[], c6, rfl, by unfold rgD; simp, fun y hy => by simp at hy, hc6, rfl⟩
        · rintro y ys acc ρ ⟨cs, c', rfl, hcl, ho, hc', rfl⟩
          rw [List.length_cons] at hcl
          have h1 : cs.length < 16777216 := by omega
          dsimp? [gvR]
          refine (cut_ev c' hc' m hm sz z0 (by omega)).mono ?_
          rintro _ _ ⟨a, c7, rfl, rfl, ha, hc7⟩
          dsimp? [gvR, gvC, List.length_map, h1]
          exact ⟨cs ++ [a], c7, by simp, by simp; omega, fun z hz => by
            rcases List.mem_append.mp hz with w | w
            · exact ho z w
            · rw [List.mem_singleton.mp w]; exact ha, hc7, rfl⟩
        · rintro acc ρ ⟨cs, c', rfl, hcl, ho, hc', rfl⟩
          rw [List.length_nil] at hcl
          dsimp? [gvR]
          refine (draw_ev c' hc' (many + 1) (by omega)).mono ?_
          rintro _ _ ⟨sp, c7, rfl, rfl, sp0, sp1, hc7⟩
          have hcs : cs ≠ [] := fun e => by rw [e] at hcl; simp at hcl; omega
          have hb1 : ((ps.map Pa.d).take sp.toNat).length ≤ 16777215 := by rw [List.length_take, List.length_map]; omega
          dsimp? [gvR, cut_to sp0, cut_from sp0]
          rw [if_pos hb1]
          dsimp? [gvR, cut_to sp0, cut_from sp0]
          rw [if_pos (by simp only [List.length_append, List.length_take, List.length_drop, List.length_map, List.length_cons, List.length_nil]; omega)]
          dsimp? []
          refine ⟨ps.take sp.toNat ++ [.weave cs] ++ ps.drop sp.toNat, c7, _, _, _, _, ?_, ?_, hc7, by rw [List.map_append, List.map_append, List.map_take, List.map_drop]; rfl⟩
          · refine Cd.app (Cd.app (hps.sub (fun p hp => List.mem_of_mem_take hp) (by rw [List.length_take]; omega)) (Cd.one (p := .weave cs) ⟨hcs, by omega, ho⟩ (by show cs.length ≤ 3; omega)) (by simp; omega)) (hps.sub (fun p hp => List.mem_of_mem_drop hp) (by rw [List.length_drop]; omega)) (by simp only [List.length_append, List.length_take, List.length_drop, List.length_cons, List.length_nil]; omega)
          · simp only [List.length_append, List.length_take, List.length_drop, List.length_cons, List.length_nil]; omega
    · rintro _ _ ⟨rfl, ps, c5, u8, u9, u10, u11, hps, hl, hc5, rfl⟩
      obtain ⟨sh, hsh, s2, s9, hok⟩ := shares_eq hm
      dsimp? [gvR, hsh, List.length_map]
      refine (draw_ev c5 hc5 ((sh.length : Int) - 1) (by omega)).mono ?_
      rintro _ _ ⟨sp, c6, rfl, rfl, sp0, sp1, hc6⟩
      obtain ⟨a, ha, hat1⟩ := pick_sh (sh := sh) (k := sp) sp0 (by omega)
      obtain ⟨b, hb, hat2⟩ := pick_sh (sh := sh) (k := sp + 1) (by omega) (by omega)
      have q1 : -(2 ^ 62) ≤ (ps.length : Int) - 1 := by omega
      have q2 : (ps.length : Int) - 1 < 2 ^ 62 := by omega
      dsimp? [gvR, hat1, hat2, prD, List.length_map, rng1 q1 q2]
      have hgO : Pa.ok (.cut ⟨⟨a.1, a.2, sz⟩, ⟨b.1, b.2, 0 - sz⟩, true⟩) := ⟨Sh.mk (hok a ha) (by omega), Sh.mk (hok b hb) (by omega)⟩
      have hgC := Cd.one hgO (by simp [Pa.cuts])
      generalize hg : Pa.cut ⟨⟨a.1, a.2, sz⟩, ⟨b.1, b.2, 0 - sz⟩, true⟩ = g at hgC
      have eg : D.tup [D.str "cut", D.tup [D.tup [D.int a.1, D.int a.2, D.int sz], D.tup [D.int b.1, D.int b.2, D.int (0 - sz)], D.str "back"]] = g.d := by rw [← hg]; rfl
      rw [eg]
      refine ev_for (fun xs ρ => ∃ (ps : List Pa) (u8 : D), Cd ps ∧ ps.length ≤ 37 ∧ ρ = [c6.d, .int many, .bl wov, .int m, .int sz, .int (1 + ct), .int dn, .lst (ps.map Pa.d), u8, u9, u10, .int sp, .lst (sh.map prD), g.d]) ?_ ?_ ⟨ps, u8, hps, hl, rfl⟩
      · rintro x xs ρ ⟨ps, u8, hps, hl, rfl⟩
        dsimp? []
        refine (let_ev ps hps).mono ?_
        rintro _ _ ⟨b1, rfl, rfl⟩
        cases b1 with
        | true =>
          dsimp? []
          exact ⟨ps, _, hps, hl, rfl⟩
        | false =>
          have hb1 : ((ps.map Pa.d).take (ps.length - 1)).length ≤ 16777215 := by rw [List.length_take, List.length_map]; omega
          have hsub : Cd (ps.take (ps.length - 1)) := hps.sub (fun p hp => List.mem_of_mem_take hp) (by rw [List.length_take]; omega)
          have hnew : Cd (ps.take (ps.length - 1) ++ [g]) := hsub.app hgC (by simp; omega)
          have enew : (ps.map Pa.d).take (ps.length - 1) ++ [g.d] = (ps.take (ps.length - 1) ++ [g]).map Pa.d := by rw [List.map_append, List.map_take]; rfl
          dsimp? [d_neg, cut_last, List.length_map, gvP]
          rw [if_pos hb1]
          dsimp? []
          rw [enew]
          refine (let_ev _ hnew).mono ?_
          rintro _ _ ⟨b2, rfl, rfl⟩
          cases b2 with
          | true =>
            dsimp? [d_neg, cut_last, List.length_map, gvP]
            rw [if_pos hb1]
            dsimp? []
            rw [enew]
            exact ⟨_, _, hnew, by rw [List.length_append, List.length_take, List.length_singleton]; omega, rfl⟩
          | false =>
            dsimp? [d_neg, cut_last, List.length_map]
            exact ⟨_, _, hsub, by rw [List.length_take]; omega, by rw [List.map_take]⟩
      · rintro ρ ⟨ps, u8, hps, hl, rfl⟩
        dsimp? []
        refine (let_ev ps hps).mono ?_
        rintro _ _ ⟨b1, rfl, rfl⟩
        cases b1 with
        | true =>
          dsimp? []
          exact ⟨ps, c6, rfl, rfl, hps, hl, hc6⟩
        | false =>
          dsimp? [gvR]
          refine (name_ev c6 hc6).mono ?_
          rintro _ _ ⟨s, c7, rfl, rfl, hs, _, _, hc7⟩
          dsimp? [gvR]
          exact ⟨[.card s (1 + ct)], c7, rfl, rfl, Cd.one (p := .card s (1 + ct)) ⟨⟨by omega, by omega⟩, hs⟩ (by simp [Pa.cuts]), by simp, hc7⟩

def PR (l r : List Pa) : D := .lst [.lst (l.map Pa.d), .lst (r.map Pa.d)]
theorem sides_ev (c : Re) (hc : c.ok) (wide : Bool) : Ev (f__law_sides.sem [c.d, .bl wide]) fun v os => ∃ (l r : List Pa) (c' : Re), v = PR l r ∧ os = [c'.d, .un] ∧ Cd l ∧ Cd r ∧ c'.ok := by
  refine Ev.sem (fb := d__law_sides.1) rfl ?_
  unfold d__law_sides
  dsimp? [S__law_sides, gvR]
  refine (draw_ev c hc 5 (by omega)).mono ?_
  rintro _ _ ⟨k1, c1, rfl, rfl, k10, k11, hc1⟩
  dsimp? [gvR]
  refine (draw_ev c1 hc1 5 (by omega)).mono ?_
  rintro _ _ ⟨k2, c2, rfl, rfl, k20, k21, hc2⟩
  dsimp? [gvR]
  refine Ev.mono (Q' := fun o ρ => o = .nx ∧ ∃ (a b : Int) (c3 : Re), (1 ≤ a ∧ a ≤ 36) ∧ (1 ≤ b ∧ b ≤ 36) ∧ c3.ok ∧ ρ = [c3.d, .bl wide, .int a, .int b, .un]) ?_ ?_
  · cases wide with
    | false =>
      dsimp? []
      exact ⟨_, _, c2, by omega, by omega, hc2, rfl⟩
    | true =>
      dsimp? [gvR]
      refine (draw_ev c2 hc2 36 (by omega)).mono ?_
      rintro _ _ ⟨k3, c3, rfl, rfl, k30, k31, hc3⟩
      dsimp? [gvR]
      refine (draw_ev c3 hc3 36 (by omega)).mono ?_
      rintro _ _ ⟨k4, c4, rfl, rfl, k40, k41, hc4⟩
      dsimp? []
      exact ⟨_, _, c4, by omega, by omega, hc4, rfl⟩
  · rintro _ _ ⟨rfl, a, b, c3, ha, hb, hc3, rfl⟩
    dsimp? [gvR]
    refine (draw_ev c3 hc3 4 (by omega)).mono ?_
    rintro _ _ ⟨w, c4, rfl, rfl, _, _, hc4⟩
    dsimp? [gvR]
    refine (parts_ev c4 hc4 a ha.1 ha.2 _).mono ?_
    rintro _ _ ⟨l, c5, rfl, rfl, hl, _, hc5⟩
    dsimp? [gvR]
    refine (parts_ev c5 hc5 b hb.1 hb.2 _).mono ?_
    rintro _ _ ⟨r, c6, rfl, rfl, hr, _, hc6⟩
    dsimp? [gvR]
    exact ⟨l, r, c6, rfl, rfl, hl, hr, hc6⟩
theorem cd1 {a : Cu} (h : a.ok) : Cd [.cut a] := Cd.one (p := .cut a) h (by simp [Pa.cuts])
theorem cdK {s : Str} {k : Int} (hs : sOk s = true) (h0 : 0 ≤ k) (h1 : k ≤ 20) : Cd [.card s k] := Cd.one (p := .card s k) ⟨⟨h0, h1⟩, hs⟩ (by simp [Pa.cuts])
theorem small_mul {a b : Int} (a0 : 0 ≤ a) (a1 : a < 3) (b0 : 0 ≤ b) (b1 : b < 2) : 0 ≤ a * b ∧ a * b ≤ 2 := by
  rcases (show b = 0 ∨ b = 1 by omega) with rfl | rfl <;> omega
theorem late_ev (c : Re) (hc : c.ok) : Ev (f__law_late.sem [c.d]) fun v os => ∃ (l r : List Pa) (c' : Re), v = PR l r ∧ os = [c'.d] ∧ Cd l ∧ Cd r ∧ c'.ok := by
  refine Ev.sem (fb := d__law_late.1) rfl ?_
  unfold d__law_late
  dsimp? [S__law_late, gvR]
  refine (draw_ev c hc 9 (by omega)).mono ?_
  rintro _ _ ⟨k, c1, rfl, rfl, k0, k1, hc1⟩
  have hat : ∃ (s t : Int × Int) (z : Int), L2.atI [D.lst [.tup [.int 1, .int 3], .tup [.int 1, .int 2], .int 7], .lst [.tup [.int 1, .int 2], .tup [.int 2, .int 3], .int 7], .lst [.tup [.int 0, .int 1], .tup [.int 1, .int 6], .int 7], .lst [.tup [.int 5, .int 6], .tup [.int 1, .int 1], .int 7], .lst [.tup [.int 1, .int 2], .tup [.int 3, .int 4], .int 9], .lst [.tup [.int 0, .int 1], .tup [.int 1, .int 4], .int 9], .lst [.tup [.int 1, .int 3], .tup [.int 2, .int 3], .int 9], .lst [.tup [.int 1, .int 4], .tup [.int 1, .int 3], .int 2], .lst [.tup [.int 3, .int 4], .tup [.int 5, .int 6], .int 2]] k = some (.lst [.tup [.int s.1, .int s.2], .tup [.int t.1, .int t.2], .int z]) ∧ okS s ∧ okS t ∧ 2 ≤ z ∧ z ≤ 9 := by
    rcases (show k = 0 ∨ k = 1 ∨ k = 2 ∨ k = 3 ∨ k = 4 ∨ k = 5 ∨ k = 6 ∨ k = 7 ∨ k = 8 by omega) with rfl | rfl | rfl | rfl | rfl | rfl | rfl | rfl | rfl
    · exact ⟨(1, 3), (1, 2), 7, rfl, by decide, by decide, by decide, by decide⟩
    · exact ⟨(1, 2), (2, 3), 7, rfl, by decide, by decide, by decide, by decide⟩
    · exact ⟨(0, 1), (1, 6), 7, rfl, by decide, by decide, by decide, by decide⟩
    · exact ⟨(5, 6), (1, 1), 7, rfl, by decide, by decide, by decide, by decide⟩
    · exact ⟨(1, 2), (3, 4), 9, rfl, by decide, by decide, by decide, by decide⟩
    · exact ⟨(0, 1), (1, 4), 9, rfl, by decide, by decide, by decide, by decide⟩
    · exact ⟨(1, 3), (2, 3), 9, rfl, by decide, by decide, by decide, by decide⟩
    · exact ⟨(1, 4), (1, 3), 2, rfl, by decide, by decide, by decide, by decide⟩
    · exact ⟨(3, 4), (5, 6), 2, rfl, by decide, by decide, by decide, by decide⟩
  obtain ⟨s, t, z, hat, hs, ht, z2, z9⟩ := hat
  dsimp? [gvR, hat]
  refine (draw_ev c1 hc1 3 (by omega)).mono ?_
  rintro _ _ ⟨x1, c2, rfl, rfl, x10, x11, hc2⟩
  dsimp? [gvR]
  refine (draw_ev c2 hc2 2 (by omega)).mono ?_
  rintro _ _ ⟨x2, c3, rfl, rfl, x20, x21, hc3⟩
  have p1 := small_mul x10 x11 x20 x21
  dsimp? [gvR, d_mulL (show -18446744073709551616 < x1 by omega) (show x1 < 18446744073709551616 by omega)]
  refine (draw_ev c3 hc3 3 (by omega)).mono ?_
  rintro _ _ ⟨y1, c4, rfl, rfl, y10, y11, hc4⟩
  dsimp? [gvR]
  refine (draw_ev c4 hc4 2 (by omega)).mono ?_
  rintro _ _ ⟨y2, c5, rfl, rfl, y20, y21, hc5⟩
  have p2 := small_mul y10 y11 y20 y21
  dsimp? [gvR, d_mulL (show -18446744073709551616 < y1 by omega) (show y1 < 18446744073709551616 by omega)]
  refine (draw_ev c5 hc5 2 (by omega)).mono ?_
  rintro _ _ ⟨g1, c6, rfl, rfl, g10, g11, hc6⟩
  have mL : Mk.ok ⟨s.1, s.2, z - x1 * x2⟩ := Sh.mk hs (by omega)
  have mH : Mk.ok ⟨t.1, t.2, y1 * y2 - z⟩ := Sh.mk ht (by omega)
  have mH2 : Mk.ok ⟨t.1, t.2, y1 * y2 - z + 1⟩ := Sh.mk ht (by omega)
  have hl : Cd [.cut ⟨⟨s.1, s.2, z - x1 * x2⟩, ⟨t.1, t.2, y1 * y2 - z⟩, true⟩] := cd1 ⟨mL, mH⟩
  have hr1 : Cd [.cut ⟨⟨t.1, t.2, y1 * y2 - z⟩, ⟨t.1, t.2, y1 * y2 - z⟩, false⟩] := cd1 ⟨mH, mH⟩
  have hr2 : Cd [.cut ⟨⟨s.1, s.2, z - x1 * x2⟩, ⟨t.1, t.2, y1 * y2 - z + 1⟩, true⟩] := cd1 ⟨mL, mH2⟩
  by_cases e1 : g1 = 0
  · dsimp? [gvR, e1]
    refine (draw_ev c6 hc6 2 (by omega)).mono ?_
    rintro _ _ ⟨g2, c7, rfl, rfl, g20, g21, hc7⟩
    by_cases e2 : g2 = 0
    · dsimp? [gvR, e2]
      refine (name_ev c7 hc7).mono ?_
      rintro _ _ ⟨nm, c8, rfl, rfl, hn, _, _, hc8⟩
      dsimp? [gvR]
      refine (draw_ev c8 hc8 9 (by omega)).mono ?_
      rintro _ _ ⟨q, c9, rfl, rfl, q0, q1, hc9⟩
      dsimp? [gvR]
      exact ⟨[.card nm (1 + q)] ++ [.cut ⟨⟨s.1, s.2, z - x1 * x2⟩, ⟨t.1, t.2, y1 * y2 - z⟩, true⟩], [.card nm (1 + q)] ++ [.cut ⟨⟨s.1, s.2, z - x1 * x2⟩, ⟨t.1, t.2, y1 * y2 - z + 1⟩, true⟩], c9, rfl, rfl, (cdK hn (by omega) (by omega)).app hl (by simp), (cdK hn (by omega) (by omega)).app hr2 (by simp), hc9⟩
    · dsimp? [gvR, e2]
      exact ⟨_, _, c7, rfl, rfl, hl, hr2, hc7⟩
  · dsimp? [gvR, e1]
    refine (draw_ev c6 hc6 2 (by omega)).mono ?_
    rintro _ _ ⟨g2, c7, rfl, rfl, g20, g21, hc7⟩
    by_cases e2 : g2 = 0
    · dsimp? [gvR, e2]
      refine (name_ev c7 hc7).mono ?_
      rintro _ _ ⟨nm, c8, rfl, rfl, hn, _, _, hc8⟩
      dsimp? [gvR]
      refine (draw_ev c8 hc8 9 (by omega)).mono ?_
      rintro _ _ ⟨q, c9, rfl, rfl, q0, q1, hc9⟩
      dsimp? [gvR]
      exact ⟨[.card nm (1 + q)] ++ [.cut ⟨⟨s.1, s.2, z - x1 * x2⟩, ⟨t.1, t.2, y1 * y2 - z⟩, true⟩], [.card nm (1 + q)] ++ [.cut ⟨⟨t.1, t.2, y1 * y2 - z⟩, ⟨t.1, t.2, y1 * y2 - z⟩, false⟩], c9, rfl, rfl, (cdK hn (by omega) (by omega)).app hl (by simp), (cdK hn (by omega) (by omega)).app hr1 (by simp), hc9⟩
    · dsimp? [gvR, e2]
      exact ⟨_, _, c7, rfl, rfl, hl, hr1, hc7⟩

theorem mk3 {p q m : Int} (h : okS (p, q)) (hm : -9 ≤ m ∧ m ≤ 9) : Mk.ok ⟨p, q, m⟩ := Sh.mk h hm
theorem cdW {cs : List Cu} (h0 : cs ≠ []) (h3 : cs.length ≤ 3) (h : ∀ c ∈ cs, c.ok) : Cd [.weave cs] := Cd.one (p := .weave cs) ⟨h0, by omega, h⟩ h3
theorem woven_ev (c : Re) (hc : c.ok) : Ev (f__law_woven.sem [c.d]) fun v os => ∃ (l r : List Pa) (c' : Re), v = PR l r ∧ os = [c'.d] ∧ Cd l ∧ Cd r ∧ c'.ok := by
  refine Ev.sem (fb := d__law_woven.1) rfl ?_
  unfold d__law_woven
  dsimp? [S__law_woven, gvR]
  refine (draw_ev c hc 6 (by omega)).mono ?_
  rintro _ _ ⟨k, c1, rfl, rfl, k0, k1, hc1⟩
  have hat : ∃ s : Int × Int, L2.atI [D.tup [.int 1, .int 2], .tup [.int 1, .int 2], .tup [.int 1, .int 3], .tup [.int 2, .int 3], .tup [.int 1, .int 4], .tup [.int 5, .int 6]] k = some (.tup [.int s.1, .int s.2]) ∧ okS s := by
    rcases (show k = 0 ∨ k = 1 ∨ k = 2 ∨ k = 3 ∨ k = 4 ∨ k = 5 by omega) with rfl | rfl | rfl | rfl | rfl | rfl
    · exact ⟨(1, 2), rfl, by decide⟩
    · exact ⟨(1, 2), rfl, by decide⟩
    · exact ⟨(1, 3), rfl, by decide⟩
    · exact ⟨(2, 3), rfl, by decide⟩
    · exact ⟨(1, 4), rfl, by decide⟩
    · exact ⟨(5, 6), rfl, by decide⟩
  obtain ⟨s, hat, hs⟩ := hat
  dsimp? [gvR, hat]
  refine (draw_ev c1 hc1 5 (by omega)).mono ?_
  rintro _ _ ⟨x, c2, rfl, rfl, x0, x1, hc2⟩
  dsimp? [gvR]
  refine (draw_ev c2 hc2 3 (by omega)).mono ?_
  rintro _ _ ⟨y, c3, rfl, rfl, y0, y1, hc3⟩
  dsimp? [gvR]
  refine (draw_ev c3 hc3 4 (by omega)).mono ?_
  rintro _ _ ⟨kd, c4, rfl, rfl, kd0, kd1, hc4⟩
  have m0 : Mk.ok ⟨0, 1, 0⟩ := mk3 (by decide) (by omega)
  have m1 : Mk.ok ⟨1, 1, 0⟩ := mk3 (by decide) (by omega)
  have mM : Mk.ok ⟨s.1, s.2, x - 2⟩ := Sh.mk hs (by omega)
  have mT : Mk.ok ⟨1, 1, 0 - (1 + y)⟩ := mk3 (by decide) (by omega)
  have o1 : Cu.ok ⟨⟨0, 1, 0⟩, ⟨s.1, s.2, x - 2⟩, false⟩ := ⟨m0, mM⟩
  have o2 : Cu.ok ⟨⟨s.1, s.2, x - 2⟩, ⟨1, 1, 0⟩, false⟩ := ⟨mM, m1⟩
  have o3 : Cu.ok ⟨⟨s.1, s.2, x - 2⟩, ⟨0, 1, 0⟩, true⟩ := ⟨mM, m0⟩
  have o4 : Cu.ok ⟨⟨1, 1, 0 - (1 + y)⟩, ⟨1, 1, 0⟩, false⟩ := ⟨mT, m1⟩
  have o5 : Cu.ok ⟨⟨s.1, s.2, x - 2⟩, ⟨1, 1, 0 - (1 + y)⟩, false⟩ := ⟨mM, mT⟩
  by_cases e0 : kd = 0
  · dsimp? [gvR, e0]
    exact ⟨[.weave [⟨⟨0, 1, 0⟩, ⟨s.1, s.2, x - 2⟩, false⟩, ⟨⟨s.1, s.2, x - 2⟩, ⟨1, 1, 0⟩, false⟩]], [.cut ⟨⟨0, 1, 0⟩, ⟨s.1, s.2, x - 2⟩, false⟩] ++ [.cut ⟨⟨s.1, s.2, x - 2⟩, ⟨1, 1, 0⟩, false⟩], c4, rfl, rfl, cdW (by simp) (by simp) (all_cons o1 (all_cons o2 all_nil)), (cd1 o1).app (cd1 o2) (by simp), hc4⟩
  · by_cases e1 : kd = 1
    · dsimp? [gvR, e0, e1]
      exact ⟨[.weave [⟨⟨s.1, s.2, x - 2⟩, ⟨1, 1, 0⟩, false⟩, ⟨⟨0, 1, 0⟩, ⟨s.1, s.2, x - 2⟩, false⟩]], [.weave [⟨⟨s.1, s.2, x - 2⟩, ⟨1, 1, 0⟩, false⟩, ⟨⟨0, 1, 0⟩, ⟨s.1, s.2, x - 2⟩, false⟩, ⟨⟨s.1, s.2, x - 2⟩, ⟨0, 1, 0⟩, true⟩]], c4, rfl, rfl, cdW (by simp) (by simp) (all_cons o2 (all_cons o1 all_nil)), cdW (by simp) (by simp) (all_cons o2 (all_cons o1 (all_cons o3 all_nil))), hc4⟩
    · dsimp? [gvR, e0, e1]
      exact ⟨[.weave [⟨⟨0, 1, 0⟩, ⟨s.1, s.2, x - 2⟩, false⟩, ⟨⟨s.1, s.2, x - 2⟩, ⟨1, 1, 0⟩, false⟩]], [.weave [⟨⟨0, 1, 0⟩, ⟨s.1, s.2, x - 2⟩, false⟩, ⟨⟨s.1, s.2, x - 2⟩, ⟨1, 1, 0 - (1 + y)⟩, false⟩]] ++ [.cut ⟨⟨1, 1, 0 - (1 + y)⟩, ⟨1, 1, 0⟩, false⟩], c4, rfl, rfl, cdW (by simp) (by simp) (all_cons o1 (all_cons o2 all_nil)), (cdW (by simp) (by simp) (all_cons o1 (all_cons o5 all_nil))).app (cd1 o4) (by simp), hc4⟩
theorem window_ev (c : Re) (hc : c.ok) : Ev (f__law_window.sem [c.d]) fun v os => ∃ (l r : List Pa) (c' : Re), v = PR l r ∧ os = [c'.d] ∧ Cd l ∧ Cd r ∧ c'.ok := by
  refine Ev.sem (fb := d__law_window.1) rfl ?_
  unfold d__law_window
  dsimp? [S__law_window, gvR]
  refine (draw_ev c hc 5 (by omega)).mono ?_
  rintro _ _ ⟨k, c1, rfl, rfl, k0, k1, hc1⟩
  have hat : ∃ s : Int × Int, L2.atI [D.tup [.int 1, .int 2], .tup [.int 1, .int 3], .tup [.int 2, .int 3], .tup [.int 1, .int 4], .tup [.int 3, .int 4]] k = some (.tup [.int s.1, .int s.2]) ∧ okS s := by
    rcases (show k = 0 ∨ k = 1 ∨ k = 2 ∨ k = 3 ∨ k = 4 by omega) with rfl | rfl | rfl | rfl | rfl
    · exact ⟨(1, 2), rfl, by decide⟩
    · exact ⟨(1, 3), rfl, by decide⟩
    · exact ⟨(2, 3), rfl, by decide⟩
    · exact ⟨(1, 4), rfl, by decide⟩
    · exact ⟨(3, 4), rfl, by decide⟩
  obtain ⟨s, hat, hs⟩ := hat
  dsimp? [gvR, hat]
  refine (draw_ev c1 hc1 7 (by omega)).mono ?_
  rintro _ _ ⟨x, c2, rfl, rfl, x0, x1, hc2⟩
  dsimp? [gvR]
  refine (draw_ev c2 hc2 6 (by omega)).mono ?_
  rintro _ _ ⟨y, c3, rfl, rfl, y0, y1, hc3⟩
  have hmn : -9 ≤ (if x + 1 + y < 9 then x + 1 + y else 9) ∧ (if x + 1 + y < 9 then x + 1 + y else 9) ≤ 9 := by split <;> omega
  dsimp? [gvR]
  generalize (if x + 1 + y < 9 then x + 1 + y else 9) = mn at hmn
  refine (way_ev c3 hc3).mono ?_
  rintro _ _ ⟨w, c4, rfl, rfl, hc4⟩
  dsimp? [gvR]
  refine (draw_ev c4 hc4 3 (by omega)).mono ?_
  rintro _ _ ⟨g, c5, rfl, rfl, g0, g1, hc5⟩
  dsimp? [gvR]
  refine Ev.mono (Q' := fun o ρ => o = .nx ∧ ∃ (a : Cu) (c6 : Re), a.ok ∧ c6.ok ∧ ρ = [c6.d, .tup [.int s.1, .int s.2], .int x, a.d]) ?_ ?_
  · by_cases e : g = 0
    · dsimp? [gvR, e]
      refine (draw_ev c5 hc5 3 (by omega)).mono ?_
      rintro _ _ ⟨z, c6, rfl, rfl, z0, z1, hc6⟩
      dsimp? [gvR]
      refine (way_ev c6 hc6).mono ?_
      rintro _ _ ⟨w2, c7, rfl, rfl, hc7⟩
      dsimp? [gvR]
      exact ⟨⟨⟨1, 1, 0 - x - 1⟩, ⟨s.1, s.2, z⟩, w2⟩, c7, ⟨mk3 (by decide) (by omega), Sh.mk hs (by omega)⟩, hc7, rfl⟩
    · dsimp? [gvR, e]
      exact ⟨⟨⟨s.1, s.2, x⟩, ⟨0, 1, mn⟩, w⟩, c5, ⟨Sh.mk hs (by omega), mk3 (by decide) hmn⟩, hc5, rfl⟩
  · rintro _ _ ⟨rfl, a, c6, ha, hc6, rfl⟩
    dsimp? [gvR]
    refine (draw_ev c6 hc6 2 (by omega)).mono ?_
    rintro _ _ ⟨g2, c7, rfl, rfl, _, _, hc7⟩
    by_cases e : g2 = 0
    · dsimp? [gvR, e, Cu.d]
      exact ⟨[.cut a], [.cut ⟨a.f, a.f, false⟩], c7, rfl, rfl, cd1 ha, cd1 ⟨ha.1, ha.1⟩, hc7⟩
    · cases hb : a.b with
      | false =>
        dsimp? [gvR, e, Cu.d, way_b, hb]
        exact ⟨[.cut ⟨a.f, a.l, false⟩], [.cut ⟨a.f, a.l, true⟩], c7, rfl, rfl, cd1 ha, cd1 ha, hc7⟩
      | true =>
        dsimp? [gvR, e, Cu.d, way_b, hb]
        exact ⟨[.cut ⟨a.f, a.l, true⟩], [.cut ⟨a.f, a.l, false⟩], c7, rfl, rfl, cd1 ha, cd1 ha, hc7⟩
theorem split_ev (c : Re) (hc : c.ok) : Ev (f__law_split.sem [c.d]) fun v os => ∃ (l r : List Pa) (c' : Re), v = PR l r ∧ os = [c'.d] ∧ Cd l ∧ Cd r ∧ c'.ok := by
  refine Ev.sem (fb := d__law_split.1) rfl ?_
  unfold d__law_split
  dsimp? [S__law_split, gvR]
  refine (draw_ev c hc 7 (by omega)).mono ?_
  rintro _ _ ⟨k, c1, rfl, rfl, k0, k1, hc1⟩
  have hat : ∃ s : Int × Int, L2.atI [D.tup [.int 1, .int 2], .tup [.int 1, .int 3], .tup [.int 2, .int 3], .tup [.int 1, .int 4], .tup [.int 3, .int 4], .tup [.int 1, .int 6], .tup [.int 5, .int 6]] k = some (.tup [.int s.1, .int s.2]) ∧ okS s := by
    rcases (show k = 0 ∨ k = 1 ∨ k = 2 ∨ k = 3 ∨ k = 4 ∨ k = 5 ∨ k = 6 by omega) with rfl | rfl | rfl | rfl | rfl | rfl | rfl
    · exact ⟨(1, 2), rfl, by decide⟩
    · exact ⟨(1, 3), rfl, by decide⟩
    · exact ⟨(2, 3), rfl, by decide⟩
    · exact ⟨(1, 4), rfl, by decide⟩
    · exact ⟨(3, 4), rfl, by decide⟩
    · exact ⟨(1, 6), rfl, by decide⟩
    · exact ⟨(5, 6), rfl, by decide⟩
  obtain ⟨s, hat, hs⟩ := hat
  dsimp? [gvR, hat]
  refine (draw_ev c1 hc1 13 (by omega)).mono ?_
  rintro _ _ ⟨x, c2, rfl, rfl, x0, x1, hc2⟩
  dsimp? [gvR]
  refine (way_ev c2 hc2).mono ?_
  rintro _ _ ⟨w, c3, rfl, rfl, hc3⟩
  dsimp? [gvR]
  refine (draw_ev c3 hc3 3 (by omega)).mono ?_
  rintro _ _ ⟨y, c4, rfl, rfl, y0, y1, hc4⟩
  have m0 : Mk.ok ⟨0, 1, 0⟩ := mk3 (by decide) (by omega)
  have m1 : Mk.ok ⟨1, 1, 0⟩ := mk3 (by decide) (by omega)
  have mM : Mk.ok ⟨s.1, s.2, x - 6⟩ := Sh.mk hs (by omega)
  have mN : Mk.ok ⟨s.1, s.2, x - 6 + y / 2⟩ := Sh.mk hs (by omega)
  have o1 : Cu.ok ⟨⟨0, 1, 0⟩, ⟨s.1, s.2, x - 6⟩, w⟩ := ⟨m0, mM⟩
  have o2 : Cu.ok ⟨⟨s.1, s.2, x - 6 + y / 2⟩, ⟨1, 1, 0⟩, w⟩ := ⟨mN, m1⟩
  have o3 : Cu.ok ⟨⟨0, 1, 0⟩, ⟨1, 1, 0⟩, w⟩ := ⟨m0, m1⟩
  cases w with
  | false =>
    dsimp? [gvR, way_b]
    exact ⟨[.cut ⟨⟨0, 1, 0⟩, ⟨1, 1, 0⟩, false⟩], [.cut ⟨⟨0, 1, 0⟩, ⟨s.1, s.2, x - 6⟩, false⟩] ++ [.cut ⟨⟨s.1, s.2, x - 6 + y / 2⟩, ⟨1, 1, 0⟩, false⟩], c4, rfl, rfl, cd1 o3, (cd1 o1).app (cd1 o2) (by simp), hc4⟩
  | true =>
    dsimp? [gvR, way_b]
    exact ⟨[.cut ⟨⟨0, 1, 0⟩, ⟨1, 1, 0⟩, true⟩], [.cut ⟨⟨s.1, s.2, x - 6 + y / 2⟩, ⟨1, 1, 0⟩, true⟩] ++ [.cut ⟨⟨0, 1, 0⟩, ⟨s.1, s.2, x - 6⟩, true⟩], c4, rfl, rfl, cd1 o3, (cd1 o2).app (cd1 o1) (by simp), hc4⟩

structure Alw (l r : List Pa) : Prop where
  cl : Cd l
  cr : Cd r
  ne1 : showD l 400 ≠ showD r 400
theorem sOk_iff {x : Str} : sOk x = x.cps.toList.all (fun c => decide (c < 0x110000)) := by
  unfold sOk
  rw [Array.all_toList]
theorem q_list : ("q" : Str).cps.toList = [113] := by decide +kernel
theorem z_list : ("z" : Str).cps.toList = [122] := by decide +kernel
theorem app_list {a b : Str} : (a ++ b).cps.toList = a.cps.toList ++ b.cps.toList := Array.toList_append
theorem head_str {s : Str} (h1 : 1 ≤ s.length) (h8 : s.length ≤ 8) : ∃ c0 rest, s.cps.toList = c0 :: rest ∧ dIx [.str s, .int 0] = some (.str ⟨#[c0]⟩) := by
  have hl : s.cps.toList.length = s.length := Array.length_toList
  cases e : s.cps.toList with
  | nil => rw [e] at hl; simp at hl; omega
  | cons c0 rest =>
    refine ⟨c0, rest, rfl, ?_⟩
    show (if s.length ≤ 16777216 then (L2.atI s.cps.toList 0).map _ else none) = _
    rw [if_pos (by omega), e, at_0]
    rfl
theorem tail_str {s : Str} (hs : sOk s = true) (h8 : s.length ≤ 8) : ∃ t : Str, dSlice (some 1) none (.str s) = some (.str t) ∧ sOk t = true ∧ t.length ≤ 8 := by
  refine ⟨cutS s (some 1) none, ?_, ?_, ?_⟩
  · show (if s.length ≤ 16777216 then _ else none) = _
    rw [if_pos (by omega)]
  · rw [sOk_iff] at hs ⊢
    rw [List.all_eq_true] at hs ⊢
    intro c hc
    exact hs c (List.mem_of_mem_drop (List.mem_of_mem_take (by simpa [cutS] using hc)))
  · have hl : s.cps.toList.length = s.length := Array.length_toList
    show (((s.cps.toList.drop _).take _).toArray).size ≤ 8
    rw [List.size_toArray, List.length_take, List.length_drop]
    omega
theorem rep_len {n : Int} {s : Str} {k : Int} : (showP n (.card s k)).length = k.toNat := List.length_replicate
theorem always_ev (c : Re) (hc : c.ok) : Ev (f__law_always.sem [c.d]) fun v os => ∃ (l r : List Pa) (c' : Re), v = PR l r ∧ os = [c'.d] ∧ Alw l r ∧ c'.ok := by
  refine Ev.sem (fb := d__law_always.1) rfl ?_
  unfold d__law_always
  dsimp? [S__law_always, gvR]
  refine (name_ev c hc).mono ?_
  rintro _ _ ⟨s, c1, rfl, rfl, hs, hs1, hs8, hc1⟩
  dsimp? [gvR]
  refine (draw_ev c1 hc1 10 (by omega)).mono ?_
  rintro _ _ ⟨x, c2, rfl, rfl, x0, x1, hc2⟩
  dsimp? [gvR]
  refine (draw_ev c2 hc2 10 (by omega)).mono ?_
  rintro _ _ ⟨y, c3, rfl, rfl, y0, y1, hc3⟩
  dsimp? [gvR]
  refine (way_ev c3 hc3).mono ?_
  rintro _ _ ⟨w, c4, rfl, rfl, hc4⟩
  dsimp? [gvR]
  refine (draw_ev c4 hc4 8 (by omega)).mono ?_
  rintro _ _ ⟨k, c5, rfl, rfl, k0, k1, hc5⟩
  dsimp? [gvR]
  refine (draw_ev c5 hc5 3 (by omega)).mono ?_
  rintro _ _ ⟨kd, c6, rfl, rfl, kd0, kd1, hc6⟩
  have o1 : Cu.ok ⟨⟨0, 1, x⟩, ⟨1, 1, 0 - y⟩, w⟩ := ⟨mk3 (by decide) (by omega), mk3 (by decide) (by omega)⟩
  have hcut := cd1 o1
  generalize ha : (⟨⟨0, 1, x⟩, ⟨1, 1, 0 - y⟩, w⟩ : Cu) = a at hcut
  have ea : D.tup [.str "cut", .tup [.tup [.int 0, .int 1, .int x], .tup [.int 1, .int 1, .int (0 - y)], .str (wayS w)]] = (Pa.cut a).d := by rw [← ha]; rfl
  have sh1 : ∀ (p : Pa) (n : Int), showD [p] n = showP n p := fun p n => by unfold showD; simp
  have sh2 : ∀ (p q : Pa) (n : Int), showD [p, q] n = showP n p ++ showP n q := fun p q n => by unfold showD; simp
  by_cases e0 : kd = 0
  · dsimp? [gvR, e0]
    rw [ea]
    refine ⟨[.cut a], [.cut a] ++ [.card s (1 + k)], c6, rfl, rfl, ⟨hcut, hcut.app (cdK hs (by omega) (by omega)) (by simp), fun e => ?_⟩, hc6⟩
    have := congrArg List.length e
    rw [List.cons_append, List.nil_append, sh1, sh2, List.length_append, rep_len] at this
    omega
  · by_cases e1 : kd = 1
    · dsimp? [gvR, e0, e1]
      rw [ea]
      refine ⟨[.cut a] ++ [.card s (1 + k + 1)], [.cut a] ++ [.card s (1 + k)], c6, rfl, rfl, ⟨hcut.app (cdK hs (by omega) (by omega)) (by simp), hcut.app (cdK hs (by omega) (by omega)) (by simp), fun e => ?_⟩, hc6⟩
      have := congrArg List.length e
      rw [List.cons_append, List.nil_append, List.cons_append, List.nil_append, sh2, sh2, List.length_append, List.length_append, rep_len, rep_len] at this
      omega
    · dsimp? [gvR, e0, e1]
      obtain ⟨c0, rest, hl0, h0⟩ := head_str hs1 hs8
      obtain ⟨t, hsl, ht, ht8⟩ := tail_str hs hs8
      have fin : ∀ o : Str, sOk o = true → o ++ t ≠ s → ∃ (l r : List Pa) (c' : Re), D.lst [.lst [.tup [.str "card", .str s, .int (1 + k)], (Pa.cut a).d], .lst [.tup [.str "card", .str (o ++ t), .int (1 + k)], (Pa.cut a).d]] = PR l r ∧ [c6.d] = [c'.d] ∧ Alw l r ∧ c'.ok := fun o ho hne => by
        refine ⟨[.card s (1 + k)] ++ [.cut a], [.card (o ++ t) (1 + k)] ++ [.cut a], c6, rfl, rfl, ⟨(cdK hs (by omega) (by omega)).app hcut (by simp), (cdK (ok_app ho ht) (by omega) (by omega)).app hcut (by simp), fun e => ?_⟩, hc6⟩
        rw [List.cons_append, List.nil_append, List.cons_append, List.nil_append, sh2, sh2] at e
        have cd : ∀ z : Str, showP 400 (.card z (1 + k)) = D.str z :: List.replicate k.toNat (D.str z) := fun z => by
          show List.replicate (1 + k).toNat (D.str z) = _
          rw [show (1 + k).toNat = k.toNat + 1 by omega, List.replicate_succ]
        rw [cd, cd] at e
        have e2 := congrArg List.head? e
        rw [List.cons_append, List.cons_append, List.head?_cons, List.head?_cons] at e2
        injection e2 with e4
        injection e4 with e5
        exact hne e5.symm
      have zq : sOk "z" = true := by decide +kernel
      have qq : sOk "q" = true := by decide +kernel
      have lz : ("z" : Str).length = 1 := by decide +kernel
      have lq : ("q" : Str).length = 1 := by decide +kernel
      cases hb : ((⟨#[c0]⟩ : Str) == ("q" : Str)) with
      | true =>
        have hc : c0 = 113 := by
          have := congrArg (fun x : Str => x.cps.toList) (beq_iff_eq.mp hb)
          rw [q_list] at this
          simpa using this
        dsimp? [gvR, h0, hb, hsl, d_addS (a := "z") (b := t) (by rw [lz]; omega)]
        rw [ea]
        refine fin "z" zq fun e => ?_
        have := congrArg (fun x : Str => x.cps.toList) e
        rw [app_list, z_list, hl0, hc] at this
        simp at this
      | false =>
        dsimp? [gvR, h0, hb, hsl, d_addS (a := "q") (b := t) (by rw [lq]; omega)]
        rw [ea]
        refine fin "q" qq fun e => ?_
        have := congrArg (fun x : Str => x.cps.toList) e
        rw [app_list, q_list, hl0] at this
        have hc : c0 = 113 := by simp at this; exact this.1.symm
        rw [hc] at hb
        have hq : ((⟨#[113]⟩ : Str) == ("q" : Str)) = true := by decide +kernel
        rw [hq] at hb
        cases hb
theorem ixm1 {n : Nat} (h : 0 < n) : L2.ixN n (-1) = some (n - 1) := by
  unfold L2.ixN
  rw [if_neg (by decide), if_pos (by omega)]
  congr 1
  omega
theorem set_last {xs : List D} {x y : D} : (xs ++ [x]).set (xs.length + 1 - 1) y = xs ++ [y] := by
  rw [Nat.add_sub_cancel, List.set_append_right _ _ (Nat.le_refl _), Nat.sub_self]
  rfl
theorem long_ev (c : Re) (hc : c.ok) : Ev (f__law_long.sem [c.d]) fun v os => ∃ (l r : List Pa) (c' : Re), v = PR l r ∧ os = [c'.d] ∧ Cd l ∧ Cd r ∧ c'.ok := by
  refine Ev.sem (fb := d__law_long.1) rfl ?_
  unfold d__law_long
  dsimp? [S__law_long, gvR]
  refine (name_ev c hc).mono ?_
  rintro _ _ ⟨s, c1, rfl, rfl, hs, hs1, hs8, hc1⟩
  dsimp? [gvR, rng1 (show -(2 ^ 62) ≤ (36 : Int) by decide) (show (36 : Int) < 2 ^ 62 by decide)]
  refine ev_for (fun xs ρ => ∃ (ps : List Pa) (c' : Re) (u3 u4 : D), Cd ps ∧ ps.length + xs.length = 36 ∧ c'.ok ∧ ρ = [c'.d, .str s, .lst (ps.map Pa.d), u3, u4, .un]) ?_ ?_ ⟨[], c1, .un, .un, ⟨by simp, fun p hp => by simp at hp, fun p hp => by simp at hp⟩, by unfold rgD; simp, hc1, rfl⟩
  · rintro x xs ρ ⟨ps, c2, u3, u4, hps, hl, hc2, rfl⟩
    rw [List.length_cons] at hl
    have hpl : ps.length < 16777216 := by omega
    dsimp? [gvR]
    refine (draw_ev c2 hc2 2 (by omega)).mono ?_
    rintro _ _ ⟨k1, c3, rfl, rfl, k10, k11, hc3⟩
    dsimp? [gvR]
    refine (draw_ev c3 hc3 5 (by omega)).mono ?_
    rintro _ _ ⟨k2, c4, rfl, rfl, k20, k21, hc4⟩
    dsimp? [gvR]
    refine (draw_ev c4 hc4 5 (by omega)).mono ?_
    rintro _ _ ⟨k3, c5, rfl, rfl, k30, k31, hc5⟩
    dsimp? [gvR]
    refine (way_ev c5 hc5).mono ?_
    rintro _ _ ⟨w, c6, rfl, rfl, hc6⟩
    dsimp? [gvR, List.length_map, hpl]
    refine (draw_ev c6 hc6 3 (by omega)).mono ?_
    rintro _ _ ⟨g, c7, rfl, rfl, g0, g1, hc7⟩
    have okS1 : okS (k1, 1) := ⟨⟨k10, by show k1 ≤ 1; omega⟩, ⟨by show (1 : Int) ≤ 1; omega, by show (1 : Int) ≤ 6; omega⟩, by show (1 : Int) ≠ 5; omega⟩
    have ho : Pa.ok (.cut ⟨⟨k1, 1, k2 - 2⟩, ⟨k1, 1, k3 - 2⟩, w⟩) := ⟨mk3 okS1 (by omega), mk3 okS1 (by omega)⟩
    by_cases e : g = 0
    · dsimp? [gvR, e]
      refine (draw_ev c7 hc7 2 (by omega)).mono ?_
      rintro _ _ ⟨q, c8, rfl, rfl, q0, q1, hc8⟩
      have hpos : 0 < ps.length + 1 := by omega
      dsimp? [gvR, d_neg, List.length_append, List.length_map, ixm1 hpos]
      have es := set_last (xs := ps.map Pa.d) (x := .tup [.str "cut", .tup [.tup [.int k1, .int 1, .int (k2 - 2)], .tup [.int k1, .int 1, .int (k3 - 2)], .str (wayS w)]]) (y := .tup [.str "card", .str s, .int (1 + q)])
      rw [List.length_map] at es
      refine ⟨ps ++ [.card s (1 + q)], c8, x, D.tup [.int k1, .int 1, .int (k2 - 2)], hps.app (cdK hs (by omega) (by omega)) (by simp; omega), by simp; omega, hc8, ?_⟩
      rw [es, List.map_append]
      rfl
    · dsimp? [gvR, e]
      exact ⟨ps ++ [.cut ⟨⟨k1, 1, k2 - 2⟩, ⟨k1, 1, k3 - 2⟩, w⟩], c7, _, _, hps.app (Cd.one ho (by simp [Pa.cuts])) (by simp; omega), by simp; omega, hc7, by rw [List.map_append]; rfl⟩
  · rintro ρ ⟨ps, c2, u3, u4, hps, hl, hc2, rfl⟩
    rw [List.length_nil] at hl
    have hle : ps.length ≤ 16777215 := by omega
    dsimp? [gvR]
    refine (draw_ev c2 hc2 2 (by omega)).mono ?_
    rintro _ _ ⟨q, c3, rfl, rfl, q0, q1, hc3⟩
    dsimp? [gvR, List.length_map, hle]
    exact ⟨ps ++ [.card s (1 + q)], ps ++ [.card s (3 - (1 + q))], c3, by unfold PR; rw [List.map_append, List.map_append]; rfl, rfl, hps.app (cdK hs (by omega) (by omega)) (by simp; omega), hps.app (cdK hs (by omega) (by omega)) (by simp; omega), hc3⟩

theorem is_ev (i : Int) : Ev (f__law_is.sem [.int i, .int i]) fun v os => v = .bl true ∧ os = [.un, .un] := by
  refine Ev.sem (fb := d__law_is.1) rfl ?_
  unfold d__law_is
  dsimp? [ty_ii, ty_bi, beq_self_eq_true]
theorem sums_ev (c : Re) (hc : c.ok) : Ev (f__law_sums.sem [c.d]) fun v os => ∃ c' : Re, v = .bl true ∧ os = [c'.d] ∧ c'.ok := by
  refine Ev.sem (fb := d__law_sums.1) rfl ?_
  unfold d__law_sums
  dsimp? [S__law_sums, gvR]
  refine ev_for (fun xs ρ => ∃ (rest : List Bool) (c' : Re) (u1 u2 u3 : D), xs = rest.map D.bl ∧ c'.ok ∧ ρ = [c'.d, u1, u2, u3]) ?_ ?_ ⟨[false, true, false], c, .un, .un, .un, rfl, hc, rfl⟩
  · rintro x xs ρ ⟨rest, c1, u1, u2, u3, hx, hc1, rfl⟩
    obtain ⟨w, rs, rfl, rfl, rfl⟩ := map_cons_inv hx
    dsimp? [gvR]
    refine (sides_ev c1 hc1 w).mono ?_
    rintro _ _ ⟨l, r, c2, rfl, rfl, hl, hr, hc2⟩
    dsimp? [gvR, PR]
    refine (law_bound_ev l r hl hr).mono ?_
    rintro _ _ ⟨rfl, rfl⟩
    dsimp? [gvR]
    refine (alike_bound_ev l r hl.sm hr.sm).mono ?_
    rintro _ _ ⟨rfl, rfl⟩
    dsimp? [gvR]
    refine (is_ev _).mono ?_
    rintro _ _ ⟨rfl, rfl⟩
    dsimp? [gvR]
    refine (alike_bound_ev r l hr.sm hl.sm).mono ?_
    rintro _ _ ⟨rfl, rfl⟩
    rw [abd_symm hr.sm hl.sm]
    dsimp? [gvR]
    refine (is_ev _).mono ?_
    rintro _ _ ⟨rfl, rfl⟩
    dsimp? []
    exact ⟨rs, c2, _, _, _, rfl, hc2, rfl⟩
  · rintro ρ ⟨rest, c1, u1, u2, u3, hx, hc1, rfl⟩
    dsimp? []
    exact ⟨c1, rfl, hc1⟩
theorem foldl_le : ∀ (xs : List Int) (r : Int), 0 ≤ r → r ≤ 9 → (∀ x ∈ xs, 0 ≤ x ∧ x ≤ 9) → 0 ≤ xs.foldl max r ∧ xs.foldl max r ≤ 9
  | [], r, h0, h9, _ => ⟨h0, h9⟩
  | x :: xs, r, h0, h9, h => foldl_le xs (max r x) (by omega) (by have := h x List.mem_cons_self; omega) fun y hy => h y (List.mem_cons_of_mem _ hy)
theorem re_le {code : List Pa} (h : Sm code) : 0 ≤ re' code ∧ re' code ≤ 9 := by
  refine foldl_le _ 0 (by omega) (by omega) fun x hx => ?_
  obtain ⟨a, ha, rfl⟩ := List.mem_map.mp hx
  have := (marks_ok h.2 a ha).m
  unfold sgn
  split <;> omega
theorem abd_le {l r : List Pa} (hl : Sm l) (hr : Sm r) : 1 ≤ abd l r ∧ abd l r ≤ 876 := by
  have h1 := re_le hl
  have h2 := re_le hr
  have h3 := lc_T2 (pe_T hl) (pe_T hr)
  have hm : 0 ≤ max (re' l) (re' r) ∧ max (re' l) (re' r) ≤ 9 := by omega
  unfold abd
  generalize max (re' l) (re' r) = m at hm
  unfold T12 at h3
  rcases h3 with h3 | h3 | h3 | h3 | h3 | h3 <;> rw [h3] <;> omega
theorem un_symm {l r : List Pa} (hl : Cd l) (hr : Cd r) (h : showD l 400 ≠ showD r 400) : due l r 400 = true ∧ due r l 400 = true := by
  constructor
  · unfold due
    rw [un_of hl hr h]
    rfl
  · unfold due
    rw [un_of hr hl fun e => h e.symm]
    rfl
theorem eq_nil {a b : Int} : dEq [.lst [.int a, .int b], .lst []] = some (.bl false) := by rfl
def prq (q : List Pa × List Pa) : D := PR q.1 q.2
theorem law_ev (ns : List Int) : Ev (f_law.sem [.scr ns]) fun r os => r = .bl true ∧ os = [.un] := by
  refine Ev.sem (fb := d_law.1) rfl ?_
  unfold d_law
  dsimp? [S_law]
  refine (reel_ev ns).mono ?_
  rintro _ _ ⟨c0, rfl, rfl, hc0⟩
  dsimp? [gvR]
  refine (always_ev c0 hc0).mono ?_
  rintro _ _ ⟨l0, r0, c1, rfl, rfl, hA, hc1⟩
  dsimp? [gvR, PR]
  refine (late_ev c1 hc1).mono ?_
  rintro _ _ ⟨l1, r1, c2, rfl, rfl, hl1, hr1, hc2⟩
  dsimp? [gvR, PR]
  refine (window_ev c2 hc2).mono ?_
  rintro _ _ ⟨l2, r2, c3, rfl, rfl, hl2, hr2, hc3⟩
  dsimp? [gvR, PR]
  refine (split_ev c3 hc3).mono ?_
  rintro _ _ ⟨l3, r3, c4, rfl, rfl, hl3, hr3, hc4⟩
  dsimp? [gvR, PR]
  refine (woven_ev c4 hc4).mono ?_
  rintro _ _ ⟨l4, r4, c5, rfl, rfl, hl4, hr4, hc5⟩
  dsimp? [gvR, PR]
  refine (draw_ev c5 hc5 3 (by omega)).mono ?_
  rintro _ _ ⟨k, c6, rfl, rfl, _, _, hc6⟩
  dsimp? [gvR]
  refine Ev.mono (Q' := fun o ρ => o = .nx ∧ ∃ (qs : List (List Pa × List Pa)) (c7 : Re), (∀ q ∈ qs, Cd q.1 ∧ Cd q.2) ∧ (l0, r0) ∈ qs ∧ c7.ok ∧ ρ = [.scr ns, c7.d, prq (l0, r0), .lst (qs.map prq), .un, .un, .un, .un, .un, .un, .un, .un]) ?_ ?_
  · have base : ∀ q ∈ [(l1, r1), (l2, r2), (l3, r3), (l0, r0), (l4, r4)], Cd (q : List Pa × List Pa).1 ∧ Cd q.2 := all_cons ⟨hl1, hr1⟩ (all_cons ⟨hl2, hr2⟩ (all_cons ⟨hl3, hr3⟩ (all_cons ⟨hA.cl, hA.cr⟩ (all_cons ⟨hl4, hr4⟩ all_nil))))
    by_cases e : k = 0
    · dsimp? [gvR, e]
      refine (long_ev c6 hc6).mono ?_
      rintro _ _ ⟨l5, r5, c7, rfl, rfl, hl5, hr5, hc7⟩
      dsimp? [gvR, PR]
      exact ⟨[(l1, r1), (l2, r2), (l3, r3), (l0, r0), (l4, r4)] ++ [(l5, r5)], c7, fun q hq => by
        rcases List.mem_append.mp hq with z | z
        · exact base q z
        · rw [List.mem_singleton.mp z]; exact ⟨hl5, hr5⟩, by simp, hc7, rfl⟩
    · dsimp? [gvR, e]
      exact ⟨[(l1, r1), (l2, r2), (l3, r3), (l0, r0), (l4, r4)], c6, base, by simp, hc6, rfl⟩
  · rintro _ _ ⟨rfl, qs, c7, hqs, hmem, hc7, rfl⟩
    dsimp? [gvR]
    refine ev_for (fun xs ρ => ∃ (rest : List (List Pa × List Pa)) (c' : Re) (a b : Int) (u3 u5 u6 u7 u8 u9 u10 u11 : D), xs = rest.map prq ∧ (∀ q ∈ rest, Cd q.1 ∧ Cd q.2) ∧ c'.ok ∧ 0 ≤ a ∧ 0 ≤ b ∧ ((l0, r0) ∈ rest ∨ 0 < a) ∧ (rest ≠ [] ∨ 0 < b) ∧ ρ = [.scr ns, c'.d, prq (l0, r0), u3, .lst [.int a, .int b], u5, u6, u7, u8, u9, u10, u11]) ?_ ?_ ⟨qs, c7, 0, 0, _, .un, .un, .un, .un, .un, .un, .un, rfl, hqs, hc7, by omega, by omega, .inl hmem, .inl (fun e => by rw [e] at hmem; cases hmem), rfl⟩
    · rintro x xs ρ ⟨rest, c8, a, b, u3, u5, u6, u7, u8, u9, u10, u11, hx, hr, hc8, ha, hb, hA1, hB1, rfl⟩
      obtain ⟨q, rs, rfl, rfl, rfl⟩ := map_cons_inv hx
      obtain ⟨l, r⟩ := q
      have hl : Cd l := (hr (l, r) List.mem_cons_self).1
      have hrr : Cd r := (hr (l, r) List.mem_cons_self).2
      have hr' : ∀ q ∈ rs, Cd q.1 ∧ Cd q.2 := fun q hq => hr q (List.mem_cons_of_mem _ hq)
      obtain ⟨t1, t2⟩ := abd_le hl.sm hrr.sm
      dsimp? [prq, PR]
      refine (law_bound_ev l r hl hrr).mono ?_
      rintro _ _ ⟨rfl, rfl⟩
      generalize abd l r = top at t1 t2
      dsimp? [rng1 (show -(2 ^ 62) ≤ top by omega) (show top < 2 ^ 62 by omega), rg_map]
      refine Ev.mono (Q' := fun o ρ => o = .nx ∧ ∃ (e : Int) (u8 : D), 0 ≤ e ∧ e < top ∧ ρ = [.scr ns, c8.d, prq (l0, r0), u3, .lst [.int a, .int b], prq (l, r), .int top, .int e, u8, u9, u10, u11]) ?_ ?_
      · refine ev_for (fun xs ρ => ∃ (rest : List Int) (u8 : D), xs = rest.map D.int ∧ (∀ i ∈ rest, 0 ≤ i ∧ i < top) ∧ ρ = [.scr ns, c8.d, prq (l0, r0), u3, .lst [.int a, .int b], prq (l, r), .int top, .int 0, u8, u9, u10, u11]) ?_ ?_ ⟨_, u8, rfl, fun i hi => ?_, rfl⟩
        · rintro y ys ρ ⟨rest, u8, hy, hi, rfl⟩
          obtain ⟨i, is, rfl, rfl, rfl⟩ := map_cons_inv hy
          have hi0 := hi i List.mem_cons_self
          dsimp? [prq, PR]
          refine (law_unlike_ev l r hl hrr i hi0.1 (by omega)).mono ?_
          rintro _ _ ⟨rfl, rfl⟩
          cases e : un l r i with
          | true =>
            dsimp? []
            exact ⟨i, _, hi0.1, hi0.2, rfl⟩
          | false =>
            dsimp? []
            exact ⟨is, _, rfl, fun j hj => hi j (List.mem_cons_of_mem _ hj), rfl⟩
        · rintro ρ ⟨rest, u8, hy, hi, rfl⟩
          exact ⟨rfl, 0, u8, by omega, by omega, rfl⟩
        · simp only [List.mem_map, List.mem_range] at hi
          obtain ⟨j, hj, rfl⟩ := hi
          omega
      · rintro _ _ ⟨rfl, e, u8, e0, e1, rfl⟩
        dsimp? [gvR]
        refine (draw_ev c8 hc8 12 (by omega)).mono ?_
        rintro _ _ ⟨x1, c9, rfl, rfl, _, _, hc9⟩
        dsimp? [gvR]
        refine (draw_ev c9 hc9 30 (by omega)).mono ?_
        rintro _ _ ⟨x2, c10, rfl, rfl, _, _, hc10⟩
        dsimp? [gvR]
        refine (draw_ev c10 hc10 400 (by omega)).mono ?_
        rintro _ _ ⟨x3, c11, rfl, rfl, _, _, hc11⟩
        dsimp? [gvR]
        refine (draw_ev c11 hc11 top (by omega)).mono ?_
        rintro _ _ ⟨x4, c12, rfl, rfl, _, _, hc12⟩
        dsimp? [gvR]
        refine (draw_ev c12 hc12 20 (by omega)).mono ?_
        rintro _ _ ⟨x5, c13, rfl, rfl, _, _, hc13⟩
        dsimp? [gvR]
        refine (draw_ev c13 hc13 9999 (by omega)).mono ?_
        rintro _ _ ⟨x6, c14, rfl, rfl, _, _, hc14⟩
        dsimp? [gvR]
        refine (draw_ev c14 hc14 2 (by omega)).mono ?_
        rintro _ _ ⟨sd, c15, rfl, rfl, s0, s1, hc15⟩
        have papers : ∀ (L R : List Pa), Cd L → Cd R → _ := fun L R hL hR => papers_ev L R hL hR [e - 1, e, e + 1, e + 1 + x1, 400, 401, 400 - x2, x3, x4, x5, 0, 402 + x6]
        have no401 : ∀ L R : List Pa, due L R 401 = false := fun L R => by unfold due; rfl
        have fin : ∀ (L R : List Pa) (a' b' : Int) (u9 u10 u11 u5 : D), ((L = l ∧ R = r) ∨ (L = r ∧ R = l)) → 0 ≤ a' → 0 ≤ b' → (due L R 400 = true → 0 < a') → 0 < b' → ∃ (rest : List (List Pa × List Pa)) (c' : Re) (a2 b2 : Int) (v3 v5 v6 v7 v8 v9 v10 v11 : D), rs.map prq = rest.map prq ∧ (∀ q ∈ rest, Cd q.1 ∧ Cd q.2) ∧ c'.ok ∧ 0 ≤ a2 ∧ 0 ≤ b2 ∧ ((l0, r0) ∈ rest ∨ 0 < a2) ∧ (rest ≠ [] ∨ 0 < b2) ∧ [.scr ns, c15.d, prq (l0, r0), u3, D.lst [.int (a + a'), .int (b + b')], u5, .int top, .int e, u8, u9, u10, u11] = [.scr ns, c'.d, prq (l0, r0), v3, .lst [.int a2, .int b2], v5, v6, v7, v8, v9, v10, v11] := by
          intro L R a' b' u9 u10 u11 u5 hLR ha' hb' hd hb2
          refine ⟨rs, c15, a + a', b + b', _, _, _, _, _, _, _, _, rfl, hr', hc15, by omega, by omega, ?_, .inr (by omega), rfl⟩
          rcases hA1 with z | z
          · rcases List.mem_cons.mp z with z | z
            · injection z with z1 z2
              subst z1 z2
              obtain ⟨d1, d2⟩ := un_symm hA.cl hA.cr hA.ne1
              right
              rcases hLR with ⟨rfl, rfl⟩ | ⟨rfl, rfl⟩
              · have := hd d1; omega
              · have := hd d2; omega
            · exact .inl z
          · exact .inr (by omega)
        rcases (show sd = 0 ∨ sd = 1 by omega) with rfl | rfl
        · dsimp? [prq, PR, Int.reduceSub]
          refine (papers l r hl hrr).mono ?_
          rintro _ _ ⟨a', b', rfl, rfl, ha', hb', hd1, hd2⟩
          dsimp? [eq_nil]
          exact fin l r a' b' _ _ _ _ (.inl ⟨rfl, rfl⟩) ha' hb' (fun d => hd1 400 (by simp) d) (hd2 401 (by simp) (no401 l r))
        · dsimp? [prq, PR, Int.reduceSub]
          refine (papers r l hrr hl).mono ?_
          rintro _ _ ⟨a', b', rfl, rfl, ha', hb', hd1, hd2⟩
          dsimp? [eq_nil]
          exact fin r l a' b' _ _ _ _ (.inr ⟨rfl, rfl⟩) ha' hb' (fun d => hd1 400 (by simp) d) (hd2 401 (by simp) (no401 r l))
    · rintro ρ ⟨rest, c8, a, b, u3, u5, u6, u7, u8, u9, u10, u11, hx, hr, hc8, ha, hb, hA1, hB1, rfl⟩
      have := map_nil_inv hx
      subst this
      have ha2 : 0 < a := by rcases hA1 with z | z; cases z; exact z
      have hb2 : 0 < b := by rcases hB1 with z | z; exact absurd rfl z; exact z
      dsimp? [prq, PR, gvR]
      refine (draw_ev c8 hc8 401 (by omega)).mono ?_
      rintro _ _ ⟨x1, c9, rfl, rfl, x10, x11, hc9⟩
      dsimp? [gvR]
      refine (strange_ev l0 r0 x1 x10 (by omega)).mono ?_
      rintro _ _ ⟨rfl, rfl⟩
      dsimp? [gvR]
      refine (sums_ev c9 hc9).mono ?_
      rintro _ _ ⟨c10, rfl, rfl, hc10⟩
      dsimp? [gvR, ha2, hb2]
      simp
theorem law_sem (ns : List Int) (h : ns.length ≤ 63) : f_law.sem [.scr ns] = .ok (.bl true) [.un] := (law_ev ns).eq

end T

namespace T
open PySem PySem.Spec PyProof.Rows L2 VS
theorem noX {P : Program} {w : World} {outer : List Env} {H : Hp} {s : Shared} {u : Value} {s2 : Shared} (h : L2.CX P w outer H s (fun _ _ _ => False) u s2) : False := by obtain ⟨_, _, _, _, _, _, _, _, _, _, _, _, z⟩ := h; exact z
theorem sc__law_reel : FnScope S__law_reel.N f__law_reel.ps (defScope s__law_reel) := ⟨rfl, rfl, rfl, by decide +kernel, rfl, by decide +kernel, by decide +kernel⟩
theorem sc__law_draw : FnScope S__law_draw.N f__law_draw.ps (defScope s__law_draw) := ⟨rfl, rfl, rfl, by decide +kernel, rfl, by decide +kernel, by decide +kernel⟩
theorem sc__law_name : FnScope S__law_name.N f__law_name.ps (defScope s__law_name) := ⟨rfl, rfl, rfl, by decide +kernel, rfl, by decide +kernel, by decide +kernel⟩
theorem sc__law_way : FnScope S__law_way.N f__law_way.ps (defScope s__law_way) := ⟨rfl, rfl, rfl, by decide +kernel, rfl, by decide +kernel, by decide +kernel⟩
theorem sc__law_always : FnScope S__law_always.N f__law_always.ps (defScope s__law_always) := ⟨rfl, rfl, rfl, by decide +kernel, rfl, by decide +kernel, by decide +kernel⟩
theorem sc__law_late : FnScope S__law_late.N f__law_late.ps (defScope s__law_late) := ⟨rfl, rfl, rfl, by decide +kernel, rfl, by decide +kernel, by decide +kernel⟩
theorem sc__law_window : FnScope S__law_window.N f__law_window.ps (defScope s__law_window) := ⟨rfl, rfl, rfl, by decide +kernel, rfl, by decide +kernel, by decide +kernel⟩
theorem sc__law_split : FnScope S__law_split.N f__law_split.ps (defScope s__law_split) := ⟨rfl, rfl, rfl, by decide +kernel, rfl, by decide +kernel, by decide +kernel⟩
theorem sc__law_woven : FnScope S__law_woven.N f__law_woven.ps (defScope s__law_woven) := ⟨rfl, rfl, rfl, by decide +kernel, rfl, by decide +kernel, by decide +kernel⟩
theorem sc__law_cuts : FnScope S__law_cuts.N f__law_cuts.ps (defScope s__law_cuts) := ⟨rfl, rfl, rfl, by decide +kernel, rfl, by decide +kernel, by decide +kernel⟩
theorem sc__law_period : FnScope S__law_period.N f__law_period.ps (defScope s__law_period) := ⟨rfl, rfl, rfl, by decide +kernel, rfl, by decide +kernel, by decide +kernel⟩
theorem sc__law_reach : FnScope S__law_reach.N f__law_reach.ps (defScope s__law_reach) := ⟨rfl, rfl, rfl, by decide +kernel, rfl, by decide +kernel, by decide +kernel⟩
theorem sc__law_bound : FnScope S__law_bound.N f__law_bound.ps (defScope s__law_bound) := ⟨rfl, rfl, rfl, by decide +kernel, rfl, by decide +kernel, by decide +kernel⟩
theorem sc_is_whole : FnScope S_is_whole.N f_is_whole.ps (defScope s_is_whole) := ⟨rfl, rfl, rfl, by decide +kernel, rfl, by decide +kernel, by decide +kernel⟩
theorem sc_whole_within : FnScope S_whole_within.N f_whole_within.ps (defScope s_whole_within) := ⟨rfl, rfl, rfl, by decide +kernel, rfl, by decide +kernel, by decide +kernel⟩
theorem sc_mark_at : FnScope S_mark_at.N f_mark_at.ps (defScope s_mark_at) := ⟨rfl, rfl, rfl, by decide +kernel, rfl, by decide +kernel, by decide +kernel⟩
theorem sc_cut_frames : FnScope S_cut_frames.N f_cut_frames.ps (defScope s_cut_frames) := ⟨rfl, rfl, rfl, by decide +kernel, rfl, by decide +kernel, by decide +kernel⟩
theorem sc_weave_frames : FnScope S_weave_frames.N f_weave_frames.ps (defScope s_weave_frames) := ⟨rfl, rfl, rfl, by decide +kernel, rfl, by decide +kernel, by decide +kernel⟩
theorem sc_part_shown : FnScope S_part_shown.N f_part_shown.ps (defScope s_part_shown) := ⟨rfl, rfl, rfl, by decide +kernel, rfl, by decide +kernel, by decide +kernel⟩
theorem sc_shown : FnScope S_shown.N f_shown.ps (defScope s_shown) := ⟨rfl, rfl, rfl, by decide +kernel, rfl, by decide +kernel, by decide +kernel⟩
theorem sc_is_unlike_paper : FnScope S_is_unlike_paper.N f_is_unlike_paper.ps (defScope s_is_unlike_paper) := ⟨rfl, rfl, rfl, by decide +kernel, rfl, by decide +kernel, by decide +kernel⟩
theorem sc__law_place : FnScope S__law_place.N f__law_place.ps (defScope s__law_place) := ⟨rfl, rfl, rfl, by decide +kernel, rfl, by decide +kernel, by decide +kernel⟩
theorem sc__law_frames : FnScope S__law_frames.N f__law_frames.ps (defScope s__law_frames) := ⟨rfl, rfl, rfl, by decide +kernel, rfl, by decide +kernel, by decide +kernel⟩
theorem sc__law_row : FnScope S__law_row.N f__law_row.ps (defScope s__law_row) := ⟨rfl, rfl, rfl, by decide +kernel, rfl, by decide +kernel, by decide +kernel⟩
theorem sc__law_unlike : FnScope S__law_unlike.N f__law_unlike.ps (defScope s__law_unlike) := ⟨rfl, rfl, rfl, by decide +kernel, rfl, by decide +kernel, by decide +kernel⟩
theorem sc__law_papers : FnScope S__law_papers.N f__law_papers.ps (defScope s__law_papers) := ⟨rfl, rfl, rfl, by decide +kernel, rfl, by decide +kernel, by decide +kernel⟩
theorem sc__law_strange : FnScope S__law_strange.N f__law_strange.ps (defScope s__law_strange) := ⟨rfl, rfl, rfl, by decide +kernel, rfl, by decide +kernel, by decide +kernel⟩
theorem sc__law_shares : FnScope S__law_shares.N f__law_shares.ps (defScope s__law_shares) := ⟨rfl, rfl, rfl, by decide +kernel, rfl, by decide +kernel, by decide +kernel⟩
theorem sc__law_grows : FnScope S__law_grows.N f__law_grows.ps (defScope s__law_grows) := ⟨rfl, rfl, rfl, by decide +kernel, rfl, by decide +kernel, by decide +kernel⟩
theorem sc__law_let : FnScope S__law_let.N f__law_let.ps (defScope s__law_let) := ⟨rfl, rfl, rfl, by decide +kernel, rfl, by decide +kernel, by decide +kernel⟩
theorem sc__law_mark : FnScope S__law_mark.N f__law_mark.ps (defScope s__law_mark) := ⟨rfl, rfl, rfl, by decide +kernel, rfl, by decide +kernel, by decide +kernel⟩
theorem sc__law_cut : FnScope S__law_cut.N f__law_cut.ps (defScope s__law_cut) := ⟨rfl, rfl, rfl, by decide +kernel, rfl, by decide +kernel, by decide +kernel⟩
theorem sc__law_parts : FnScope S__law_parts.N f__law_parts.ps (defScope s__law_parts) := ⟨rfl, rfl, rfl, by decide +kernel, rfl, by decide +kernel, by decide +kernel⟩
theorem sc__law_sides : FnScope S__law_sides.N f__law_sides.ps (defScope s__law_sides) := ⟨rfl, rfl, rfl, by decide +kernel, rfl, by decide +kernel, by decide +kernel⟩
theorem sc__law_is : FnScope S__law_is.N f__law_is.ps (defScope s__law_is) := ⟨rfl, rfl, rfl, by decide +kernel, rfl, by decide +kernel, by decide +kernel⟩
theorem sc_part_cuts : FnScope S_part_cuts.N f_part_cuts.ps (defScope s_part_cuts) := ⟨rfl, rfl, rfl, by decide +kernel, rfl, by decide +kernel, by decide +kernel⟩
theorem sc_cuts_of : FnScope S_cuts_of.N f_cuts_of.ps (defScope s_cuts_of) := ⟨rfl, rfl, rfl, by decide +kernel, rfl, by decide +kernel, by decide +kernel⟩
theorem sc_marks_of : FnScope S_marks_of.N f_marks_of.ps (defScope s_marks_of) := ⟨rfl, rfl, rfl, by decide +kernel, rfl, by decide +kernel, by decide +kernel⟩
theorem sc_period_of : FnScope S_period_of.N f_period_of.ps (defScope s_period_of) := ⟨rfl, rfl, rfl, by decide +kernel, rfl, by decide +kernel, by decide +kernel⟩
theorem sc_reach_of : FnScope S_reach_of.N f_reach_of.ps (defScope s_reach_of) := ⟨rfl, rfl, rfl, by decide +kernel, rfl, by decide +kernel, by decide +kernel⟩
theorem sc_alike_bound : FnScope S_alike_bound.N f_alike_bound.ps (defScope s_alike_bound) := ⟨rfl, rfl, rfl, by decide +kernel, rfl, by decide +kernel, by decide +kernel⟩
theorem sc__law_sums : FnScope S__law_sums.N f__law_sums.ps (defScope s__law_sums) := ⟨rfl, rfl, rfl, by decide +kernel, rfl, by decide +kernel, by decide +kernel⟩
theorem sc__law_long : FnScope S__law_long.N f__law_long.ps (defScope s__law_long) := ⟨rfl, rfl, rfl, by decide +kernel, rfl, by decide +kernel, by decide +kernel⟩
theorem sc_law : FnScope S_law.N f_law.ps (defScope s_law) := ⟨rfl, rfl, rfl, by decide +kernel, rfl, by decide +kernel, by decide +kernel⟩
set_option maxHeartbeats 0 in
theorem all_mk {l : PySem.W.OpenLaw} {w : World} {K : PySem.W.Frag} {h : Heap} {mg : Str → Option Value} {fa : Addr} (X : K.In h) (G : h.Ns mainGlobals mg) (hfa : mg "law" = some (.ref fa))
    {f__law_reel' : Addr} {od25 an25 : Option Addr} {sl25 : Array (Option Value)} {oc25 kV25 dc25 pm25 cd25 ct25 : Value}
    (a__law_reel : PySem.W.nsIn K mainGlobals "_law_reel" = some (some (.ref f__law_reel'))) (l__law_reel : K.lookup f__law_reel' = some ⟨oc25, od25, .func (PySem.W.fnOf "_law_reel" "_law_reel" (defArgs s__law_reel) (defBody s__law_reel) (defScope s__law_reel) .none kV25 dc25 pm25 an25 cd25 ct25), sl25⟩) (c__law_reel : PySem.W.codeIn K cd25 "_law_reel" = true) (k__law_reel : PySem.W.keepIn K (.ref f__law_reel') = true)
    {f__law_draw' : Addr} {od26 an26 : Option Addr} {sl26 : Array (Option Value)} {oc26 kV26 dc26 pm26 cd26 ct26 : Value}
    (a__law_draw : PySem.W.nsIn K mainGlobals "_law_draw" = some (some (.ref f__law_draw'))) (l__law_draw : K.lookup f__law_draw' = some ⟨oc26, od26, .func (PySem.W.fnOf "_law_draw" "_law_draw" (defArgs s__law_draw) (defBody s__law_draw) (defScope s__law_draw) .none kV26 dc26 pm26 an26 cd26 ct26), sl26⟩) (c__law_draw : PySem.W.codeIn K cd26 "_law_draw" = true) (k__law_draw : PySem.W.keepIn K (.ref f__law_draw') = true)
    {f__law_name' : Addr} {od38 an38 : Option Addr} {sl38 : Array (Option Value)} {oc38 kV38 dc38 pm38 cd38 ct38 : Value}
    (a__law_name : PySem.W.nsIn K mainGlobals "_law_name" = some (some (.ref f__law_name'))) (l__law_name : K.lookup f__law_name' = some ⟨oc38, od38, .func (PySem.W.fnOf "_law_name" "_law_name" (defArgs s__law_name) (defBody s__law_name) (defScope s__law_name) .none kV38 dc38 pm38 an38 cd38 ct38), sl38⟩) (c__law_name : PySem.W.codeIn K cd38 "_law_name" = true) (k__law_name : PySem.W.keepIn K (.ref f__law_name') = true)
    {f__law_way' : Addr} {od39 an39 : Option Addr} {sl39 : Array (Option Value)} {oc39 kV39 dc39 pm39 cd39 ct39 : Value}
    (a__law_way : PySem.W.nsIn K mainGlobals "_law_way" = some (some (.ref f__law_way'))) (l__law_way : K.lookup f__law_way' = some ⟨oc39, od39, .func (PySem.W.fnOf "_law_way" "_law_way" (defArgs s__law_way) (defBody s__law_way) (defScope s__law_way) .none kV39 dc39 pm39 an39 cd39 ct39), sl39⟩) (c__law_way : PySem.W.codeIn K cd39 "_law_way" = true) (k__law_way : PySem.W.keepIn K (.ref f__law_way') = true)
    {f__law_always' : Addr} {od48 an48 : Option Addr} {sl48 : Array (Option Value)} {oc48 kV48 dc48 pm48 cd48 ct48 : Value}
    (a__law_always : PySem.W.nsIn K mainGlobals "_law_always" = some (some (.ref f__law_always'))) (l__law_always : K.lookup f__law_always' = some ⟨oc48, od48, .func (PySem.W.fnOf "_law_always" "_law_always" (defArgs s__law_always) (defBody s__law_always) (defScope s__law_always) .none kV48 dc48 pm48 an48 cd48 ct48), sl48⟩) (c__law_always : PySem.W.codeIn K cd48 "_law_always" = true) (k__law_always : PySem.W.keepIn K (.ref f__law_always') = true)
    {f__law_late' : Addr} {od44 an44 : Option Addr} {sl44 : Array (Option Value)} {oc44 kV44 dc44 pm44 cd44 ct44 : Value}
    (a__law_late : PySem.W.nsIn K mainGlobals "_law_late" = some (some (.ref f__law_late'))) (l__law_late : K.lookup f__law_late' = some ⟨oc44, od44, .func (PySem.W.fnOf "_law_late" "_law_late" (defArgs s__law_late) (defBody s__law_late) (defScope s__law_late) .none kV44 dc44 pm44 an44 cd44 ct44), sl44⟩) (c__law_late : PySem.W.codeIn K cd44 "_law_late" = true) (k__law_late : PySem.W.keepIn K (.ref f__law_late') = true)
    {f__law_window' : Addr} {od46 an46 : Option Addr} {sl46 : Array (Option Value)} {oc46 kV46 dc46 pm46 cd46 ct46 : Value}
    (a__law_window : PySem.W.nsIn K mainGlobals "_law_window" = some (some (.ref f__law_window'))) (l__law_window : K.lookup f__law_window' = some ⟨oc46, od46, .func (PySem.W.fnOf "_law_window" "_law_window" (defArgs s__law_window) (defBody s__law_window) (defScope s__law_window) .none kV46 dc46 pm46 an46 cd46 ct46), sl46⟩) (c__law_window : PySem.W.codeIn K cd46 "_law_window" = true) (k__law_window : PySem.W.keepIn K (.ref f__law_window') = true)
    {f__law_split' : Addr} {od47 an47 : Option Addr} {sl47 : Array (Option Value)} {oc47 kV47 dc47 pm47 cd47 ct47 : Value}
    (a__law_split : PySem.W.nsIn K mainGlobals "_law_split" = some (some (.ref f__law_split'))) (l__law_split : K.lookup f__law_split' = some ⟨oc47, od47, .func (PySem.W.fnOf "_law_split" "_law_split" (defArgs s__law_split) (defBody s__law_split) (defScope s__law_split) .none kV47 dc47 pm47 an47 cd47 ct47), sl47⟩) (c__law_split : PySem.W.codeIn K cd47 "_law_split" = true) (k__law_split : PySem.W.keepIn K (.ref f__law_split') = true)
    {f__law_woven' : Addr} {od45 an45 : Option Addr} {sl45 : Array (Option Value)} {oc45 kV45 dc45 pm45 cd45 ct45 : Value}
    (a__law_woven : PySem.W.nsIn K mainGlobals "_law_woven" = some (some (.ref f__law_woven'))) (l__law_woven : K.lookup f__law_woven' = some ⟨oc45, od45, .func (PySem.W.fnOf "_law_woven" "_law_woven" (defArgs s__law_woven) (defBody s__law_woven) (defScope s__law_woven) .none kV45 dc45 pm45 an45 cd45 ct45), sl45⟩) (c__law_woven : PySem.W.codeIn K cd45 "_law_woven" = true) (k__law_woven : PySem.W.keepIn K (.ref f__law_woven') = true)
    {f__law_cuts' : Addr} {od31 an31 : Option Addr} {sl31 : Array (Option Value)} {oc31 kV31 dc31 pm31 cd31 ct31 : Value}
    (a__law_cuts : PySem.W.nsIn K mainGlobals "_law_cuts" = some (some (.ref f__law_cuts'))) (l__law_cuts : K.lookup f__law_cuts' = some ⟨oc31, od31, .func (PySem.W.fnOf "_law_cuts" "_law_cuts" (defArgs s__law_cuts) (defBody s__law_cuts) (defScope s__law_cuts) .none kV31 dc31 pm31 an31 cd31 ct31), sl31⟩) (c__law_cuts : PySem.W.codeIn K cd31 "_law_cuts" = true) (k__law_cuts : PySem.W.keepIn K (.ref f__law_cuts') = true)
    {f__law_period' : Addr} {od32 an32 : Option Addr} {sl32 : Array (Option Value)} {oc32 kV32 dc32 pm32 cd32 ct32 : Value}
    (a__law_period : PySem.W.nsIn K mainGlobals "_law_period" = some (some (.ref f__law_period'))) (l__law_period : K.lookup f__law_period' = some ⟨oc32, od32, .func (PySem.W.fnOf "_law_period" "_law_period" (defArgs s__law_period) (defBody s__law_period) (defScope s__law_period) .none kV32 dc32 pm32 an32 cd32 ct32), sl32⟩) (c__law_period : PySem.W.codeIn K cd32 "_law_period" = true) (k__law_period : PySem.W.keepIn K (.ref f__law_period') = true)
    {f__law_reach' : Addr} {od33 an33 : Option Addr} {sl33 : Array (Option Value)} {oc33 kV33 dc33 pm33 cd33 ct33 : Value}
    (a__law_reach : PySem.W.nsIn K mainGlobals "_law_reach" = some (some (.ref f__law_reach'))) (l__law_reach : K.lookup f__law_reach' = some ⟨oc33, od33, .func (PySem.W.fnOf "_law_reach" "_law_reach" (defArgs s__law_reach) (defBody s__law_reach) (defScope s__law_reach) .none kV33 dc33 pm33 an33 cd33 ct33), sl33⟩) (c__law_reach : PySem.W.codeIn K cd33 "_law_reach" = true) (k__law_reach : PySem.W.keepIn K (.ref f__law_reach') = true)
    {f__law_bound' : Addr} {od36 an36 : Option Addr} {sl36 : Array (Option Value)} {oc36 kV36 dc36 pm36 cd36 ct36 : Value}
    (a__law_bound : PySem.W.nsIn K mainGlobals "_law_bound" = some (some (.ref f__law_bound'))) (l__law_bound : K.lookup f__law_bound' = some ⟨oc36, od36, .func (PySem.W.fnOf "_law_bound" "_law_bound" (defArgs s__law_bound) (defBody s__law_bound) (defScope s__law_bound) .none kV36 dc36 pm36 an36 cd36 ct36), sl36⟩) (c__law_bound : PySem.W.codeIn K cd36 "_law_bound" = true) (k__law_bound : PySem.W.keepIn K (.ref f__law_bound') = true)
    {f_is_whole' : Addr} {od3 an3 : Option Addr} {sl3 : Array (Option Value)} {oc3 kV3 dc3 pm3 cd3 ct3 : Value}
    (a_is_whole : PySem.W.nsIn K mainGlobals "is_whole" = some (some (.ref f_is_whole'))) (l_is_whole : K.lookup f_is_whole' = some ⟨oc3, od3, .func (PySem.W.fnOf "is_whole" "is_whole" (defArgs s_is_whole) (defBody s_is_whole) (defScope s_is_whole) .none kV3 dc3 pm3 an3 cd3 ct3), sl3⟩) (c_is_whole : PySem.W.codeIn K cd3 "is_whole" = true) (k_is_whole : PySem.W.keepIn K (.ref f_is_whole') = true)
    {f_whole_within' : Addr} {od4 an4 : Option Addr} {sl4 : Array (Option Value)} {oc4 kV4 dc4 pm4 cd4 ct4 : Value}
    (a_whole_within : PySem.W.nsIn K mainGlobals "whole_within" = some (some (.ref f_whole_within'))) (l_whole_within : K.lookup f_whole_within' = some ⟨oc4, od4, .func (PySem.W.fnOf "whole_within" "whole_within" (defArgs s_whole_within) (defBody s_whole_within) (defScope s_whole_within) .none kV4 dc4 pm4 an4 cd4 ct4), sl4⟩) (c_whole_within : PySem.W.codeIn K cd4 "whole_within" = true) (k_whole_within : PySem.W.keepIn K (.ref f_whole_within') = true)
    {f_mark_at' : Addr} {od6 an6 : Option Addr} {sl6 : Array (Option Value)} {oc6 kV6 dc6 pm6 cd6 ct6 : Value}
    (a_mark_at : PySem.W.nsIn K mainGlobals "mark_at" = some (some (.ref f_mark_at'))) (l_mark_at : K.lookup f_mark_at' = some ⟨oc6, od6, .func (PySem.W.fnOf "mark_at" "mark_at" (defArgs s_mark_at) (defBody s_mark_at) (defScope s_mark_at) .none kV6 dc6 pm6 an6 cd6 ct6), sl6⟩) (c_mark_at : PySem.W.codeIn K cd6 "mark_at" = true) (k_mark_at : PySem.W.keepIn K (.ref f_mark_at') = true)
    {f_cut_frames' : Addr} {od8 an8 : Option Addr} {sl8 : Array (Option Value)} {oc8 kV8 dc8 pm8 cd8 ct8 : Value}
    (a_cut_frames : PySem.W.nsIn K mainGlobals "cut_frames" = some (some (.ref f_cut_frames'))) (l_cut_frames : K.lookup f_cut_frames' = some ⟨oc8, od8, .func (PySem.W.fnOf "cut_frames" "cut_frames" (defArgs s_cut_frames) (defBody s_cut_frames) (defScope s_cut_frames) .none kV8 dc8 pm8 an8 cd8 ct8), sl8⟩) (c_cut_frames : PySem.W.codeIn K cd8 "cut_frames" = true) (k_cut_frames : PySem.W.keepIn K (.ref f_cut_frames') = true)
    {f_weave_frames' : Addr} {od19 an19 : Option Addr} {sl19 : Array (Option Value)} {oc19 kV19 dc19 pm19 cd19 ct19 : Value}
    (a_weave_frames : PySem.W.nsIn K mainGlobals "weave_frames" = some (some (.ref f_weave_frames'))) (l_weave_frames : K.lookup f_weave_frames' = some ⟨oc19, od19, .func (PySem.W.fnOf "weave_frames" "weave_frames" (defArgs s_weave_frames) (defBody s_weave_frames) (defScope s_weave_frames) .none kV19 dc19 pm19 an19 cd19 ct19), sl19⟩) (c_weave_frames : PySem.W.codeIn K cd19 "weave_frames" = true) (k_weave_frames : PySem.W.keepIn K (.ref f_weave_frames') = true)
    {f_part_shown' : Addr} {od20 an20 : Option Addr} {sl20 : Array (Option Value)} {oc20 kV20 dc20 pm20 cd20 ct20 : Value}
    (a_part_shown : PySem.W.nsIn K mainGlobals "part_shown" = some (some (.ref f_part_shown'))) (l_part_shown : K.lookup f_part_shown' = some ⟨oc20, od20, .func (PySem.W.fnOf "part_shown" "part_shown" (defArgs s_part_shown) (defBody s_part_shown) (defScope s_part_shown) .none kV20 dc20 pm20 an20 cd20 ct20), sl20⟩) (c_part_shown : PySem.W.codeIn K cd20 "part_shown" = true) (k_part_shown : PySem.W.keepIn K (.ref f_part_shown') = true)
    {f_shown' : Addr} {od21 an21 : Option Addr} {sl21 : Array (Option Value)} {oc21 kV21 dc21 pm21 cd21 ct21 : Value}
    (a_shown : PySem.W.nsIn K mainGlobals "shown" = some (some (.ref f_shown'))) (l_shown : K.lookup f_shown' = some ⟨oc21, od21, .func (PySem.W.fnOf "shown" "shown" (defArgs s_shown) (defBody s_shown) (defScope s_shown) .none kV21 dc21 pm21 an21 cd21 ct21), sl21⟩) (c_shown : PySem.W.codeIn K cd21 "shown" = true) (k_shown : PySem.W.keepIn K (.ref f_shown') = true)
    {f_is_unlike_paper' : Addr} {od23 an23 : Option Addr} {sl23 : Array (Option Value)} {oc23 kV23 dc23 pm23 cd23 ct23 : Value}
    (a_is_unlike_paper : PySem.W.nsIn K mainGlobals "is_unlike_paper" = some (some (.ref f_is_unlike_paper'))) (l_is_unlike_paper : K.lookup f_is_unlike_paper' = some ⟨oc23, od23, .func (PySem.W.fnOf "is_unlike_paper" "is_unlike_paper" (defArgs s_is_unlike_paper) (defBody s_is_unlike_paper) (defScope s_is_unlike_paper) .none kV23 dc23 pm23 an23 cd23 ct23), sl23⟩) (c_is_unlike_paper : PySem.W.codeIn K cd23 "is_unlike_paper" = true) (k_is_unlike_paper : PySem.W.keepIn K (.ref f_is_unlike_paper') = true)
    {f__law_place' : Addr} {od28 an28 : Option Addr} {sl28 : Array (Option Value)} {oc28 kV28 dc28 pm28 cd28 ct28 : Value}
    (a__law_place : PySem.W.nsIn K mainGlobals "_law_place" = some (some (.ref f__law_place'))) (l__law_place : K.lookup f__law_place' = some ⟨oc28, od28, .func (PySem.W.fnOf "_law_place" "_law_place" (defArgs s__law_place) (defBody s__law_place) (defScope s__law_place) .none kV28 dc28 pm28 an28 cd28 ct28), sl28⟩) (c__law_place : PySem.W.codeIn K cd28 "_law_place" = true) (k__law_place : PySem.W.keepIn K (.ref f__law_place') = true)
    {f__law_frames' : Addr} {od29 an29 : Option Addr} {sl29 : Array (Option Value)} {oc29 kV29 dc29 pm29 cd29 ct29 : Value}
    (a__law_frames : PySem.W.nsIn K mainGlobals "_law_frames" = some (some (.ref f__law_frames'))) (l__law_frames : K.lookup f__law_frames' = some ⟨oc29, od29, .func (PySem.W.fnOf "_law_frames" "_law_frames" (defArgs s__law_frames) (defBody s__law_frames) (defScope s__law_frames) .none kV29 dc29 pm29 an29 cd29 ct29), sl29⟩) (c__law_frames : PySem.W.codeIn K cd29 "_law_frames" = true) (k__law_frames : PySem.W.keepIn K (.ref f__law_frames') = true)
    {f__law_row' : Addr} {od30 an30 : Option Addr} {sl30 : Array (Option Value)} {oc30 kV30 dc30 pm30 cd30 ct30 : Value}
    (a__law_row : PySem.W.nsIn K mainGlobals "_law_row" = some (some (.ref f__law_row'))) (l__law_row : K.lookup f__law_row' = some ⟨oc30, od30, .func (PySem.W.fnOf "_law_row" "_law_row" (defArgs s__law_row) (defBody s__law_row) (defScope s__law_row) .none kV30 dc30 pm30 an30 cd30 ct30), sl30⟩) (c__law_row : PySem.W.codeIn K cd30 "_law_row" = true) (k__law_row : PySem.W.keepIn K (.ref f__law_row') = true)
    {f__law_unlike' : Addr} {od37 an37 : Option Addr} {sl37 : Array (Option Value)} {oc37 kV37 dc37 pm37 cd37 ct37 : Value}
    (a__law_unlike : PySem.W.nsIn K mainGlobals "_law_unlike" = some (some (.ref f__law_unlike'))) (l__law_unlike : K.lookup f__law_unlike' = some ⟨oc37, od37, .func (PySem.W.fnOf "_law_unlike" "_law_unlike" (defArgs s__law_unlike) (defBody s__law_unlike) (defScope s__law_unlike) .none kV37 dc37 pm37 an37 cd37 ct37), sl37⟩) (c__law_unlike : PySem.W.codeIn K cd37 "_law_unlike" = true) (k__law_unlike : PySem.W.keepIn K (.ref f__law_unlike') = true)
    {f__law_papers' : Addr} {od52 an52 : Option Addr} {sl52 : Array (Option Value)} {oc52 kV52 dc52 pm52 cd52 ct52 : Value}
    (a__law_papers : PySem.W.nsIn K mainGlobals "_law_papers" = some (some (.ref f__law_papers'))) (l__law_papers : K.lookup f__law_papers' = some ⟨oc52, od52, .func (PySem.W.fnOf "_law_papers" "_law_papers" (defArgs s__law_papers) (defBody s__law_papers) (defScope s__law_papers) .none kV52 dc52 pm52 an52 cd52 ct52), sl52⟩) (c__law_papers : PySem.W.codeIn K cd52 "_law_papers" = true) (k__law_papers : PySem.W.keepIn K (.ref f__law_papers') = true)
    {f__law_strange' : Addr} {od53 an53 : Option Addr} {sl53 : Array (Option Value)} {oc53 kV53 dc53 pm53 cd53 ct53 : Value}
    (a__law_strange : PySem.W.nsIn K mainGlobals "_law_strange" = some (some (.ref f__law_strange'))) (l__law_strange : K.lookup f__law_strange' = some ⟨oc53, od53, .func (PySem.W.fnOf "_law_strange" "_law_strange" (defArgs s__law_strange) (defBody s__law_strange) (defScope s__law_strange) .none kV53 dc53 pm53 an53 cd53 ct53), sl53⟩) (c__law_strange : PySem.W.codeIn K cd53 "_law_strange" = true) (k__law_strange : PySem.W.keepIn K (.ref f__law_strange') = true)
    {f__law_shares' : Addr} {od27 an27 : Option Addr} {sl27 : Array (Option Value)} {oc27 kV27 dc27 pm27 cd27 ct27 : Value}
    (a__law_shares : PySem.W.nsIn K mainGlobals "_law_shares" = some (some (.ref f__law_shares'))) (l__law_shares : K.lookup f__law_shares' = some ⟨oc27, od27, .func (PySem.W.fnOf "_law_shares" "_law_shares" (defArgs s__law_shares) (defBody s__law_shares) (defScope s__law_shares) .none kV27 dc27 pm27 an27 cd27 ct27), sl27⟩) (c__law_shares : PySem.W.codeIn K cd27 "_law_shares" = true) (k__law_shares : PySem.W.keepIn K (.ref f__law_shares') = true)
    {f__law_grows' : Addr} {od34 an34 : Option Addr} {sl34 : Array (Option Value)} {oc34 kV34 dc34 pm34 cd34 ct34 : Value}
    (a__law_grows : PySem.W.nsIn K mainGlobals "_law_grows" = some (some (.ref f__law_grows'))) (l__law_grows : K.lookup f__law_grows' = some ⟨oc34, od34, .func (PySem.W.fnOf "_law_grows" "_law_grows" (defArgs s__law_grows) (defBody s__law_grows) (defScope s__law_grows) .none kV34 dc34 pm34 an34 cd34 ct34), sl34⟩) (c__law_grows : PySem.W.codeIn K cd34 "_law_grows" = true) (k__law_grows : PySem.W.keepIn K (.ref f__law_grows') = true)
    {f__law_let' : Addr} {od35 an35 : Option Addr} {sl35 : Array (Option Value)} {oc35 kV35 dc35 pm35 cd35 ct35 : Value}
    (a__law_let : PySem.W.nsIn K mainGlobals "_law_let" = some (some (.ref f__law_let'))) (l__law_let : K.lookup f__law_let' = some ⟨oc35, od35, .func (PySem.W.fnOf "_law_let" "_law_let" (defArgs s__law_let) (defBody s__law_let) (defScope s__law_let) .none kV35 dc35 pm35 an35 cd35 ct35), sl35⟩) (c__law_let : PySem.W.codeIn K cd35 "_law_let" = true) (k__law_let : PySem.W.keepIn K (.ref f__law_let') = true)
    {f__law_mark' : Addr} {od40 an40 : Option Addr} {sl40 : Array (Option Value)} {oc40 kV40 dc40 pm40 cd40 ct40 : Value}
    (a__law_mark : PySem.W.nsIn K mainGlobals "_law_mark" = some (some (.ref f__law_mark'))) (l__law_mark : K.lookup f__law_mark' = some ⟨oc40, od40, .func (PySem.W.fnOf "_law_mark" "_law_mark" (defArgs s__law_mark) (defBody s__law_mark) (defScope s__law_mark) .none kV40 dc40 pm40 an40 cd40 ct40), sl40⟩) (c__law_mark : PySem.W.codeIn K cd40 "_law_mark" = true) (k__law_mark : PySem.W.keepIn K (.ref f__law_mark') = true)
    {f__law_cut' : Addr} {od41 an41 : Option Addr} {sl41 : Array (Option Value)} {oc41 kV41 dc41 pm41 cd41 ct41 : Value}
    (a__law_cut : PySem.W.nsIn K mainGlobals "_law_cut" = some (some (.ref f__law_cut'))) (l__law_cut : K.lookup f__law_cut' = some ⟨oc41, od41, .func (PySem.W.fnOf "_law_cut" "_law_cut" (defArgs s__law_cut) (defBody s__law_cut) (defScope s__law_cut) .none kV41 dc41 pm41 an41 cd41 ct41), sl41⟩) (c__law_cut : PySem.W.codeIn K cd41 "_law_cut" = true) (k__law_cut : PySem.W.keepIn K (.ref f__law_cut') = true)
    {f__law_parts' : Addr} {od42 an42 : Option Addr} {sl42 : Array (Option Value)} {oc42 kV42 dc42 pm42 cd42 ct42 : Value}
    (a__law_parts : PySem.W.nsIn K mainGlobals "_law_parts" = some (some (.ref f__law_parts'))) (l__law_parts : K.lookup f__law_parts' = some ⟨oc42, od42, .func (PySem.W.fnOf "_law_parts" "_law_parts" (defArgs s__law_parts) (defBody s__law_parts) (defScope s__law_parts) .none kV42 dc42 pm42 an42 cd42 ct42), sl42⟩) (c__law_parts : PySem.W.codeIn K cd42 "_law_parts" = true) (k__law_parts : PySem.W.keepIn K (.ref f__law_parts') = true)
    {f__law_sides' : Addr} {od43 an43 : Option Addr} {sl43 : Array (Option Value)} {oc43 kV43 dc43 pm43 cd43 ct43 : Value}
    (a__law_sides : PySem.W.nsIn K mainGlobals "_law_sides" = some (some (.ref f__law_sides'))) (l__law_sides : K.lookup f__law_sides' = some ⟨oc43, od43, .func (PySem.W.fnOf "_law_sides" "_law_sides" (defArgs s__law_sides) (defBody s__law_sides) (defScope s__law_sides) .none kV43 dc43 pm43 an43 cd43 ct43), sl43⟩) (c__law_sides : PySem.W.codeIn K cd43 "_law_sides" = true) (k__law_sides : PySem.W.keepIn K (.ref f__law_sides') = true)
    {f__law_is' : Addr} {od50 an50 : Option Addr} {sl50 : Array (Option Value)} {oc50 kV50 dc50 pm50 cd50 ct50 : Value}
    (a__law_is : PySem.W.nsIn K mainGlobals "_law_is" = some (some (.ref f__law_is'))) (l__law_is : K.lookup f__law_is' = some ⟨oc50, od50, .func (PySem.W.fnOf "_law_is" "_law_is" (defArgs s__law_is) (defBody s__law_is) (defScope s__law_is) .none kV50 dc50 pm50 an50 cd50 ct50), sl50⟩) (c__law_is : PySem.W.codeIn K cd50 "_law_is" = true) (k__law_is : PySem.W.keepIn K (.ref f__law_is') = true)
    {f_part_cuts' : Addr} {od10 an10 : Option Addr} {sl10 : Array (Option Value)} {oc10 kV10 dc10 pm10 cd10 ct10 : Value}
    (a_part_cuts : PySem.W.nsIn K mainGlobals "part_cuts" = some (some (.ref f_part_cuts'))) (l_part_cuts : K.lookup f_part_cuts' = some ⟨oc10, od10, .func (PySem.W.fnOf "part_cuts" "part_cuts" (defArgs s_part_cuts) (defBody s_part_cuts) (defScope s_part_cuts) .none kV10 dc10 pm10 an10 cd10 ct10), sl10⟩) (c_part_cuts : PySem.W.codeIn K cd10 "part_cuts" = true) (k_part_cuts : PySem.W.keepIn K (.ref f_part_cuts') = true)
    {f_cuts_of' : Addr} {od11 an11 : Option Addr} {sl11 : Array (Option Value)} {oc11 kV11 dc11 pm11 cd11 ct11 : Value}
    (a_cuts_of : PySem.W.nsIn K mainGlobals "cuts_of" = some (some (.ref f_cuts_of'))) (l_cuts_of : K.lookup f_cuts_of' = some ⟨oc11, od11, .func (PySem.W.fnOf "cuts_of" "cuts_of" (defArgs s_cuts_of) (defBody s_cuts_of) (defScope s_cuts_of) .none kV11 dc11 pm11 an11 cd11 ct11), sl11⟩) (c_cuts_of : PySem.W.codeIn K cd11 "cuts_of" = true) (k_cuts_of : PySem.W.keepIn K (.ref f_cuts_of') = true)
    {f_marks_of' : Addr} {od13 an13 : Option Addr} {sl13 : Array (Option Value)} {oc13 kV13 dc13 pm13 cd13 ct13 : Value}
    (a_marks_of : PySem.W.nsIn K mainGlobals "marks_of" = some (some (.ref f_marks_of'))) (l_marks_of : K.lookup f_marks_of' = some ⟨oc13, od13, .func (PySem.W.fnOf "marks_of" "marks_of" (defArgs s_marks_of) (defBody s_marks_of) (defScope s_marks_of) .none kV13 dc13 pm13 an13 cd13 ct13), sl13⟩) (c_marks_of : PySem.W.codeIn K cd13 "marks_of" = true) (k_marks_of : PySem.W.keepIn K (.ref f_marks_of') = true)
    {f_period_of' : Addr} {od14 an14 : Option Addr} {sl14 : Array (Option Value)} {oc14 kV14 dc14 pm14 cd14 ct14 : Value}
    (a_period_of : PySem.W.nsIn K mainGlobals "period_of" = some (some (.ref f_period_of'))) (l_period_of : K.lookup f_period_of' = some ⟨oc14, od14, .func (PySem.W.fnOf "period_of" "period_of" (defArgs s_period_of) (defBody s_period_of) (defScope s_period_of) .none kV14 dc14 pm14 an14 cd14 ct14), sl14⟩) (c_period_of : PySem.W.codeIn K cd14 "period_of" = true) (k_period_of : PySem.W.keepIn K (.ref f_period_of') = true)
    {f_reach_of' : Addr} {od15 an15 : Option Addr} {sl15 : Array (Option Value)} {oc15 kV15 dc15 pm15 cd15 ct15 : Value}
    (a_reach_of : PySem.W.nsIn K mainGlobals "reach_of" = some (some (.ref f_reach_of'))) (l_reach_of : K.lookup f_reach_of' = some ⟨oc15, od15, .func (PySem.W.fnOf "reach_of" "reach_of" (defArgs s_reach_of) (defBody s_reach_of) (defScope s_reach_of) .none kV15 dc15 pm15 an15 cd15 ct15), sl15⟩) (c_reach_of : PySem.W.codeIn K cd15 "reach_of" = true) (k_reach_of : PySem.W.keepIn K (.ref f_reach_of') = true)
    {f_alike_bound' : Addr} {od17 an17 : Option Addr} {sl17 : Array (Option Value)} {oc17 kV17 dc17 pm17 cd17 ct17 : Value}
    (a_alike_bound : PySem.W.nsIn K mainGlobals "alike_bound" = some (some (.ref f_alike_bound'))) (l_alike_bound : K.lookup f_alike_bound' = some ⟨oc17, od17, .func (PySem.W.fnOf "alike_bound" "alike_bound" (defArgs s_alike_bound) (defBody s_alike_bound) (defScope s_alike_bound) .none kV17 dc17 pm17 an17 cd17 ct17), sl17⟩) (c_alike_bound : PySem.W.codeIn K cd17 "alike_bound" = true) (k_alike_bound : PySem.W.keepIn K (.ref f_alike_bound') = true)
    {f__law_sums' : Addr} {od51 an51 : Option Addr} {sl51 : Array (Option Value)} {oc51 kV51 dc51 pm51 cd51 ct51 : Value}
    (a__law_sums : PySem.W.nsIn K mainGlobals "_law_sums" = some (some (.ref f__law_sums'))) (l__law_sums : K.lookup f__law_sums' = some ⟨oc51, od51, .func (PySem.W.fnOf "_law_sums" "_law_sums" (defArgs s__law_sums) (defBody s__law_sums) (defScope s__law_sums) .none kV51 dc51 pm51 an51 cd51 ct51), sl51⟩) (c__law_sums : PySem.W.codeIn K cd51 "_law_sums" = true) (k__law_sums : PySem.W.keepIn K (.ref f__law_sums') = true)
    {f__law_long' : Addr} {od49 an49 : Option Addr} {sl49 : Array (Option Value)} {oc49 kV49 dc49 pm49 cd49 ct49 : Value}
    (a__law_long : PySem.W.nsIn K mainGlobals "_law_long" = some (some (.ref f__law_long'))) (l__law_long : K.lookup f__law_long' = some ⟨oc49, od49, .func (PySem.W.fnOf "_law_long" "_law_long" (defArgs s__law_long) (defBody s__law_long) (defScope s__law_long) .none kV49 dc49 pm49 an49 cd49 ct49), sl49⟩) (c__law_long : PySem.W.codeIn K cd49 "_law_long" = true) (k__law_long : PySem.W.keepIn K (.ref f__law_long') = true)
    {f_law' : Addr} {od54 an54 : Option Addr} {sl54 : Array (Option Value)} {oc54 kV54 dc54 pm54 cd54 ct54 : Value}
    (a_law : PySem.W.nsIn K mainGlobals "law" = some (some (.ref f_law'))) (l_law : K.lookup f_law' = some ⟨oc54, od54, .func (PySem.W.fnOf "law" "law" (defArgs s_law) (defBody s_law) (defScope s_law) .none kV54 dc54 pm54 an54 cd54 ct54), sl54⟩) (c_law : PySem.W.codeIn K cd54 "law" = true) (k_law : PySem.W.keepIn K (.ref f_law') = true)
    (z_len : PySem.W.nsIn K mainGlobals "len" = some none)
    (z_isinstance : PySem.W.nsIn K mainGlobals "isinstance" = some none)
    (z_range : PySem.W.nsIn K mainGlobals "range" = some none)
    (z_tuple : PySem.W.nsIn K mainGlobals "tuple" = some none)
    (z_int : PySem.W.nsIn K mainGlobals "int" = some none)
    (z_max : PySem.W.nsIn K mainGlobals "max" = some none)
    (z_min : PySem.W.nsIn K mainGlobals "min" = some none)
    (z_abs : PySem.W.nsIn K mainGlobals "abs" = some none)
    (z_str : PySem.W.nsIn K mainGlobals "str" = some none)
    (z_list : PySem.W.nsIn K mainGlobals "list" = some none)
    (z_enumerate : PySem.W.nsIn K mainGlobals "enumerate" = some none)
    (z_sum : PySem.W.nsIn K mainGlobals "sum" = some none)
    (z_sorted : PySem.W.nsIn K mainGlobals "sorted" = some none)
    (z_zip : PySem.W.nsIn K mainGlobals "zip" = some none)
    (z_dict : PySem.W.nsIn K mainGlobals "dict" = some none)
    (z_set : PySem.W.nsIn K mainGlobals "set" = some none)
    (z_reversed : PySem.W.nsIn K mainGlobals "reversed" = some none)
    (z_bool : PySem.W.nsIn K mainGlobals "bool" = some none)
    (b_gcd : PySem.W.nsIn K mainGlobals "gcd" = some (some (.builtin "math.gcd")))
    {t_LENGTH_MOST : Tok} (q_LENGTH_MOST : PySem.W.nsIn K mainGlobals "LENGTH_MOST" = some (some (.int 400 t_LENGTH_MOST)))
    : ∃ fd : FuncData, (∀ (s : Shared) (v : Value), BindsTo s fd ⟨[v], []⟩ [("script", v)]) ∧ ∀ base : Heap, K.In base → base.Ns mainGlobals mg → FnOk l.prog w K mg base (L2.CX l.prog w) 20 fa fd ["script"] (VS.spLaw K) := by
  have e := hfa.symm.trans (PySem.W.mg_of X G a_law)
  cases e
  have bl : ∀ x ∈ builtinNames, mg x = none := (all_cons (mg_none X G z_len) (all_cons (mg_none X G z_isinstance) (all_cons (mg_none X G z_range) (all_cons (mg_none X G z_tuple) (all_cons (mg_none X G z_int) (all_cons (mg_none X G z_max) (all_cons (mg_none X G z_min) (all_cons (mg_none X G z_abs) (all_cons (mg_none X G z_str) (all_cons (mg_none X G z_list) (all_cons (mg_none X G z_enumerate) (all_cons (mg_none X G z_sum) (all_cons (mg_none X G z_sorted) (all_cons (mg_none X G z_zip) (all_cons (mg_none X G z_dict) (all_cons (mg_none X G z_set) (all_cons (mg_none X G z_reversed) (all_cons (mg_none X G z_bool) all_nil))))))))))))))))))
  refine ⟨PySem.W.fnOf "law" "law" (defArgs s_law) (defBody s_law) (defScope s_law) .none kV54 dc54 pm54 an54 cd54 ct54, fun s v => .of_eq rfl, fun base KB GB => ?_⟩
  have F__law_reel := fun_mk (x := "_law_reel") (qual := "_law_reel") (st := s__law_reel) l__law_reel c__law_reel k__law_reel
  have A__law_reel : FnAt l.prog w K mg base 1 f__law_reel := fn_at (S := S__law_reel) (fi := f__law_reel) F__law_reel (PySem.W.mg_of X G a__law_reel) (F__law_reel.binds fun _ _ _ _ _ _ us hl => match us, hl with | [_], _ => rfl) sc__law_reel rfl rfl rfl rfl all_nil all_nil bl all_nil d__law_reel.2 (hpr_of rfl) rfl all_nil
  have F__law_draw := fun_mk (x := "_law_draw") (qual := "_law_draw") (st := s__law_draw) l__law_draw c__law_draw k__law_draw
  have A__law_draw : FnAt l.prog w K mg base 1 f__law_draw := fn_at (S := S__law_draw) (fi := f__law_draw) F__law_draw (PySem.W.mg_of X G a__law_draw) (F__law_draw.binds fun _ _ _ _ _ _ us hl => match us, hl with | [_, _], _ => rfl) sc__law_draw rfl rfl rfl rfl all_nil all_nil bl all_nil d__law_draw.2 (hpr_of rfl) rfl all_nil
  have F__law_name := fun_mk (x := "_law_name") (qual := "_law_name") (st := s__law_name) l__law_name c__law_name k__law_name
  have A__law_name : FnAt l.prog w K mg base 2 f__law_name := fn_at (S := S__law_name) (fi := f__law_name) F__law_name (PySem.W.mg_of X G a__law_name) (F__law_name.binds fun _ _ _ _ _ _ us hl => match us, hl with | [_], _ => rfl) sc__law_name rfl rfl rfl rfl (all_cons (A__law_draw.mono (by decide)) all_nil) all_nil bl all_nil d__law_name.2 (hpr_of rfl) rfl all_nil
  have F__law_way := fun_mk (x := "_law_way") (qual := "_law_way") (st := s__law_way) l__law_way c__law_way k__law_way
  have A__law_way : FnAt l.prog w K mg base 2 f__law_way := fn_at (S := S__law_way) (fi := f__law_way) F__law_way (PySem.W.mg_of X G a__law_way) (F__law_way.binds fun _ _ _ _ _ _ us hl => match us, hl with | [_], _ => rfl) sc__law_way rfl rfl rfl rfl (all_cons (A__law_draw.mono (by decide)) all_nil) all_nil bl all_nil d__law_way.2 (hpr_of rfl) rfl all_nil
  have F__law_always := fun_mk (x := "_law_always") (qual := "_law_always") (st := s__law_always) l__law_always c__law_always k__law_always
  have A__law_always : FnAt l.prog w K mg base 3 f__law_always := fn_at (S := S__law_always) (fi := f__law_always) F__law_always (PySem.W.mg_of X G a__law_always) (F__law_always.binds fun _ _ _ _ _ _ us hl => match us, hl with | [_], _ => rfl) sc__law_always rfl rfl rfl rfl (all_cons (A__law_name.mono (by decide)) (all_cons (A__law_draw.mono (by decide)) (all_cons (A__law_way.mono (by decide)) all_nil))) all_nil bl all_nil d__law_always.2 (hpr_of rfl) rfl all_nil
  have F__law_late := fun_mk (x := "_law_late") (qual := "_law_late") (st := s__law_late) l__law_late c__law_late k__law_late
  have A__law_late : FnAt l.prog w K mg base 3 f__law_late := fn_at (S := S__law_late) (fi := f__law_late) F__law_late (PySem.W.mg_of X G a__law_late) (F__law_late.binds fun _ _ _ _ _ _ us hl => match us, hl with | [_], _ => rfl) sc__law_late rfl rfl rfl rfl (all_cons (A__law_draw.mono (by decide)) (all_cons (A__law_name.mono (by decide)) all_nil)) all_nil bl all_nil d__law_late.2 (hpr_of rfl) rfl all_nil
  have F__law_window := fun_mk (x := "_law_window") (qual := "_law_window") (st := s__law_window) l__law_window c__law_window k__law_window
  have A__law_window : FnAt l.prog w K mg base 3 f__law_window := fn_at (S := S__law_window) (fi := f__law_window) F__law_window (PySem.W.mg_of X G a__law_window) (F__law_window.binds fun _ _ _ _ _ _ us hl => match us, hl with | [_], _ => rfl) sc__law_window rfl rfl rfl rfl (all_cons (A__law_draw.mono (by decide)) (all_cons (A__law_way.mono (by decide)) all_nil)) all_nil bl all_nil d__law_window.2 (hpr_of rfl) rfl all_nil
  have F__law_split := fun_mk (x := "_law_split") (qual := "_law_split") (st := s__law_split) l__law_split c__law_split k__law_split
  have A__law_split : FnAt l.prog w K mg base 3 f__law_split := fn_at (S := S__law_split) (fi := f__law_split) F__law_split (PySem.W.mg_of X G a__law_split) (F__law_split.binds fun _ _ _ _ _ _ us hl => match us, hl with | [_], _ => rfl) sc__law_split rfl rfl rfl rfl (all_cons (A__law_way.mono (by decide)) (all_cons (A__law_draw.mono (by decide)) all_nil)) all_nil bl all_nil d__law_split.2 (hpr_of rfl) rfl all_nil
  have F__law_woven := fun_mk (x := "_law_woven") (qual := "_law_woven") (st := s__law_woven) l__law_woven c__law_woven k__law_woven
  have A__law_woven : FnAt l.prog w K mg base 2 f__law_woven := fn_at (S := S__law_woven) (fi := f__law_woven) F__law_woven (PySem.W.mg_of X G a__law_woven) (F__law_woven.binds fun _ _ _ _ _ _ us hl => match us, hl with | [_], _ => rfl) sc__law_woven rfl rfl rfl rfl (all_cons (A__law_draw.mono (by decide)) all_nil) all_nil bl all_nil d__law_woven.2 (hpr_of rfl) rfl all_nil
  have F__law_cuts := fun_mk (x := "_law_cuts") (qual := "_law_cuts") (st := s__law_cuts) l__law_cuts c__law_cuts k__law_cuts
  have A__law_cuts : FnAt l.prog w K mg base 1 f__law_cuts := fn_at (S := S__law_cuts) (fi := f__law_cuts) F__law_cuts (PySem.W.mg_of X G a__law_cuts) (F__law_cuts.binds fun _ _ _ _ _ _ us hl => match us, hl with | [_], _ => rfl) sc__law_cuts rfl rfl rfl rfl all_nil all_nil bl all_nil d__law_cuts.2 (hpr_of rfl) rfl all_nil
  have F__law_period := fun_mk (x := "_law_period") (qual := "_law_period") (st := s__law_period) l__law_period c__law_period k__law_period
  have A__law_period : FnAt l.prog w K mg base 2 f__law_period := fn_at (S := S__law_period) (fi := f__law_period) F__law_period (PySem.W.mg_of X G a__law_period) (F__law_period.binds fun _ _ _ _ _ _ us hl => match us, hl with | [_], _ => rfl) sc__law_period rfl rfl rfl rfl (all_cons (A__law_cuts.mono (by decide)) all_nil) all_nil bl all_nil d__law_period.2 (hpr_of rfl) rfl all_nil
  have F__law_reach := fun_mk (x := "_law_reach") (qual := "_law_reach") (st := s__law_reach) l__law_reach c__law_reach k__law_reach
  have A__law_reach : FnAt l.prog w K mg base 2 f__law_reach := fn_at (S := S__law_reach) (fi := f__law_reach) F__law_reach (PySem.W.mg_of X G a__law_reach) (F__law_reach.binds fun _ _ _ _ _ _ us hl => match us, hl with | [_], _ => rfl) sc__law_reach rfl rfl rfl rfl (all_cons (A__law_cuts.mono (by decide)) all_nil) all_nil bl all_nil d__law_reach.2 (hpr_of rfl) rfl all_nil
  have F__law_bound := fun_mk (x := "_law_bound") (qual := "_law_bound") (st := s__law_bound) l__law_bound c__law_bound k__law_bound
  have A__law_bound : FnAt l.prog w K mg base 3 f__law_bound := fn_at (S := S__law_bound) (fi := f__law_bound) F__law_bound (PySem.W.mg_of X G a__law_bound) (F__law_bound.binds fun _ _ _ _ _ _ us hl => match us, hl with | [_, _], _ => rfl) sc__law_bound rfl rfl rfl rfl (all_cons (A__law_period.mono (by decide)) (all_cons (A__law_reach.mono (by decide)) all_nil)) all_nil bl all_nil d__law_bound.2 (hpr_of rfl) rfl all_nil
  have F_is_whole := fun_mk (x := "is_whole") (qual := "is_whole") (st := s_is_whole) l_is_whole c_is_whole k_is_whole
  have A_is_whole : FnAt l.prog w K mg base 1 f_is_whole := fn_at (S := S_is_whole) (fi := f_is_whole) F_is_whole (PySem.W.mg_of X G a_is_whole) (F_is_whole.binds fun _ _ _ _ _ _ us hl => match us, hl with | [_], _ => rfl) sc_is_whole rfl rfl rfl rfl all_nil all_nil bl all_nil d_is_whole.2 (hpr_of rfl) rfl all_nil
  have F_whole_within := fun_mk (x := "whole_within") (qual := "whole_within") (st := s_whole_within) l_whole_within c_whole_within k_whole_within
  have A_whole_within : FnAt l.prog w K mg base 2 f_whole_within := fn_at (S := S_whole_within) (fi := f_whole_within) F_whole_within (PySem.W.mg_of X G a_whole_within) (F_whole_within.binds fun _ _ _ _ _ _ us hl => match us, hl with | [_, _, _], _ => rfl) sc_whole_within rfl rfl rfl rfl (all_cons (A_is_whole.mono (by decide)) all_nil) all_nil bl all_nil d_whole_within.2 (hpr_of rfl) rfl all_nil
  have F_mark_at := fun_mk (x := "mark_at") (qual := "mark_at") (st := s_mark_at) l_mark_at c_mark_at k_mark_at
  have A_mark_at : FnAt l.prog w K mg base 1 f_mark_at := fn_at (S := S_mark_at) (fi := f_mark_at) F_mark_at (PySem.W.mg_of X G a_mark_at) (F_mark_at.binds fun _ _ _ _ _ _ us hl => match us, hl with | [_, _], _ => rfl) sc_mark_at rfl rfl rfl rfl all_nil all_nil bl all_nil d_mark_at.2 (hpr_of rfl) rfl all_nil
  have F_cut_frames := fun_mk (x := "cut_frames") (qual := "cut_frames") (st := s_cut_frames) l_cut_frames c_cut_frames k_cut_frames
  have A_cut_frames : FnAt l.prog w K mg base 2 f_cut_frames := fn_at (S := S_cut_frames) (fi := f_cut_frames) F_cut_frames (PySem.W.mg_of X G a_cut_frames) (F_cut_frames.binds fun _ _ _ _ _ _ us hl => match us, hl with | [_, _], _ => rfl) sc_cut_frames rfl rfl rfl rfl (all_cons (A_mark_at.mono (by decide)) all_nil) all_nil bl all_nil d_cut_frames.2 (hpr_of rfl) rfl all_nil
  have F_weave_frames := fun_mk (x := "weave_frames") (qual := "weave_frames") (st := s_weave_frames) l_weave_frames c_weave_frames k_weave_frames
  have A_weave_frames : FnAt l.prog w K mg base 3 f_weave_frames := fn_at (S := S_weave_frames) (fi := f_weave_frames) F_weave_frames (PySem.W.mg_of X G a_weave_frames) (F_weave_frames.binds fun _ _ _ _ _ _ us hl => match us, hl with | [_, _], _ => rfl) sc_weave_frames rfl rfl rfl rfl (all_cons (A_cut_frames.mono (by decide)) all_nil) all_nil bl all_nil d_weave_frames.2 (hpr_of rfl) rfl all_nil
  have F_part_shown := fun_mk (x := "part_shown") (qual := "part_shown") (st := s_part_shown) l_part_shown c_part_shown k_part_shown
  have A_part_shown : FnAt l.prog w K mg base 4 f_part_shown := fn_at (S := S_part_shown) (fi := f_part_shown) F_part_shown (PySem.W.mg_of X G a_part_shown) (F_part_shown.binds fun _ _ _ _ _ _ us hl => match us, hl with | [_, _], _ => rfl) sc_part_shown rfl rfl rfl rfl (all_cons (A_weave_frames.mono (by decide)) (all_cons (A_cut_frames.mono (by decide)) all_nil)) all_nil bl all_nil d_part_shown.2 (hpr_of rfl) rfl all_nil
  have F_shown := fun_mk (x := "shown") (qual := "shown") (st := s_shown) l_shown c_shown k_shown
  have A_shown : FnAt l.prog w K mg base 5 f_shown := fn_at (S := S_shown) (fi := f_shown) F_shown (PySem.W.mg_of X G a_shown) (F_shown.binds fun _ _ _ _ _ _ us hl => match us, hl with | [_, _], _ => rfl) sc_shown rfl rfl rfl rfl (all_cons (A_part_shown.mono (by decide)) all_nil) all_nil bl all_nil d_shown.2 (hpr_of rfl) rfl all_nil
  have F_is_unlike_paper := fun_mk (x := "is_unlike_paper") (qual := "is_unlike_paper") (st := s_is_unlike_paper) l_is_unlike_paper c_is_unlike_paper k_is_unlike_paper
  have A_is_unlike_paper : FnAt l.prog w K mg base 6 f_is_unlike_paper := fn_at (S := S_is_unlike_paper) (fi := f_is_unlike_paper) F_is_unlike_paper (PySem.W.mg_of X G a_is_unlike_paper) (F_is_unlike_paper.binds fun _ _ _ _ _ _ us hl => match us, hl with | [_, _, _], _ => rfl) sc_is_unlike_paper rfl rfl rfl rfl (all_cons (A_whole_within.mono (by decide)) (all_cons (A_shown.mono (by decide)) all_nil)) (all_cons (con_int (PySem.W.mg_of X G q_LENGTH_MOST)) all_nil) bl all_nil d_is_unlike_paper.2 (hpr_of rfl) rfl (all_cons (VS.Fun.kbinds F_is_unlike_paper (by decide) fun _ _ _ _ _ _ us ws hu hw => match us, ws, hu, hw with | [], [_, _, _], _, _ => rfl) all_nil)
  have F__law_place := fun_mk (x := "_law_place") (qual := "_law_place") (st := s__law_place) l__law_place c__law_place k__law_place
  have A__law_place : FnAt l.prog w K mg base 1 f__law_place := fn_at (S := S__law_place) (fi := f__law_place) F__law_place (PySem.W.mg_of X G a__law_place) (F__law_place.binds fun _ _ _ _ _ _ us hl => match us, hl with | [_, _], _ => rfl) sc__law_place rfl rfl rfl rfl all_nil all_nil bl all_nil d__law_place.2 (hpr_of rfl) rfl all_nil
  have F__law_frames := fun_mk (x := "_law_frames") (qual := "_law_frames") (st := s__law_frames) l__law_frames c__law_frames k__law_frames
  have A__law_frames : FnAt l.prog w K mg base 2 f__law_frames := fn_at (S := S__law_frames) (fi := f__law_frames) F__law_frames (PySem.W.mg_of X G a__law_frames) (F__law_frames.binds fun _ _ _ _ _ _ us hl => match us, hl with | [_, _], _ => rfl) sc__law_frames rfl rfl rfl rfl (all_cons (A__law_place.mono (by decide)) all_nil) all_nil bl all_nil d__law_frames.2 (hpr_of rfl) rfl all_nil
  have F__law_row := fun_mk (x := "_law_row") (qual := "_law_row") (st := s__law_row) l__law_row c__law_row k__law_row
  have A__law_row : FnAt l.prog w K mg base 3 f__law_row := fn_at (S := S__law_row) (fi := f__law_row) F__law_row (PySem.W.mg_of X G a__law_row) (F__law_row.binds fun _ _ _ _ _ _ us hl => match us, hl with | [_, _], _ => rfl) sc__law_row rfl rfl rfl rfl (all_cons (A__law_frames.mono (by decide)) all_nil) all_nil bl all_nil d__law_row.2 (hpr_of rfl) rfl all_nil
  have F__law_unlike := fun_mk (x := "_law_unlike") (qual := "_law_unlike") (st := s__law_unlike) l__law_unlike c__law_unlike k__law_unlike
  have A__law_unlike : FnAt l.prog w K mg base 4 f__law_unlike := fn_at (S := S__law_unlike) (fi := f__law_unlike) F__law_unlike (PySem.W.mg_of X G a__law_unlike) (F__law_unlike.binds fun _ _ _ _ _ _ us hl => match us, hl with | [_, _, _], _ => rfl) sc__law_unlike rfl rfl rfl rfl (all_cons (A__law_row.mono (by decide)) all_nil) all_nil bl all_nil d__law_unlike.2 (hpr_of rfl) rfl all_nil
  have F__law_papers := fun_mk (x := "_law_papers") (qual := "_law_papers") (st := s__law_papers) l__law_papers c__law_papers k__law_papers
  have A__law_papers : FnAt l.prog w K mg base 7 f__law_papers := fn_at (S := S__law_papers) (fi := f__law_papers) F__law_papers (PySem.W.mg_of X G a__law_papers) (F__law_papers.binds fun _ _ _ _ _ _ us hl => match us, hl with | [_, _, _], _ => rfl) sc__law_papers rfl rfl rfl rfl (all_cons (A_is_unlike_paper.mono (by decide)) (all_cons (A__law_unlike.mono (by decide)) all_nil)) all_nil bl all_nil d__law_papers.2 (hpr_of rfl) rfl all_nil
  have F__law_strange := fun_mk (x := "_law_strange") (qual := "_law_strange") (st := s__law_strange) l__law_strange c__law_strange k__law_strange
  have A__law_strange : FnAt l.prog w K mg base 7 f__law_strange := fn_at (S := S__law_strange) (fi := f__law_strange) F__law_strange (PySem.W.mg_of X G a__law_strange) (F__law_strange.binds fun _ _ _ _ _ _ us hl => match us, hl with | [_, _, _], _ => rfl) sc__law_strange rfl rfl rfl rfl (all_cons (A_is_unlike_paper.mono (by decide)) all_nil) all_nil bl all_nil d__law_strange.2 (hpr_of rfl) rfl all_nil
  have F__law_shares := fun_mk (x := "_law_shares") (qual := "_law_shares") (st := s__law_shares) l__law_shares c__law_shares k__law_shares
  have A__law_shares : FnAt l.prog w K mg base 1 f__law_shares := fn_at (S := S__law_shares) (fi := f__law_shares) F__law_shares (PySem.W.mg_of X G a__law_shares) (F__law_shares.binds fun _ _ _ _ _ _ us hl => match us, hl with | [_], _ => rfl) sc__law_shares rfl rfl rfl rfl all_nil all_nil bl all_nil d__law_shares.2 (hpr_of rfl) rfl all_nil
  have F__law_grows := fun_mk (x := "_law_grows") (qual := "_law_grows") (st := s__law_grows) l__law_grows c__law_grows k__law_grows
  have A__law_grows : FnAt l.prog w K mg base 2 f__law_grows := fn_at (S := S__law_grows) (fi := f__law_grows) F__law_grows (PySem.W.mg_of X G a__law_grows) (F__law_grows.binds fun _ _ _ _ _ _ us hl => match us, hl with | [_], _ => rfl) sc__law_grows rfl rfl rfl rfl (all_cons (A__law_cuts.mono (by decide)) all_nil) all_nil bl all_nil d__law_grows.2 (hpr_of rfl) rfl all_nil
  have F__law_let := fun_mk (x := "_law_let") (qual := "_law_let") (st := s__law_let) l__law_let c__law_let k__law_let
  have A__law_let : FnAt l.prog w K mg base 3 f__law_let := fn_at (S := S__law_let) (fi := f__law_let) F__law_let (PySem.W.mg_of X G a__law_let) (F__law_let.binds fun _ _ _ _ _ _ us hl => match us, hl with | [_], _ => rfl) sc__law_let rfl rfl rfl rfl (all_cons (A__law_reach.mono (by decide)) (all_cons (A__law_cuts.mono (by decide)) (all_cons (A__law_grows.mono (by decide)) (all_cons (A__law_period.mono (by decide)) (all_cons (A__law_place.mono (by decide)) all_nil))))) all_nil bl all_nil d__law_let.2 (hpr_of rfl) rfl all_nil
  have F__law_mark := fun_mk (x := "_law_mark") (qual := "_law_mark") (st := s__law_mark) l__law_mark c__law_mark k__law_mark
  have A__law_mark : FnAt l.prog w K mg base 2 f__law_mark := fn_at (S := S__law_mark) (fi := f__law_mark) F__law_mark (PySem.W.mg_of X G a__law_mark) (F__law_mark.binds fun _ _ _ _ _ _ us hl => match us, hl with | [_, _, _, _], _ => rfl) sc__law_mark rfl rfl rfl rfl (all_cons (A__law_shares.mono (by decide)) (all_cons (A__law_draw.mono (by decide)) all_nil)) all_nil bl all_nil d__law_mark.2 (hpr_of rfl) rfl all_nil
  have F__law_cut := fun_mk (x := "_law_cut") (qual := "_law_cut") (st := s__law_cut) l__law_cut c__law_cut k__law_cut
  have A__law_cut : FnAt l.prog w K mg base 3 f__law_cut := fn_at (S := S__law_cut) (fi := f__law_cut) F__law_cut (PySem.W.mg_of X G a__law_cut) (F__law_cut.binds fun _ _ _ _ _ _ us hl => match us, hl with | [_, _, _], _ => rfl) sc__law_cut rfl rfl rfl rfl (all_cons (A__law_draw.mono (by decide)) (all_cons (A__law_mark.mono (by decide)) (all_cons (A__law_way.mono (by decide)) all_nil))) all_nil bl all_nil d__law_cut.2 (hpr_of rfl) rfl all_nil
  have F__law_parts := fun_mk (x := "_law_parts") (qual := "_law_parts") (st := s__law_parts) l__law_parts c__law_parts k__law_parts
  have A__law_parts : FnAt l.prog w K mg base 4 f__law_parts := fn_at (S := S__law_parts) (fi := f__law_parts) F__law_parts (PySem.W.mg_of X G a__law_parts) (F__law_parts.binds fun _ _ _ _ _ _ us hl => match us, hl with | [_, _, _], _ => rfl) sc__law_parts rfl rfl rfl rfl (all_cons (A__law_draw.mono (by decide)) (all_cons (A__law_shares.mono (by decide)) (all_cons (A__law_let.mono (by decide)) (all_cons (A__law_cut.mono (by decide)) (all_cons (A__law_name.mono (by decide)) all_nil))))) all_nil bl all_nil d__law_parts.2 (hpr_of rfl) rfl all_nil
  have F__law_sides := fun_mk (x := "_law_sides") (qual := "_law_sides") (st := s__law_sides) l__law_sides c__law_sides k__law_sides
  have A__law_sides : FnAt l.prog w K mg base 5 f__law_sides := fn_at (S := S__law_sides) (fi := f__law_sides) F__law_sides (PySem.W.mg_of X G a__law_sides) (F__law_sides.binds fun _ _ _ _ _ _ us hl => match us, hl with | [_, _], _ => rfl) sc__law_sides rfl rfl rfl rfl (all_cons (A__law_draw.mono (by decide)) (all_cons (A__law_parts.mono (by decide)) all_nil)) all_nil bl all_nil d__law_sides.2 (hpr_of rfl) rfl all_nil
  have F__law_is := fun_mk (x := "_law_is") (qual := "_law_is") (st := s__law_is) l__law_is c__law_is k__law_is
  have A__law_is : FnAt l.prog w K mg base 1 f__law_is := fn_at (S := S__law_is) (fi := f__law_is) F__law_is (PySem.W.mg_of X G a__law_is) (F__law_is.binds fun _ _ _ _ _ _ us hl => match us, hl with | [_, _], _ => rfl) sc__law_is rfl rfl rfl rfl all_nil all_nil bl all_nil d__law_is.2 (hpr_of rfl) rfl all_nil
  have F_part_cuts := fun_mk (x := "part_cuts") (qual := "part_cuts") (st := s_part_cuts) l_part_cuts c_part_cuts k_part_cuts
  have A_part_cuts : FnAt l.prog w K mg base 1 f_part_cuts := fn_at (S := S_part_cuts) (fi := f_part_cuts) F_part_cuts (PySem.W.mg_of X G a_part_cuts) (F_part_cuts.binds fun _ _ _ _ _ _ us hl => match us, hl with | [_], _ => rfl) sc_part_cuts rfl rfl rfl rfl all_nil all_nil bl all_nil d_part_cuts.2 (hpr_of rfl) rfl all_nil
  have F_cuts_of := fun_mk (x := "cuts_of") (qual := "cuts_of") (st := s_cuts_of) l_cuts_of c_cuts_of k_cuts_of
  have A_cuts_of : FnAt l.prog w K mg base 2 f_cuts_of := fn_at (S := S_cuts_of) (fi := f_cuts_of) F_cuts_of (PySem.W.mg_of X G a_cuts_of) (F_cuts_of.binds fun _ _ _ _ _ _ us hl => match us, hl with | [_], _ => rfl) sc_cuts_of rfl rfl rfl rfl (all_cons (A_part_cuts.mono (by decide)) all_nil) all_nil bl all_nil d_cuts_of.2 (hpr_of rfl) rfl all_nil
  have F_marks_of := fun_mk (x := "marks_of") (qual := "marks_of") (st := s_marks_of) l_marks_of c_marks_of k_marks_of
  have A_marks_of : FnAt l.prog w K mg base 3 f_marks_of := fn_at (S := S_marks_of) (fi := f_marks_of) F_marks_of (PySem.W.mg_of X G a_marks_of) (F_marks_of.binds fun _ _ _ _ _ _ us hl => match us, hl with | [_], _ => rfl) sc_marks_of rfl rfl rfl rfl (all_cons (A_cuts_of.mono (by decide)) all_nil) all_nil bl all_nil d_marks_of.2 (hpr_of rfl) rfl all_nil
  have F_period_of := fun_mk (x := "period_of") (qual := "period_of") (st := s_period_of) l_period_of c_period_of k_period_of
  have A_period_of : FnAt l.prog w K mg base 4 f_period_of := fn_at (S := S_period_of) (fi := f_period_of) F_period_of (PySem.W.mg_of X G a_period_of) (F_period_of.binds fun _ _ _ _ _ _ us hl => match us, hl with | [_], _ => rfl) sc_period_of rfl rfl rfl rfl (all_cons (A_marks_of.mono (by decide)) all_nil) all_nil bl (all_cons (PySem.W.mg_of X G b_gcd) all_nil) d_period_of.2 (hpr_of rfl) rfl all_nil
  have F_reach_of := fun_mk (x := "reach_of") (qual := "reach_of") (st := s_reach_of) l_reach_of c_reach_of k_reach_of
  have A_reach_of : FnAt l.prog w K mg base 4 f_reach_of := fn_at (S := S_reach_of) (fi := f_reach_of) F_reach_of (PySem.W.mg_of X G a_reach_of) (F_reach_of.binds fun _ _ _ _ _ _ us hl => match us, hl with | [_], _ => rfl) sc_reach_of rfl rfl rfl rfl (all_cons (A_marks_of.mono (by decide)) all_nil) all_nil bl all_nil d_reach_of.2 (hpr_of rfl) rfl all_nil
  have F_alike_bound := fun_mk (x := "alike_bound") (qual := "alike_bound") (st := s_alike_bound) l_alike_bound c_alike_bound k_alike_bound
  have A_alike_bound : FnAt l.prog w K mg base 5 f_alike_bound := fn_at (S := S_alike_bound) (fi := f_alike_bound) F_alike_bound (PySem.W.mg_of X G a_alike_bound) (F_alike_bound.binds fun _ _ _ _ _ _ us hl => match us, hl with | [_, _], _ => rfl) sc_alike_bound rfl rfl rfl rfl (all_cons (A_period_of.mono (by decide)) (all_cons (A_reach_of.mono (by decide)) all_nil)) all_nil bl (all_cons (PySem.W.mg_of X G b_gcd) all_nil) d_alike_bound.2 (hpr_of rfl) rfl (all_cons (VS.Fun.kbinds F_alike_bound (by decide) fun _ _ _ _ _ _ us ws hu hw => match us, ws, hu, hw with | [], [_, _], _, _ => rfl) all_nil)
  have F__law_sums := fun_mk (x := "_law_sums") (qual := "_law_sums") (st := s__law_sums) l__law_sums c__law_sums k__law_sums
  have A__law_sums : FnAt l.prog w K mg base 6 f__law_sums := fn_at (S := S__law_sums) (fi := f__law_sums) F__law_sums (PySem.W.mg_of X G a__law_sums) (F__law_sums.binds fun _ _ _ _ _ _ us hl => match us, hl with | [_], _ => rfl) sc__law_sums rfl rfl rfl rfl (all_cons (A__law_sides.mono (by decide)) (all_cons (A__law_bound.mono (by decide)) (all_cons (A__law_is.mono (by decide)) (all_cons (A_alike_bound.mono (by decide)) all_nil)))) all_nil bl all_nil d__law_sums.2 (hpr_of rfl) rfl all_nil
  have F__law_long := fun_mk (x := "_law_long") (qual := "_law_long") (st := s__law_long) l__law_long c__law_long k__law_long
  have A__law_long : FnAt l.prog w K mg base 3 f__law_long := fn_at (S := S__law_long) (fi := f__law_long) F__law_long (PySem.W.mg_of X G a__law_long) (F__law_long.binds fun _ _ _ _ _ _ us hl => match us, hl with | [_], _ => rfl) sc__law_long rfl rfl rfl rfl (all_cons (A__law_name.mono (by decide)) (all_cons (A__law_draw.mono (by decide)) (all_cons (A__law_way.mono (by decide)) all_nil))) all_nil bl all_nil d__law_long.2 (hpr_of rfl) rfl all_nil
  have F_law := fun_mk (x := "law") (qual := "law") (st := s_law) l_law c_law k_law
  exact ((fn_ok (S := S_law) (fi := f_law) F_law sc_law rfl rfl rfl rfl (all_cons (A__law_reel.mono (by decide)) (all_cons (A__law_always.mono (by decide)) (all_cons (A__law_late.mono (by decide)) (all_cons (A__law_window.mono (by decide)) (all_cons (A__law_split.mono (by decide)) (all_cons (A__law_woven.mono (by decide)) (all_cons (A__law_draw.mono (by decide)) (all_cons (A__law_bound.mono (by decide)) (all_cons (A__law_papers.mono (by decide)) (all_cons (A__law_strange.mono (by decide)) (all_cons (A__law_sums.mono (by decide)) (all_cons (A__law_long.mono (by decide)) (all_cons (A__law_unlike.mono (by decide)) all_nil))))))))))))) all_nil bl all_nil d_law.2 (hpr_of rfl) rfl).mono (by decide)).imp (law_imp rfl rfl rfl law_sem)
end T
open PySem PySem.W PyProof.Rows
set_option maxHeartbeats 0 in
theorem PySem.Challenge.cw_fewcursors_k32_alike_bound_holds : PySem.Challenge.rw_fewcursors_k32_alike_bound.Holds := by
  w_on; o_law; k_head; (case hw => w_witness2)
  k_fill
  refine L2.walk_of (l := PySem.Challenge.rw_fewcursors_k32_alike_bound) (n := 63) (k := 20) (x := "script") (CX := fun w => L2.CX (PySem.Challenge.rw_fewcursors_k32_alike_bound).prog w) (sp := fun w => VS.spLaw _) rfl (by decide) rfl ⟨rfl, by decide, by decide⟩ (fun w h Y => PySem.W.kIn_of Y) ?F (fun _ _ a ns hl hO hS => ⟨a, ns, rfl, hl, hO, hS, fun _ => rfl⟩) (fun _ _ _ _ _ h => T.noX h)
  case F =>
    intro w mg fa h KX G hmg
    refine' T.all_mk KX G hmg ?a__law_reel ?l__law_reel ?c__law_reel ?k__law_reel ?a__law_draw ?l__law_draw ?c__law_draw ?k__law_draw ?a__law_name ?l__law_name ?c__law_name ?k__law_name ?a__law_way ?l__law_way ?c__law_way ?k__law_way ?a__law_always ?l__law_always ?c__law_always ?k__law_always ?a__law_late ?l__law_late ?c__law_late ?k__law_late ?a__law_window ?l__law_window ?c__law_window ?k__law_window ?a__law_split ?l__law_split ?c__law_split ?k__law_split ?a__law_woven ?l__law_woven ?c__law_woven ?k__law_woven ?a__law_cuts ?l__law_cuts ?c__law_cuts ?k__law_cuts ?a__law_period ?l__law_period ?c__law_period ?k__law_period ?a__law_reach ?l__law_reach ?c__law_reach ?k__law_reach ?a__law_bound ?l__law_bound ?c__law_bound ?k__law_bound ?a_is_whole ?l_is_whole ?c_is_whole ?k_is_whole ?a_whole_within ?l_whole_within ?c_whole_within ?k_whole_within ?a_mark_at ?l_mark_at ?c_mark_at ?k_mark_at ?a_cut_frames ?l_cut_frames ?c_cut_frames ?k_cut_frames ?a_weave_frames ?l_weave_frames ?c_weave_frames ?k_weave_frames ?a_part_shown ?l_part_shown ?c_part_shown ?k_part_shown ?a_shown ?l_shown ?c_shown ?k_shown ?a_is_unlike_paper ?l_is_unlike_paper ?c_is_unlike_paper ?k_is_unlike_paper ?a__law_place ?l__law_place ?c__law_place ?k__law_place ?a__law_frames ?l__law_frames ?c__law_frames ?k__law_frames ?a__law_row ?l__law_row ?c__law_row ?k__law_row ?a__law_unlike ?l__law_unlike ?c__law_unlike ?k__law_unlike ?a__law_papers ?l__law_papers ?c__law_papers ?k__law_papers ?a__law_strange ?l__law_strange ?c__law_strange ?k__law_strange ?a__law_shares ?l__law_shares ?c__law_shares ?k__law_shares ?a__law_grows ?l__law_grows ?c__law_grows ?k__law_grows ?a__law_let ?l__law_let ?c__law_let ?k__law_let ?a__law_mark ?l__law_mark ?c__law_mark ?k__law_mark ?a__law_cut ?l__law_cut ?c__law_cut ?k__law_cut ?a__law_parts ?l__law_parts ?c__law_parts ?k__law_parts ?a__law_sides ?l__law_sides ?c__law_sides ?k__law_sides ?a__law_is ?l__law_is ?c__law_is ?k__law_is ?a_part_cuts ?l_part_cuts ?c_part_cuts ?k_part_cuts ?a_cuts_of ?l_cuts_of ?c_cuts_of ?k_cuts_of ?a_marks_of ?l_marks_of ?c_marks_of ?k_marks_of ?a_period_of ?l_period_of ?c_period_of ?k_period_of ?a_reach_of ?l_reach_of ?c_reach_of ?k_reach_of ?a_alike_bound ?l_alike_bound ?c_alike_bound ?k_alike_bound ?a__law_sums ?l__law_sums ?c__law_sums ?k__law_sums ?a__law_long ?l__law_long ?c__law_long ?k__law_long ?a_law ?l_law ?c_law ?k_law ?z_len ?z_isinstance ?z_range ?z_tuple ?z_int ?z_max ?z_min ?z_abs ?z_str ?z_list ?z_enumerate ?z_sum ?z_sorted ?z_zip ?z_dict ?z_set ?z_reversed ?z_bool ?b_gcd ?q_LENGTH_MOST
    (case a__law_reel => k_is); (case l__law_reel => k_is); (case c__law_reel => k_is); (case k__law_reel => k_is)
    (case a__law_draw => k_is); (case l__law_draw => k_is); (case c__law_draw => k_is); (case k__law_draw => k_is)
    (case a__law_name => k_is); (case l__law_name => k_is); (case c__law_name => k_is); (case k__law_name => k_is)
    (case a__law_way => k_is); (case l__law_way => k_is); (case c__law_way => k_is); (case k__law_way => k_is)
    (case a__law_always => k_is); (case l__law_always => k_is); (case c__law_always => k_is); (case k__law_always => k_is)
    (case a__law_late => k_is); (case l__law_late => k_is); (case c__law_late => k_is); (case k__law_late => k_is)
    (case a__law_window => k_is); (case l__law_window => k_is); (case c__law_window => k_is); (case k__law_window => k_is)
    (case a__law_split => k_is); (case l__law_split => k_is); (case c__law_split => k_is); (case k__law_split => k_is)
    (case a__law_woven => k_is); (case l__law_woven => k_is); (case c__law_woven => k_is); (case k__law_woven => k_is)
    (case a__law_cuts => k_is); (case l__law_cuts => k_is); (case c__law_cuts => k_is); (case k__law_cuts => k_is)
    (case a__law_period => k_is); (case l__law_period => k_is); (case c__law_period => k_is); (case k__law_period => k_is)
    (case a__law_reach => k_is); (case l__law_reach => k_is); (case c__law_reach => k_is); (case k__law_reach => k_is)
    (case a__law_bound => k_is); (case l__law_bound => k_is); (case c__law_bound => k_is); (case k__law_bound => k_is)
    (case a_is_whole => k_is); (case l_is_whole => k_is); (case c_is_whole => k_is); (case k_is_whole => k_is)
    (case a_whole_within => k_is); (case l_whole_within => k_is); (case c_whole_within => k_is); (case k_whole_within => k_is)
    (case a_mark_at => k_is); (case l_mark_at => k_is); (case c_mark_at => k_is); (case k_mark_at => k_is)
    (case a_cut_frames => k_is); (case l_cut_frames => k_is); (case c_cut_frames => k_is); (case k_cut_frames => k_is)
    (case a_weave_frames => k_is); (case l_weave_frames => k_is); (case c_weave_frames => k_is); (case k_weave_frames => k_is)
    (case a_part_shown => k_is); (case l_part_shown => k_is); (case c_part_shown => k_is); (case k_part_shown => k_is)
    (case a_shown => k_is); (case l_shown => k_is); (case c_shown => k_is); (case k_shown => k_is)
    (case a_is_unlike_paper => k_is); (case l_is_unlike_paper => k_is); (case c_is_unlike_paper => k_is); (case k_is_unlike_paper => k_is)
    (case a__law_place => k_is); (case l__law_place => k_is); (case c__law_place => k_is); (case k__law_place => k_is)
    (case a__law_frames => k_is); (case l__law_frames => k_is); (case c__law_frames => k_is); (case k__law_frames => k_is)
    (case a__law_row => k_is); (case l__law_row => k_is); (case c__law_row => k_is); (case k__law_row => k_is)
    (case a__law_unlike => k_is); (case l__law_unlike => k_is); (case c__law_unlike => k_is); (case k__law_unlike => k_is)
    (case a__law_papers => k_is); (case l__law_papers => k_is); (case c__law_papers => k_is); (case k__law_papers => k_is)
    (case a__law_strange => k_is); (case l__law_strange => k_is); (case c__law_strange => k_is); (case k__law_strange => k_is)
    (case a__law_shares => k_is); (case l__law_shares => k_is); (case c__law_shares => k_is); (case k__law_shares => k_is)
    (case a__law_grows => k_is); (case l__law_grows => k_is); (case c__law_grows => k_is); (case k__law_grows => k_is)
    (case a__law_let => k_is); (case l__law_let => k_is); (case c__law_let => k_is); (case k__law_let => k_is)
    (case a__law_mark => k_is); (case l__law_mark => k_is); (case c__law_mark => k_is); (case k__law_mark => k_is)
    (case a__law_cut => k_is); (case l__law_cut => k_is); (case c__law_cut => k_is); (case k__law_cut => k_is)
    (case a__law_parts => k_is); (case l__law_parts => k_is); (case c__law_parts => k_is); (case k__law_parts => k_is)
    (case a__law_sides => k_is); (case l__law_sides => k_is); (case c__law_sides => k_is); (case k__law_sides => k_is)
    (case a__law_is => k_is); (case l__law_is => k_is); (case c__law_is => k_is); (case k__law_is => k_is)
    (case a_part_cuts => k_is); (case l_part_cuts => k_is); (case c_part_cuts => k_is); (case k_part_cuts => k_is)
    (case a_cuts_of => k_is); (case l_cuts_of => k_is); (case c_cuts_of => k_is); (case k_cuts_of => k_is)
    (case a_marks_of => k_is); (case l_marks_of => k_is); (case c_marks_of => k_is); (case k_marks_of => k_is)
    (case a_period_of => k_is); (case l_period_of => k_is); (case c_period_of => k_is); (case k_period_of => k_is)
    (case a_reach_of => k_is); (case l_reach_of => k_is); (case c_reach_of => k_is); (case k_reach_of => k_is)
    (case a_alike_bound => k_is); (case l_alike_bound => k_is); (case c_alike_bound => k_is); (case k_alike_bound => k_is)
    (case a__law_sums => k_is); (case l__law_sums => k_is); (case c__law_sums => k_is); (case k__law_sums => k_is)
    (case a__law_long => k_is); (case l__law_long => k_is); (case c__law_long => k_is); (case k__law_long => k_is)
    (case a_law => k_is); (case l_law => k_is); (case c_law => k_is); (case k_law => k_is)
    (case z_len => k_is); (case z_isinstance => k_is); (case z_range => k_is); (case z_tuple => k_is); (case z_int => k_is); (case z_max => k_is); (case z_min => k_is); (case z_abs => k_is); (case z_str => k_is); (case z_list => k_is); (case z_enumerate => k_is); (case z_sum => k_is); (case z_sorted => k_is); (case z_zip => k_is); (case z_dict => k_is); (case z_set => k_is); (case z_reversed => k_is); (case z_bool => k_is); (case b_gcd => k_is); (case q_LENGTH_MOST => k_is)
